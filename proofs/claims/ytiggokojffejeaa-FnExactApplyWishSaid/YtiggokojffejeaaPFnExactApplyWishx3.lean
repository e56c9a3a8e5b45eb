/- Written by this session's program myprint.py, which runs the kit's print.py beside texts of this session's own. No condition. -/
import Derived.Test.YtiggokojffejeaaPFnExactApplyWishx0
import Derived.Test.YtiggokojffejeaaPFnExactApplyWishx1
import Derived.Test.YtiggokojffejeaaPFnExactApplyWishx2
namespace Go.Proofs.Ytiggokojffejeaa.PFnExactApplyWish
open Go.RowKit Go.Proofs.YtiggokojffejeaaW.PrintWords Go.Proofs.YtiggokojffejeaaW.PrintLast Go.Proofs.YtiggokojffejeaaW.PrintMore
attribute [local go_sem] max2_int min2_int max_two min_two max_three min_three max_four min_four   -- for this text's walks alone
set_option linter.unusedVariables false
set_option linter.unusedSimpArgs false

/-! ### spec_l14Wish: function 94 -/
def spec_l14Wish.f (a0 : Int) (a1_0 : Int) (a1_1 : Int) (a1_2 : Int) (a1_3 : Int) (a1_4 : Int) (a1_5 : Int) (a1_6 : Int) : Option (Bool) := (spec_l1In.f a1_0 0 (wrap64 (a0 - 1))).bind fun t114 => (if t114 = true then ((spec_l1In.f a1_1 0 (wrap64 (a0 - 1))).bind fun t115 => (if t115 = true then ((spec_l1In.f a1_2 0 1000000000).bind fun t116 => (if t116 = true then ((spec_l1In.f a1_3 0 1000).bind fun t117 => (if t117 = true then ((spec_l1In.f a1_4 0 1000000).bind fun t118 => (if t118 = true then ((spec_l1In.f a1_5 0 1000000).bind fun t119 => (if t119 = true then ((spec_l1In.f a1_6 1 80).bind fun t120 => (some t120)) else (some false))) else (some false))) else (some false))) else (some false))) else (some false))) else (some false))
set_option maxHeartbeats 8000000 in
set_option maxRecDepth 100000 in
theorem spec_l14Wish.calls (a0 : Int) (a1_0 : Int) (a1_1 : Int) (a1_2 : Int) (a1_3 : Int) (a1_4 : Int) (a1_5 : Int) (a1_6 : Int) (r : Bool) (w : World) (h : spec_l14Wish.f a0 a1_0 a1_1 a1_2 a1_3 a1_4 a1_5 a1_6 = some r) :
  Calls Try.prog 94 #[.int .i64 a0, .agg #[.int .i64 a1_0, .int .i64 a1_1, .int .i64 a1_2, .int .i64 a1_3, .int .i64 a1_4, .int .i64 a1_5, .int .i64 a1_6]] w fun e w' => e = .returned (.bool r) ∧ Below w.heap.size w w' := by
 have hu32 := Try.underlying32
 have HB := Aside0.mk (Below.refl w.heap.size w)
 have H : ((spec_l1In.f a1_0 0 (wrap64 (a0 - 1))).bind fun t114 => (if t114 = true then ((spec_l1In.f a1_1 0 (wrap64 (a0 - 1))).bind fun t115 => (if t115 = true then ((spec_l1In.f a1_2 0 1000000000).bind fun t116 => (if t116 = true then ((spec_l1In.f a1_3 0 1000).bind fun t117 => (if t117 = true then ((spec_l1In.f a1_4 0 1000000).bind fun t118 => (if t118 = true then ((spec_l1In.f a1_5 0 1000000).bind fun t119 => (if t119 = true then ((spec_l1In.f a1_6 1 80).bind fun t120 => (some t120)) else (some false))) else (some false))) else (some false))) else (some false))) else (some false))) else (some false))) = some r := h
 clear h
 replace H := Option.bind_eq_some_iff.mp H
 obtain ⟨t114, A30, H⟩ := H
 have A3 := Aside0.mk A30
 clear A30
 by_cases c4 : t114 = true
 focus
  subst c4
  rw [if_pos rfl] at H
  replace H := Option.bind_eq_some_iff.mp H
  obtain ⟨t115, A50, H⟩ := H
  have A5 := Aside0.mk A50
  clear A50
  by_cases c6 : t115 = true
  focus
   subst c6
   rw [if_pos rfl] at H
   replace H := Option.bind_eq_some_iff.mp H
   obtain ⟨t116, A70, H⟩ := H
   have A7 := Aside0.mk A70
   clear A70
   by_cases c8 : t116 = true
   focus
    subst c8
    rw [if_pos rfl] at H
    replace H := Option.bind_eq_some_iff.mp H
    obtain ⟨t117, A90, H⟩ := H
    have A9 := Aside0.mk A90
    clear A90
    by_cases c10 : t117 = true
    focus
     subst c10
     rw [if_pos rfl] at H
     replace H := Option.bind_eq_some_iff.mp H
     obtain ⟨t118, A110, H⟩ := H
     have A11 := Aside0.mk A110
     clear A110
     by_cases c12 : t118 = true
     focus
      subst c12
      rw [if_pos rfl] at H
      replace H := Option.bind_eq_some_iff.mp H
      obtain ⟨t119, A130, H⟩ := H
      have A13 := Aside0.mk A130
      clear A130
      by_cases c14 : t119 = true
      focus
       subst c14
       rw [if_pos rfl] at H
       replace H := Option.bind_eq_some_iff.mp H
       obtain ⟨t120, A150, H⟩ := H
       have A15 := Aside0.mk A150
       clear A150
       obtain rfl := Option.some.inj H
      rotate_left
      focus
       replace c14 := Bool.eq_false_iff.mpr c14
       subst c14
       rw [if_neg (show ¬ (false = true) by decide)] at H
       obtain rfl := Option.some.inj H
     rotate_left 2
     focus
      replace c12 := Bool.eq_false_iff.mpr c12
      subst c12
      rw [if_neg (show ¬ (false = true) by decide)] at H
      obtain rfl := Option.some.inj H
    rotate_left 3
    focus
     replace c10 := Bool.eq_false_iff.mpr c10
     subst c10
     rw [if_neg (show ¬ (false = true) by decide)] at H
     obtain rfl := Option.some.inj H
   rotate_left 4
   focus
    replace c8 := Bool.eq_false_iff.mpr c8
    subst c8
    rw [if_neg (show ¬ (false = true) by decide)] at H
    obtain rfl := Option.some.inj H
  rotate_left 5
  focus
   replace c6 := Bool.eq_false_iff.mpr c6
   subst c6
   rw [if_neg (show ¬ (false = true) by decide)] at H
   obtain rfl := Option.some.inj H
 rotate_left 6
 focus
  replace c4 := Bool.eq_false_iff.mpr c4
  subst c4
  rw [if_neg (show ¬ (false = true) by decide)] at H
  obtain rfl := Option.some.inj H
 all_goals
  go_enter Try.func94, Try.ntmps94
  go_wp2_with (first | ((with_reducible refine gate_dst (N := 3) rfl ?_); refine box_event ?hg (N := 3) ?hd (cs := #[.int .i64 a1_0, .int .i64 a1_1, .int .i64 a1_2, .int .i64 a1_3, .int .i64 a1_4, .int .i64 a1_5, .int .i64 a1_6]) (t := 32) ?hr ?_; (case hd => rfl); (case hg => rfl); (case hr => first | (go_simp; done) | (go_simp; rfl)); intro gb113 hg w_113 hbox hb; have n_ := And.intro (Aside0.mk (below_step (bw0 HB.out) hb)) (And.intro (Aside0.mk (hbox)) (Aside0.mk ((by rw [hg]; exact (below_size (bw0 HB.out)) : w.heap.size ≤ gb113)))); clear HB; obtain ⟨HB, BK113, GW113⟩ := n_; have GE113 := GW113; clear hb hbox hg; have hcz113a_0 : w_113.cell? ⟨gb113, 0, none⟩ = some (.int .i64 a1_0) := (blk_cell BK113.out 0).trans rfl; have hcz113a_1 : w_113.cell? ⟨gb113, 1, none⟩ = some (.int .i64 a1_1) := (blk_cell BK113.out 1).trans rfl; have hcz113a_2 : w_113.cell? ⟨gb113, 2, none⟩ = some (.int .i64 a1_2) := (blk_cell BK113.out 2).trans rfl; have hcz113a_3 : w_113.cell? ⟨gb113, 3, none⟩ = some (.int .i64 a1_3) := (blk_cell BK113.out 3).trans rfl; have hcz113a_4 : w_113.cell? ⟨gb113, 4, none⟩ = some (.int .i64 a1_4) := (blk_cell BK113.out 4).trans rfl; have hcz113a_5 : w_113.cell? ⟨gb113, 5, none⟩ = some (.int .i64 a1_5) := (blk_cell BK113.out 5).trans rfl; have hcz113a_6 : w_113.cell? ⟨gb113, 6, none⟩ = some (.int .i64 a1_6) := (blk_cell BK113.out 6).trans rfl; have hfz113a_0 := blk_frozen BK113.out 0; have hfz113a_1 := blk_frozen BK113.out 1; have hfz113a_2 := blk_frozen BK113.out 2; have hfz113a_3 := blk_frozen BK113.out 3; have hfz113a_4 := blk_frozen BK113.out 4; have hfz113a_5 := blk_frozen BK113.out 5; have hfz113a_6 := blk_frozen BK113.out 6) | ((with_reducible refine gate_callee (f := 61) rfl ?_); refine goesL_ (some 9) rfl rfl Try.func61 (by kernel_rfl) rfl #[.int .i64 a1_0, .int .i64 0, .int .i64 (wrap64 (a0 - 1))] rfl aq ?_; (with_reducible refine (spec_l1In.calls a1_0 0 (wrap64 (a0 - 1)) true _ A3.out).mono ?_); rintro e w' ⟨rfl, ⟨nd, rfl⟩⟩; refine ⟨_, rfl, ?_⟩) | (go_at_call 61; (with_reducible refine (spec_l1In.calls a1_1 0 (wrap64 (a0 - 1)) true _ A5.out).mono ?_); rintro e w' ⟨rfl, ⟨nd, rfl⟩⟩) | (go_at_call 61; (with_reducible refine (spec_l1In.calls a1_2 0 1000000000 true _ A7.out).mono ?_); rintro e w' ⟨rfl, ⟨nd, rfl⟩⟩) | (go_at_call 61; (with_reducible refine (spec_l1In.calls a1_3 0 1000 true _ A9.out).mono ?_); rintro e w' ⟨rfl, ⟨nd, rfl⟩⟩) | (go_at_call 61; (with_reducible refine (spec_l1In.calls a1_4 0 1000000 true _ A11.out).mono ?_); rintro e w' ⟨rfl, ⟨nd, rfl⟩⟩) | (go_at_call 61; (with_reducible refine (spec_l1In.calls a1_5 0 1000000 true _ A13.out).mono ?_); rintro e w' ⟨rfl, ⟨nd, rfl⟩⟩) | (go_at_call 61; (with_reducible refine (spec_l1In.calls a1_6 1 80 t120 _ A15.out).mono ?_); rintro e w' ⟨rfl, ⟨nd, rfl⟩⟩) | (go_at_call 61; (with_reducible refine (spec_l1In.calls a1_5 0 1000000 false _ A13.out).mono ?_); rintro e w' ⟨rfl, ⟨nd, rfl⟩⟩) | (go_at_call 61; (with_reducible refine (spec_l1In.calls a1_4 0 1000000 false _ A11.out).mono ?_); rintro e w' ⟨rfl, ⟨nd, rfl⟩⟩) | (go_at_call 61; (with_reducible refine (spec_l1In.calls a1_3 0 1000 false _ A9.out).mono ?_); rintro e w' ⟨rfl, ⟨nd, rfl⟩⟩) | (go_at_call 61; (with_reducible refine (spec_l1In.calls a1_2 0 1000000000 false _ A7.out).mono ?_); rintro e w' ⟨rfl, ⟨nd, rfl⟩⟩) | (go_at_call 61; (with_reducible refine (spec_l1In.calls a1_1 0 (wrap64 (a0 - 1)) false _ A5.out).mono ?_); rintro e w' ⟨rfl, ⟨nd, rfl⟩⟩) | ((with_reducible refine gate_callee (f := 61) rfl ?_); refine goesL_ (some 9) rfl rfl Try.func61 (by kernel_rfl) rfl #[.int .i64 a1_0, .int .i64 0, .int .i64 (wrap64 (a0 - 1))] rfl aq ?_; (with_reducible refine (spec_l1In.calls a1_0 0 (wrap64 (a0 - 1)) false _ A3.out).mono ?_); rintro e w' ⟨rfl, ⟨nd, rfl⟩⟩; refine ⟨_, rfl, ?_⟩))
  go_ret
  exact ⟨by first | rfl | (simp [errW_none, errW_some] <;> rfl) | (simp [*, errW_none, errW_some] <;> rfl), by repeat (first | (with_reducible first | exact HB.out | apply below_alloc | apply pw_below_drewN | apply below_drew1 | refine below_set ?_ GE113.out) | exact HB.out)⟩

/-! ### spec_GoodWish: function 59 -/
def spec_GoodWish.f (k : Nat) (l0_0 : List Int) (l0_1 : List Int) (a0_2 : Int) (a1_0 : Int) (a1_1 : Int) (a1_2 : Int) (a1_3 : Int) (a1_4 : Int) (a1_5 : Int) (a1_6 : Int) : Option (Bool) := (spec_GoodState.f k l0_0 l0_1 a0_2).bind fun t123 => (if t123 = true then ((spec_l14Wish.f (l0_0.length : Int) a1_0 a1_1 a1_2 a1_3 a1_4 a1_5 a1_6).bind fun t124 => (some t124)) else (some false))
theorem spec_GoodWish.mono : ∀ a0 a1 a2 a3 a4 a5 a6 a7 a8 a9 k, LeO (spec_GoodWish.f k a0 a1 a2 a3 a4 a5 a6 a7 a8 a9) (spec_GoodWish.f (k + 1) a0 a1 a2 a3 a4 a5 a6 a7 a8 a9) := by
 intro a0 a1 a2 a3 a4 a5 a6 a7 a8 a9 k
 unfold spec_GoodWish.f
 repeat' first
   | (with_reducible exact spec_GoodState.mono _ _ _ _)
   | (with_reducible exact LeO.refl _)
   | (with_reducible exact LeO.none _)
   | (with_reducible refine LeO.ite ?_ ?_)
   | (with_reducible refine LeO.bind ?_ (fun _ => ?_))
   | exact spec_GoodState.mono _ _ _ _
   | exact LeO.none _
   | refine LeO.ite ?_ ?_
   | refine LeO.bind ?_ (fun _ => ?_)
set_option maxHeartbeats 8000000 in
set_option maxRecDepth 100000 in
theorem spec_GoodWish.calls (k : Nat) (A0_0 : Option Addr) (c0_0 : Nat) (l0_0 : List Int) (A0_1 : Option Addr) (c0_1 : Nat) (l0_1 : List Int) (a0_2 : Int) (a1_0 : Int) (a1_1 : Int) (a1_2 : Int) (a1_3 : Int) (a1_4 : Int) (a1_5 : Int) (a1_6 : Int) (r : Bool) (w : World) (hr0_0 : Kd.C (Kd.int .i64) w A0_0 l0_0.length l0_0) (hc0_0 : l0_0.length ≤ c0_0) (hr0_1 : Kd.C (Kd.int .i64) w A0_1 l0_1.length l0_1) (hc0_1 : l0_1.length ≤ c0_1) (h : spec_GoodWish.f k l0_0 l0_1 a0_2 a1_0 a1_1 a1_2 a1_3 a1_4 a1_5 a1_6 = some r) :
  Calls Try.prog 59 #[.agg #[.slice A0_0 l0_0.length c0_0, .slice A0_1 l0_1.length c0_1, .int .i64 a0_2], .agg #[.int .i64 a1_0, .int .i64 a1_1, .int .i64 a1_2, .int .i64 a1_3, .int .i64 a1_4, .int .i64 a1_5, .int .i64 a1_6]] w fun e w' => e = .returned (.bool r) ∧ Below w.heap.size w w' := by
 have hu28 := Try.underlying28
 have hu32 := Try.underlying32
 have HR0_0 := Aside0.mk hr0_0
 have HC0_0 := Aside0.mk hc0_0
 clear hr0_0 hc0_0
 have HR0_1 := Aside0.mk hr0_1
 have HC0_1 := Aside0.mk hc0_1
 clear hr0_1 hc0_1
 have HB := Aside0.mk (Below.refl w.heap.size w)
 have H : ((spec_GoodState.f k l0_0 l0_1 a0_2).bind fun t123 => (if t123 = true then ((spec_l14Wish.f (l0_0.length : Int) a1_0 a1_1 a1_2 a1_3 a1_4 a1_5 a1_6).bind fun t124 => (some t124)) else (some false))) = some r := h
 clear h
 replace H := Option.bind_eq_some_iff.mp H
 obtain ⟨t123, A30, H⟩ := H
 have A3 := Aside0.mk A30
 clear A30
 by_cases c4 : t123 = true
 ·subst c4
  rw [if_pos rfl] at H
  replace H := Option.bind_eq_some_iff.mp H
  obtain ⟨t124, A50, H⟩ := H
  have A5 := Aside0.mk A50
  clear A50
  obtain rfl := Option.some.inj H
  go_enter Try.func59, Try.ntmps59
  go_wp2_with (first | ((with_reducible refine gate_dst (N := 2) rfl ?_); (try (refine gate_guard (by rfl) ?_; dsimp only)); refine box_event ?hg (N := 2) ?hd (cs := #[.slice A0_0 l0_0.length c0_0, .slice A0_1 l0_1.length c0_1, .int .i64 a0_2]) (t := 28) ?hr ?_; (case hd => rfl); (case hg => rfl); (case hr => first | (go_simp; done) | (go_simp; rfl)); intro gb121 hg w6 hbox hb; have n_ := And.intro (Aside0.mk (below_step (bw0 HB.out) hb)) (And.intro (Aside0.mk (hbox)) (Aside0.mk ((by rw [hg]; exact (below_size (bw0 HB.out)) : w.heap.size ≤ gb121)))); clear HB; obtain ⟨HB, BK121, GW121⟩ := n_; have GE121 := GW121; clear hb hbox hg) | ((with_reducible refine gate_dst (N := 3) rfl ?_); (try (refine gate_guard (by rfl) ?_; dsimp only)); refine box_event ?hg (N := 3) ?hd (cs := #[.int .i64 a1_0, .int .i64 a1_1, .int .i64 a1_2, .int .i64 a1_3, .int .i64 a1_4, .int .i64 a1_5, .int .i64 a1_6]) (t := 32) ?hr ?_; (case hd => rfl); (case hg => rfl); (case hr => first | (go_simp; done) | (go_simp; rfl)); intro gb122 hg w7 hbox hb; have n_ := And.intro (Aside0.mk (bbq BK121.out hb)) (And.intro (Aside0.mk (below_step (bw1 HB.out GE121.out) hb)) (And.intro (Aside0.mk (hbox)) (And.intro (Aside0.mk ((by rw [hg]; exact (below_size (bw1 HB.out GE121.out)) : w.heap.size ≤ gb122))) (And.intro (Aside0.mk ((nlq BK121.out hg))) (Aside0.mk ((ngq BK121.out hg))))))); clear BK121 HB; obtain ⟨BK121, HB, BK122, GW122, NB121_122, NB122_121⟩ := n_; have GE122 := GW122; clear hb hbox hg; have hnb8 := NB121_122.out; have hnc8 := NB122_121.out; obtain ⟨hcz9_0, hcz9_1, hcz9_2, hfz9_0, hfz9_1, hfz9_2⟩ := cq3 BK121.out) | ((with_reducible refine gate_callee (f := 76) rfl ?_); refine goesL_ (some 6) rfl rfl Try.func76 (by kernel_rfl) rfl #[.agg #[.slice A0_0 l0_0.length c0_0, .slice A0_1 l0_1.length c0_1, .int .i64 a0_2]] rfl aq ?_; (with_reducible refine (spec_GoodState.calls k _ _ l0_0 _ _ l0_1 a0_2 true _ ?side1 ?side2 ?side3 ?side4 A3.out).mono ?_); (case side1 => exact caq (Kd.C_below HR0_0.out HB.out)); (case side2 => exact HC0_0.out); (case side3 => exact caq (Kd.C_below HR0_1.out HB.out)); (case side4 => exact HC0_1.out); rintro e w10 ⟨rfl, hb⟩; refine ⟨_, rfl, ?_⟩; have n_ := And.intro (Aside0.mk (bbq BK121.out hb)) (And.intro (Aside0.mk (bbq BK122.out hb)) (Aside0.mk (below_step (bw2 HB.out GE121.out GE122.out) hb))); clear BK121 BK122 HB; obtain ⟨BK121, BK122, HB⟩ := n_; (try clear hb); (try clear hb2); (try clear hk); (try clear hi); obtain ⟨hcz11_0, hcz11_1, hcz11_2, hfz11_0, hfz11_1, hfz11_2⟩ := cq3 BK121.out; obtain ⟨hcz12_0, hcz12_1, hcz12_2, hcz12_3, hcz12_4, hcz12_5, hcz12_6, hfz12_0, hfz12_1, hfz12_2, hfz12_3, hfz12_4, hfz12_5, hfz12_6⟩ := cq7 BK122.out) | (go_at_call 94; (with_reducible refine (spec_l14Wish.calls (l0_0.length : Int) a1_0 a1_1 a1_2 a1_3 a1_4 a1_5 a1_6 t124 _ A5.out).mono ?_); rintro e w13 ⟨rfl, hb⟩; have n_ := And.intro (Aside0.mk (bbq BK121.out hb)) (And.intro (Aside0.mk (bbq BK122.out hb)) (Aside0.mk (below_step (bw2 HB.out GE121.out GE122.out) hb))); clear BK121 BK122 HB; obtain ⟨BK121, BK122, HB⟩ := n_; (try clear hb); (try clear hb2); (try clear hk); (try clear hi)))
  go_ret
  exact ⟨by first | rfl | (simp [errW_none, errW_some] <;> rfl) | (simp [*, errW_none, errW_some] <;> rfl), by repeat (first | (with_reducible first | exact HB.out | apply below_alloc | apply pw_below_drewN | apply below_drew1 | refine below_set ?_ GE121.out | refine below_set ?_ GE122.out) | exact HB.out)⟩
 ·replace c4 := Bool.eq_false_iff.mpr c4
  subst c4
  rw [if_neg (show ¬ (false = true) by decide)] at H
  obtain rfl := Option.some.inj H
  go_enter Try.func59, Try.ntmps59
  go_wp2_with (first | ((with_reducible refine gate_dst (N := 2) rfl ?_); (try (refine gate_guard (by rfl) ?_; dsimp only)); refine box_event ?hg (N := 2) ?hd (cs := #[.slice A0_0 l0_0.length c0_0, .slice A0_1 l0_1.length c0_1, .int .i64 a0_2]) (t := 28) ?hr ?_; (case hd => rfl); (case hg => rfl); (case hr => first | (go_simp; done) | (go_simp; rfl)); intro gb121 hg w14 hbox hb; have n_ := And.intro (Aside0.mk (below_step (bw0 HB.out) hb)) (And.intro (Aside0.mk (hbox)) (Aside0.mk ((by rw [hg]; exact (below_size (bw0 HB.out)) : w.heap.size ≤ gb121)))); clear HB; obtain ⟨HB, BK121, GW121⟩ := n_; have GE121 := GW121; clear hb hbox hg) | ((with_reducible refine gate_dst (N := 3) rfl ?_); (try (refine gate_guard (by rfl) ?_; dsimp only)); refine box_event ?hg (N := 3) ?hd (cs := #[.int .i64 a1_0, .int .i64 a1_1, .int .i64 a1_2, .int .i64 a1_3, .int .i64 a1_4, .int .i64 a1_5, .int .i64 a1_6]) (t := 32) ?hr ?_; (case hd => rfl); (case hg => rfl); (case hr => first | (go_simp; done) | (go_simp; rfl)); intro gb122 hg w15 hbox hb; have n_ := And.intro (Aside0.mk (bbq BK121.out hb)) (And.intro (Aside0.mk (below_step (bw1 HB.out GE121.out) hb)) (And.intro (Aside0.mk (hbox)) (And.intro (Aside0.mk ((by rw [hg]; exact (below_size (bw1 HB.out GE121.out)) : w.heap.size ≤ gb122))) (And.intro (Aside0.mk ((nlq BK121.out hg))) (Aside0.mk ((ngq BK121.out hg))))))); clear BK121 HB; obtain ⟨BK121, HB, BK122, GW122, NB121_122, NB122_121⟩ := n_; have GE122 := GW122; clear hb hbox hg; have hnb16 := NB121_122.out; have hnc16 := NB122_121.out; obtain ⟨hcz17_0, hcz17_1, hcz17_2, hfz17_0, hfz17_1, hfz17_2⟩ := cq3 BK121.out) | ((with_reducible refine gate_callee (f := 76) rfl ?_); refine goesL_ (some 6) rfl rfl Try.func76 (by kernel_rfl) rfl #[.agg #[.slice A0_0 l0_0.length c0_0, .slice A0_1 l0_1.length c0_1, .int .i64 a0_2]] rfl aq ?_; (with_reducible refine (spec_GoodState.calls k _ _ l0_0 _ _ l0_1 a0_2 false _ ?side1 ?side2 ?side3 ?side4 A3.out).mono ?_); (case side1 => exact caq (Kd.C_below HR0_0.out HB.out)); (case side2 => exact HC0_0.out); (case side3 => exact caq (Kd.C_below HR0_1.out HB.out)); (case side4 => exact HC0_1.out); rintro e w18 ⟨rfl, hb⟩; refine ⟨_, rfl, ?_⟩; have n_ := And.intro (Aside0.mk (bbq BK121.out hb)) (And.intro (Aside0.mk (bbq BK122.out hb)) (Aside0.mk (below_step (bw2 HB.out GE121.out GE122.out) hb))); clear BK121 BK122 HB; obtain ⟨BK121, BK122, HB⟩ := n_; (try clear hb); (try clear hb2); (try clear hk); (try clear hi)))
  go_ret
  exact ⟨by first | rfl | (simp [errW_none, errW_some] <;> rfl) | (simp [*, errW_none, errW_some] <;> rfl), by repeat (first | (with_reducible first | exact HB.out | apply below_alloc | apply pw_below_drewN | apply below_drew1 | refine below_set ?_ GE121.out | refine below_set ?_ GE122.out) | exact HB.out)⟩

/-! ### spec_l13Price: function 60 -/
def spec_l13Price.f (a0 : Int) : Option (Bool) := (spec_l1In.f a0 8 1000000).bind fun t125 => (some t125)
set_option maxHeartbeats 8000000 in
set_option maxRecDepth 100000 in
theorem spec_l13Price.calls (a0 : Int) (r : Bool) (w : World) (h : spec_l13Price.f a0 = some r) :
  Calls Try.prog 60 #[.int .i64 a0] w fun e w' => e = .returned (.bool r) ∧ Drawn0 w w' := by
 have H : ((spec_l1In.f a0 8 1000000).bind fun t125 => (some t125)) = some r := h
 clear h
 replace H := Option.bind_eq_some_iff.mp H
 obtain ⟨t125, A20, H⟩ := H
 have A2 := Aside0.mk A20
 clear A20
 obtain rfl := Option.some.inj H
 go_enter Try.func60, Try.ntmps60
 go_wp2_with (first | ((with_reducible refine gate_callee (f := 61) rfl ?_); refine goesL_ (some 4) rfl rfl Try.func61 (by kernel_rfl) rfl #[.int .i64 a0, .int .i64 8, .int .i64 1000000] rfl aq ?_; (with_reducible refine (spec_l1In.calls a0 8 1000000 t125 _ A2.out).mono ?_); rintro e w' ⟨rfl, ⟨nd, rfl⟩⟩; refine ⟨_, rfl, ?_⟩))
 go_ret
 exact ⟨by first | rfl | (simp; done) | (simp [*]; done), by repeat (first | exact Drawn0.refl _ | apply Drawn0.step)⟩

/-! ### spec_l1Least: function 118 -/
def spec_l1Least.f (a0 : Int) (a1 : Int) : Option (Int) := if a0 < a1 then (some a0) else (some a1)
set_option maxHeartbeats 8000000 in
set_option maxRecDepth 100000 in
theorem spec_l1Least.calls (a0 : Int) (a1 : Int) (r : Int) (w : World) (h : spec_l1Least.f a0 a1 = some r) :
  Calls Try.prog 118 #[.int .i64 a0, .int .i64 a1] w fun e w' => e = .returned (.int .i64 r) ∧ Drawn0 w w' := by
 have H : (if a0 < a1 then (some a0) else (some a1)) = some r := h
 clear h
 by_cases c3 : a0 < a1
 ·rw [if_pos c3] at H
  have c3b0 : decide (a0 < a1) = true := decide_eq_true c3
  clear c3
  obtain rfl := Option.some.inj H
  go_enter Try.func118, Try.ntmps118
  go_wp2
  go_ret
  exact ⟨by first | rfl | (simp; done) | (simp [*]; done), by repeat (first | exact Drawn0.refl _ | apply Drawn0.step)⟩
 ·rw [if_neg c3] at H
  have c3b0 : decide (a0 < a1) = false := decide_eq_false c3
  clear c3
  obtain rfl := Option.some.inj H
  go_enter Try.func118, Try.ntmps118
  go_wp2
  go_ret
  exact ⟨by first | rfl | (simp; done) | (simp [*]; done), by repeat (first | exact Drawn0.refl _ | apply Drawn0.step)⟩

/-! ### spec_CostOf: function 96 -/
def spec_CostOf.f (a0 : Int) (a1 : Int) (a2 : Int) (a3 : Int) : Option (Int × Int × Bool) := (spec_l13Price.f a0).bind fun t126 => (if t126 = true then ((spec_l1In.f a1 0 1000000).bind fun t127 => (if t127 = true then ((spec_l1In.f a2 a0 1000000).bind fun t128 => (if t128 = true then ((spec_l1In.f a3 1 80).bind fun t129 => (if t129 = true then ((spec_l1Least.f a1 (wrap64 (a2 - a0))).bind fun t130 => (some (wrap64 (a0 * a3), wrap64 (t130 * a3), true))) else (some (0, 0, false)))) else (some (0, 0, false)))) else (some (0, 0, false)))) else (some (0, 0, false)))
set_option maxHeartbeats 8000000 in
set_option maxRecDepth 100000 in
theorem spec_CostOf.calls (a0 : Int) (a1 : Int) (a2 : Int) (a3 : Int) (r1 : Int) (r2 : Int) (r3 : Bool) (w : World) (h : spec_CostOf.f a0 a1 a2 a3 = some (r1, r2, r3)) :
  Calls Try.prog 96 #[.int .i64 a0, .int .i64 a1, .int .i64 a2, .int .i64 a3] w fun e w' => e = .returned (.tuple #[.int .i64 r1, .int .i64 r2, .bool r3]) ∧ Drawn0 w w' := by
 have H : ((spec_l13Price.f a0).bind fun t126 => (if t126 = true then ((spec_l1In.f a1 0 1000000).bind fun t127 => (if t127 = true then ((spec_l1In.f a2 a0 1000000).bind fun t128 => (if t128 = true then ((spec_l1In.f a3 1 80).bind fun t129 => (if t129 = true then ((spec_l1Least.f a1 (wrap64 (a2 - a0))).bind fun t130 => (some (wrap64 (a0 * a3), wrap64 (t130 * a3), true))) else (some (0, 0, false)))) else (some (0, 0, false)))) else (some (0, 0, false)))) else (some (0, 0, false)))) = some (r1, r2, r3) := h
 clear h
 replace H := Option.bind_eq_some_iff.mp H
 obtain ⟨t126, A50, H⟩ := H
 have A5 := Aside0.mk A50
 clear A50
 by_cases c6 : t126 = true
 focus
  subst c6
  rw [if_pos rfl] at H
  replace H := Option.bind_eq_some_iff.mp H
  obtain ⟨t127, A70, H⟩ := H
  have A7 := Aside0.mk A70
  clear A70
  by_cases c8 : t127 = true
  focus
   subst c8
   rw [if_pos rfl] at H
   replace H := Option.bind_eq_some_iff.mp H
   obtain ⟨t128, A90, H⟩ := H
   have A9 := Aside0.mk A90
   clear A90
   by_cases c10 : t128 = true
   focus
    subst c10
    rw [if_pos rfl] at H
    replace H := Option.bind_eq_some_iff.mp H
    obtain ⟨t129, A110, H⟩ := H
    have A11 := Aside0.mk A110
    clear A110
    by_cases c12 : t129 = true
    focus
     subst c12
     rw [if_pos rfl] at H
     replace H := Option.bind_eq_some_iff.mp H
     obtain ⟨t130, A130, H⟩ := H
     have A13 := Aside0.mk A130
     clear A130
     simp only [Option.some.injEq, Prod.mk.injEq] at H
     obtain ⟨rfl, rfl, rfl⟩ := H
    rotate_left
    focus
     replace c12 := Bool.eq_false_iff.mpr c12
     subst c12
     rw [if_neg (show ¬ (false = true) by decide)] at H
     simp only [Option.some.injEq, Prod.mk.injEq] at H
     obtain ⟨rfl, rfl, rfl⟩ := H
   rotate_left 2
   focus
    replace c10 := Bool.eq_false_iff.mpr c10
    subst c10
    rw [if_neg (show ¬ (false = true) by decide)] at H
    simp only [Option.some.injEq, Prod.mk.injEq] at H
    obtain ⟨rfl, rfl, rfl⟩ := H
  rotate_left 3
  focus
   replace c8 := Bool.eq_false_iff.mpr c8
   subst c8
   rw [if_neg (show ¬ (false = true) by decide)] at H
   simp only [Option.some.injEq, Prod.mk.injEq] at H
   obtain ⟨rfl, rfl, rfl⟩ := H
 rotate_left 4
 focus
  replace c6 := Bool.eq_false_iff.mpr c6
  subst c6
  rw [if_neg (show ¬ (false = true) by decide)] at H
  simp only [Option.some.injEq, Prod.mk.injEq] at H
  obtain ⟨rfl, rfl, rfl⟩ := H
 all_goals
  go_enter Try.func96, Try.ntmps96
  go_wp2_with (first | ((with_reducible refine gate_callee (f := 60) rfl ?_); refine goesL_ (some 12) rfl rfl Try.func60 (by kernel_rfl) rfl #[.int .i64 a0] rfl aq ?_; (with_reducible refine (spec_l13Price.calls a0 true _ A5.out).mono ?_); rintro e w' ⟨rfl, ⟨nd, rfl⟩⟩; refine ⟨_, rfl, ?_⟩) | (go_at_call 61; (with_reducible refine (spec_l1In.calls a1 0 1000000 true _ A7.out).mono ?_); rintro e w' ⟨rfl, ⟨nd, rfl⟩⟩) | (go_at_call 61; (with_reducible refine (spec_l1In.calls a2 a0 1000000 true _ A9.out).mono ?_); rintro e w' ⟨rfl, ⟨nd, rfl⟩⟩) | (go_at_call 61; (with_reducible refine (spec_l1In.calls a3 1 80 true _ A11.out).mono ?_); rintro e w' ⟨rfl, ⟨nd, rfl⟩⟩) | ((with_reducible refine gate_callee (f := 118) rfl ?_); refine goesL_ (some 37) rfl rfl Try.func118 (by kernel_rfl) rfl #[.int .i64 a1, .int .i64 (wrap64 (a2 - a0))] rfl aq ?_; (with_reducible refine (spec_l1Least.calls a1 (wrap64 (a2 - a0)) t130 _ A13.out).mono ?_); rintro e w' ⟨rfl, ⟨nd, rfl⟩⟩; refine ⟨_, rfl, ?_⟩) | (go_at_call 61; (with_reducible refine (spec_l1In.calls a3 1 80 false _ A11.out).mono ?_); rintro e w' ⟨rfl, ⟨nd, rfl⟩⟩) | (go_at_call 61; (with_reducible refine (spec_l1In.calls a2 a0 1000000 false _ A9.out).mono ?_); rintro e w' ⟨rfl, ⟨nd, rfl⟩⟩) | (go_at_call 61; (with_reducible refine (spec_l1In.calls a1 0 1000000 false _ A7.out).mono ?_); rintro e w' ⟨rfl, ⟨nd, rfl⟩⟩) | ((with_reducible refine gate_callee (f := 60) rfl ?_); refine goesL_ (some 12) rfl rfl Try.func60 (by kernel_rfl) rfl #[.int .i64 a0] rfl aq ?_; (with_reducible refine (spec_l13Price.calls a0 false _ A5.out).mono ?_); rintro e w' ⟨rfl, ⟨nd, rfl⟩⟩; refine ⟨_, rfl, ?_⟩))
  go_ret3
  exact ⟨by first | rfl | (simp; done) | (simp [*]; done), by repeat (first | exact Drawn0.refl _ | apply Drawn0.step)⟩

/-! ### spec_l14May: function 95 -/
def spec_l14May.f (l0_0 : List Int) (l0_1 : List Int) (a0_2 : Int) (a1_0 : Int) (a1_1 : Int) (a1_2 : Int) (a1_3 : Int) (a1_4 : Int) (a1_5 : Int) (a1_6 : Int) (a2 : Int) : Option (Int) := (spec_CostOf.f a2 a1_4 a1_5 a1_6).bind fun bt133 => (if 0 ≤ a1_0 then (if a1_0 < (l0_1.length : Int) then (if a1_3 = (rd l0_1 a1_0) then (if bt133.2.2 = true then (if a1_0 < (l0_0.length : Int) then (if (rd l0_0 a1_0) < (wrap64 ((wrap64 (a1_2 + bt133.1)) + bt133.2.1)) then (some 3) else (if a1_3 = 1000 then (some 4) else (some 0))) else (none)) else (some 2)) else (some 1)) else (none)) else (none))
set_option maxHeartbeats 8000000 in
set_option maxRecDepth 100000 in
theorem spec_l14May.calls (A0_0 : Option Addr) (c0_0 : Nat) (l0_0 : List Int) (A0_1 : Option Addr) (c0_1 : Nat) (l0_1 : List Int) (a0_2 : Int) (a1_0 : Int) (a1_1 : Int) (a1_2 : Int) (a1_3 : Int) (a1_4 : Int) (a1_5 : Int) (a1_6 : Int) (a2 : Int) (r : Int) (w : World) (hr0_0 : Kd.C (Kd.int .i64) w A0_0 l0_0.length l0_0) (hc0_0 : l0_0.length ≤ c0_0) (hr0_1 : Kd.C (Kd.int .i64) w A0_1 l0_1.length l0_1) (hc0_1 : l0_1.length ≤ c0_1) (h : spec_l14May.f l0_0 l0_1 a0_2 a1_0 a1_1 a1_2 a1_3 a1_4 a1_5 a1_6 a2 = some r) :
  Calls Try.prog 95 #[.agg #[.slice A0_0 l0_0.length c0_0, .slice A0_1 l0_1.length c0_1, .int .i64 a0_2], .agg #[.int .i64 a1_0, .int .i64 a1_1, .int .i64 a1_2, .int .i64 a1_3, .int .i64 a1_4, .int .i64 a1_5, .int .i64 a1_6], .int .i64 a2] w fun e w' => e = .returned (.int .i64 r) ∧ Below w.heap.size w w' := by
 have hu28 := Try.underlying28
 have hu32 := Try.underlying32
 have HR0_0 := Aside0.mk hr0_0
 have HC0_0 := Aside0.mk hc0_0
 clear hr0_0 hc0_0
 have HR0_1 := Aside0.mk hr0_1
 have HC0_1 := Aside0.mk hc0_1
 clear hr0_1 hc0_1
 have HB := Aside0.mk (Below.refl w.heap.size w)
 have H : ((spec_CostOf.f a2 a1_4 a1_5 a1_6).bind fun bt133 => (if 0 ≤ a1_0 then (if a1_0 < (l0_1.length : Int) then (if a1_3 = (rd l0_1 a1_0) then (if bt133.2.2 = true then (if a1_0 < (l0_0.length : Int) then (if (rd l0_0 a1_0) < (wrap64 ((wrap64 (a1_2 + bt133.1)) + bt133.2.1)) then (some 3) else (if a1_3 = 1000 then (some 4) else (some 0))) else (none)) else (some 2)) else (some 1)) else (none)) else (none))) = some r := h
 clear h
 replace H := Option.bind_eq_some_iff.mp H
 obtain ⟨⟨t133, t134, t135⟩, A40, H⟩ := H
 have A4 := Aside0.mk A40
 clear A40
 by_cases c5 : 0 ≤ a1_0
 focus
  rw [if_pos c5] at H
  have c5b0 : decide (0 ≤ a1_0) = true := decide_eq_true c5
  clear c5
  by_cases c6 : a1_0 < (l0_1.length : Int)
  focus
   rw [if_pos c6] at H
   have c6b0 : decide (a1_0 < (l0_1.length : Int)) = true := decide_eq_true c6
   clear c6
   by_cases c7 : a1_3 = (rd l0_1 a1_0)
   focus
    rw [if_pos c7] at H
    have c7b0 : (a1_3 == (rd l0_1 a1_0)) = true := beq_iff_eq.mpr c7
    have c7b1 : (a1_3 != (rd l0_1 a1_0)) = false := bne_eq_false_iff_eq.mpr c7
    clear c7
    by_cases c8 : t135 = true
    focus
     subst c8
     rw [if_pos rfl] at H
     by_cases c9 : a1_0 < (l0_0.length : Int)
     focus
      rw [if_pos c9] at H
      have c9b0 : decide (a1_0 < (l0_0.length : Int)) = true := decide_eq_true c9
      clear c9
      by_cases c10 : (rd l0_0 a1_0) < (wrap64 ((wrap64 (a1_2 + t133)) + t134))
      focus
       rw [if_pos c10] at H
       have c10b0 : decide ((rd l0_0 a1_0) < (wrap64 ((wrap64 (a1_2 + t133)) + t134))) = true := decide_eq_true c10
       clear c10
       obtain rfl := Option.some.inj H
      rotate_left
      focus
       rw [if_neg c10] at H
       have c10b0 : decide ((rd l0_0 a1_0) < (wrap64 ((wrap64 (a1_2 + t133)) + t134))) = false := decide_eq_false c10
       clear c10
       by_cases c16 : a1_3 = 1000
       focus
        rw [if_pos c16] at H
        have c16b0 : (a1_3 == 1000) = true := beq_iff_eq.mpr c16
        have c16b1 : (a1_3 != 1000) = false := bne_eq_false_iff_eq.mpr c16
        clear c16
        obtain rfl := Option.some.inj H
       rotate_left
       focus
        rw [if_neg c16] at H
        have c16b0 : (a1_3 == 1000) = false := beq_eq_false_iff_ne.mpr c16
        have c16b1 : (a1_3 != 1000) = true := bne_iff_ne.mpr c16
        obtain rfl := Option.some.inj H
     rotate_left 3
     focus
      rw [if_neg c9] at H
      exact absurd H (by simp)
    rotate_left 3
    focus
     replace c8 := Bool.eq_false_iff.mpr c8
     subst c8
     rw [if_neg (show ¬ (false = true) by decide)] at H
     obtain rfl := Option.some.inj H
   rotate_left 4
   focus
    rw [if_neg c7] at H
    have c7b0 : (a1_3 == (rd l0_1 a1_0)) = false := beq_eq_false_iff_ne.mpr c7
    have c7b1 : (a1_3 != (rd l0_1 a1_0)) = true := bne_iff_ne.mpr c7
    obtain rfl := Option.some.inj H
  rotate_left 5
  focus
   rw [if_neg c6] at H
   exact absurd H (by simp)
 rotate_left 5
 focus
  rw [if_neg c5] at H
  exact absurd H (by simp)
 all_goals
  go_enter Try.func95, Try.ntmps95
  go_wp2_with (first | ((with_reducible refine gate_dst (N := 3) rfl ?_); refine box_event ?hg (N := 3) ?hd (cs := #[.slice A0_0 l0_0.length c0_0, .slice A0_1 l0_1.length c0_1, .int .i64 a0_2]) (t := 28) ?hr ?_; (case hd => rfl); (case hg => rfl); (case hr => first | (go_simp; done) | (go_simp; rfl)); intro gb131 hg w_131 hbox hb; have n_ := And.intro (Aside0.mk (below_step (bw0 HB.out) hb)) (And.intro (Aside0.mk (hbox)) (Aside0.mk ((by rw [hg]; exact (below_size (bw0 HB.out)) : w.heap.size ≤ gb131)))); clear HB; obtain ⟨HB, BK131, GW131⟩ := n_; have GE131 := GW131; clear hb hbox hg) | ((with_reducible refine gate_dst (N := 4) rfl ?_); refine box_event ?hg (N := 4) ?hd (cs := #[.int .i64 a1_0, .int .i64 a1_1, .int .i64 a1_2, .int .i64 a1_3, .int .i64 a1_4, .int .i64 a1_5, .int .i64 a1_6]) (t := 32) ?hr ?_; (case hd => rfl); (case hg => rfl); (case hr => first | (go_simp; done) | (go_simp; rfl)); intro gb132 hg w_132 hbox hb; have n_ := And.intro (Aside0.mk (bbq BK131.out hb)) (And.intro (Aside0.mk (below_step (bw1 HB.out GE131.out) hb)) (And.intro (Aside0.mk (hbox)) (And.intro (Aside0.mk ((by rw [hg]; exact (below_size (bw1 HB.out GE131.out)) : w.heap.size ≤ gb132))) (And.intro (Aside0.mk ((nlq BK131.out hg))) (Aside0.mk ((ngq BK131.out hg))))))); clear BK131 HB; obtain ⟨BK131, HB, BK132, GW132, NB131_132, NB132_131⟩ := n_; have GE132 := GW132; clear hb hbox hg; have hnb132a := NB132_131.out; have hnc132a := NB131_132.out; have hcz132a_0 : w_132.cell? ⟨gb132, 0, none⟩ = some (.int .i64 a1_0) := (blk_cell BK132.out 0).trans rfl; have hcz132a_1 : w_132.cell? ⟨gb132, 1, none⟩ = some (.int .i64 a1_1) := (blk_cell BK132.out 1).trans rfl; have hcz132a_2 : w_132.cell? ⟨gb132, 2, none⟩ = some (.int .i64 a1_2) := (blk_cell BK132.out 2).trans rfl; have hcz132a_3 : w_132.cell? ⟨gb132, 3, none⟩ = some (.int .i64 a1_3) := (blk_cell BK132.out 3).trans rfl; have hcz132a_4 : w_132.cell? ⟨gb132, 4, none⟩ = some (.int .i64 a1_4) := (blk_cell BK132.out 4).trans rfl; have hcz132a_5 : w_132.cell? ⟨gb132, 5, none⟩ = some (.int .i64 a1_5) := (blk_cell BK132.out 5).trans rfl; have hcz132a_6 : w_132.cell? ⟨gb132, 6, none⟩ = some (.int .i64 a1_6) := (blk_cell BK132.out 6).trans rfl; have hfz132a_0 := blk_frozen BK132.out 0; have hfz132a_1 := blk_frozen BK132.out 1; have hfz132a_2 := blk_frozen BK132.out 2; have hfz132a_3 := blk_frozen BK132.out 3; have hfz132a_4 := blk_frozen BK132.out 4; have hfz132a_5 := blk_frozen BK132.out 5; have hfz132a_6 := blk_frozen BK132.out 6) | (go_at_call 96; (with_reducible refine (spec_CostOf.calls a2 a1_4 a1_5 a1_6 t133 t134 true _ A4.out).mono ?_); rintro e w' ⟨rfl, ⟨nd, rfl⟩⟩; (try first | exact ⟨rfl, _, World.drewN_drewN _ _ _⟩ | exact ⟨rfl, _, Eq.trans (World.drewN_drewN _ _ _) (congrArg (World.drewN _) (Nat.add_assoc _ _ _))⟩); obtain ⟨hcz15_0, hcz15_1, hcz15_2, hfz15_0, hfz15_1, hfz15_2⟩ := cq3 BK131.out; have p136 : 0 ≤ (a1_0 : Int) := of_decide_eq_true sq; have q136 : a1_0 < (l0_1.length : Int) := of_decide_eq_true sq; obtain ⟨ad136, e136, hx136_0⟩ := Kd.at_int HR0_1.out a1_0 p136 q136; cases e136; replace hx136_0 := (HB.out.cell (World.block_lt_of_cell? w _ hx136_0)).trans hx136_0; replace p136 := eq_true p136; replace q136 := eq_true q136; have p137 : 0 ≤ (a1_0 : Int) := of_decide_eq_true sq; have q137 : a1_0 < (l0_0.length : Int) := of_decide_eq_true sq; obtain ⟨ad137, e137, hx137_0⟩ := Kd.at_int HR0_0.out a1_0 p137 q137; cases e137; replace hx137_0 := (HB.out.cell (World.block_lt_of_cell? w _ hx137_0)).trans hx137_0; replace p137 := eq_true p137; replace q137 := eq_true q137) | (go_at_call 96; (with_reducible refine (spec_CostOf.calls a2 a1_4 a1_5 a1_6 t133 t134 true _ A4.out).mono ?_); rintro e w' ⟨rfl, ⟨nd, rfl⟩⟩; (try first | exact ⟨rfl, _, World.drewN_drewN _ _ _⟩ | exact ⟨rfl, _, Eq.trans (World.drewN_drewN _ _ _) (congrArg (World.drewN _) (Nat.add_assoc _ _ _))⟩); obtain ⟨hcz21_0, hcz21_1, hcz21_2, hfz21_0, hfz21_1, hfz21_2⟩ := cq3 BK131.out; have p136 : 0 ≤ (a1_0 : Int) := of_decide_eq_true sq; have q136 : a1_0 < (l0_1.length : Int) := of_decide_eq_true sq; obtain ⟨ad136, e136, hx136_0⟩ := Kd.at_int HR0_1.out a1_0 p136 q136; cases e136; replace hx136_0 := (HB.out.cell (World.block_lt_of_cell? w _ hx136_0)).trans hx136_0; replace p136 := eq_true p136; replace q136 := eq_true q136; have p137 : 0 ≤ (a1_0 : Int) := of_decide_eq_true sq; have q137 : a1_0 < (l0_0.length : Int) := of_decide_eq_true sq; obtain ⟨ad137, e137, hx137_0⟩ := Kd.at_int HR0_0.out a1_0 p137 q137; cases e137; replace hx137_0 := (HB.out.cell (World.block_lt_of_cell? w _ hx137_0)).trans hx137_0; replace p137 := eq_true p137; replace q137 := eq_true q137) | (go_at_call 96; (with_reducible refine (spec_CostOf.calls a2 a1_4 a1_5 a1_6 t133 t134 true _ A4.out).mono ?_); rintro e w' ⟨rfl, ⟨nd, rfl⟩⟩; (try first | exact ⟨rfl, _, World.drewN_drewN _ _ _⟩ | exact ⟨rfl, _, Eq.trans (World.drewN_drewN _ _ _) (congrArg (World.drewN _) (Nat.add_assoc _ _ _))⟩); obtain ⟨hcz26_0, hcz26_1, hcz26_2, hfz26_0, hfz26_1, hfz26_2⟩ := cq3 BK131.out; have p136 : 0 ≤ (a1_0 : Int) := of_decide_eq_true sq; have q136 : a1_0 < (l0_1.length : Int) := of_decide_eq_true sq; obtain ⟨ad136, e136, hx136_0⟩ := Kd.at_int HR0_1.out a1_0 p136 q136; cases e136; replace hx136_0 := (HB.out.cell (World.block_lt_of_cell? w _ hx136_0)).trans hx136_0; replace p136 := eq_true p136; replace q136 := eq_true q136; have p137 : 0 ≤ (a1_0 : Int) := of_decide_eq_true sq; have q137 : a1_0 < (l0_0.length : Int) := of_decide_eq_true sq; obtain ⟨ad137, e137, hx137_0⟩ := Kd.at_int HR0_0.out a1_0 p137 q137; cases e137; replace hx137_0 := (HB.out.cell (World.block_lt_of_cell? w _ hx137_0)).trans hx137_0; replace p137 := eq_true p137; replace q137 := eq_true q137) | (go_at_call 96; (with_reducible refine (spec_CostOf.calls a2 a1_4 a1_5 a1_6 t133 t134 false _ A4.out).mono ?_); rintro e w' ⟨rfl, ⟨nd, rfl⟩⟩; (try first | exact ⟨rfl, _, World.drewN_drewN _ _ _⟩ | exact ⟨rfl, _, Eq.trans (World.drewN_drewN _ _ _) (congrArg (World.drewN _) (Nat.add_assoc _ _ _))⟩); obtain ⟨hcz31_0, hcz31_1, hcz31_2, hfz31_0, hfz31_1, hfz31_2⟩ := cq3 BK131.out; have p136 : 0 ≤ (a1_0 : Int) := of_decide_eq_true sq; have q136 : a1_0 < (l0_1.length : Int) := of_decide_eq_true sq; obtain ⟨ad136, e136, hx136_0⟩ := Kd.at_int HR0_1.out a1_0 p136 q136; cases e136; replace hx136_0 := (HB.out.cell (World.block_lt_of_cell? w _ hx136_0)).trans hx136_0; replace p136 := eq_true p136; replace q136 := eq_true q136) | (go_at_call 96; (with_reducible refine (spec_CostOf.calls a2 a1_4 a1_5 a1_6 t133 t134 t135 _ A4.out).mono ?_); rintro e w' ⟨rfl, ⟨nd, rfl⟩⟩; (try first | exact ⟨rfl, _, World.drewN_drewN _ _ _⟩ | exact ⟨rfl, _, Eq.trans (World.drewN_drewN _ _ _) (congrArg (World.drewN _) (Nat.add_assoc _ _ _))⟩); obtain ⟨hcz36_0, hcz36_1, hcz36_2, hfz36_0, hfz36_1, hfz36_2⟩ := cq3 BK131.out; have p136 : 0 ≤ (a1_0 : Int) := of_decide_eq_true sq; have q136 : a1_0 < (l0_1.length : Int) := of_decide_eq_true sq; obtain ⟨ad136, e136, hx136_0⟩ := Kd.at_int HR0_1.out a1_0 p136 q136; cases e136; replace hx136_0 := (HB.out.cell (World.block_lt_of_cell? w _ hx136_0)).trans hx136_0; replace p136 := eq_true p136; replace q136 := eq_true q136))
  repeat (go_quiet (first | ((with_reducible refine gate_dst (N := 3) rfl ?_); refine box_event ?hg (N := 3) ?hd (cs := #[.slice A0_0 l0_0.length c0_0, .slice A0_1 l0_1.length c0_1, .int .i64 a0_2]) (t := 28) ?hr ?_; (case hd => rfl); (case hg => rfl); (case hr => first | (go_simp; done) | (go_simp; rfl)); intro gb131 hg w_131 hbox hb; have n_ := And.intro (Aside0.mk (below_step (bw0 HB.out) hb)) (And.intro (Aside0.mk (hbox)) (Aside0.mk ((by rw [hg]; exact (below_size (bw0 HB.out)) : w.heap.size ≤ gb131)))); clear HB; obtain ⟨HB, BK131, GW131⟩ := n_; have GE131 := GW131; clear hb hbox hg) | ((with_reducible refine gate_dst (N := 4) rfl ?_); refine box_event ?hg (N := 4) ?hd (cs := #[.int .i64 a1_0, .int .i64 a1_1, .int .i64 a1_2, .int .i64 a1_3, .int .i64 a1_4, .int .i64 a1_5, .int .i64 a1_6]) (t := 32) ?hr ?_; (case hd => rfl); (case hg => rfl); (case hr => first | (go_simp; done) | (go_simp; rfl)); intro gb132 hg w_132 hbox hb; have n_ := And.intro (Aside0.mk (bbq BK131.out hb)) (And.intro (Aside0.mk (below_step (bw1 HB.out GE131.out) hb)) (And.intro (Aside0.mk (hbox)) (And.intro (Aside0.mk ((by rw [hg]; exact (below_size (bw1 HB.out GE131.out)) : w.heap.size ≤ gb132))) (And.intro (Aside0.mk ((nlq BK131.out hg))) (Aside0.mk ((ngq BK131.out hg))))))); clear BK131 HB; obtain ⟨BK131, HB, BK132, GW132, NB131_132, NB132_131⟩ := n_; have GE132 := GW132; clear hb hbox hg; have hnb132a := NB132_131.out; have hnc132a := NB131_132.out; have hcz132a_0 : w_132.cell? ⟨gb132, 0, none⟩ = some (.int .i64 a1_0) := (blk_cell BK132.out 0).trans rfl; have hcz132a_1 : w_132.cell? ⟨gb132, 1, none⟩ = some (.int .i64 a1_1) := (blk_cell BK132.out 1).trans rfl; have hcz132a_2 : w_132.cell? ⟨gb132, 2, none⟩ = some (.int .i64 a1_2) := (blk_cell BK132.out 2).trans rfl; have hcz132a_3 : w_132.cell? ⟨gb132, 3, none⟩ = some (.int .i64 a1_3) := (blk_cell BK132.out 3).trans rfl; have hcz132a_4 : w_132.cell? ⟨gb132, 4, none⟩ = some (.int .i64 a1_4) := (blk_cell BK132.out 4).trans rfl; have hcz132a_5 : w_132.cell? ⟨gb132, 5, none⟩ = some (.int .i64 a1_5) := (blk_cell BK132.out 5).trans rfl; have hcz132a_6 : w_132.cell? ⟨gb132, 6, none⟩ = some (.int .i64 a1_6) := (blk_cell BK132.out 6).trans rfl; have hfz132a_0 := blk_frozen BK132.out 0; have hfz132a_1 := blk_frozen BK132.out 1; have hfz132a_2 := blk_frozen BK132.out 2; have hfz132a_3 := blk_frozen BK132.out 3; have hfz132a_4 := blk_frozen BK132.out 4; have hfz132a_5 := blk_frozen BK132.out 5; have hfz132a_6 := blk_frozen BK132.out 6) | (go_at_call 96; (with_reducible refine (spec_CostOf.calls a2 a1_4 a1_5 a1_6 t133 t134 true _ A4.out).mono ?_); rintro e w' ⟨rfl, ⟨nd, rfl⟩⟩; (try first | exact ⟨rfl, _, World.drewN_drewN _ _ _⟩ | exact ⟨rfl, _, Eq.trans (World.drewN_drewN _ _ _) (congrArg (World.drewN _) (Nat.add_assoc _ _ _))⟩); obtain ⟨hcz15_0, hcz15_1, hcz15_2, hfz15_0, hfz15_1, hfz15_2⟩ := cq3 BK131.out; have p136 : 0 ≤ (a1_0 : Int) := of_decide_eq_true sq; have q136 : a1_0 < (l0_1.length : Int) := of_decide_eq_true sq; obtain ⟨ad136, e136, hx136_0⟩ := Kd.at_int HR0_1.out a1_0 p136 q136; cases e136; replace hx136_0 := (HB.out.cell (World.block_lt_of_cell? w _ hx136_0)).trans hx136_0; replace p136 := eq_true p136; replace q136 := eq_true q136; have p137 : 0 ≤ (a1_0 : Int) := of_decide_eq_true sq; have q137 : a1_0 < (l0_0.length : Int) := of_decide_eq_true sq; obtain ⟨ad137, e137, hx137_0⟩ := Kd.at_int HR0_0.out a1_0 p137 q137; cases e137; replace hx137_0 := (HB.out.cell (World.block_lt_of_cell? w _ hx137_0)).trans hx137_0; replace p137 := eq_true p137; replace q137 := eq_true q137) | (go_at_call 96; (with_reducible refine (spec_CostOf.calls a2 a1_4 a1_5 a1_6 t133 t134 true _ A4.out).mono ?_); rintro e w' ⟨rfl, ⟨nd, rfl⟩⟩; (try first | exact ⟨rfl, _, World.drewN_drewN _ _ _⟩ | exact ⟨rfl, _, Eq.trans (World.drewN_drewN _ _ _) (congrArg (World.drewN _) (Nat.add_assoc _ _ _))⟩); obtain ⟨hcz21_0, hcz21_1, hcz21_2, hfz21_0, hfz21_1, hfz21_2⟩ := cq3 BK131.out; have p136 : 0 ≤ (a1_0 : Int) := of_decide_eq_true sq; have q136 : a1_0 < (l0_1.length : Int) := of_decide_eq_true sq; obtain ⟨ad136, e136, hx136_0⟩ := Kd.at_int HR0_1.out a1_0 p136 q136; cases e136; replace hx136_0 := (HB.out.cell (World.block_lt_of_cell? w _ hx136_0)).trans hx136_0; replace p136 := eq_true p136; replace q136 := eq_true q136; have p137 : 0 ≤ (a1_0 : Int) := of_decide_eq_true sq; have q137 : a1_0 < (l0_0.length : Int) := of_decide_eq_true sq; obtain ⟨ad137, e137, hx137_0⟩ := Kd.at_int HR0_0.out a1_0 p137 q137; cases e137; replace hx137_0 := (HB.out.cell (World.block_lt_of_cell? w _ hx137_0)).trans hx137_0; replace p137 := eq_true p137; replace q137 := eq_true q137) | (go_at_call 96; (with_reducible refine (spec_CostOf.calls a2 a1_4 a1_5 a1_6 t133 t134 true _ A4.out).mono ?_); rintro e w' ⟨rfl, ⟨nd, rfl⟩⟩; (try first | exact ⟨rfl, _, World.drewN_drewN _ _ _⟩ | exact ⟨rfl, _, Eq.trans (World.drewN_drewN _ _ _) (congrArg (World.drewN _) (Nat.add_assoc _ _ _))⟩); obtain ⟨hcz26_0, hcz26_1, hcz26_2, hfz26_0, hfz26_1, hfz26_2⟩ := cq3 BK131.out; have p136 : 0 ≤ (a1_0 : Int) := of_decide_eq_true sq; have q136 : a1_0 < (l0_1.length : Int) := of_decide_eq_true sq; obtain ⟨ad136, e136, hx136_0⟩ := Kd.at_int HR0_1.out a1_0 p136 q136; cases e136; replace hx136_0 := (HB.out.cell (World.block_lt_of_cell? w _ hx136_0)).trans hx136_0; replace p136 := eq_true p136; replace q136 := eq_true q136; have p137 : 0 ≤ (a1_0 : Int) := of_decide_eq_true sq; have q137 : a1_0 < (l0_0.length : Int) := of_decide_eq_true sq; obtain ⟨ad137, e137, hx137_0⟩ := Kd.at_int HR0_0.out a1_0 p137 q137; cases e137; replace hx137_0 := (HB.out.cell (World.block_lt_of_cell? w _ hx137_0)).trans hx137_0; replace p137 := eq_true p137; replace q137 := eq_true q137) | (go_at_call 96; (with_reducible refine (spec_CostOf.calls a2 a1_4 a1_5 a1_6 t133 t134 false _ A4.out).mono ?_); rintro e w' ⟨rfl, ⟨nd, rfl⟩⟩; (try first | exact ⟨rfl, _, World.drewN_drewN _ _ _⟩ | exact ⟨rfl, _, Eq.trans (World.drewN_drewN _ _ _) (congrArg (World.drewN _) (Nat.add_assoc _ _ _))⟩); obtain ⟨hcz31_0, hcz31_1, hcz31_2, hfz31_0, hfz31_1, hfz31_2⟩ := cq3 BK131.out; have p136 : 0 ≤ (a1_0 : Int) := of_decide_eq_true sq; have q136 : a1_0 < (l0_1.length : Int) := of_decide_eq_true sq; obtain ⟨ad136, e136, hx136_0⟩ := Kd.at_int HR0_1.out a1_0 p136 q136; cases e136; replace hx136_0 := (HB.out.cell (World.block_lt_of_cell? w _ hx136_0)).trans hx136_0; replace p136 := eq_true p136; replace q136 := eq_true q136) | (go_at_call 96; (with_reducible refine (spec_CostOf.calls a2 a1_4 a1_5 a1_6 t133 t134 t135 _ A4.out).mono ?_); rintro e w' ⟨rfl, ⟨nd, rfl⟩⟩; (try first | exact ⟨rfl, _, World.drewN_drewN _ _ _⟩ | exact ⟨rfl, _, Eq.trans (World.drewN_drewN _ _ _) (congrArg (World.drewN _) (Nat.add_assoc _ _ _))⟩); obtain ⟨hcz36_0, hcz36_1, hcz36_2, hfz36_0, hfz36_1, hfz36_2⟩ := cq3 BK131.out; have p136 : 0 ≤ (a1_0 : Int) := of_decide_eq_true sq; have q136 : a1_0 < (l0_1.length : Int) := of_decide_eq_true sq; obtain ⟨ad136, e136, hx136_0⟩ := Kd.at_int HR0_1.out a1_0 p136 q136; cases e136; replace hx136_0 := (HB.out.cell (World.block_lt_of_cell? w _ hx136_0)).trans hx136_0; replace p136 := eq_true p136; replace q136 := eq_true q136)); try go_wp2_with (first | ((with_reducible refine gate_dst (N := 3) rfl ?_); refine box_event ?hg (N := 3) ?hd (cs := #[.slice A0_0 l0_0.length c0_0, .slice A0_1 l0_1.length c0_1, .int .i64 a0_2]) (t := 28) ?hr ?_; (case hd => rfl); (case hg => rfl); (case hr => first | (go_simp; done) | (go_simp; rfl)); intro gb131 hg w_131 hbox hb; have n_ := And.intro (Aside0.mk (below_step (bw0 HB.out) hb)) (And.intro (Aside0.mk (hbox)) (Aside0.mk ((by rw [hg]; exact (below_size (bw0 HB.out)) : w.heap.size ≤ gb131)))); clear HB; obtain ⟨HB, BK131, GW131⟩ := n_; have GE131 := GW131; clear hb hbox hg) | ((with_reducible refine gate_dst (N := 4) rfl ?_); refine box_event ?hg (N := 4) ?hd (cs := #[.int .i64 a1_0, .int .i64 a1_1, .int .i64 a1_2, .int .i64 a1_3, .int .i64 a1_4, .int .i64 a1_5, .int .i64 a1_6]) (t := 32) ?hr ?_; (case hd => rfl); (case hg => rfl); (case hr => first | (go_simp; done) | (go_simp; rfl)); intro gb132 hg w_132 hbox hb; have n_ := And.intro (Aside0.mk (bbq BK131.out hb)) (And.intro (Aside0.mk (below_step (bw1 HB.out GE131.out) hb)) (And.intro (Aside0.mk (hbox)) (And.intro (Aside0.mk ((by rw [hg]; exact (below_size (bw1 HB.out GE131.out)) : w.heap.size ≤ gb132))) (And.intro (Aside0.mk ((nlq BK131.out hg))) (Aside0.mk ((ngq BK131.out hg))))))); clear BK131 HB; obtain ⟨BK131, HB, BK132, GW132, NB131_132, NB132_131⟩ := n_; have GE132 := GW132; clear hb hbox hg; have hnb132a := NB132_131.out; have hnc132a := NB131_132.out; have hcz132a_0 : w_132.cell? ⟨gb132, 0, none⟩ = some (.int .i64 a1_0) := (blk_cell BK132.out 0).trans rfl; have hcz132a_1 : w_132.cell? ⟨gb132, 1, none⟩ = some (.int .i64 a1_1) := (blk_cell BK132.out 1).trans rfl; have hcz132a_2 : w_132.cell? ⟨gb132, 2, none⟩ = some (.int .i64 a1_2) := (blk_cell BK132.out 2).trans rfl; have hcz132a_3 : w_132.cell? ⟨gb132, 3, none⟩ = some (.int .i64 a1_3) := (blk_cell BK132.out 3).trans rfl; have hcz132a_4 : w_132.cell? ⟨gb132, 4, none⟩ = some (.int .i64 a1_4) := (blk_cell BK132.out 4).trans rfl; have hcz132a_5 : w_132.cell? ⟨gb132, 5, none⟩ = some (.int .i64 a1_5) := (blk_cell BK132.out 5).trans rfl; have hcz132a_6 : w_132.cell? ⟨gb132, 6, none⟩ = some (.int .i64 a1_6) := (blk_cell BK132.out 6).trans rfl; have hfz132a_0 := blk_frozen BK132.out 0; have hfz132a_1 := blk_frozen BK132.out 1; have hfz132a_2 := blk_frozen BK132.out 2; have hfz132a_3 := blk_frozen BK132.out 3; have hfz132a_4 := blk_frozen BK132.out 4; have hfz132a_5 := blk_frozen BK132.out 5; have hfz132a_6 := blk_frozen BK132.out 6) | (go_at_call 96; (with_reducible refine (spec_CostOf.calls a2 a1_4 a1_5 a1_6 t133 t134 true _ A4.out).mono ?_); rintro e w' ⟨rfl, ⟨nd, rfl⟩⟩; (try first | exact ⟨rfl, _, World.drewN_drewN _ _ _⟩ | exact ⟨rfl, _, Eq.trans (World.drewN_drewN _ _ _) (congrArg (World.drewN _) (Nat.add_assoc _ _ _))⟩); obtain ⟨hcz15_0, hcz15_1, hcz15_2, hfz15_0, hfz15_1, hfz15_2⟩ := cq3 BK131.out; have p136 : 0 ≤ (a1_0 : Int) := of_decide_eq_true sq; have q136 : a1_0 < (l0_1.length : Int) := of_decide_eq_true sq; obtain ⟨ad136, e136, hx136_0⟩ := Kd.at_int HR0_1.out a1_0 p136 q136; cases e136; replace hx136_0 := (HB.out.cell (World.block_lt_of_cell? w _ hx136_0)).trans hx136_0; replace p136 := eq_true p136; replace q136 := eq_true q136; have p137 : 0 ≤ (a1_0 : Int) := of_decide_eq_true sq; have q137 : a1_0 < (l0_0.length : Int) := of_decide_eq_true sq; obtain ⟨ad137, e137, hx137_0⟩ := Kd.at_int HR0_0.out a1_0 p137 q137; cases e137; replace hx137_0 := (HB.out.cell (World.block_lt_of_cell? w _ hx137_0)).trans hx137_0; replace p137 := eq_true p137; replace q137 := eq_true q137) | (go_at_call 96; (with_reducible refine (spec_CostOf.calls a2 a1_4 a1_5 a1_6 t133 t134 true _ A4.out).mono ?_); rintro e w' ⟨rfl, ⟨nd, rfl⟩⟩; (try first | exact ⟨rfl, _, World.drewN_drewN _ _ _⟩ | exact ⟨rfl, _, Eq.trans (World.drewN_drewN _ _ _) (congrArg (World.drewN _) (Nat.add_assoc _ _ _))⟩); obtain ⟨hcz21_0, hcz21_1, hcz21_2, hfz21_0, hfz21_1, hfz21_2⟩ := cq3 BK131.out; have p136 : 0 ≤ (a1_0 : Int) := of_decide_eq_true sq; have q136 : a1_0 < (l0_1.length : Int) := of_decide_eq_true sq; obtain ⟨ad136, e136, hx136_0⟩ := Kd.at_int HR0_1.out a1_0 p136 q136; cases e136; replace hx136_0 := (HB.out.cell (World.block_lt_of_cell? w _ hx136_0)).trans hx136_0; replace p136 := eq_true p136; replace q136 := eq_true q136; have p137 : 0 ≤ (a1_0 : Int) := of_decide_eq_true sq; have q137 : a1_0 < (l0_0.length : Int) := of_decide_eq_true sq; obtain ⟨ad137, e137, hx137_0⟩ := Kd.at_int HR0_0.out a1_0 p137 q137; cases e137; replace hx137_0 := (HB.out.cell (World.block_lt_of_cell? w _ hx137_0)).trans hx137_0; replace p137 := eq_true p137; replace q137 := eq_true q137) | (go_at_call 96; (with_reducible refine (spec_CostOf.calls a2 a1_4 a1_5 a1_6 t133 t134 true _ A4.out).mono ?_); rintro e w' ⟨rfl, ⟨nd, rfl⟩⟩; (try first | exact ⟨rfl, _, World.drewN_drewN _ _ _⟩ | exact ⟨rfl, _, Eq.trans (World.drewN_drewN _ _ _) (congrArg (World.drewN _) (Nat.add_assoc _ _ _))⟩); obtain ⟨hcz26_0, hcz26_1, hcz26_2, hfz26_0, hfz26_1, hfz26_2⟩ := cq3 BK131.out; have p136 : 0 ≤ (a1_0 : Int) := of_decide_eq_true sq; have q136 : a1_0 < (l0_1.length : Int) := of_decide_eq_true sq; obtain ⟨ad136, e136, hx136_0⟩ := Kd.at_int HR0_1.out a1_0 p136 q136; cases e136; replace hx136_0 := (HB.out.cell (World.block_lt_of_cell? w _ hx136_0)).trans hx136_0; replace p136 := eq_true p136; replace q136 := eq_true q136; have p137 : 0 ≤ (a1_0 : Int) := of_decide_eq_true sq; have q137 : a1_0 < (l0_0.length : Int) := of_decide_eq_true sq; obtain ⟨ad137, e137, hx137_0⟩ := Kd.at_int HR0_0.out a1_0 p137 q137; cases e137; replace hx137_0 := (HB.out.cell (World.block_lt_of_cell? w _ hx137_0)).trans hx137_0; replace p137 := eq_true p137; replace q137 := eq_true q137) | (go_at_call 96; (with_reducible refine (spec_CostOf.calls a2 a1_4 a1_5 a1_6 t133 t134 false _ A4.out).mono ?_); rintro e w' ⟨rfl, ⟨nd, rfl⟩⟩; (try first | exact ⟨rfl, _, World.drewN_drewN _ _ _⟩ | exact ⟨rfl, _, Eq.trans (World.drewN_drewN _ _ _) (congrArg (World.drewN _) (Nat.add_assoc _ _ _))⟩); obtain ⟨hcz31_0, hcz31_1, hcz31_2, hfz31_0, hfz31_1, hfz31_2⟩ := cq3 BK131.out; have p136 : 0 ≤ (a1_0 : Int) := of_decide_eq_true sq; have q136 : a1_0 < (l0_1.length : Int) := of_decide_eq_true sq; obtain ⟨ad136, e136, hx136_0⟩ := Kd.at_int HR0_1.out a1_0 p136 q136; cases e136; replace hx136_0 := (HB.out.cell (World.block_lt_of_cell? w _ hx136_0)).trans hx136_0; replace p136 := eq_true p136; replace q136 := eq_true q136) | (go_at_call 96; (with_reducible refine (spec_CostOf.calls a2 a1_4 a1_5 a1_6 t133 t134 t135 _ A4.out).mono ?_); rintro e w' ⟨rfl, ⟨nd, rfl⟩⟩; (try first | exact ⟨rfl, _, World.drewN_drewN _ _ _⟩ | exact ⟨rfl, _, Eq.trans (World.drewN_drewN _ _ _) (congrArg (World.drewN _) (Nat.add_assoc _ _ _))⟩); obtain ⟨hcz36_0, hcz36_1, hcz36_2, hfz36_0, hfz36_1, hfz36_2⟩ := cq3 BK131.out; have p136 : 0 ≤ (a1_0 : Int) := of_decide_eq_true sq; have q136 : a1_0 < (l0_1.length : Int) := of_decide_eq_true sq; obtain ⟨ad136, e136, hx136_0⟩ := Kd.at_int HR0_1.out a1_0 p136 q136; cases e136; replace hx136_0 := (HB.out.cell (World.block_lt_of_cell? w _ hx136_0)).trans hx136_0; replace p136 := eq_true p136; replace q136 := eq_true q136)))
  go_ret
  exact ⟨by first | rfl | (simp [errW_none, errW_some] <;> rfl) | (simp [*, errW_none, errW_some] <;> rfl), by repeat (first | (with_reducible first | exact HB.out | apply below_alloc | apply pw_below_drewN | apply below_drew1 | refine below_set ?_ GE131.out | refine below_set ?_ GE132.out) | exact HB.out)⟩

/-! ### spec_l14Apply: function 62 -/
def spec_l14Apply.f (l0_0 : List Int) (l0_1 : List Int) (a0_2 : Int) (a1_0 : Int) (a1_1 : Int) (a1_2 : Int) (a1_3 : Int) (a1_4 : Int) (a1_5 : Int) (a1_6 : Int) (a2 : Int) (a3 : Int) : Option (List Int × List Int × Int × Int) := (spec_l14May.f l0_0 l0_1 a0_2 a1_0 a1_1 a1_2 a1_3 a1_4 a1_5 a1_6 a2).bind fun t141 => (if t141 > 0 then (some (l0_0, l0_1, a0_2, t141)) else ((spec_CostOf.f a2 a1_4 a1_5 a1_6).bind fun bt142 => (if 0 ≤ a1_0 then (if a1_0 < (l0_0.length : Int) then ((some (l0_0.set (a1_0 : Int).toNat (wrap64 ((rd l0_0 a1_0) - (wrap64 ((wrap64 (a1_2 + bt142.1)) + bt142.2.1)))) : List Int)).bind fun y146 => (if 0 ≤ a1_1 then (if a1_1 < (l0_0.length : Int) then ((some (y146.set (a1_1 : Int).toNat (wrap64 ((rd y146 a1_1) + a1_2)) : List Int)).bind fun y148 => (if 0 ≤ a3 then (if a3 < (l0_0.length : Int) then (if a1_0 < (l0_1.length : Int) then (some ((y148.set (a3 : Int).toNat (wrap64 ((rd y148 a3) + bt142.2.1))), (l0_1.set (a1_0 : Int).toNat (wrap64 ((rd l0_1 a1_0) + 1))), wrap64 (a0_2 + bt142.1), 0)) else (none)) else (none)) else (none))) else (none)) else (none))) else (none)) else (none))))
def spec_l14Apply.T5 : Bool × List (List Nat × List Nat) := (true, [([], []), ([0], [0]), ([], []), ([2], [2]), ([1, 3], [1, 3]), ([4], [4]), ([], []), ([6], [6]), ([], []), ([7, 8], [7, 8]), ([], []), ([9, 10], [9, 10]), ([5, 11], [5, 11]), ([1, 3, 0, 1, 2, 3, 4, 5, 6, 7, 8, 9, 10, 11, 12], [1, 3]), ([13, 12, 0, 1, 2, 3, 4, 5, 6, 7, 8, 9, 10, 11, 12], [12, 13])])
def spec_l14Apply.B5 : List Nat := [0, 1, 0, 4, 15, 31, 0, 64, 0, 448, 0, 1984, 4095, 8191, 16383]
theorem spec_l14Apply.tab5 : rtab .any (opsOf Try.f62 5) = spec_l14Apply.T5 := by kernel_rfl
theorem spec_l14Apply.bits5 : waitsOk spec_l14Apply.T5.2 spec_l14Apply.B5 = true := by kernel_rfl
def spec_l14Apply.T6 : Bool × List (List Nat × List Nat) := (true, [([], []), ([0], [0]), ([], []), ([2], [2]), ([1, 3], [1, 3]), ([4], [4]), ([], []), ([6], [6]), ([5, 7], [5, 7]), ([1, 3, 0, 1, 2, 3, 4, 5, 6, 7, 8], [1, 3]), ([9, 8, 0, 1, 2, 3, 4, 5, 6, 7, 8], [8, 9])])
def spec_l14Apply.B6 : List Nat := [0, 1, 0, 4, 15, 31, 0, 64, 255, 511, 1023]
theorem spec_l14Apply.tab6 : rtab .any (opsOf Try.f62 6) = spec_l14Apply.T6 := by kernel_rfl
theorem spec_l14Apply.bits6 : waitsOk spec_l14Apply.T6.2 spec_l14Apply.B6 = true := by kernel_rfl
set_option maxHeartbeats 8000000 in
set_option maxRecDepth 100000 in
theorem spec_l14Apply.calls (P0_0_ : Nat → Prop) (u9000_ : Value) (l0_0 : List Int) (P0_1_ : Nat → Prop) (u9001_ : Value) (l0_1 : List Int) (a0_2 : Int) (a1_0 : Int) (a1_1 : Int) (a1_2 : Int) (a1_3 : Int) (a1_4 : Int) (a1_5 : Int) (a1_6 : Int) (a2 : Int) (a3 : Int) (r1 : List Int) (r2 : List Int) (r3 : Int) (r4 : Int) (w0 w : World) (hB : Below w0.heap.size w0 w) (ho0_0 : Kd.R (Kd.int .i64) 3 w w0.heap.size P0_0_ u9000_ l0_0) (hp0_0_0_1 : ∀ k_, P0_0_ k_ → ¬ P0_1_ k_) (ho0_1 : Kd.R (Kd.int .i64) 3 w w0.heap.size P0_1_ u9001_ l0_1) (hp0_1_0_0 : ∀ k_, P0_1_ k_ → ¬ P0_0_ k_) (h : spec_l14Apply.f l0_0 l0_1 a0_2 a1_0 a1_1 a1_2 a1_3 a1_4 a1_5 a1_6 a2 a3 = some (r1, r2, r3, r4)) :
  Calls Try.prog 62 #[.agg #[u9000_, u9001_, .int .i64 a0_2], .agg #[.int .i64 a1_0, .int .i64 a1_1, .int .i64 a1_2, .int .i64 a1_3, .int .i64 a1_4, .int .i64 a1_5, .int .i64 a1_6], .int .i64 a2, .int .i64 a3] w fun e w' => ∃ v0_ v1_ : Value, e = .returned (.tuple #[.agg #[v0_, v1_, .int .i64 r3], .int .i64 r4]) ∧ Kd.R (Kd.int .i64) 3 w' w0.heap.size (fun k_ => ((P0_0_ k_ ∨ P0_1_ k_) ∨ w.heap.size ≤ k_) ∧ some k_ ≠ (v1_ : Value).ownBlock) v0_ r1 ∧ Kd.R (Kd.int .i64) 3 w' w0.heap.size (fun k_ => ((P0_0_ k_ ∨ P0_1_ k_) ∨ w.heap.size ≤ k_) ∧ some k_ ≠ (v0_ : Value).ownBlock) v1_ r2 ∧ Below w0.heap.size w0 w' ∧ Kept w w' (fun k_ => P0_0_ k_ ∨ P0_1_ k_) := by
 have hu28 := Try.underlying28
 have hu32 := Try.underlying32
 have HO0_0 := Aside0.mk (show Kd.R (Kd.int .i64) 3 w w0.heap.size (fun k_ => ((P0_0_ k_ ∨ P0_1_ k_) ∨ w.heap.size ≤ k_) ∧ some k_ ≠ (u9001_ : Value).ownBlock) u9000_ l0_0 from Kd.R_mono ho0_0 (fun k_ hk => ⟨(.inl (.inl hk)), fun e_ => hp0_0_0_1 k_ hk (ho0_1.1 k_ e_.symm)⟩))
 have HO0_1 := Aside0.mk (show Kd.R (Kd.int .i64) 3 w w0.heap.size (fun k_ => ((P0_0_ k_ ∨ P0_1_ k_) ∨ w.heap.size ≤ k_) ∧ some k_ ≠ (u9000_ : Value).ownBlock) u9001_ l0_1 from Kd.R_mono ho0_1 (fun k_ hk => ⟨(.inl (.inr hk)), fun e_ => hp0_1_0_0 k_ hk (ho0_0.1 k_ e_.symm)⟩))
 have HK := Aside0.mk (Kept.refl w (fun k_ => P0_0_ k_ ∨ P0_1_ k_))
 have HW0 := Aside0.mk hB.size
 have HB := Aside0.mk hB
 clear hB
 have H : ((spec_l14May.f l0_0 l0_1 a0_2 a1_0 a1_1 a1_2 a1_3 a1_4 a1_5 a1_6 a2).bind fun t141 => (if t141 > 0 then (some (l0_0, l0_1, a0_2, t141)) else ((spec_CostOf.f a2 a1_4 a1_5 a1_6).bind fun bt142 => (if 0 ≤ a1_0 then (if a1_0 < (l0_0.length : Int) then ((some (l0_0.set (a1_0 : Int).toNat (wrap64 ((rd l0_0 a1_0) - (wrap64 ((wrap64 (a1_2 + bt142.1)) + bt142.2.1)))) : List Int)).bind fun y146 => (if 0 ≤ a1_1 then (if a1_1 < (l0_0.length : Int) then ((some (y146.set (a1_1 : Int).toNat (wrap64 ((rd y146 a1_1) + a1_2)) : List Int)).bind fun y148 => (if 0 ≤ a3 then (if a3 < (l0_0.length : Int) then (if a1_0 < (l0_1.length : Int) then (some ((y148.set (a3 : Int).toNat (wrap64 ((rd y148 a3) + bt142.2.1))), (l0_1.set (a1_0 : Int).toNat (wrap64 ((rd l0_1 a1_0) + 1))), wrap64 (a0_2 + bt142.1), 0)) else (none)) else (none)) else (none))) else (none)) else (none))) else (none)) else (none))))) = some (r1, r2, r3, r4) := h
 clear h
 replace H := Option.bind_eq_some_iff.mp H
 obtain ⟨t141, A50, H⟩ := H
 have A5 := Aside0.mk A50
 clear A50
 by_cases c6 : t141 > 0
 ·rw [if_pos c6] at H
  have c6b0 : decide (0 < t141) = true := decide_eq_true c6
  clear c6
  simp only [Option.some.injEq, Prod.mk.injEq] at H
  obtain ⟨rfl, rfl, rfl, rfl⟩ := H
  obtain ⟨Ao7, co7, eo7⟩ := Kd.R_slice HO0_0.out
  subst eo7
  obtain ⟨Ao8, co8, eo8⟩ := Kd.R_slice HO0_1.out
  subst eo8
  go_enter Try.func62, Try.ntmps62
  go_wp2_with (first | ((with_reducible refine gate_dst (N := 4) rfl ?_); refine box_event ?hg (N := 4) ?hd (cs := #[.slice Ao7 l0_0.length co7, .slice Ao8 l0_1.length co8, .int .i64 a0_2]) (t := 28) ?hr ?_; (case hd => rfl); (case hg => rfl); (case hr => first | (go_simp; done) | (go_simp; rfl)); intro gb138 hg w9 hbox hb; have n_ := And.intro (Aside0.mk (Kd.R_below (rq HO0_0.out) hb)) (And.intro (Aside0.mk (Kd.R_below (rq HO0_1.out) hb)) (And.intro (Aside0.mk (Kept.below (S := (fun k_ => P0_0_ k_ ∨ P0_1_ k_)) (kt HK.out) hb)) (And.intro (Aside0.mk (below_step (bw0 HB.out) hb)) (And.intro (Aside0.mk (hbox)) (And.intro (Aside0.mk ((by rw [hg]; exact (by first | exact HK.out.1 | exact (show Kept w _ (fun k_ => P0_0_ k_ ∨ P0_1_ k_) from by repeat (first | (with_reducible first | exact HK.out | apply Kept.alloc | apply Kept.drewN | apply Kept.drew) | exact HK.out)).1) : w.heap.size ≤ gb138))) (Aside0.mk ((by rw [hg]; exact (below_size (bw0 HB.out)) : w0.heap.size ≤ gb138)))))))); clear HO0_0 HO0_1 HK HB; obtain ⟨HO0_0, HO0_1, HK, HB, BK138, GW138, GE138⟩ := n_; clear hb hbox hg) | ((with_reducible refine gate_dst (N := 5) rfl ?_); refine box_event ?hg (N := 5) ?hd (cs := #[.int .i64 a1_0, .int .i64 a1_1, .int .i64 a1_2, .int .i64 a1_3, .int .i64 a1_4, .int .i64 a1_5, .int .i64 a1_6]) (t := 32) ?hr ?_; (case hd => rfl); (case hg => rfl); (case hr => first | (go_simp; done) | (go_simp; rfl)); intro gb139 hg w10 hbox hb; have n_ := And.intro (Aside0.mk (Kd.R_below (rq HO0_0.out) hb)) (And.intro (Aside0.mk (Kd.R_below (rq HO0_1.out) hb)) (And.intro (Aside0.mk (bbq BK138.out hb)) (And.intro (Aside0.mk (Kept.below (S := (fun k_ => P0_0_ k_ ∨ P0_1_ k_)) (by repeat (first | (with_reducible first | exact HK.out | apply Kept.alloc | apply Kept.drewN | apply Kept.drew | refine Kept.setCell ?_ (.inr GW138.out) _) | exact HK.out)) hb)) (And.intro (Aside0.mk (below_step (bw1 HB.out GE138.out) hb)) (And.intro (Aside0.mk (hbox)) (And.intro (Aside0.mk ((by rw [hg]; exact (by first | exact HK.out.1 | exact (show Kept w _ (fun k_ => P0_0_ k_ ∨ P0_1_ k_) from by repeat (first | (with_reducible first | exact HK.out | apply Kept.alloc | apply Kept.drewN | apply Kept.drew | refine Kept.setCell ?_ (.inr GW138.out) _) | exact HK.out)).1) : w.heap.size ≤ gb139))) (And.intro (Aside0.mk ((by rw [hg]; exact (below_size (bw1 HB.out GE138.out)) : w0.heap.size ≤ gb139))) (And.intro (Aside0.mk ((nlq BK138.out hg))) (Aside0.mk ((ngq BK138.out hg))))))))))); clear HO0_0 HO0_1 BK138 HK HB; obtain ⟨HO0_0, HO0_1, BK138, HK, HB, BK139, GW139, GE139, NB138_139, NB139_138⟩ := n_; clear hb hbox hg) | ((with_reducible refine gate_dst (N := 8) rfl ?_); refine box_event ?hg (N := 8) ?hd (cs := #[.slice none 0 0, .slice none 0 0, .int .i64 0]) (t := 28) ?hr ?_; (case hd => rfl); (case hg => rfl); (case hr => first | (go_simp; done) | (go_simp; rfl)); intro gb140 hg w11 hbox hb; have n_ := And.intro (Aside0.mk (Kd.R_below (rq HO0_0.out) hb)) (And.intro (Aside0.mk (Kd.R_below (rq HO0_1.out) hb)) (And.intro (Aside0.mk (bbq BK138.out hb)) (And.intro (Aside0.mk (bbq BK139.out hb)) (And.intro (Aside0.mk (Kept.below (S := (fun k_ => P0_0_ k_ ∨ P0_1_ k_)) (by repeat (first | (with_reducible first | exact HK.out | apply Kept.alloc | apply Kept.drewN | apply Kept.drew | refine Kept.setCell ?_ (.inr GW138.out) _ | refine Kept.setCell ?_ (.inr GW139.out) _) | exact HK.out)) hb)) (And.intro (Aside0.mk (below_step (bw2 HB.out GE138.out GE139.out) hb)) (And.intro (Aside0.mk (hbox)) (And.intro (Aside0.mk ((by rw [hg]; exact (by first | exact HK.out.1 | exact (show Kept w _ (fun k_ => P0_0_ k_ ∨ P0_1_ k_) from by repeat (first | (with_reducible first | exact HK.out | apply Kept.alloc | apply Kept.drewN | apply Kept.drew | refine Kept.setCell ?_ (.inr GW138.out) _ | refine Kept.setCell ?_ (.inr GW139.out) _) | exact HK.out)).1) : w.heap.size ≤ gb140))) (And.intro (Aside0.mk ((by rw [hg]; exact (below_size (bw2 HB.out GE138.out GE139.out)) : w0.heap.size ≤ gb140))) (And.intro (Aside0.mk ((nlq BK138.out hg))) (And.intro (Aside0.mk ((ngq BK138.out hg))) (And.intro (Aside0.mk ((nlq BK139.out hg))) (Aside0.mk ((ngq BK139.out hg)))))))))))))); clear HO0_0 HO0_1 BK138 BK139 HK HB; obtain ⟨HO0_0, HO0_1, BK138, BK139, HK, HB, BK140, GW140, GE140, NB138_140, NB140_138, NB139_140, NB140_139⟩ := n_; clear hb hbox hg; have hnb12 := NB138_139.out; have hnc12 := NB139_138.out; have hnb13 := NB138_140.out; have hnc13 := NB140_138.out; obtain ⟨hcz14_0, hcz14_1, hcz14_2, hfz14_0, hfz14_1, hfz14_2⟩ := cq3 BK138.out; have hnb15 := NB139_140.out; have hnc15 := NB140_139.out; obtain ⟨hcz16_0, hcz16_1, hcz16_2, hcz16_3, hcz16_4, hcz16_5, hcz16_6, hfz16_0, hfz16_1, hfz16_2, hfz16_3, hfz16_4, hfz16_5, hfz16_6⟩ := cq7 BK139.out) | ((with_reducible refine gate_callee (f := 95) rfl ?_); refine goesL_ (some 17) rfl rfl Try.func95 (by kernel_rfl) rfl #[.agg #[.slice Ao7 l0_0.length co7, .slice Ao8 l0_1.length co8, .int .i64 a0_2], .agg #[.int .i64 a1_0, .int .i64 a1_1, .int .i64 a1_2, .int .i64 a1_3, .int .i64 a1_4, .int .i64 a1_5, .int .i64 a1_6], .int .i64 a2] rfl aq ?_; (with_reducible refine (spec_l14May.calls _ _ l0_0 _ _ l0_1 a0_2 a1_0 a1_1 a1_2 a1_3 a1_4 a1_5 a1_6 a2 t141 _ ?side1 ?side2 ?side3 ?side4 A5.out).mono ?_); (case side1 => exact caq (Kd.R_reads' HO0_0.out).2.2); (case side2 => exact (Kd.R_reads' HO0_0.out).2.1); (case side3 => exact caq (Kd.R_reads' HO0_1.out).2.2); (case side4 => exact (Kd.R_reads' HO0_1.out).2.1); rintro e w17 ⟨rfl, hb⟩; refine ⟨_, rfl, ?_⟩; have n_ := And.intro (Aside0.mk (Kd.R_below (rq HO0_0.out) hb)) (And.intro (Aside0.mk (Kd.R_below (rq HO0_1.out) hb)) (And.intro (Aside0.mk (bbq BK138.out hb)) (And.intro (Aside0.mk (bbq BK139.out hb)) (And.intro (Aside0.mk (bbq BK140.out hb)) (And.intro (Aside0.mk (Kept.below (S := (fun k_ => P0_0_ k_ ∨ P0_1_ k_)) (by repeat (first | (with_reducible first | exact HK.out | apply Kept.alloc | apply Kept.drewN | apply Kept.drew | refine Kept.setCell ?_ (.inr GW138.out) _ | refine Kept.setCell ?_ (.inr GW139.out) _ | refine Kept.setCell ?_ (.inr GW140.out) _) | exact HK.out)) hb)) (Aside0.mk (below_step (bw3 HB.out GE138.out GE139.out GE140.out) hb))))))); clear HO0_0 HO0_1 BK138 BK139 BK140 HK HB; obtain ⟨HO0_0, HO0_1, BK138, BK139, BK140, HK, HB⟩ := n_; (try clear hb); (try clear hb2); (try clear hk); (try clear hi); obtain ⟨hcz18_0, hcz18_1, hcz18_2, hfz18_0, hfz18_1, hfz18_2⟩ := cq3 BK138.out; obtain ⟨hcz19_0, hcz19_1, hcz19_2, hfz19_0, hfz19_1, hfz19_2⟩ := cq3 BK140.out))
  refine bodyPost_ret (results_ct rfl _ _ gb140 28 #[.slice Ao7 l0_0.length co7, .slice Ao8 l0_1.length co8, .int .i64 a0_2] (0, 0) _ rfl (bp3 BK140.out) Try.underlying28 rfl (by kernel_rfl)) rfl ?_
  exact ⟨_, _, by first | rfl | (simp [errW_none, errW_some] <;> rfl) | (simp [*, errW_none, errW_some] <;> rfl), by (with_reducible repeat (first | apply Kd.R_alloc | apply Kd.R_drewN | apply Kd.R_drew)); exact Kd.R_mono (Kd.R_far (p := ⟨gb140, 2, none⟩) (Kd.R_far (p := ⟨gb140, 1, none⟩) (Kd.R_far (p := ⟨gb140, 0, none⟩) (Kd.R_types HO0_0.out BK140.out (by decide)) (fun _ hk => hk.2) (.slice Ao7 l0_0.length co7)) (fun _ hk => hk.2) (.slice Ao8 l0_1.length co8)) (fun _ hk => hk.2) (.int .i64 a0_2)) (fun _ hk => ⟨hk.1.1, hk.1.2⟩), by (with_reducible repeat (first | apply Kd.R_alloc | apply Kd.R_drewN | apply Kd.R_drew)); exact Kd.R_mono (Kd.R_far (p := ⟨gb140, 2, none⟩) (Kd.R_far (p := ⟨gb140, 1, none⟩) (Kd.R_far (p := ⟨gb140, 0, none⟩) (Kd.R_types HO0_1.out BK140.out (by decide)) (fun _ hk => hk.2) (.slice Ao7 l0_0.length co7)) (fun _ hk => hk.2) (.slice Ao8 l0_1.length co8)) (fun _ hk => hk.2) (.int .i64 a0_2)) (fun _ hk => ⟨hk.1.1, hk.1.2⟩), by repeat (first | (with_reducible first | exact HB.out | apply below_alloc | apply pw_below_drewN | apply below_drew1 | refine below_set ?_ GE138.out | refine below_set ?_ GE139.out | refine below_set ?_ GE140.out) | exact HB.out), by repeat (first | (with_reducible first | exact HK.out | apply Kept.alloc | apply Kept.drewN | apply Kept.drew | refine Kept.setCell ?_ (.inr GW138.out) _ | refine Kept.setCell ?_ (.inr GW139.out) _ | refine Kept.setCell ?_ (.inr GW140.out) _) | exact HK.out)⟩
 ·rw [if_neg c6] at H
  have c6b0 : decide (0 < t141) = false := decide_eq_false c6
  clear c6
  replace H := Option.bind_eq_some_iff.mp H
  obtain ⟨⟨t142, t143, t144⟩, A200, H⟩ := H
  have A20 := Aside0.mk A200
  clear A200
  by_cases c21 : 0 ≤ a1_0
  ·rw [if_pos c21] at H
   have c21b0 : decide (0 ≤ a1_0) = true := decide_eq_true c21
   clear c21
   by_cases c22 : a1_0 < (l0_0.length : Int)
   ·rw [if_pos c22] at H
    have c22b0 : decide (a1_0 < (l0_0.length : Int)) = true := decide_eq_true c22
    clear c22
    obtain ⟨y146, hy146⟩ : ∃ y_ : List Int, y_ = (l0_0.set (a1_0 : Int).toNat (wrap64 ((rd l0_0 a1_0) - (wrap64 ((wrap64 (a1_2 + t142)) + t143))))) := ⟨_, rfl⟩
    replace H : (if 0 ≤ a1_1 then (if a1_1 < (l0_0.length : Int) then ((some (y146.set (a1_1 : Int).toNat (wrap64 ((rd y146 a1_1) + a1_2)) : List Int)).bind fun y148 => (if 0 ≤ a3 then (if a3 < (l0_0.length : Int) then (if a1_0 < (l0_1.length : Int) then (some ((y148.set (a3 : Int).toNat (wrap64 ((rd y148 a3) + t143))), (l0_1.set (a1_0 : Int).toNat (wrap64 ((rd l0_1 a1_0) + 1))), wrap64 (a0_2 + t142), 0)) else (none)) else (none)) else (none))) else (none)) else (none)) = some (r1, r2, r3, r4) := by first | (rw [hy146]; with_reducible exact H) | (have H2_ := (Option.bind_some _ _).symm.trans H; rw [hy146]; with_reducible exact H2_) | (have H2_ := (Option.bind_some _ _).symm.trans H; with_reducible exact H2_) | with_reducible exact H | (rw [hy146]; exact H) | exact H
    have Ny146 := Aside0.mk hy146
    clear hy146
    by_cases c24 : 0 ≤ a1_1
    ·rw [if_pos c24] at H
     have c24b0 : decide (0 ≤ a1_1) = true := decide_eq_true c24
     clear c24
     by_cases c25 : a1_1 < (l0_0.length : Int)
     ·rw [if_pos c25] at H
      have c25b0 : decide (a1_1 < (l0_0.length : Int)) = true := decide_eq_true c25
      clear c25
      obtain ⟨y148, hy148⟩ : ∃ y_ : List Int, y_ = (y146.set (a1_1 : Int).toNat (wrap64 ((rd y146 a1_1) + a1_2))) := ⟨_, rfl⟩
      replace H : (if 0 ≤ a3 then (if a3 < (l0_0.length : Int) then (if a1_0 < (l0_1.length : Int) then (some ((y148.set (a3 : Int).toNat (wrap64 ((rd y148 a3) + t143))), (l0_1.set (a1_0 : Int).toNat (wrap64 ((rd l0_1 a1_0) + 1))), wrap64 (a0_2 + t142), 0)) else (none)) else (none)) else (none)) = some (r1, r2, r3, r4) := by first | (rw [hy148]; with_reducible exact H) | (have H2_ := (Option.bind_some _ _).symm.trans H; rw [hy148]; with_reducible exact H2_) | (have H2_ := (Option.bind_some _ _).symm.trans H; with_reducible exact H2_) | with_reducible exact H | (rw [hy148]; exact H) | exact H
      have Ny148 := Aside0.mk hy148
      clear hy148
      by_cases c27 : 0 ≤ a3
      ·rw [if_pos c27] at H
       have c27b0 : decide (0 ≤ a3) = true := decide_eq_true c27
       clear c27
       by_cases c28 : a3 < (l0_0.length : Int)
       ·rw [if_pos c28] at H
        have c28b0 : decide (a3 < (l0_0.length : Int)) = true := decide_eq_true c28
        clear c28
        obtain ⟨y150, hy150⟩ : ∃ y_ : List Int, y_ = (y148.set (a3 : Int).toNat (wrap64 ((rd y148 a3) + t143))) := ⟨_, rfl⟩
        replace H : (if a1_0 < (l0_1.length : Int) then (some (y150, (l0_1.set (a1_0 : Int).toNat (wrap64 ((rd l0_1 a1_0) + 1))), wrap64 (a0_2 + t142), 0)) else (none)) = some (r1, r2, r3, r4) := by first | (rw [hy150]; with_reducible exact H) | (have H2_ := (Option.bind_some _ _).symm.trans H; rw [hy150]; with_reducible exact H2_) | (have H2_ := (Option.bind_some _ _).symm.trans H; with_reducible exact H2_) | with_reducible exact H | (rw [hy150]; exact H) | exact H
        have Ny150 := Aside0.mk hy150
        clear hy150
        by_cases c30 : a1_0 < (l0_1.length : Int)
        ·rw [if_pos c30] at H
         have c30b0 : decide (a1_0 < (l0_1.length : Int)) = true := decide_eq_true c30
         clear c30
         obtain ⟨y152, hy152⟩ : ∃ y_ : List Int, y_ = (l0_1.set (a1_0 : Int).toNat (wrap64 ((rd l0_1 a1_0) + 1))) := ⟨_, rfl⟩
         replace H : (some (y150, y152, wrap64 (a0_2 + t142), 0)) = some (r1, r2, r3, r4) := by first | (rw [hy152]; with_reducible exact H) | (have H2_ := (Option.bind_some _ _).symm.trans H; rw [hy152]; with_reducible exact H2_) | (have H2_ := (Option.bind_some _ _).symm.trans H; with_reducible exact H2_) | with_reducible exact H | (rw [hy152]; exact H) | exact H
         have Ny152 := Aside0.mk hy152
         clear hy152
         simp only [Option.some.injEq, Prod.mk.injEq] at H
         obtain ⟨rfl, rfl, rfl, rfl⟩ := H
         obtain ⟨Ao32, co32, eo32⟩ := Kd.R_slice HO0_0.out
         subst eo32
         obtain ⟨Ao33, co33, eo33⟩ := Kd.R_slice HO0_1.out
         subst eo33
         go_enter Try.func62, Try.ntmps62
         try go_wp2_with (first | ((with_reducible refine gate_dst (N := 4) rfl ?_); refine box_event ?hg (N := 4) ?hd (cs := #[.slice Ao32 l0_0.length co32, .slice Ao33 l0_1.length co33, .int .i64 a0_2]) (t := 28) ?hr ?_; (case hd => rfl); (case hg => rfl); (case hr => first | (go_simp; done) | (go_simp; rfl)); intro gb138 hg w34 hbox hb; have n_ := And.intro (Aside0.mk (Kd.R_below (rq HO0_0.out) hb)) (And.intro (Aside0.mk (Kd.R_below (rq HO0_1.out) hb)) (And.intro (Aside0.mk (Kept.below (S := (fun k_ => P0_0_ k_ ∨ P0_1_ k_)) (kt HK.out) hb)) (And.intro (Aside0.mk (below_step (bw0 HB.out) hb)) (And.intro (Aside0.mk (hbox)) (And.intro (Aside0.mk ((by rw [hg]; exact (by first | exact HK.out.1 | exact (show Kept w _ (fun k_ => P0_0_ k_ ∨ P0_1_ k_) from by repeat (first | (with_reducible first | exact HK.out | apply Kept.alloc | apply Kept.drewN | apply Kept.drew) | exact HK.out)).1) : w.heap.size ≤ gb138))) (Aside0.mk ((by rw [hg]; exact (below_size (bw0 HB.out)) : w0.heap.size ≤ gb138)))))))); clear HO0_0 HO0_1 HK HB; obtain ⟨HO0_0, HO0_1, HK, HB, BK138, GW138, GE138⟩ := n_; clear hb hbox hg) | ((with_reducible refine gate_dst (N := 5) rfl ?_); refine box_event ?hg (N := 5) ?hd (cs := #[.int .i64 a1_0, .int .i64 a1_1, .int .i64 a1_2, .int .i64 a1_3, .int .i64 a1_4, .int .i64 a1_5, .int .i64 a1_6]) (t := 32) ?hr ?_; (case hd => rfl); (case hg => rfl); (case hr => first | (go_simp; done) | (go_simp; rfl)); intro gb139 hg w35 hbox hb; have n_ := And.intro (Aside0.mk (Kd.R_below (rq HO0_0.out) hb)) (And.intro (Aside0.mk (Kd.R_below (rq HO0_1.out) hb)) (And.intro (Aside0.mk (bbq BK138.out hb)) (And.intro (Aside0.mk (Kept.below (S := (fun k_ => P0_0_ k_ ∨ P0_1_ k_)) (by repeat (first | (with_reducible first | exact HK.out | apply Kept.alloc | apply Kept.drewN | apply Kept.drew | refine Kept.setCell ?_ (.inr GW138.out) _) | exact HK.out)) hb)) (And.intro (Aside0.mk (below_step (bw1 HB.out GE138.out) hb)) (And.intro (Aside0.mk (hbox)) (And.intro (Aside0.mk ((by rw [hg]; exact (by first | exact HK.out.1 | exact (show Kept w _ (fun k_ => P0_0_ k_ ∨ P0_1_ k_) from by repeat (first | (with_reducible first | exact HK.out | apply Kept.alloc | apply Kept.drewN | apply Kept.drew | refine Kept.setCell ?_ (.inr GW138.out) _) | exact HK.out)).1) : w.heap.size ≤ gb139))) (And.intro (Aside0.mk ((by rw [hg]; exact (below_size (bw1 HB.out GE138.out)) : w0.heap.size ≤ gb139))) (And.intro (Aside0.mk ((nlq BK138.out hg))) (Aside0.mk ((ngq BK138.out hg))))))))))); clear HO0_0 HO0_1 BK138 HK HB; obtain ⟨HO0_0, HO0_1, BK138, HK, HB, BK139, GW139, GE139, NB138_139, NB139_138⟩ := n_; clear hb hbox hg) | ((with_reducible refine gate_dst (N := 8) rfl ?_); refine box_event ?hg (N := 8) ?hd (cs := #[.slice none 0 0, .slice none 0 0, .int .i64 0]) (t := 28) ?hr ?_; (case hd => rfl); (case hg => rfl); (case hr => first | (go_simp; done) | (go_simp; rfl)); intro gb140 hg w36 hbox hb; have n_ := And.intro (Aside0.mk (Kd.R_below (rq HO0_0.out) hb)) (And.intro (Aside0.mk (Kd.R_below (rq HO0_1.out) hb)) (And.intro (Aside0.mk (bbq BK138.out hb)) (And.intro (Aside0.mk (bbq BK139.out hb)) (And.intro (Aside0.mk (Kept.below (S := (fun k_ => P0_0_ k_ ∨ P0_1_ k_)) (by repeat (first | (with_reducible first | exact HK.out | apply Kept.alloc | apply Kept.drewN | apply Kept.drew | refine Kept.setCell ?_ (.inr GW138.out) _ | refine Kept.setCell ?_ (.inr GW139.out) _) | exact HK.out)) hb)) (And.intro (Aside0.mk (below_step (bw2 HB.out GE138.out GE139.out) hb)) (And.intro (Aside0.mk (hbox)) (And.intro (Aside0.mk ((by rw [hg]; exact (by first | exact HK.out.1 | exact (show Kept w _ (fun k_ => P0_0_ k_ ∨ P0_1_ k_) from by repeat (first | (with_reducible first | exact HK.out | apply Kept.alloc | apply Kept.drewN | apply Kept.drew | refine Kept.setCell ?_ (.inr GW138.out) _ | refine Kept.setCell ?_ (.inr GW139.out) _) | exact HK.out)).1) : w.heap.size ≤ gb140))) (And.intro (Aside0.mk ((by rw [hg]; exact (below_size (bw2 HB.out GE138.out GE139.out)) : w0.heap.size ≤ gb140))) (And.intro (Aside0.mk ((nlq BK138.out hg))) (And.intro (Aside0.mk ((ngq BK138.out hg))) (And.intro (Aside0.mk ((nlq BK139.out hg))) (Aside0.mk ((ngq BK139.out hg)))))))))))))); clear HO0_0 HO0_1 BK138 BK139 HK HB; obtain ⟨HO0_0, HO0_1, BK138, BK139, HK, HB, BK140, GW140, GE140, NB138_140, NB140_138, NB139_140, NB140_139⟩ := n_; clear hb hbox hg; have hnb37 := NB138_139.out; have hnc37 := NB139_138.out; have hnb38 := NB138_140.out; have hnc38 := NB140_138.out; obtain ⟨hcz39_0, hcz39_1, hcz39_2, hfz39_0, hfz39_1, hfz39_2⟩ := cq3 BK138.out; have hnb40 := NB139_140.out; have hnc40 := NB140_139.out; obtain ⟨hcz41_0, hcz41_1, hcz41_2, hcz41_3, hcz41_4, hcz41_5, hcz41_6, hfz41_0, hfz41_1, hfz41_2, hfz41_3, hfz41_4, hfz41_5, hfz41_6⟩ := cq7 BK139.out) | ((with_reducible refine gate_callee (f := 95) rfl ?_); refine goesL_ (some 17) rfl rfl Try.func95 (by kernel_rfl) rfl #[.agg #[.slice Ao32 l0_0.length co32, .slice Ao33 l0_1.length co33, .int .i64 a0_2], .agg #[.int .i64 a1_0, .int .i64 a1_1, .int .i64 a1_2, .int .i64 a1_3, .int .i64 a1_4, .int .i64 a1_5, .int .i64 a1_6], .int .i64 a2] rfl aq ?_; (with_reducible refine (spec_l14May.calls _ _ l0_0 _ _ l0_1 a0_2 a1_0 a1_1 a1_2 a1_3 a1_4 a1_5 a1_6 a2 t141 _ ?side1 ?side2 ?side3 ?side4 A5.out).mono ?_); (case side1 => exact caq (Kd.R_reads' HO0_0.out).2.2); (case side2 => exact (Kd.R_reads' HO0_0.out).2.1); (case side3 => exact caq (Kd.R_reads' HO0_1.out).2.2); (case side4 => exact (Kd.R_reads' HO0_1.out).2.1); rintro e w42 ⟨rfl, hb⟩; refine ⟨_, rfl, ?_⟩; have n_ := And.intro (Aside0.mk (Kd.R_below (rq HO0_0.out) hb)) (And.intro (Aside0.mk (Kd.R_below (rq HO0_1.out) hb)) (And.intro (Aside0.mk (bbq BK138.out hb)) (And.intro (Aside0.mk (bbq BK139.out hb)) (And.intro (Aside0.mk (bbq BK140.out hb)) (And.intro (Aside0.mk (Kept.below (S := (fun k_ => P0_0_ k_ ∨ P0_1_ k_)) (by repeat (first | (with_reducible first | exact HK.out | apply Kept.alloc | apply Kept.drewN | apply Kept.drew | refine Kept.setCell ?_ (.inr GW138.out) _ | refine Kept.setCell ?_ (.inr GW139.out) _ | refine Kept.setCell ?_ (.inr GW140.out) _) | exact HK.out)) hb)) (Aside0.mk (below_step (bw3 HB.out GE138.out GE139.out GE140.out) hb))))))); clear HO0_0 HO0_1 BK138 BK139 BK140 HK HB; obtain ⟨HO0_0, HO0_1, BK138, BK139, BK140, HK, HB⟩ := n_; (try clear hb); (try clear hb2); (try clear hk); (try clear hi); obtain ⟨hcz43_0, hcz43_1, hcz43_2, hcz43_3, hcz43_4, hcz43_5, hcz43_6, hfz43_0, hfz43_1, hfz43_2, hfz43_3, hfz43_4, hfz43_5, hfz43_6⟩ := cq7 BK139.out) | ((with_reducible refine gate_callee (f := 96) rfl ?_); refine goesL_ (some 30) rfl rfl Try.func96 (by kernel_rfl) rfl #[.int .i64 a2, .int .i64 a1_4, .int .i64 a1_5, .int .i64 a1_6] rfl aq ?_; (with_reducible refine (spec_CostOf.calls a2 a1_4 a1_5 a1_6 t142 t143 t144 _ A20.out).mono ?_); rintro e w' ⟨rfl, ⟨nd, rfl⟩⟩; refine ⟨_, rfl, ?_⟩; (try (rw [drewN_self w42]; generalize hq_ : World.drewN w42 _ = w42; have n0_ : Aside0 (Kd.R (Kd.int .i64) 3 w42 w0.heap.size (fun k_ => ((P0_0_ k_ ∨ P0_1_ k_) ∨ w.heap.size ≤ k_) ∧ some k_ ≠ (.slice Ao33 l0_1.length co33 : Value).ownBlock) (.slice Ao32 l0_0.length co32) l0_0) := ⟨by rw [← hq_]; exact (rq HO0_0.out)⟩; have n1_ : Aside0 (Kd.R (Kd.int .i64) 3 w42 w0.heap.size (fun k_ => ((P0_0_ k_ ∨ P0_1_ k_) ∨ w.heap.size ≤ k_) ∧ some k_ ≠ (.slice Ao32 l0_0.length co32 : Value).ownBlock) (.slice Ao33 l0_1.length co33) l0_1) := ⟨by rw [← hq_]; exact (rq HO0_1.out)⟩; have n2_ : Aside0 (w42.heap[gb138]? = some (.cells #[.slice Ao32 l0_0.length co32, .slice Ao33 l0_1.length co33, .int .i64 a0_2] 28 (0, 0))) := ⟨by rw [← hq_]; exact (bq BK138.out)⟩; have n3_ : Aside0 (w42.heap[gb139]? = some (.cells #[.int .i64 a1_0, .int .i64 a1_1, .int .i64 a1_2, .int .i64 a1_3, .int .i64 a1_4, .int .i64 a1_5, .int .i64 a1_6] 32 (0, 0))) := ⟨by rw [← hq_]; exact (bq BK139.out)⟩; have n4_ : Aside0 (w42.heap[gb140]? = some (.cells #[.slice none 0 0, .slice none 0 0, .int .i64 0] 28 (0, 0))) := ⟨by rw [← hq_]; exact (bq BK140.out)⟩; have n5_ : Aside0 (Kept w w42 (fun k_ => P0_0_ k_ ∨ P0_1_ k_)) := ⟨by rw [← hq_]; exact (by repeat (first | (with_reducible first | exact HK.out | apply Kept.alloc | apply Kept.drewN | apply Kept.drew | refine Kept.setCell ?_ (.inr GW138.out) _ | refine Kept.setCell ?_ (.inr GW139.out) _ | refine Kept.setCell ?_ (.inr GW140.out) _) | exact HK.out))⟩; have n6_ : Aside0 (Below w0.heap.size w0 w42) := ⟨by rw [← hq_]; exact (bw3 HB.out GE138.out GE139.out GE140.out)⟩; clear HO0_0 HO0_1 BK138 BK139 BK140 HK HB hq_; have HO0_0 := n0_; have HO0_1 := n1_; have BK138 := n2_; have BK139 := n3_; have BK140 := n4_; have HK := n5_; have HB := n6_; clear n0_ n1_ n2_ n3_ n4_ n5_ n6_))))
         have n_ := And.intro (Aside0.mk (Kd.R_drew HO0_0.out)) (And.intro (Aside0.mk (Kd.R_drew HO0_1.out)) (And.intro (Aside0.mk (blk_drew BK138.out)) (And.intro (Aside0.mk (blk_drew BK139.out)) (And.intro (Aside0.mk (blk_drew BK140.out)) (And.intro (Aside0.mk (Kept.drew HK.out)) (Aside0.mk (below_drew1 HB.out)))))))
         clear HO0_0 HO0_1 BK138 BK139 BK140 HK HB
         obtain ⟨HO0_0, HO0_1, BK138, BK139, BK140, HK, HB⟩ := n_
         have p145 : 0 ≤ (a1_0 : Int) := of_decide_eq_true sq
         have q145 : a1_0 < (l0_0.length : Int) := of_decide_eq_true sq
         obtain ⟨ad145, e145, hx145_0⟩ := Kd.at_int (Kd.R_reads' HO0_0.out).2.2 a1_0 p145 q145
         cases e145
         replace p145 := eq_true p145
         replace q145 := eq_true q145
         have p23 : 0 ≤ (a1_0 : Int) := of_decide_eq_true sq
         have q23 : (a1_0 : Int) < ((l0_0.length : Int) : Int) := of_decide_eq_true sq
         obtain ⟨go23, co23, eo23, gb23, gl23, cl23, HG23⟩ := Kd.R_form HO0_0.out (by omega)
         (first | cases eo23 | (injection eo23 with ea_ en_ ec_; (first | subst ea_ | (injection ea_ with ea_; subst ea_)); subst ec_; clear en_))
         have GB23 := Aside0.mk gb23
         have GG23 := Aside0.mk HG23
         clear gb23 gl23 HG23
         have HMgo23 := Aside0.mk (show ((P0_0_ go23 ∨ P0_1_ go23) ∨ w.heap.size ≤ go23) from (HO0_0.out.1 _ rfl).1)
         (first | simp only [add_plain] at hx145_0 | skip)
         obtain ⟨hx23_0, hf23_0⟩ := Kd.R_celln 0 HO0_0.out (a1_0 : Int) p23 q23
         replace p23 := eq_true p23
         replace q23 := eq_true q23
         have HP45 := Kd.R_putn HO0_0.out (a1_0 : Int) (wrap64 ((rd l0_0 a1_0) - (wrap64 ((wrap64 (a1_2 + t142)) + t143))))
         rw [← Ny146.out] at HP45
         have HQ45 := Aside0.mk HP45
         clear HP45
         refine start_ (n := 15) (S := fun w' => w'.cell? ⟨gb138, 0, none⟩ = some (.slice (some ⟨go23, 0, none⟩) l0_0.length co32) ∧ w'.cell? ⟨gb138, 1, none⟩ = some (.slice Ao33 l0_1.length co33) ∧ w'.cell? ⟨gb138, 2, none⟩ = some (.int .i64 a0_2) ∧ w'.cell? ⟨gb139, 0, none⟩ = some (.int .i64 a1_0) ∧ w'.cell? ⟨gb139, 1, none⟩ = some (.int .i64 a1_1) ∧ w'.cell? ⟨gb139, 2, none⟩ = some (.int .i64 a1_2) ∧ w'.cell? ⟨gb139, 3, none⟩ = some (.int .i64 a1_3) ∧ w'.cell? ⟨gb139, 4, none⟩ = some (.int .i64 a1_4) ∧ w'.cell? ⟨gb139, 5, none⟩ = some (.int .i64 a1_5) ∧ w'.cell? ⟨gb139, 6, none⟩ = some (.int .i64 a1_6) ∧ w'.cell? ⟨go23, (a1_0).toNat, none⟩ = some (.int .i64 (rd l0_0 a1_0))) (ds := [14]) #[false, false, false, false, false, false, false, false, false, false, false, false, false, false, false] (by kernel_rfl) rfl rfl ⟨(blk_cell BK138.out 0).trans rfl, (blk_cell BK138.out 1).trans rfl, (blk_cell BK138.out 2).trans rfl, (blk_cell BK139.out 0).trans rfl, (blk_cell BK139.out 1).trans rfl, (blk_cell BK139.out 2).trans rfl, (blk_cell BK139.out 3).trans rfl, (blk_cell BK139.out 4).trans rfl, (blk_cell BK139.out 5).trans rfl, (blk_cell BK139.out 6).trans rfl, hx145_0⟩ (fun hHeld => ?_); refine with_tabW spec_l14Apply.tab5 spec_l14Apply.bits5 (fun HT_ HW_ => ?_)
         generalize w42.drew = w44 at HO0_0 HO0_1 BK138 BK139 BK140 HK HB GG23 HQ45 hf23_0 hx145_0 hx23_0 hHeld ⊢
         refine pure_ (i := 0) (N := some 34) (v := ?_) (a' := ?_) #[true, false, false, false, false, false, false, false, false, false, false, false, false, false, false] rfl rfl (any_of HT_.out (by kernel_rfl)) (fun _ _ _ h => h) (Or.inl ⟨by rfl, ?_⟩) ?_ ?_
         rotate_left
         ·intro w'
          go_simp
          with_reducible rfl
         rotate_left
         ·simp only [apn]
          rfl
         refine pure_ (i := 2) (N := some 36) (v := ?_) (a' := ?_) #[true, false, true, false, false, false, false, false, false, false, false, false, false, false, false] rfl rfl (any_of HT_.out (by kernel_rfl)) (fun _ _ _ h => h) (Or.inl ⟨by rfl, ?_⟩) ?_ ?_
         rotate_left
         ·intro w'
          go_simp
          with_reducible rfl
         rotate_left
         ·simp only [apn]
          rfl
         refine pure_ (i := 6) (N := some 40) (v := ?_) (a' := ?_) #[true, false, true, false, false, false, true, false, false, false, false, false, false, false, false] rfl rfl (any_of HT_.out (by kernel_rfl)) (fun _ _ _ h => h) (Or.inl ⟨by rfl, ?_⟩) ?_ ?_
         rotate_left
         ·intro w'
          go_simp
          with_reducible rfl
         rotate_left
         ·simp only [apn]
          rfl
         refine pure_ (i := 8) (N := some 42) (v := ?_) (a' := ?_) #[true, false, true, false, false, false, true, false, true, false, false, false, false, false, false] rfl rfl (any_of HT_.out (by kernel_rfl)) (fun _ _ _ h => h) (Or.inl ⟨by rfl, ?_⟩) ?_ ?_
         rotate_left
         ·intro w'
          go_simp
          with_reducible rfl
         rotate_left
         ·simp only [apn]
          rfl
         refine pure_ (i := 10) (N := some 44) (v := ?_) (a' := ?_) #[true, false, true, false, false, false, true, false, true, false, true, false, false, false, false] rfl rfl (any_of HT_.out (by kernel_rfl)) (fun _ _ _ h => h) (Or.inl ⟨by rfl, ?_⟩) ?_ ?_
         rotate_left
         ·intro w'
          go_simp
          with_reducible rfl
         rotate_left
         ·simp only [apn]
          rfl
         refine take_ (i := 1) (N := some 35) (v := ?_) (a' := ?_) #[true, true, true, false, false, false, true, false, true, false, true, false, false, false, false] rfl rfl (take_ofW HT_.out HW_.out (by kernel_rfl)) (fun _ _ _ h => h) (Or.inl ⟨by rfl, ?_⟩) hHeld ?_ ?_
         rotate_left
         ·rintro w' ⟨s0, s1, s2, s3, s4, s5, s6, s7, s8, s9, s10⟩
          go_simp
          with_reducible rfl
         rotate_left
         ·simp only [apn]
          rfl
         refine take_ (i := 3) (N := some 37) (v := ?_) (a' := ?_) #[true, true, true, true, false, false, true, false, true, false, true, false, false, false, false] rfl rfl (take_ofW HT_.out HW_.out (by kernel_rfl)) (fun _ _ _ h => h) (Or.inl ⟨by rfl, ?_⟩) hHeld ?_ ?_
         rotate_left
         ·rintro w' ⟨s0, s1, s2, s3, s4, s5, s6, s7, s8, s9, s10⟩
          go_simp
          with_reducible rfl
         rotate_left
         ·simp only [apn]
          rfl
         refine pure_ (i := 4) (N := some 38) (v := ?_) (a' := ?_) #[true, true, true, true, true, false, true, false, true, false, true, false, false, false, false] rfl rfl (any_of HT_.out (by kernel_rfl)) (fun _ _ _ h => h) (Or.inl ⟨by rfl, ?_⟩) ?_ ?_
         rotate_left
         ·intro w'
          go_simp
          with_reducible rfl
         rotate_left
         ·simp only [apn]
          rfl
         refine take_ (i := 5) (N := some 39) (v := ?_) (a' := ?_) #[true, true, true, true, true, true, true, false, true, false, true, false, false, false, false] rfl rfl (take_ofW HT_.out HW_.out (by kernel_rfl)) (fun _ _ _ h => h) (Or.inl ⟨by rfl, ?_⟩) hHeld ?_ ?_
         rotate_left
         ·rintro w' ⟨s0, s1, s2, s3, s4, s5, s6, s7, s8, s9, s10⟩
          go_simp
          with_reducible rfl
         rotate_left
         ·simp only [apn]
          rfl
         refine take_ (i := 7) (N := some 41) (v := ?_) (a' := ?_) #[true, true, true, true, true, true, true, true, true, false, true, false, false, false, false] rfl rfl (take_ofW HT_.out HW_.out (by kernel_rfl)) (fun _ _ _ h => h) (Or.inl ⟨by rfl, ?_⟩) hHeld ?_ ?_
         rotate_left
         ·rintro w' ⟨s0, s1, s2, s3, s4, s5, s6, s7, s8, s9, s10⟩
          go_simp
          with_reducible rfl
         rotate_left
         ·simp only [apn]
          rfl
         refine pure_ (i := 9) (N := some 43) (v := ?_) (a' := ?_) #[true, true, true, true, true, true, true, true, true, true, true, false, false, false, false] rfl rfl (any_of HT_.out (by kernel_rfl)) (fun _ _ _ h => h) (Or.inl ⟨by rfl, ?_⟩) ?_ ?_
         rotate_left
         ·intro w'
          go_simp
          with_reducible rfl
         rotate_left
         ·simp only [apn]
          rfl
         refine pure_ (i := 11) (N := some 45) (v := ?_) (a' := ?_) #[true, true, true, true, true, true, true, true, true, true, true, true, false, false, false] rfl rfl (any_of HT_.out (by kernel_rfl)) (fun _ _ _ h => h) (Or.inl ⟨by rfl, ?_⟩) ?_ ?_
         rotate_left
         ·intro w'
          go_simp
          with_reducible rfl
         rotate_left
         ·simp only [apn]
          rfl
         refine pure_ (i := 12) (N := some 46) (v := ?_) (a' := ?_) #[true, true, true, true, true, true, true, true, true, true, true, true, true, false, false] rfl rfl (any_of HT_.out (by kernel_rfl)) (fun _ _ _ h => h) (Or.inl ⟨by rfl, ?_⟩) ?_ ?_
         rotate_left
         ·intro w'
          go_simp
          with_reducible rfl
         rotate_left
         ·simp only [apn]
          rfl
         refine pure_ (i := 13) (N := some 47) (v := ?_) (a' := ?_) #[true, true, true, true, true, true, true, true, true, true, true, true, true, true, false] rfl rfl (any_of HT_.out (by kernel_rfl)) (fun _ _ _ h => h) (Or.inl ⟨by rfl, ?_⟩) ?_ ?_
         rotate_left
         ·intro w'
          go_simp
          with_reducible rfl
         rotate_left
         ·simp only [apn]
          rfl
         refine last_ (i := 14) (N := none) #[true, true, true, true, true, true, true, true, true, true, true, true, true, true, true] rfl rfl (one_of HT_.out (by kernel_rfl)) (by decide) (fun K hK => ?_)
         refine skip_ (w1 := ?_) (by rfl) rfl ?_ ?_
         rotate_left
         ·go_simp
          rfl
         refine hK.out _ _ ?_
         clear hK K
         refine done_ (done_of HT_.out (by kernel_rfl)) ?_
         have n0_ : Aside0 (Kd.R (Kd.int .i64) 3 (w44.setCell ⟨go23, (a1_0 : Int).toNat, none⟩ (.int .i64 (wrap64 ((rd l0_0 a1_0) - (wrap64 ((wrap64 (a1_2 + t142)) + t143)))))) w0.heap.size (fun k_ => ((P0_0_ k_ ∨ P0_1_ k_) ∨ w.heap.size ≤ k_) ∧ some k_ ≠ (.slice Ao33 l0_1.length co33 : Value).ownBlock) (.slice (some ⟨go23, 0, none⟩) l0_0.length co32) y146) := ⟨by (with_reducible repeat (first | apply Kd.R_alloc | apply Kd.R_drewN | apply Kd.R_drew)); exact HQ45.out⟩
         have n1_ : Aside0 (Kd.R (Kd.int .i64) 3 (w44.setCell ⟨go23, (a1_0 : Int).toNat, none⟩ (.int .i64 (wrap64 ((rd l0_0 a1_0) - (wrap64 ((wrap64 (a1_2 + t142)) + t143)))))) w0.heap.size (fun k_ => ((P0_0_ k_ ∨ P0_1_ k_) ∨ w.heap.size ≤ k_) ∧ some k_ ≠ (.slice (some ⟨go23, 0, none⟩) l0_0.length co32 : Value).ownBlock) (.slice Ao33 l0_1.length co33) l0_1) := ⟨by (with_reducible repeat (first | apply Kd.R_alloc | apply Kd.R_drewN | apply Kd.R_drew)); exact Kd.R_mono (Kd.R_far (p := ⟨go23, (a1_0 : Int).toNat, none⟩) (Kd.R_mono HO0_1.out (fun k_ hk => (⟨hk, fun e_ => hk.2 (by rw [e_]; rfl)⟩ : _ ∧ k_ ≠ go23))) (fun _ hk => hk.2) (.int .i64 (wrap64 ((rd l0_0 a1_0) - (wrap64 ((wrap64 (a1_2 + t142)) + t143)))))) (fun _ hk => ⟨hk.1.1, hk.1.2⟩)⟩
         have n2_ : Aside0 ((w44.setCell ⟨go23, (a1_0 : Int).toNat, none⟩ (.int .i64 (wrap64 ((rd l0_0 a1_0) - (wrap64 ((wrap64 (a1_2 + t142)) + t143)))))).heap[gb138]? = some (.cells #[.slice (some ⟨go23, 0, none⟩) l0_0.length co32, .slice Ao33 l0_1.length co33, .int .i64 a0_2] 28 (0, 0))) := ⟨by (with_reducible repeat (first | refine blk_drewN ?_ _ | refine blk_drew ?_ | refine blk_alloc ?_ _)); refine blk_far ?_ (by have h_ := Kd.R_ne HO0_0.out BK138.out (by decide); intro e_; exact h_ (by rw [e_]; rfl)) _; (with_reducible repeat (first | refine blk_drewN ?_ _ | refine blk_drew ?_ | refine blk_alloc ?_ _)); exact BK138.out⟩
         have n3_ : Aside0 ((w44.setCell ⟨go23, (a1_0 : Int).toNat, none⟩ (.int .i64 (wrap64 ((rd l0_0 a1_0) - (wrap64 ((wrap64 (a1_2 + t142)) + t143)))))).heap[gb139]? = some (.cells #[.int .i64 a1_0, .int .i64 a1_1, .int .i64 a1_2, .int .i64 a1_3, .int .i64 a1_4, .int .i64 a1_5, .int .i64 a1_6] 32 (0, 0))) := ⟨by (with_reducible repeat (first | refine blk_drewN ?_ _ | refine blk_drew ?_ | refine blk_alloc ?_ _)); refine blk_far ?_ (by have h_ := Kd.R_ne HO0_0.out BK139.out (by decide); intro e_; exact h_ (by rw [e_]; rfl)) _; (with_reducible repeat (first | refine blk_drewN ?_ _ | refine blk_drew ?_ | refine blk_alloc ?_ _)); exact BK139.out⟩
         have n4_ : Aside0 ((w44.setCell ⟨go23, (a1_0 : Int).toNat, none⟩ (.int .i64 (wrap64 ((rd l0_0 a1_0) - (wrap64 ((wrap64 (a1_2 + t142)) + t143)))))).heap[gb140]? = some (.cells #[.slice none 0 0, .slice none 0 0, .int .i64 0] 28 (0, 0))) := ⟨by (with_reducible repeat (first | refine blk_drewN ?_ _ | refine blk_drew ?_ | refine blk_alloc ?_ _)); refine blk_far ?_ (by have h_ := Kd.R_ne HO0_0.out BK140.out (by decide); intro e_; exact h_ (by rw [e_]; rfl)) _; (with_reducible repeat (first | refine blk_drewN ?_ _ | refine blk_drew ?_ | refine blk_alloc ?_ _)); exact BK140.out⟩
         have n5_ : Aside0 (Kept w (w44.setCell ⟨go23, (a1_0 : Int).toNat, none⟩ (.int .i64 (wrap64 ((rd l0_0 a1_0) - (wrap64 ((wrap64 (a1_2 + t142)) + t143)))))) (fun k_ => P0_0_ k_ ∨ P0_1_ k_)) := ⟨by repeat (first | (with_reducible first | exact HK.out | apply Kept.alloc | apply Kept.drewN | apply Kept.drew | refine Kept.setCell ?_ HMgo23.out _ | refine Kept.setCell ?_ (.inr GW138.out) _ | refine Kept.setCell ?_ (.inr GW139.out) _ | refine Kept.setCell ?_ (.inr GW140.out) _) | exact HK.out)⟩
         have n6_ : Aside0 (Below w0.heap.size w0 (w44.setCell ⟨go23, (a1_0 : Int).toNat, none⟩ (.int .i64 (wrap64 ((rd l0_0 a1_0) - (wrap64 ((wrap64 (a1_2 + t142)) + t143))))))) := ⟨by repeat (first | (with_reducible first | exact HB.out | apply below_alloc | apply pw_below_drewN | apply below_drew1 | refine below_set ?_ GB23.out | refine below_set ?_ GE138.out | refine below_set ?_ GE139.out | refine below_set ?_ GE140.out) | exact HB.out)⟩
         (try clear HO0_0)
         (try clear HO0_1)
         (try clear BK138)
         (try clear BK139)
         (try clear BK140)
         (try clear HK)
         (try clear HB)
         generalize (w44.setCell ⟨go23, (a1_0 : Int).toNat, none⟩ (.int .i64 (wrap64 ((rd l0_0 a1_0) - (wrap64 ((wrap64 (a1_2 + t142)) + t143)))))) = w46 at n0_ n1_ n2_ n3_ n4_ n5_ n6_ ⊢
         have HO0_0 := n0_
         have HO0_1 := n1_
         have BK138 := n2_
         have BK139 := n3_
         have BK140 := n4_
         have HK := n5_
         have HB := n6_
         clear n0_ n1_ n2_ n3_ n4_ n5_ n6_
         try go_wp2
         have n_ := And.intro (Aside0.mk (Kd.R_drew HO0_0.out)) (And.intro (Aside0.mk (Kd.R_drew HO0_1.out)) (And.intro (Aside0.mk (blk_drew BK138.out)) (And.intro (Aside0.mk (blk_drew BK139.out)) (And.intro (Aside0.mk (blk_drew BK140.out)) (And.intro (Aside0.mk (Kept.drew HK.out)) (Aside0.mk (below_drew1 HB.out)))))))
         clear HO0_0 HO0_1 BK138 BK139 BK140 HK HB
         obtain ⟨HO0_0, HO0_1, BK138, BK139, BK140, HK, HB⟩ := n_
         have p147 : 0 ≤ (a1_1 : Int) := of_decide_eq_true sq
         have q147 : a1_1 < (y146.length : Int) := (by have h_ : (a1_1 : Int) < ((l0_0.length : Int) : Int) := of_decide_eq_true sq; first | (have e_ := (Kd.R_reads' HO0_0.out).1; omega) | simpa only [Ny146.out, List.length_set] using h_)
         have ql147 : ((a1_1 : Int) < ((l0_0.length : Int) : Int)) = True := eq_true (of_decide_eq_true sq)
         obtain ⟨ad147, e147, hx147_0⟩ := Kd.at_int (Kd.R_reads' HO0_0.out).2.2 a1_1 p147 q147
         obtain rfl : (⟨go23, 0, none⟩ : Addr) = ad147 := (by injection e147)
         (first | simp only [add_plain] at hx147_0 | simp only [add_at] at hx147_0 | simp only [Addr.add, Nat.zero_add] at hx147_0 | skip)
         replace p147 := eq_true p147
         replace q147 := eq_true q147
         have p26 : 0 ≤ (a1_1 : Int) := of_decide_eq_true sq
         have q26 : (a1_1 : Int) < ((l0_0.length : Int) : Int) := of_decide_eq_true sq
         obtain ⟨hx26_0, hf26_0⟩ := Kd.R_celln 0 HO0_0.out (a1_1 : Int) p26 q26
         replace p26 := eq_true p26
         replace q26 := eq_true q26
         have HP48 := Kd.R_putn HO0_0.out (a1_1 : Int) (wrap64 ((rd y146 a1_1) + a1_2))
         rw [← Ny148.out] at HP48
         have HQ48 := Aside0.mk HP48
         clear HP48
         refine start_ (n := 11) (S := fun w' => w'.cell? ⟨gb138, 0, none⟩ = some (.slice (some ⟨go23, 0, none⟩) l0_0.length co32) ∧ w'.cell? ⟨gb138, 1, none⟩ = some (.slice Ao33 l0_1.length co33) ∧ w'.cell? ⟨gb138, 2, none⟩ = some (.int .i64 a0_2) ∧ w'.cell? ⟨gb139, 0, none⟩ = some (.int .i64 a1_0) ∧ w'.cell? ⟨gb139, 1, none⟩ = some (.int .i64 a1_1) ∧ w'.cell? ⟨gb139, 2, none⟩ = some (.int .i64 a1_2) ∧ w'.cell? ⟨gb139, 3, none⟩ = some (.int .i64 a1_3) ∧ w'.cell? ⟨gb139, 4, none⟩ = some (.int .i64 a1_4) ∧ w'.cell? ⟨gb139, 5, none⟩ = some (.int .i64 a1_5) ∧ w'.cell? ⟨gb139, 6, none⟩ = some (.int .i64 a1_6) ∧ w'.cell? ⟨go23, (a1_1).toNat, none⟩ = some (.int .i64 (rd y146 a1_1))) (ds := [10]) #[false, false, false, false, false, false, false, false, false, false, false] (by kernel_rfl) rfl rfl ⟨(blk_cell BK138.out 0).trans rfl, (blk_cell BK138.out 1).trans rfl, (blk_cell BK138.out 2).trans rfl, (blk_cell BK139.out 0).trans rfl, (blk_cell BK139.out 1).trans rfl, (blk_cell BK139.out 2).trans rfl, (blk_cell BK139.out 3).trans rfl, (blk_cell BK139.out 4).trans rfl, (blk_cell BK139.out 5).trans rfl, (blk_cell BK139.out 6).trans rfl, hx147_0⟩ (fun hHeld => ?_); refine with_tabW spec_l14Apply.tab6 spec_l14Apply.bits6 (fun HT_ HW_ => ?_)
         generalize w46.drew = w47 at HO0_0 HO0_1 BK138 BK139 BK140 HK HB HQ48 hf26_0 hx147_0 hx26_0 hHeld ⊢
         refine pure_ (i := 0) (N := some 48) (v := ?_) (a' := ?_) #[true, false, false, false, false, false, false, false, false, false, false] rfl rfl (any_of HT_.out (by kernel_rfl)) (fun _ _ _ h => h) (Or.inl ⟨by rfl, ?_⟩) ?_ ?_
         rotate_left
         ·intro w'
          go_simp
          with_reducible rfl
         rotate_left
         ·simp only [apn]
          rfl
         refine pure_ (i := 2) (N := some 50) (v := ?_) (a' := ?_) #[true, false, true, false, false, false, false, false, false, false, false] rfl rfl (any_of HT_.out (by kernel_rfl)) (fun _ _ _ h => h) (Or.inl ⟨by rfl, ?_⟩) ?_ ?_
         rotate_left
         ·intro w'
          go_simp
          with_reducible rfl
         rotate_left
         ·simp only [apn]
          rfl
         refine pure_ (i := 6) (N := some 54) (v := ?_) (a' := ?_) #[true, false, true, false, false, false, true, false, false, false, false] rfl rfl (any_of HT_.out (by kernel_rfl)) (fun _ _ _ h => h) (Or.inl ⟨by rfl, ?_⟩) ?_ ?_
         rotate_left
         ·intro w'
          go_simp
          with_reducible rfl
         rotate_left
         ·simp only [apn]
          rfl
         refine take_ (i := 1) (N := some 49) (v := ?_) (a' := ?_) #[true, true, true, false, false, false, true, false, false, false, false] rfl rfl (take_ofW HT_.out HW_.out (by kernel_rfl)) (fun _ _ _ h => h) (Or.inl ⟨by rfl, ?_⟩) hHeld ?_ ?_
         rotate_left
         ·rintro w' ⟨s0, s1, s2, s3, s4, s5, s6, s7, s8, s9, s10⟩
          go_simp
          with_reducible rfl
         rotate_left
         ·simp only [apn]
          rfl
         refine take_ (i := 3) (N := some 51) (v := ?_) (a' := ?_) #[true, true, true, true, false, false, true, false, false, false, false] rfl rfl (take_ofW HT_.out HW_.out (by kernel_rfl)) (fun _ _ _ h => h) (Or.inl ⟨by rfl, ?_⟩) hHeld ?_ ?_
         rotate_left
         ·rintro w' ⟨s0, s1, s2, s3, s4, s5, s6, s7, s8, s9, s10⟩
          go_simp
          with_reducible rfl
         rotate_left
         ·simp only [apn]
          rfl
         refine pure_ (i := 4) (N := some 52) (v := ?_) (a' := ?_) #[true, true, true, true, true, false, true, false, false, false, false] rfl rfl (any_of HT_.out (by kernel_rfl)) (fun _ _ _ h => h) (Or.inl ⟨by rfl, ?_⟩) ?_ ?_
         rotate_left
         ·intro w'
          go_simp
          with_reducible rfl
         rotate_left
         ·simp only [apn]
          rfl
         refine take_ (i := 5) (N := some 53) (v := ?_) (a' := ?_) #[true, true, true, true, true, true, true, false, false, false, false] rfl rfl (take_ofW HT_.out HW_.out (by kernel_rfl)) (fun _ _ _ h => h) (Or.inl ⟨by rfl, ?_⟩) hHeld ?_ ?_
         rotate_left
         ·rintro w' ⟨s0, s1, s2, s3, s4, s5, s6, s7, s8, s9, s10⟩
          go_simp
          with_reducible rfl
         rotate_left
         ·simp only [apn]
          rfl
         refine take_ (i := 7) (N := some 55) (v := ?_) (a' := ?_) #[true, true, true, true, true, true, true, true, false, false, false] rfl rfl (take_ofW HT_.out HW_.out (by kernel_rfl)) (fun _ _ _ h => h) (Or.inl ⟨by rfl, ?_⟩) hHeld ?_ ?_
         rotate_left
         ·rintro w' ⟨s0, s1, s2, s3, s4, s5, s6, s7, s8, s9, s10⟩
          go_simp
          with_reducible rfl
         rotate_left
         ·simp only [apn]
          rfl
         refine pure_ (i := 8) (N := some 56) (v := ?_) (a' := ?_) #[true, true, true, true, true, true, true, true, true, false, false] rfl rfl (any_of HT_.out (by kernel_rfl)) (fun _ _ _ h => h) (Or.inl ⟨by rfl, ?_⟩) ?_ ?_
         rotate_left
         ·intro w'
          go_simp
          with_reducible rfl
         rotate_left
         ·simp only [apn]
          rfl
         refine pure_ (i := 9) (N := some 57) (v := ?_) (a' := ?_) #[true, true, true, true, true, true, true, true, true, true, false] rfl rfl (any_of HT_.out (by kernel_rfl)) (fun _ _ _ h => h) (Or.inl ⟨by rfl, ?_⟩) ?_ ?_
         rotate_left
         ·intro w'
          go_simp
          with_reducible rfl
         rotate_left
         ·simp only [apn]
          rfl
         refine last_ (i := 10) (N := none) #[true, true, true, true, true, true, true, true, true, true, true] rfl rfl (one_of HT_.out (by kernel_rfl)) (by decide) (fun K hK => ?_)
         refine skip_ (w1 := ?_) (by rfl) rfl ?_ ?_
         rotate_left
         ·go_simp
          rfl
         refine hK.out _ _ ?_
         clear hK K
         refine done_ (done_of HT_.out (by kernel_rfl)) ?_
         have n0_ : Aside0 (Kd.R (Kd.int .i64) 3 (w47.setCell ⟨go23, (a1_1 : Int).toNat, none⟩ (.int .i64 (wrap64 ((rd y146 a1_1) + a1_2)))) w0.heap.size (fun k_ => ((P0_0_ k_ ∨ P0_1_ k_) ∨ w.heap.size ≤ k_) ∧ some k_ ≠ (.slice Ao33 l0_1.length co33 : Value).ownBlock) (.slice (some ⟨go23, 0, none⟩) l0_0.length co32) y148) := ⟨by (with_reducible repeat (first | apply Kd.R_alloc | apply Kd.R_drewN | apply Kd.R_drew)); exact HQ48.out⟩
         have n1_ : Aside0 (Kd.R (Kd.int .i64) 3 (w47.setCell ⟨go23, (a1_1 : Int).toNat, none⟩ (.int .i64 (wrap64 ((rd y146 a1_1) + a1_2)))) w0.heap.size (fun k_ => ((P0_0_ k_ ∨ P0_1_ k_) ∨ w.heap.size ≤ k_) ∧ some k_ ≠ (.slice (some ⟨go23, 0, none⟩) l0_0.length co32 : Value).ownBlock) (.slice Ao33 l0_1.length co33) l0_1) := ⟨by (with_reducible repeat (first | apply Kd.R_alloc | apply Kd.R_drewN | apply Kd.R_drew)); exact Kd.R_mono (Kd.R_far (p := ⟨go23, (a1_1 : Int).toNat, none⟩) (Kd.R_mono HO0_1.out (fun k_ hk => (⟨hk, fun e_ => hk.2 (by rw [e_]; rfl)⟩ : _ ∧ k_ ≠ go23))) (fun _ hk => hk.2) (.int .i64 (wrap64 ((rd y146 a1_1) + a1_2)))) (fun _ hk => ⟨hk.1.1, hk.1.2⟩)⟩
         have n2_ : Aside0 ((w47.setCell ⟨go23, (a1_1 : Int).toNat, none⟩ (.int .i64 (wrap64 ((rd y146 a1_1) + a1_2)))).heap[gb138]? = some (.cells #[.slice (some ⟨go23, 0, none⟩) l0_0.length co32, .slice Ao33 l0_1.length co33, .int .i64 a0_2] 28 (0, 0))) := ⟨by (with_reducible repeat (first | refine blk_drewN ?_ _ | refine blk_drew ?_ | refine blk_alloc ?_ _)); refine blk_far ?_ (by have h_ := Kd.R_ne HO0_0.out BK138.out (by decide); intro e_; exact h_ (by rw [e_]; rfl)) _; (with_reducible repeat (first | refine blk_drewN ?_ _ | refine blk_drew ?_ | refine blk_alloc ?_ _)); exact BK138.out⟩
         have n3_ : Aside0 ((w47.setCell ⟨go23, (a1_1 : Int).toNat, none⟩ (.int .i64 (wrap64 ((rd y146 a1_1) + a1_2)))).heap[gb139]? = some (.cells #[.int .i64 a1_0, .int .i64 a1_1, .int .i64 a1_2, .int .i64 a1_3, .int .i64 a1_4, .int .i64 a1_5, .int .i64 a1_6] 32 (0, 0))) := ⟨by (with_reducible repeat (first | refine blk_drewN ?_ _ | refine blk_drew ?_ | refine blk_alloc ?_ _)); refine blk_far ?_ (by have h_ := Kd.R_ne HO0_0.out BK139.out (by decide); intro e_; exact h_ (by rw [e_]; rfl)) _; (with_reducible repeat (first | refine blk_drewN ?_ _ | refine blk_drew ?_ | refine blk_alloc ?_ _)); exact BK139.out⟩
         have n4_ : Aside0 ((w47.setCell ⟨go23, (a1_1 : Int).toNat, none⟩ (.int .i64 (wrap64 ((rd y146 a1_1) + a1_2)))).heap[gb140]? = some (.cells #[.slice none 0 0, .slice none 0 0, .int .i64 0] 28 (0, 0))) := ⟨by (with_reducible repeat (first | refine blk_drewN ?_ _ | refine blk_drew ?_ | refine blk_alloc ?_ _)); refine blk_far ?_ (by have h_ := Kd.R_ne HO0_0.out BK140.out (by decide); intro e_; exact h_ (by rw [e_]; rfl)) _; (with_reducible repeat (first | refine blk_drewN ?_ _ | refine blk_drew ?_ | refine blk_alloc ?_ _)); exact BK140.out⟩
         have n5_ : Aside0 (Kept w (w47.setCell ⟨go23, (a1_1 : Int).toNat, none⟩ (.int .i64 (wrap64 ((rd y146 a1_1) + a1_2)))) (fun k_ => P0_0_ k_ ∨ P0_1_ k_)) := ⟨by repeat (first | (with_reducible first | exact HK.out | apply Kept.alloc | apply Kept.drewN | apply Kept.drew | refine Kept.setCell ?_ HMgo23.out _ | refine Kept.setCell ?_ (.inr GW138.out) _ | refine Kept.setCell ?_ (.inr GW139.out) _ | refine Kept.setCell ?_ (.inr GW140.out) _) | exact HK.out)⟩
         have n6_ : Aside0 (Below w0.heap.size w0 (w47.setCell ⟨go23, (a1_1 : Int).toNat, none⟩ (.int .i64 (wrap64 ((rd y146 a1_1) + a1_2))))) := ⟨by repeat (first | (with_reducible first | exact HB.out | apply below_alloc | apply pw_below_drewN | apply below_drew1 | refine below_set ?_ GB23.out | refine below_set ?_ GE138.out | refine below_set ?_ GE139.out | refine below_set ?_ GE140.out) | exact HB.out)⟩
         (try clear HO0_0)
         (try clear HO0_1)
         (try clear BK138)
         (try clear BK139)
         (try clear BK140)
         (try clear HK)
         (try clear HB)
         generalize (w47.setCell ⟨go23, (a1_1 : Int).toNat, none⟩ (.int .i64 (wrap64 ((rd y146 a1_1) + a1_2)))) = w49 at n0_ n1_ n2_ n3_ n4_ n5_ n6_ ⊢
         have HO0_0 := n0_
         have HO0_1 := n1_
         have BK138 := n2_
         have BK139 := n3_
         have BK140 := n4_
         have HK := n5_
         have HB := n6_
         clear n0_ n1_ n2_ n3_ n4_ n5_ n6_
         obtain ⟨hcz50_0, hcz50_1, hcz50_2, hfz50_0, hfz50_1, hfz50_2⟩ := cq3 BK138.out
         have p149 : 0 ≤ (a3 : Int) := of_decide_eq_true sq
         have q149 : a3 < (y148.length : Int) := (by have h_ : (a3 : Int) < ((l0_0.length : Int) : Int) := of_decide_eq_true sq; first | (have e_ := (Kd.R_reads' HO0_0.out).1; omega) | simpa only [Ny146.out, Ny148.out, List.length_set] using h_)
         have ql149 : ((a3 : Int) < ((l0_0.length : Int) : Int)) = True := eq_true (of_decide_eq_true sq)
         obtain ⟨ad149, e149, hx149_0⟩ := Kd.at_int (Kd.R_reads' HO0_0.out).2.2 a3 p149 q149
         obtain rfl : (⟨go23, 0, none⟩ : Addr) = ad149 := (by injection e149)
         (first | simp only [add_plain] at hx149_0 | simp only [add_at] at hx149_0 | simp only [Addr.add, Nat.zero_add] at hx149_0 | skip)
         replace p149 := eq_true p149
         replace q149 := eq_true q149
         have p29 : 0 ≤ (a3 : Int) := of_decide_eq_true sq
         have q29 : (a3 : Int) < ((l0_0.length : Int) : Int) := of_decide_eq_true sq
         obtain ⟨hx29_0, hf29_0⟩ := Kd.R_celln 0 HO0_0.out (a3 : Int) p29 q29
         replace p29 := eq_true p29
         replace q29 := eq_true q29
         obtain ⟨hy51_, hz51_⟩ := Kd.R_celln 0 HO0_0.out (a3 : Int) (of_decide_eq_true sq) (of_decide_eq_true sq)
         have HP51 := Kd.R_putg HO0_0.out (a3 : Int) (wrap64 ((rd y148 a3) + t143))
         try go_wp2_with (first | ((with_reducible refine gate_store (t := 3) (p := 65) rfl ?_); refine store_event (t := 3) (p := 65) (v := ?vo_w52) (w1 := (w49.setCell ⟨go23, (a3 : Int).toNat, none⟩ (.int .i64 (wrap64 ((rd y148 a3) + t143))))) ?hg ?ho ?hn ?hr ?_; (case ho => rfl); (case hg => rfl); (case hn => rfl); (case hr => first | (go_simp; done) | (go_simp; rfl)); intro w52 hw; have hg : w49.grownBy w52 (some go23) := (by rw [hw]; exact HP51.2); have hp_ : Kd.R (Kd.int .i64) 3 w52 w0.heap.size (fun k_ => ((P0_0_ k_ ∨ P0_1_ k_) ∨ w.heap.size ≤ k_) ∧ some k_ ≠ (.slice Ao33 l0_1.length co33 : Value).ownBlock) (.slice (some ⟨go23, 0, none⟩) l0_0.length co32) y150 := (by rw [hw, Ny150.out]; exact HP51.1); clear HP51; have n_ := And.intro (Aside0.mk (hp_)) (And.intro (Aside0.mk (Kd.R_after (v := (.slice (some ⟨go23, 0, none⟩) l0_0.length co32)) (v1 := (.slice (some ⟨go23, 0, none⟩) l0_0.length co32)) (ok := (fun k_ => ((P0_0_ k_ ∨ P0_1_ k_) ∨ w.heap.size ≤ k_))) (rq HO0_1.out) hg (.inl rfl))) (And.intro (Aside0.mk (blk_grown (g := gb138) (o := .cells #[.slice (some ⟨go23, 0, none⟩) l0_0.length co32, .slice Ao33 l0_1.length co33, .int .i64 a0_2] 28 (0, 0)) (bq BK138.out) hg (Kd.R_ne HO0_0.out BK138.out (by decide)))) (And.intro (Aside0.mk (blk_grown (g := gb139) (o := .cells #[.int .i64 a1_0, .int .i64 a1_1, .int .i64 a1_2, .int .i64 a1_3, .int .i64 a1_4, .int .i64 a1_5, .int .i64 a1_6] 32 (0, 0)) (bq BK139.out) hg (Kd.R_ne HO0_0.out BK139.out (by decide)))) (And.intro (Aside0.mk (blk_grown (g := gb140) (o := .cells #[.slice none 0 0, .slice none 0 0, .int .i64 0] 28 (0, 0)) (bq BK140.out) hg (Kd.R_ne HO0_0.out BK140.out (by decide)))) (And.intro (Aside0.mk ((by rw [hw]; exact below_set (HB.out) GB23.out : Below w0.heap.size w0 w52))) (Aside0.mk (Kept.of_grown (S := (fun k_ => P0_0_ k_ ∨ P0_1_ k_)) hg (by repeat (first | (with_reducible first | exact HK.out | apply Kept.alloc | apply Kept.drewN | apply Kept.drew | refine Kept.setCell ?_ (.inr GW138.out) _ | refine Kept.setCell ?_ (.inr GW139.out) _ | refine Kept.setCell ?_ (.inr GW140.out) _) | exact HK.out)) (fun k_ e_ => (HO0_0.out.1 k_ e_).1)))))))); clear HO0_0 HO0_1 BK138 BK139 BK140 HB HK; obtain ⟨HO0_0, HO0_1, BK138, BK139, BK140, HB, HK⟩ := n_; clear hg hw hp_; obtain ⟨hcz53_0, hcz53_1, hcz53_2, hfz53_0, hfz53_1, hfz53_2⟩ := cq3 BK138.out) | ((with_reducible refine gate_store (t := 3) (p := 70) rfl ?_); refine store_event (t := 3) (p := 70) (v := ?vo_w54) (w1 := (w52.setCell ⟨gb138, 2, none⟩ (.int .i64 (wrap64 (a0_2 + t142))))) ?hg ?ho ?hn ?hr ?_; (case ho => rfl); (case hg => rfl); (case hn => rfl); (case hr => first | (go_simp; done) | (go_simp; rfl)); intro w54 hw; have n0_ : Aside0 (Kd.R (Kd.int .i64) 3 w54 w0.heap.size (fun k_ => ((P0_0_ k_ ∨ P0_1_ k_) ∨ w.heap.size ≤ k_) ∧ some k_ ≠ (.slice Ao33 l0_1.length co33 : Value).ownBlock) (.slice (some ⟨go23, 0, none⟩) l0_0.length co32) y150) := ⟨(by rw [hw]; exact (by (with_reducible repeat (first | apply Kd.R_alloc | apply Kd.R_drewN | apply Kd.R_drew)); exact Kd.R_mono (Kd.R_far (p := ⟨gb138, 2, none⟩) (Kd.R_types HO0_0.out BK138.out (by decide)) (fun _ hk => hk.2) (.int .i64 (wrap64 (a0_2 + t142)))) (fun _ hk => ⟨hk.1.1, hk.1.2⟩)))⟩; have n1_ : Aside0 (Kd.R (Kd.int .i64) 3 w54 w0.heap.size (fun k_ => ((P0_0_ k_ ∨ P0_1_ k_) ∨ w.heap.size ≤ k_) ∧ some k_ ≠ (.slice (some ⟨go23, 0, none⟩) l0_0.length co32 : Value).ownBlock) (.slice Ao33 l0_1.length co33) l0_1) := ⟨(by rw [hw]; exact (by (with_reducible repeat (first | apply Kd.R_alloc | apply Kd.R_drewN | apply Kd.R_drew)); exact Kd.R_mono (Kd.R_far (p := ⟨gb138, 2, none⟩) (Kd.R_types HO0_1.out BK138.out (by decide)) (fun _ hk => hk.2) (.int .i64 (wrap64 (a0_2 + t142)))) (fun _ hk => ⟨hk.1.1, hk.1.2⟩)))⟩; have n2_ : Aside0 (w54.heap[gb138]? = some (.cells #[.slice (some ⟨go23, 0, none⟩) l0_0.length co32, .slice Ao33 l0_1.length co33, .int .i64 (wrap64 (a0_2 + t142))] 28 (0, 0))) := ⟨(by rw [hw]; exact (by (with_reducible repeat (first | refine blk_drewN ?_ _ | refine blk_drew ?_ | refine blk_alloc ?_ _)); refine blk_put (cs := #[.slice (some ⟨go23, 0, none⟩) l0_0.length co32, .slice Ao33 l0_1.length co33, .int .i64 a0_2]) ?_ 2 _ rfl; (with_reducible repeat (first | refine blk_drewN ?_ _ | refine blk_drew ?_ | refine blk_alloc ?_ _)); exact BK138.out))⟩; have n3_ : Aside0 (w54.heap[gb139]? = some (.cells #[.int .i64 a1_0, .int .i64 a1_1, .int .i64 a1_2, .int .i64 a1_3, .int .i64 a1_4, .int .i64 a1_5, .int .i64 a1_6] 32 (0, 0))) := ⟨(by rw [hw]; exact (bf1 BK139.out NB139_138.out))⟩; have n4_ : Aside0 (w54.heap[gb140]? = some (.cells #[.slice none 0 0, .slice none 0 0, .int .i64 0] 28 (0, 0))) := ⟨(by rw [hw]; exact (bf1 BK140.out NB140_138.out))⟩; have n5_ : Aside0 (Kept w w54 (fun k_ => P0_0_ k_ ∨ P0_1_ k_)) := ⟨(by rw [hw]; exact (by repeat (first | (with_reducible first | exact HK.out | apply Kept.alloc | apply Kept.drewN | apply Kept.drew | refine Kept.setCell ?_ (.inr GW138.out) _ | refine Kept.setCell ?_ (.inr GW139.out) _ | refine Kept.setCell ?_ (.inr GW140.out) _) | exact HK.out)))⟩; have n6_ : Aside0 (Below w0.heap.size w0 w54) := ⟨(by rw [hw]; exact (bw3 HB.out GE138.out GE139.out GE140.out))⟩; clear hw HO0_0 HO0_1 BK138 BK139 BK140 HK HB; have HO0_0 := n0_; have HO0_1 := n1_; have BK138 := n2_; have BK139 := n3_; have BK140 := n4_; have HK := n5_; have HB := n6_; clear n0_ n1_ n2_ n3_ n4_ n5_ n6_; obtain ⟨hcz55_0, hcz55_1, _, _, _, _⟩ := cq3 BK138.out; have hcz55_2 : w54.cell? ⟨gb138, 2, none⟩ = some (.int .i64 (wrap64 (a0_2 + t142))) := (blk_cell BK138.out 2).trans rfl; have hfz55_0 := blk_frozen BK138.out 0; have hfz55_1 := blk_frozen BK138.out 1; have hfz55_2 := blk_frozen BK138.out 2; obtain ⟨hcz56_0, hcz56_1, hcz56_2, hcz56_3, hcz56_4, hcz56_5, hcz56_6, hfz56_0, hfz56_1, hfz56_2, hfz56_3, hfz56_4, hfz56_5, hfz56_6⟩ := cq7 BK139.out; have p151 : 0 ≤ (a1_0 : Int) := of_decide_eq_true sq; have q151 : a1_0 < (l0_1.length : Int) := of_decide_eq_true sq; obtain ⟨ad151, e151, hx151_0⟩ := Kd.at_int (Kd.R_reads' HO0_1.out).2.2 a1_0 p151 q151; cases e151; replace p151 := eq_true p151; replace q151 := eq_true q151; have p31 : 0 ≤ (a1_0 : Int) := of_decide_eq_true sq; have q31 : (a1_0 : Int) < ((l0_1.length : Int) : Int) := of_decide_eq_true sq; obtain ⟨go31, co31, eo31, gb31, gl31, cl31, HG31⟩ := Kd.R_form HO0_1.out (by omega); (first | cases eo31 | (injection eo31 with ea_ en_ ec_; (first | subst ea_ | (injection ea_ with ea_; subst ea_)); subst ec_; clear en_)); have GB31 := Aside0.mk gb31; have GG31 := Aside0.mk HG31; clear gb31 gl31 HG31; have HMgo31 := Aside0.mk (show ((P0_0_ go31 ∨ P0_1_ go31) ∨ w.heap.size ≤ go31) from (HO0_1.out.1 _ rfl).1); (first | simp only [add_plain] at hx151_0 | skip); obtain ⟨hx31_0, hf31_0⟩ := Kd.R_celln 0 HO0_1.out (a1_0 : Int) p31 q31; replace p31 := eq_true p31; replace q31 := eq_true q31; obtain ⟨hy57_, hz57_⟩ := Kd.R_celln 0 HO0_1.out (a1_0 : Int) (of_decide_eq_true sq) (of_decide_eq_true sq); have HP57 := Kd.R_putg HO0_1.out (a1_0 : Int) (wrap64 ((rd l0_1 a1_0) + 1))) | ((with_reducible refine gate_store (t := 3) (p := 78) rfl ?_); refine store_event (t := 3) (p := 78) (v := ?vo_w58) (w1 := (w54.setCell ⟨go31, (a1_0 : Int).toNat, none⟩ (.int .i64 (wrap64 ((rd l0_1 a1_0) + 1))))) ?hg ?ho ?hn ?hr ?_; (case ho => rfl); (case hg => rfl); (case hn => rfl); (case hr => first | (go_simp; done) | (go_simp; rfl)); intro w58 hw; have hg : w54.grownBy w58 (some go31) := (by rw [hw]; exact HP57.2); have hp_ : Kd.R (Kd.int .i64) 3 w58 w0.heap.size (fun k_ => ((P0_0_ k_ ∨ P0_1_ k_) ∨ w.heap.size ≤ k_) ∧ some k_ ≠ (.slice (some ⟨go23, 0, none⟩) l0_0.length co32 : Value).ownBlock) (.slice (some ⟨go31, 0, none⟩) l0_1.length co33) y152 := (by rw [hw, Ny152.out]; exact HP57.1); clear HP57; have n_ := And.intro (Aside0.mk (Kd.R_after (v := (.slice (some ⟨go31, 0, none⟩) l0_1.length co33)) (v1 := (.slice (some ⟨go31, 0, none⟩) l0_1.length co33)) (ok := (fun k_ => ((P0_0_ k_ ∨ P0_1_ k_) ∨ w.heap.size ≤ k_))) (rq HO0_0.out) hg (.inl rfl))) (And.intro (Aside0.mk (hp_)) (And.intro (Aside0.mk (blk_grown (g := gb138) (o := .cells #[.slice (some ⟨go23, 0, none⟩) l0_0.length co32, .slice (some ⟨go31, 0, none⟩) l0_1.length co33, .int .i64 (wrap64 (a0_2 + t142))] 28 (0, 0)) (bq BK138.out) hg (Kd.R_ne HO0_1.out BK138.out (by decide)))) (And.intro (Aside0.mk (blk_grown (g := gb139) (o := .cells #[.int .i64 a1_0, .int .i64 a1_1, .int .i64 a1_2, .int .i64 a1_3, .int .i64 a1_4, .int .i64 a1_5, .int .i64 a1_6] 32 (0, 0)) (bq BK139.out) hg (Kd.R_ne HO0_1.out BK139.out (by decide)))) (And.intro (Aside0.mk (blk_grown (g := gb140) (o := .cells #[.slice none 0 0, .slice none 0 0, .int .i64 0] 28 (0, 0)) (bq BK140.out) hg (Kd.R_ne HO0_1.out BK140.out (by decide)))) (And.intro (Aside0.mk ((by rw [hw]; exact below_set (HB.out) GB31.out : Below w0.heap.size w0 w58))) (Aside0.mk (Kept.of_grown (S := (fun k_ => P0_0_ k_ ∨ P0_1_ k_)) hg (by repeat (first | (with_reducible first | exact HK.out | apply Kept.alloc | apply Kept.drewN | apply Kept.drew | refine Kept.setCell ?_ (.inr GW138.out) _ | refine Kept.setCell ?_ (.inr GW139.out) _ | refine Kept.setCell ?_ (.inr GW140.out) _) | exact HK.out)) (fun k_ e_ => (HO0_1.out.1 k_ e_).1)))))))); clear HO0_0 HO0_1 BK138 BK139 BK140 HB HK; obtain ⟨HO0_0, HO0_1, BK138, BK139, BK140, HB, HK⟩ := n_; clear hg hw hp_; obtain ⟨hcz59_0, hcz59_1, _, _, _, _⟩ := cq3 BK138.out; have hcz59_2 : w58.cell? ⟨gb138, 2, none⟩ = some (.int .i64 (wrap64 (a0_2 + t142))) := (blk_cell BK138.out 2).trans rfl; have hfz59_0 := blk_frozen BK138.out 0; have hfz59_1 := blk_frozen BK138.out 1; have hfz59_2 := blk_frozen BK138.out 2; obtain ⟨hcz60_0, hcz60_1, hcz60_2, hfz60_0, hfz60_1, hfz60_2⟩ := cq3 BK140.out))
         refine bodyPost_ret (results_ct rfl _ _ gb140 28 #[.slice (some ⟨go23, 0, none⟩) l0_0.length co32, .slice (some ⟨go31, 0, none⟩) l0_1.length co33, .int .i64 (wrap64 (a0_2 + t142))] (0, 0) _ rfl (bp3 BK140.out) Try.underlying28 rfl (by kernel_rfl)) rfl ?_
         exact ⟨_, _, by first | rfl | (simp [errW_none, errW_some] <;> rfl) | (simp [*, errW_none, errW_some] <;> rfl), by (with_reducible repeat (first | apply Kd.R_alloc | apply Kd.R_drewN | apply Kd.R_drew)); exact Kd.R_mono (Kd.R_far (p := ⟨gb140, 2, none⟩) (Kd.R_far (p := ⟨gb140, 1, none⟩) (Kd.R_far (p := ⟨gb140, 0, none⟩) (Kd.R_types HO0_0.out BK140.out (by decide)) (fun _ hk => hk.2) (.slice (some ⟨go23, 0, none⟩) l0_0.length co32)) (fun _ hk => hk.2) (.slice (some ⟨go31, 0, none⟩) l0_1.length co33)) (fun _ hk => hk.2) (.int .i64 (wrap64 (a0_2 + t142)))) (fun _ hk => ⟨hk.1.1, hk.1.2⟩), by (with_reducible repeat (first | apply Kd.R_alloc | apply Kd.R_drewN | apply Kd.R_drew)); exact Kd.R_mono (Kd.R_far (p := ⟨gb140, 2, none⟩) (Kd.R_far (p := ⟨gb140, 1, none⟩) (Kd.R_far (p := ⟨gb140, 0, none⟩) (Kd.R_types HO0_1.out BK140.out (by decide)) (fun _ hk => hk.2) (.slice (some ⟨go23, 0, none⟩) l0_0.length co32)) (fun _ hk => hk.2) (.slice (some ⟨go31, 0, none⟩) l0_1.length co33)) (fun _ hk => hk.2) (.int .i64 (wrap64 (a0_2 + t142)))) (fun _ hk => ⟨hk.1.1, hk.1.2⟩), by repeat (first | (with_reducible first | exact HB.out | apply below_alloc | apply pw_below_drewN | apply below_drew1 | refine below_set ?_ GE138.out | refine below_set ?_ GE139.out | refine below_set ?_ GE140.out) | exact HB.out), by repeat (first | (with_reducible first | exact HK.out | apply Kept.alloc | apply Kept.drewN | apply Kept.drew | refine Kept.setCell ?_ (.inr GW138.out) _ | refine Kept.setCell ?_ (.inr GW139.out) _ | refine Kept.setCell ?_ (.inr GW140.out) _) | exact HK.out)⟩
        ·rw [if_neg c30] at H
         exact absurd H (by simp)
       ·rw [if_neg c28] at H
        exact absurd H (by simp)
      ·rw [if_neg c27] at H
       exact absurd H (by simp)
     ·rw [if_neg c25] at H
      exact absurd H (by simp)
    ·rw [if_neg c24] at H
     exact absurd H (by simp)
   ·rw [if_neg c22] at H
    exact absurd H (by simp)
  ·rw [if_neg c21] at H
   exact absurd H (by simp)

end Go.Proofs.Ytiggokojffejeaa.PFnExactApplyWish
