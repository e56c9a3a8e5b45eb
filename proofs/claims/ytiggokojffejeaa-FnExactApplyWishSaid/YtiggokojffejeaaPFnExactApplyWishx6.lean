/- Written by this session's program myprint.py, which runs the kit's print.py beside texts of this session's own. No condition. -/
import Derived.Test.YtiggokojffejeaaPFnExactApplyWishx0
import Derived.Test.YtiggokojffejeaaPFnExactApplyWishx5
namespace Go.Proofs.Ytiggokojffejeaa.PFnExactApplyWish
open Go.RowKit Go.Proofs.YtiggokojffejeaaW.PrintWords Go.Proofs.YtiggokojffejeaaW.PrintLast Go.Proofs.YtiggokojffejeaaW.PrintMore
attribute [local go_sem] max2_int min2_int max_two min_two max_three min_three max_four min_four   -- for this text's walks alone
set_option linter.unusedVariables false
set_option linter.unusedSimpArgs false

/-! ### impl_isState: function 72 -/
mutual
def impl_isState.j0 : Nat → Bool → List Int → List Int → Int → Option (Bool)
 | 0, _, _, _, _ => none
 | k + 1, x25, x214000, x214001, x214002 => if x25 = true then (some false) else (impl_isState.l0 k x214002 x214000 (x214000.length : Int) 0 x214000 x214001 x214002)
def impl_isState.l0 : Nat → Int → List Int → Int → Int → List Int → List Int → Int → Option (Bool)
 | 0, _, _, _, _, _, _, _ => none
 | k + 1, x3, x29, x30, x31, x214000, x214001, x214002 => if x31 < x30 then (if 0 ≤ x31 then (if x31 < (x29.length : Int) then ((impl_within.f (rd x29 x31) 0 1000000000).bind fun t217 => (if t217 = true then (if x31 < (x214001.length : Int) then ((impl_within.f (rd x214001 x31) 0 1000).bind fun t219 => (if t219 = true then (impl_isState.l0 k (wrap64 (x3 + (rd x29 x31))) x29 x30 (wrap64 (x31 + 1)) x214000 x214001 x214002) else (some false))) else (none)) else (some false))) else (none)) else (none)) else (some (decide (x3 ≤ 1000000000)))
end
def impl_isState.f (k : Nat) (l0_0 : List Int) (l0_1 : List Int) (a0_2 : Int) : Option (Bool) := (impl_within.f (l0_0.length : Int) 1 8).bind fun t214 => (if t214 = true then (if (l0_1.length : Int) = (l0_0.length : Int) then ((impl_within.f a0_2 0 1000000000).bind fun t215 => (impl_isState.j0 k (!t215) l0_0 l0_1 a0_2)) else (impl_isState.j0 k true l0_0 l0_1 a0_2)) else (impl_isState.j0 k true l0_0 l0_1 a0_2))
theorem impl_isState.mono_l : ∀ k, (∀ y0 y1 y2 y3, LeO (impl_isState.j0 k y0 y1 y2 y3) (impl_isState.j0 (k + 1) y0 y1 y2 y3)) ∧ (∀ y0 y1 y2 y3 y4 y5 y6, LeO (impl_isState.l0 k y0 y1 y2 y3 y4 y5 y6) (impl_isState.l0 (k + 1) y0 y1 y2 y3 y4 y5 y6))
 | 0 => ⟨fun _ _ _ _ r h => by simp [impl_isState.j0] at h, fun _ _ _ _ _ _ _ r h => by simp [impl_isState.l0] at h⟩
 | k + 1 => by
  obtain ⟨ih0, ih1⟩ := impl_isState.mono_l k
  refine ⟨?_, ?_⟩
  ·intro y0 y1 y2 y3
   unfold impl_isState.j0
   repeat' first
   | (with_reducible exact ih0 _ _ _ _)
   | (with_reducible exact ih1 _ _ _ _ _ _ _)
   | (with_reducible exact LeO.refl _)
   | (with_reducible exact LeO.none _)
   | (with_reducible refine LeO.ite ?_ ?_)
   | (with_reducible refine LeO.bind ?_ (fun _ => ?_))
   | exact ih0 _ _ _ _
   | exact ih1 _ _ _ _ _ _ _
   | exact LeO.none _
   | refine LeO.ite ?_ ?_
   | refine LeO.bind ?_ (fun _ => ?_)
  ·intro y0 y1 y2 y3 y4 y5 y6
   unfold impl_isState.l0
   repeat' first
   | (with_reducible exact ih0 _ _ _ _)
   | (with_reducible exact ih1 _ _ _ _ _ _ _)
   | (with_reducible exact LeO.refl _)
   | (with_reducible exact LeO.none _)
   | (with_reducible refine LeO.ite ?_ ?_)
   | (with_reducible refine LeO.bind ?_ (fun _ => ?_))
   | exact ih0 _ _ _ _
   | exact ih1 _ _ _ _ _ _ _
   | exact LeO.none _
   | refine LeO.ite ?_ ?_
   | refine LeO.bind ?_ (fun _ => ?_)
theorem impl_isState.mono : ∀ a0 a1 a2 k, LeO (impl_isState.f k a0 a1 a2) (impl_isState.f (k + 1) a0 a1 a2) := by
 intro a0 a1 a2 k
 obtain ⟨ih0, ih1⟩ := impl_isState.mono_l k
 unfold impl_isState.f
 repeat' first
   | (with_reducible exact ih0 _ _ _ _)
   | (with_reducible exact ih1 _ _ _ _ _ _ _)
   | (with_reducible exact LeO.refl _)
   | (with_reducible exact LeO.none _)
   | (with_reducible refine LeO.ite ?_ ?_)
   | (with_reducible refine LeO.bind ?_ (fun _ => ?_))
   | exact ih0 _ _ _ _
   | exact ih1 _ _ _ _ _ _ _
   | exact LeO.none _
   | refine LeO.ite ?_ ?_
   | refine LeO.bind ?_ (fun _ => ?_)
set_option maxHeartbeats 8000000 in
set_option maxRecDepth 100000 in
theorem impl_isState.calls (k : Nat) (A0_0 : Option Addr) (c0_0 : Nat) (l0_0 : List Int) (A0_1 : Option Addr) (c0_1 : Nat) (l0_1 : List Int) (a0_2 : Int) (r : Bool) (w : World) (hr0_0 : Kd.C (Kd.int .i64) w A0_0 l0_0.length l0_0) (hc0_0 : l0_0.length ≤ c0_0) (hr0_1 : Kd.C (Kd.int .i64) w A0_1 l0_1.length l0_1) (hc0_1 : l0_1.length ≤ c0_1) (h : impl_isState.f k l0_0 l0_1 a0_2 = some r) :
  Calls Try.prog 72 #[.agg #[.slice A0_0 l0_0.length c0_0, .slice A0_1 l0_1.length c0_1, .int .i64 a0_2]] w fun e w' => e = .returned (.bool r) ∧ Below w.heap.size w w' := by
 have hu28 := Try.underlying28
 have HR0_0 := Aside0.mk hr0_0
 have HC0_0 := Aside0.mk hc0_0
 clear hr0_0 hc0_0
 have HR0_1 := Aside0.mk hr0_1
 have HC0_1 := Aside0.mk hc0_1
 clear hr0_1 hc0_1
 have HB := Aside0.mk (Below.refl w.heap.size w)
 have H : ((impl_within.f (l0_0.length : Int) 1 8).bind fun t214 => (if t214 = true then (if (l0_1.length : Int) = (l0_0.length : Int) then ((impl_within.f a0_2 0 1000000000).bind fun t215 => (impl_isState.j0 k (!t215) l0_0 l0_1 a0_2)) else (impl_isState.j0 k true l0_0 l0_1 a0_2)) else (impl_isState.j0 k true l0_0 l0_1 a0_2))) = some r := h
 clear h
 have HC2 := Aside0.mk H
 clear H
 go_enter Try.func72, Try.ntmps72
 go_upto_region 1 with (first | ((with_reducible refine gate_dst (N := 1) rfl ?_); (try (refine gate_guard (by rfl) ?_; dsimp only)); refine box_event ?hg (N := 1) ?hd (cs := #[.slice A0_0 l0_0.length c0_0, .slice A0_1 l0_1.length c0_1, .int .i64 a0_2]) (t := 28) ?hr ?_; (case hd => rfl); (case hg => rfl); (case hr => first | (go_simp; done) | (go_simp; rfl)); intro gb213 hg w3 hbox hb; have n_ := And.intro (Aside0.mk (below_step (bw0 HB.out) hb)) (And.intro (Aside0.mk (hbox)) (Aside0.mk ((by rw [hg]; exact (below_size (bw0 HB.out)) : w.heap.size ≤ gb213)))); clear HB; obtain ⟨HB, BK213, GW213⟩ := n_; have GE213 := GW213; clear hb hbox hg))
 (try simp only [Act.put, List.setIfInBounds_toArray, List.set_cons_zero, List.set_cons_succ])
 go_cut [25] (fun v25 wc => ∃ (kq : Nat) (x25_1 : Bool), v25 = .bool x25_1 ∧ Aside0 (impl_isState.j0 kq x25_1 l0_0 l0_1 a0_2 = some r) ∧ Aside0 (kq ≤ k) ∧ Aside0 (wc.heap[gb213]? = some (.cells #[(.slice A0_0 l0_0.length c0_0), (.slice A0_1 l0_1.length c0_1), .int .i64 a0_2] 28 (0, 0))) ∧ Aside0 (Below w.heap.size w wc))
 case first =>
  have H := HC2.out
  clear HC2
  replace H := Option.bind_eq_some_iff.mp H
  obtain ⟨t214, A40, H⟩ := H
  have A4 := Aside0.mk A40
  clear A40
  by_cases c5 : t214 = true
  ·subst c5
   rw [if_pos rfl] at H
   by_cases c6 : (l0_1.length : Int) = (l0_0.length : Int)
   ·rw [if_pos c6] at H
    have c6b0 : ((l0_1.length : Int) == (l0_0.length : Int)) = true := beq_iff_eq.mpr c6
    have c6b1 : ((l0_1.length : Int) != (l0_0.length : Int)) = false := bne_eq_false_iff_eq.mpr c6
    have c6b2 : (l0_1.length == l0_0.length) = true := by first | simpa using c6 | (simp at c6 ⊢; omega)
    clear c6
    (first | rw [c6b0] | (simp only [i64_w, i32_w]; rw [c6b0]) | skip)
    replace H := Option.bind_eq_some_iff.mp H
    obtain ⟨t215, A70, H⟩ := H
    have A7 := Aside0.mk A70
    clear A70
    have H' := Aside0.mk H
    clear H
    obtain ⟨hcz8_0, hcz8_1, hcz8_2, hfz8_0, hfz8_1, hfz8_2⟩ := cq3 BK213.out
    go_wp2_with (first | ((with_reducible refine gate_callee (f := 67) rfl ?_); refine goesL_ (some 9) rfl rfl Try.func67 (by kernel_rfl) rfl #[.int .i64 (l0_0.length : Int), .int .i64 1, .int .i64 8] rfl aq ?_; (with_reducible refine (impl_within.calls (l0_0.length : Int) 1 8 true _ A4.out).mono ?_); rintro e w' ⟨rfl, ⟨nd, rfl⟩⟩; refine ⟨_, rfl, ?_⟩) | (go_at_call 67; (with_reducible refine (impl_within.calls a0_2 0 1000000000 t215 _ A7.out).mono ?_); rintro e w' ⟨rfl, ⟨nd, rfl⟩⟩))
    go_meet
    case rel => exact ⟨_, (!t215), (by first | rfl | (simp; done) | (simp [*]; done)), H', ⟨by first | omega | exact Nat.le_refl _⟩, ⟨by (with_reducible repeat (first | refine blk_drewN ?_ _ | refine blk_drew ?_ | refine blk_alloc ?_ _)); exact BK213.out⟩, ⟨by repeat (first | (with_reducible first | exact HB.out | apply below_alloc | apply pw_below_drewN | apply below_drew1 | refine below_set ?_ GE213.out) | exact HB.out)⟩⟩
   ·rw [if_neg c6] at H
    have c6b0 : ((l0_1.length : Int) == (l0_0.length : Int)) = false := beq_eq_false_iff_ne.mpr c6
    have c6b1 : ((l0_1.length : Int) != (l0_0.length : Int)) = true := bne_iff_ne.mpr c6
    have c6b2 : (l0_1.length == l0_0.length) = false := by first | simpa using c6 | (simp at c6 ⊢; omega)
    (first | rw [c6b0] | (simp only [i64_w, i32_w]; rw [c6b0]) | skip)
    have H' := Aside0.mk H
    clear H
    obtain ⟨hcz9_0, hcz9_1, hcz9_2, hfz9_0, hfz9_1, hfz9_2⟩ := cq3 BK213.out
    go_wp2_with (first | ((with_reducible refine gate_callee (f := 67) rfl ?_); refine goesL_ (some 9) rfl rfl Try.func67 (by kernel_rfl) rfl #[.int .i64 (l0_0.length : Int), .int .i64 1, .int .i64 8] rfl aq ?_; (with_reducible refine (impl_within.calls (l0_0.length : Int) 1 8 true _ A4.out).mono ?_); rintro e w' ⟨rfl, ⟨nd, rfl⟩⟩; refine ⟨_, rfl, ?_⟩))
    go_meet
    case rel => exact ⟨_, (true), (by first | rfl | (simp; done) | (simp [*]; done)), H', ⟨by first | omega | exact Nat.le_refl _⟩, ⟨by (with_reducible repeat (first | refine blk_drewN ?_ _ | refine blk_drew ?_ | refine blk_alloc ?_ _)); exact BK213.out⟩, ⟨by repeat (first | (with_reducible first | exact HB.out | apply below_alloc | apply pw_below_drewN | apply below_drew1 | refine below_set ?_ GE213.out) | exact HB.out)⟩⟩
  ·replace c5 := Bool.eq_false_iff.mpr c5
   subst c5
   rw [if_neg (show ¬ (false = true) by decide)] at H
   have H' := Aside0.mk H
   clear H
   obtain ⟨hcz10_0, hcz10_1, hcz10_2, hfz10_0, hfz10_1, hfz10_2⟩ := cq3 BK213.out
   go_wp2_with (first | ((with_reducible refine gate_callee (f := 67) rfl ?_); refine goesL_ (some 9) rfl rfl Try.func67 (by kernel_rfl) rfl #[.int .i64 (l0_0.length : Int), .int .i64 1, .int .i64 8] rfl aq ?_; (with_reducible refine (impl_within.calls (l0_0.length : Int) 1 8 false _ A4.out).mono ?_); rintro e w' ⟨rfl, ⟨nd, rfl⟩⟩; refine ⟨_, rfl, ?_⟩))
   go_meet
   case rel => exact ⟨_, (true), (by first | rfl | (simp; done) | (simp [*]; done)), H', ⟨by first | omega | exact Nat.le_refl _⟩, ⟨by (with_reducible repeat (first | refine blk_drewN ?_ _ | refine blk_drew ?_ | refine blk_alloc ?_ _)); exact BK213.out⟩, ⟨by repeat (first | (with_reducible first | exact HB.out | apply below_alloc | apply pw_below_drewN | apply below_drew1 | refine below_set ?_ GE213.out) | exact HB.out)⟩⟩
 case rest =>
  clear HC2
  try clear p2
  try clear c5
  try clear c6
  try clear c6b0
  try clear c6b1
  try clear c6b2
  try clear c7
  obtain ⟨kq, x25_1, rfl, HA, HJ1, BK213, HB⟩ := hcut
  cases kq with
  | zero => exact absurd HA.out (by simp [impl_isState.j0])
  | succ kj1 =>
   have H := HA.out
   clear HA
   simp only [impl_isState.j0] at H
   by_cases c11 : x25_1 = true
   ·subst c11
    rw [if_pos rfl] at H
    obtain rfl := Option.some.inj H
    go_wp2
    go_ret
    exact ⟨by first | rfl | (simp [errW_none, errW_some] <;> rfl) | (simp [*, errW_none, errW_some] <;> rfl), by repeat (first | (with_reducible first | exact HB.out | apply below_alloc | apply pw_below_drewN | apply below_drew1 | refine below_set ?_ GE213.out) | exact HB.out)⟩
   ·replace c11 := Bool.eq_false_iff.mpr c11
    subst c11
    rw [if_neg (show ¬ (false = true) by decide)] at H
    have H' := Aside0.mk H
    clear H
    obtain ⟨hcz12_0, hcz12_1, hcz12_2, hfz12_0, hfz12_1, hfz12_2⟩ := cq3 BK213.out
    go_wp2
    go_loopg [3, 31] kj1 (fun kq v3 v31 w' => ∃ (x3_2 : Int) (x31_2 : Int), v3 = .int .i64 x3_2 ∧ v31 = .int .i64 x31_2 ∧ Aside0 (impl_isState.l0 kq x3_2 l0_0 (l0_0.length : Int) x31_2 l0_0 l0_1 a0_2 = some r) ∧ Aside0 (kq ≤ kj1) ∧ Aside0 (w'.heap[gb213]? = some (.cells #[(.slice A0_0 l0_0.length c0_0), (.slice A0_1 l0_1.length c0_1), .int .i64 a0_2] 28 (0, 0))) ∧ Aside0 (Below w.heap.size w w'))
    case atStart => exact ⟨(a0_2), (0), (by first | rfl | (simp; done) | (simp [*]; done)), (by first | rfl | (simp; done) | (simp [*]; done)), H', ⟨Nat.le_refl _⟩, ⟨by (with_reducible repeat (first | refine blk_drewN ?_ _ | refine blk_drew ?_ | refine blk_alloc ?_ _)); exact BK213.out⟩, ⟨by repeat (first | (with_reducible first | exact HB.out | apply below_alloc | apply pw_below_drewN | apply below_drew1 | refine below_set ?_ GE213.out) | exact HB.out)⟩⟩
    case round =>
     clear H'
     try clear c1
     try clear p2
     try clear c5
     try clear c6
     try clear c6b0
     try clear c6b1
     try clear c6b2
     try clear c7
     try clear c11
     try clear p2
     obtain ⟨x3_2, x31_2, rfl, rfl, HA, HK2, BK213, HB⟩ := hrel
     cases gk with
     | zero => exact absurd HA.out (by simp [impl_isState.l0])
     | succ k2 =>
      have H := HA.out
      clear HA
      simp only [impl_isState.l0] at H
      by_cases c13 : x31_2 < (l0_0.length : Int)
      ·rw [if_pos c13] at H
       have c13b0 : decide (x31_2 < (l0_0.length : Int)) = true := decide_eq_true c13
       clear c13
       by_cases c14 : 0 ≤ x31_2
       ·rw [if_pos c14] at H
        have c14b0 : decide (0 ≤ x31_2) = true := decide_eq_true c14
        clear c14
        by_cases c15 : x31_2 < (l0_0.length : Int)
        ·rw [if_pos c15] at H
         have c15b0 : decide (x31_2 < (l0_0.length : Int)) = true := decide_eq_true c15
         clear c15
         replace H := Option.bind_eq_some_iff.mp H
         obtain ⟨t217, A160, H⟩ := H
         have A16 := Aside0.mk A160
         clear A160
         by_cases c17 : t217 = true
         ·subst c17
          rw [if_pos rfl] at H
          by_cases c18 : x31_2 < (l0_1.length : Int)
          ·rw [if_pos c18] at H
           have c18b0 : decide (x31_2 < (l0_1.length : Int)) = true := decide_eq_true c18
           clear c18
           replace H := Option.bind_eq_some_iff.mp H
           obtain ⟨t219, A190, H⟩ := H
           have A19 := Aside0.mk A190
           clear A190
           by_cases c20 : t219 = true
           ·subst c20
            rw [if_pos rfl] at H
            have H' := Aside0.mk H
            clear H
            have p216 : 0 ≤ (x31_2 : Int) := of_decide_eq_true sq
            have q216 : x31_2 < (l0_0.length : Int) := of_decide_eq_true sq
            obtain ⟨ad216, e216, hx216_0⟩ := Kd.at_int HR0_0.out x31_2 p216 q216
            cases e216
            replace hx216_0 := (HB.out.cell (World.block_lt_of_cell? w _ hx216_0)).trans hx216_0
            replace p216 := eq_true p216
            replace q216 := eq_true q216
            go_wp2_with (first | ((with_reducible refine gate_callee (f := 67) rfl ?_); refine goesL_ (some 37) rfl rfl Try.func67 (by kernel_rfl) rfl #[.int .i64 (rd l0_0 x31_2), .int .i64 0, .int .i64 1000000000] rfl aq ?_; (with_reducible refine (impl_within.calls (rd l0_0 x31_2) 0 1000000000 true _ A16.out).mono ?_); rintro e w' ⟨rfl, ⟨nd, rfl⟩⟩; refine ⟨_, rfl, ?_⟩; obtain ⟨hcz21_0, hcz21_1, hcz21_2, hfz21_0, hfz21_1, hfz21_2⟩ := cq3 BK213.out; have p218 : 0 ≤ (x31_2 : Int) := of_decide_eq_true sq; have q218 : x31_2 < (l0_1.length : Int) := of_decide_eq_true sq; obtain ⟨ad218, e218, hx218_0⟩ := Kd.at_int HR0_1.out x31_2 p218 q218; cases e218; replace hx218_0 := (HB.out.cell (World.block_lt_of_cell? w _ hx218_0)).trans hx218_0; replace p218 := eq_true p218; replace q218 := eq_true q218) | (go_at_call 67; (with_reducible refine (impl_within.calls (rd l0_1 x31_2) 0 1000 true _ A19.out).mono ?_); rintro e w' ⟨rfl, ⟨nd, rfl⟩⟩))
            go_roundg k2
            case measure => have := HJ1.out; have := HK2.out; omega
            case rel => exact ⟨(wrap64 (x3_2 + (rd l0_0 x31_2))), (wrap64 (x31_2 + 1)), (by first | rfl | (simp; done) | (simp [*]; done)), (by first | rfl | (simp; done) | (simp [*]; done)), H', ⟨by have := HJ1.out; have := HK2.out; omega⟩, ⟨by (with_reducible repeat (first | refine blk_drewN ?_ _ | refine blk_drew ?_ | refine blk_alloc ?_ _)); exact BK213.out⟩, ⟨by repeat (first | (with_reducible first | exact HB.out | apply below_alloc | apply pw_below_drewN | apply below_drew1 | refine below_set ?_ GE213.out) | exact HB.out)⟩⟩
           ·replace c20 := Bool.eq_false_iff.mpr c20
            subst c20
            rw [if_neg (show ¬ (false = true) by decide)] at H
            obtain rfl := Option.some.inj H
            have p216 : 0 ≤ (x31_2 : Int) := of_decide_eq_true sq
            have q216 : x31_2 < (l0_0.length : Int) := of_decide_eq_true sq
            obtain ⟨ad216, e216, hx216_0⟩ := Kd.at_int HR0_0.out x31_2 p216 q216
            cases e216
            replace hx216_0 := (HB.out.cell (World.block_lt_of_cell? w _ hx216_0)).trans hx216_0
            replace p216 := eq_true p216
            replace q216 := eq_true q216
            go_wp2_with (first | ((with_reducible refine gate_callee (f := 67) rfl ?_); refine goesL_ (some 37) rfl rfl Try.func67 (by kernel_rfl) rfl #[.int .i64 (rd l0_0 x31_2), .int .i64 0, .int .i64 1000000000] rfl aq ?_; (with_reducible refine (impl_within.calls (rd l0_0 x31_2) 0 1000000000 true _ A16.out).mono ?_); rintro e w' ⟨rfl, ⟨nd, rfl⟩⟩; refine ⟨_, rfl, ?_⟩; obtain ⟨hcz22_0, hcz22_1, hcz22_2, hfz22_0, hfz22_1, hfz22_2⟩ := cq3 BK213.out; have p218 : 0 ≤ (x31_2 : Int) := of_decide_eq_true sq; have q218 : x31_2 < (l0_1.length : Int) := of_decide_eq_true sq; obtain ⟨ad218, e218, hx218_0⟩ := Kd.at_int HR0_1.out x31_2 p218 q218; cases e218; replace hx218_0 := (HB.out.cell (World.block_lt_of_cell? w _ hx218_0)).trans hx218_0; replace p218 := eq_true p218; replace q218 := eq_true q218) | (go_at_call 67; (with_reducible refine (impl_within.calls (rd l0_1 x31_2) 0 1000 false _ A19.out).mono ?_); rintro e w' ⟨rfl, ⟨nd, rfl⟩⟩))
            go_ret
            exact ⟨by first | rfl | (simp [errW_none, errW_some] <;> rfl) | (simp [*, errW_none, errW_some] <;> rfl), by repeat (first | (with_reducible first | exact HB.out | apply below_alloc | apply pw_below_drewN | apply below_drew1 | refine below_set ?_ GE213.out) | exact HB.out)⟩
          ·rw [if_neg c18] at H
           exact absurd H (by simp)
         ·replace c17 := Bool.eq_false_iff.mpr c17
          subst c17
          rw [if_neg (show ¬ (false = true) by decide)] at H
          obtain rfl := Option.some.inj H
          have p216 : 0 ≤ (x31_2 : Int) := of_decide_eq_true sq
          have q216 : x31_2 < (l0_0.length : Int) := of_decide_eq_true sq
          obtain ⟨ad216, e216, hx216_0⟩ := Kd.at_int HR0_0.out x31_2 p216 q216
          cases e216
          replace hx216_0 := (HB.out.cell (World.block_lt_of_cell? w _ hx216_0)).trans hx216_0
          replace p216 := eq_true p216
          replace q216 := eq_true q216
          go_wp2_with (first | ((with_reducible refine gate_callee (f := 67) rfl ?_); refine goesL_ (some 37) rfl rfl Try.func67 (by kernel_rfl) rfl #[.int .i64 (rd l0_0 x31_2), .int .i64 0, .int .i64 1000000000] rfl aq ?_; (with_reducible refine (impl_within.calls (rd l0_0 x31_2) 0 1000000000 false _ A16.out).mono ?_); rintro e w' ⟨rfl, ⟨nd, rfl⟩⟩; refine ⟨_, rfl, ?_⟩))
          go_ret
          exact ⟨by first | rfl | (simp [errW_none, errW_some] <;> rfl) | (simp [*, errW_none, errW_some] <;> rfl), by repeat (first | (with_reducible first | exact HB.out | apply below_alloc | apply pw_below_drewN | apply below_drew1 | refine below_set ?_ GE213.out) | exact HB.out)⟩
        ·rw [if_neg c15] at H
         exact absurd H (by simp)
       ·rw [if_neg c14] at H
        exact absurd H (by simp)
      ·rw [if_neg c13] at H
       have c13b0 : decide (x31_2 < (l0_0.length : Int)) = false := decide_eq_false c13
       clear c13
       obtain rfl := Option.some.inj H
       go_wp2
       go_ret
       exact ⟨by first | rfl | (simp [errW_none, errW_some] <;> rfl) | (simp [*, errW_none, errW_some] <;> rfl), by repeat (first | (with_reducible first | exact HB.out | apply below_alloc | apply pw_below_drewN | apply below_drew1 | refine below_set ?_ GE213.out) | exact HB.out)⟩

/-! ### impl_isFee: function 119 -/
def impl_isFee.f (a0 : Int) : Option (Bool) := (impl_within.f a0 0 1000000).bind fun t220 => (some t220)
set_option maxHeartbeats 8000000 in
set_option maxRecDepth 100000 in
theorem impl_isFee.calls (a0 : Int) (r : Bool) (w : World) (h : impl_isFee.f a0 = some r) :
  Calls Try.prog 119 #[.int .i64 a0] w fun e w' => e = .returned (.bool r) ∧ Drawn0 w w' := by
 have H : ((impl_within.f a0 0 1000000).bind fun t220 => (some t220)) = some r := h
 clear h
 replace H := Option.bind_eq_some_iff.mp H
 obtain ⟨t220, A20, H⟩ := H
 have A2 := Aside0.mk A20
 clear A20
 obtain rfl := Option.some.inj H
 go_enter Try.func119, Try.ntmps119
 go_wp2_with (first | ((with_reducible refine gate_callee (f := 67) rfl ?_); refine goesL_ (some 4) rfl rfl Try.func67 (by kernel_rfl) rfl #[.int .i64 a0, .int .i64 0, .int .i64 1000000] rfl aq ?_; (with_reducible refine (impl_within.calls a0 0 1000000 t220 _ A2.out).mono ?_); rintro e w' ⟨rfl, ⟨nd, rfl⟩⟩; refine ⟨_, rfl, ?_⟩))
 go_ret
 exact ⟨by first | rfl | (simp; done) | (simp [*]; done), by repeat (first | exact Drawn0.refl _ | apply Drawn0.step)⟩

/-! ### impl_isUsed: function 120 -/
def impl_isUsed.f (a0 : Int) : Option (Bool) := (impl_within.f a0 1 80).bind fun t221 => (some t221)
set_option maxHeartbeats 8000000 in
set_option maxRecDepth 100000 in
theorem impl_isUsed.calls (a0 : Int) (r : Bool) (w : World) (h : impl_isUsed.f a0 = some r) :
  Calls Try.prog 120 #[.int .i64 a0] w fun e w' => e = .returned (.bool r) ∧ Drawn0 w w' := by
 have H : ((impl_within.f a0 1 80).bind fun t221 => (some t221)) = some r := h
 clear h
 replace H := Option.bind_eq_some_iff.mp H
 obtain ⟨t221, A20, H⟩ := H
 have A2 := Aside0.mk A20
 clear A20
 obtain rfl := Option.some.inj H
 go_enter Try.func120, Try.ntmps120
 go_wp2_with (first | ((with_reducible refine gate_callee (f := 67) rfl ?_); refine goesL_ (some 4) rfl rfl Try.func67 (by kernel_rfl) rfl #[.int .i64 a0, .int .i64 1, .int .i64 80] rfl aq ?_; (with_reducible refine (impl_within.calls a0 1 80 t221 _ A2.out).mono ?_); rintro e w' ⟨rfl, ⟨nd, rfl⟩⟩; refine ⟨_, rfl, ?_⟩))
 go_ret
 exact ⟨by first | rfl | (simp; done) | (simp [*]; done), by repeat (first | exact Drawn0.refl _ | apply Drawn0.step)⟩

/-! ### impl_isWish: function 97 -/
def impl_isWish.f (l0_0 : List Int) (l0_1 : List Int) (a0_2 : Int) (a1_0 : Int) (a1_1 : Int) (a1_2 : Int) (a1_3 : Int) (a1_4 : Int) (a1_5 : Int) (a1_6 : Int) : Option (Bool) := (impl_within.f a1_0 0 (wrap64 ((l0_0.length : Int) - 1))).bind fun t224 => (if t224 = true then ((impl_within.f a1_1 0 (wrap64 ((l0_0.length : Int) - 1))).bind fun t225 => (if t225 = true then ((impl_within.f a1_2 0 1000000000).bind fun t226 => (if t226 = true then ((impl_within.f a1_3 0 1000).bind fun t227 => (if t227 = true then ((impl_isFee.f a1_4).bind fun t228 => (if t228 = true then ((impl_isFee.f a1_5).bind fun t229 => (if t229 = true then ((impl_isUsed.f a1_6).bind fun t230 => (some t230)) else (some false))) else (some false))) else (some false))) else (some false))) else (some false))) else (some false))
set_option maxHeartbeats 8000000 in
set_option maxRecDepth 100000 in
theorem impl_isWish.calls (A0_0 : Option Addr) (c0_0 : Nat) (l0_0 : List Int) (A0_1 : Option Addr) (c0_1 : Nat) (l0_1 : List Int) (a0_2 : Int) (a1_0 : Int) (a1_1 : Int) (a1_2 : Int) (a1_3 : Int) (a1_4 : Int) (a1_5 : Int) (a1_6 : Int) (r : Bool) (w : World) (hr0_0 : Kd.C (Kd.int .i64) w A0_0 l0_0.length l0_0) (hc0_0 : l0_0.length ≤ c0_0) (hr0_1 : Kd.C (Kd.int .i64) w A0_1 l0_1.length l0_1) (hc0_1 : l0_1.length ≤ c0_1) (h : impl_isWish.f l0_0 l0_1 a0_2 a1_0 a1_1 a1_2 a1_3 a1_4 a1_5 a1_6 = some r) :
  Calls Try.prog 97 #[.agg #[.slice A0_0 l0_0.length c0_0, .slice A0_1 l0_1.length c0_1, .int .i64 a0_2], .agg #[.int .i64 a1_0, .int .i64 a1_1, .int .i64 a1_2, .int .i64 a1_3, .int .i64 a1_4, .int .i64 a1_5, .int .i64 a1_6]] w fun e w' => e = .returned (.bool r) ∧ Below w.heap.size w w' := by
 have hu28 := Try.underlying28
 have hu32 := Try.underlying32
 have HR0_0 := Aside0.mk hr0_0
 have HC0_0 := Aside0.mk hc0_0
 clear hr0_0 hc0_0
 have HR0_1 := Aside0.mk hr0_1
 have HC0_1 := Aside0.mk hc0_1
 clear hr0_1 hc0_1
 have HB := Aside0.mk (Below.refl w.heap.size w)
 have H : ((impl_within.f a1_0 0 (wrap64 ((l0_0.length : Int) - 1))).bind fun t224 => (if t224 = true then ((impl_within.f a1_1 0 (wrap64 ((l0_0.length : Int) - 1))).bind fun t225 => (if t225 = true then ((impl_within.f a1_2 0 1000000000).bind fun t226 => (if t226 = true then ((impl_within.f a1_3 0 1000).bind fun t227 => (if t227 = true then ((impl_isFee.f a1_4).bind fun t228 => (if t228 = true then ((impl_isFee.f a1_5).bind fun t229 => (if t229 = true then ((impl_isUsed.f a1_6).bind fun t230 => (some t230)) else (some false))) else (some false))) else (some false))) else (some false))) else (some false))) else (some false))) = some r := h
 clear h
 replace H := Option.bind_eq_some_iff.mp H
 obtain ⟨t224, A30, H⟩ := H
 have A3 := Aside0.mk A30
 clear A30
 by_cases c4 : t224 = true
 focus
  subst c4
  rw [if_pos rfl] at H
  replace H := Option.bind_eq_some_iff.mp H
  obtain ⟨t225, A50, H⟩ := H
  have A5 := Aside0.mk A50
  clear A50
  by_cases c6 : t225 = true
  focus
   subst c6
   rw [if_pos rfl] at H
   replace H := Option.bind_eq_some_iff.mp H
   obtain ⟨t226, A70, H⟩ := H
   have A7 := Aside0.mk A70
   clear A70
   by_cases c8 : t226 = true
   focus
    subst c8
    rw [if_pos rfl] at H
    replace H := Option.bind_eq_some_iff.mp H
    obtain ⟨t227, A90, H⟩ := H
    have A9 := Aside0.mk A90
    clear A90
    by_cases c10 : t227 = true
    focus
     subst c10
     rw [if_pos rfl] at H
     replace H := Option.bind_eq_some_iff.mp H
     obtain ⟨t228, A110, H⟩ := H
     have A11 := Aside0.mk A110
     clear A110
     by_cases c12 : t228 = true
     focus
      subst c12
      rw [if_pos rfl] at H
      replace H := Option.bind_eq_some_iff.mp H
      obtain ⟨t229, A130, H⟩ := H
      have A13 := Aside0.mk A130
      clear A130
      by_cases c14 : t229 = true
      focus
       subst c14
       rw [if_pos rfl] at H
       replace H := Option.bind_eq_some_iff.mp H
       obtain ⟨t230, A150, H⟩ := H
       have A15 := Aside0.mk A150
       clear A150
       obtain rfl := Option.some.inj H
      rotate_left
      focus
       replace c14 := Bool.eq_false_iff.mpr c14
       subst c14
       rw [if_neg (show ¬ (false = true) by decide)] at H
       obtain rfl := Option.some.inj H
     rotate_left 2
     focus
      replace c12 := Bool.eq_false_iff.mpr c12
      subst c12
      rw [if_neg (show ¬ (false = true) by decide)] at H
      obtain rfl := Option.some.inj H
    rotate_left 3
    focus
     replace c10 := Bool.eq_false_iff.mpr c10
     subst c10
     rw [if_neg (show ¬ (false = true) by decide)] at H
     obtain rfl := Option.some.inj H
   rotate_left 4
   focus
    replace c8 := Bool.eq_false_iff.mpr c8
    subst c8
    rw [if_neg (show ¬ (false = true) by decide)] at H
    obtain rfl := Option.some.inj H
  rotate_left 5
  focus
   replace c6 := Bool.eq_false_iff.mpr c6
   subst c6
   rw [if_neg (show ¬ (false = true) by decide)] at H
   obtain rfl := Option.some.inj H
 rotate_left 6
 focus
  replace c4 := Bool.eq_false_iff.mpr c4
  subst c4
  rw [if_neg (show ¬ (false = true) by decide)] at H
  obtain rfl := Option.some.inj H
 all_goals
  go_enter Try.func97, Try.ntmps97
  go_wp2_with (first | ((with_reducible refine gate_dst (N := 2) rfl ?_); refine box_event ?hg (N := 2) ?hd (cs := #[.slice A0_0 l0_0.length c0_0, .slice A0_1 l0_1.length c0_1, .int .i64 a0_2]) (t := 28) ?hr ?_; (case hd => rfl); (case hg => rfl); (case hr => first | (go_simp; done) | (go_simp; rfl)); intro gb222 hg w_222 hbox hb; have n_ := And.intro (Aside0.mk (below_step (bw0 HB.out) hb)) (And.intro (Aside0.mk (hbox)) (Aside0.mk ((by rw [hg]; exact (below_size (bw0 HB.out)) : w.heap.size ≤ gb222)))); clear HB; obtain ⟨HB, BK222, GW222⟩ := n_; have GE222 := GW222; clear hb hbox hg) | ((with_reducible refine gate_dst (N := 3) rfl ?_); refine box_event ?hg (N := 3) ?hd (cs := #[.int .i64 a1_0, .int .i64 a1_1, .int .i64 a1_2, .int .i64 a1_3, .int .i64 a1_4, .int .i64 a1_5, .int .i64 a1_6]) (t := 32) ?hr ?_; (case hd => rfl); (case hg => rfl); (case hr => first | (go_simp; done) | (go_simp; rfl)); intro gb223 hg w_223 hbox hb; have n_ := And.intro (Aside0.mk (bbq BK222.out hb)) (And.intro (Aside0.mk (below_step (bw1 HB.out GE222.out) hb)) (And.intro (Aside0.mk (hbox)) (And.intro (Aside0.mk ((by rw [hg]; exact (below_size (bw1 HB.out GE222.out)) : w.heap.size ≤ gb223))) (And.intro (Aside0.mk ((nlq BK222.out hg))) (Aside0.mk ((ngq BK222.out hg))))))); clear BK222 HB; obtain ⟨BK222, HB, BK223, GW223, NB222_223, NB223_222⟩ := n_; have GE223 := GW223; clear hb hbox hg; have hnb223a := NB222_223.out; have hnc223a := NB223_222.out; have hcz223a_0 : w_223.cell? ⟨gb222, 0, none⟩ = some (.slice A0_0 l0_0.length c0_0) := (blk_cell BK222.out 0).trans rfl; have hcz223a_1 : w_223.cell? ⟨gb222, 1, none⟩ = some (.slice A0_1 l0_1.length c0_1) := (blk_cell BK222.out 1).trans rfl; have hcz223a_2 : w_223.cell? ⟨gb222, 2, none⟩ = some (.int .i64 a0_2) := (blk_cell BK222.out 2).trans rfl; have hfz223a_0 := blk_frozen BK222.out 0; have hfz223a_1 := blk_frozen BK222.out 1; have hfz223a_2 := blk_frozen BK222.out 2; have hcz223b_0 : w_223.cell? ⟨gb223, 0, none⟩ = some (.int .i64 a1_0) := (blk_cell BK223.out 0).trans rfl; have hcz223b_1 : w_223.cell? ⟨gb223, 1, none⟩ = some (.int .i64 a1_1) := (blk_cell BK223.out 1).trans rfl; have hcz223b_2 : w_223.cell? ⟨gb223, 2, none⟩ = some (.int .i64 a1_2) := (blk_cell BK223.out 2).trans rfl; have hcz223b_3 : w_223.cell? ⟨gb223, 3, none⟩ = some (.int .i64 a1_3) := (blk_cell BK223.out 3).trans rfl; have hcz223b_4 : w_223.cell? ⟨gb223, 4, none⟩ = some (.int .i64 a1_4) := (blk_cell BK223.out 4).trans rfl; have hcz223b_5 : w_223.cell? ⟨gb223, 5, none⟩ = some (.int .i64 a1_5) := (blk_cell BK223.out 5).trans rfl; have hcz223b_6 : w_223.cell? ⟨gb223, 6, none⟩ = some (.int .i64 a1_6) := (blk_cell BK223.out 6).trans rfl; have hfz223b_0 := blk_frozen BK223.out 0; have hfz223b_1 := blk_frozen BK223.out 1; have hfz223b_2 := blk_frozen BK223.out 2; have hfz223b_3 := blk_frozen BK223.out 3; have hfz223b_4 := blk_frozen BK223.out 4; have hfz223b_5 := blk_frozen BK223.out 5; have hfz223b_6 := blk_frozen BK223.out 6) | ((with_reducible refine gate_callee (f := 67) rfl ?_); refine goesL_ (some 13) rfl rfl Try.func67 (by kernel_rfl) rfl #[.int .i64 a1_0, .int .i64 0, .int .i64 (wrap64 ((l0_0.length : Int) - 1))] rfl aq ?_; (with_reducible refine (impl_within.calls a1_0 0 (wrap64 ((l0_0.length : Int) - 1)) true _ A3.out).mono ?_); rintro e w' ⟨rfl, ⟨nd, rfl⟩⟩; refine ⟨_, rfl, ?_⟩) | (go_at_call 67; (with_reducible refine (impl_within.calls a1_1 0 (wrap64 ((l0_0.length : Int) - 1)) true _ A5.out).mono ?_); rintro e w' ⟨rfl, ⟨nd, rfl⟩⟩) | (go_at_call 67; (with_reducible refine (impl_within.calls a1_2 0 1000000000 true _ A7.out).mono ?_); rintro e w' ⟨rfl, ⟨nd, rfl⟩⟩) | (go_at_call 67; (with_reducible refine (impl_within.calls a1_3 0 1000 true _ A9.out).mono ?_); rintro e w' ⟨rfl, ⟨nd, rfl⟩⟩) | (go_at_call 119; (with_reducible refine (impl_isFee.calls a1_4 true _ A11.out).mono ?_); rintro e w' ⟨rfl, ⟨nd, rfl⟩⟩) | (go_at_call 119; (with_reducible refine (impl_isFee.calls a1_5 true _ A13.out).mono ?_); rintro e w' ⟨rfl, ⟨nd, rfl⟩⟩) | (go_at_call 120; (with_reducible refine (impl_isUsed.calls a1_6 t230 _ A15.out).mono ?_); rintro e w' ⟨rfl, ⟨nd, rfl⟩⟩) | (go_at_call 119; (with_reducible refine (impl_isFee.calls a1_5 false _ A13.out).mono ?_); rintro e w' ⟨rfl, ⟨nd, rfl⟩⟩) | (go_at_call 119; (with_reducible refine (impl_isFee.calls a1_4 false _ A11.out).mono ?_); rintro e w' ⟨rfl, ⟨nd, rfl⟩⟩) | (go_at_call 67; (with_reducible refine (impl_within.calls a1_3 0 1000 false _ A9.out).mono ?_); rintro e w' ⟨rfl, ⟨nd, rfl⟩⟩) | (go_at_call 67; (with_reducible refine (impl_within.calls a1_2 0 1000000000 false _ A7.out).mono ?_); rintro e w' ⟨rfl, ⟨nd, rfl⟩⟩) | (go_at_call 67; (with_reducible refine (impl_within.calls a1_1 0 (wrap64 ((l0_0.length : Int) - 1)) false _ A5.out).mono ?_); rintro e w' ⟨rfl, ⟨nd, rfl⟩⟩) | ((with_reducible refine gate_callee (f := 67) rfl ?_); refine goesL_ (some 13) rfl rfl Try.func67 (by kernel_rfl) rfl #[.int .i64 a1_0, .int .i64 0, .int .i64 (wrap64 ((l0_0.length : Int) - 1))] rfl aq ?_; (with_reducible refine (impl_within.calls a1_0 0 (wrap64 ((l0_0.length : Int) - 1)) false _ A3.out).mono ?_); rintro e w' ⟨rfl, ⟨nd, rfl⟩⟩; refine ⟨_, rfl, ?_⟩))
  go_ret
  exact ⟨by first | rfl | (simp [errW_none, errW_some] <;> rfl) | (simp [*, errW_none, errW_some] <;> rfl), by repeat (first | (with_reducible first | exact HB.out | apply below_alloc | apply pw_below_drewN | apply below_drew1 | refine below_set ?_ GE222.out | refine below_set ?_ GE223.out) | exact HB.out)⟩

/-! ### impl_GoodWish: function 65 -/
def impl_GoodWish.f (k : Nat) (l0_0 : List Int) (l0_1 : List Int) (a0_2 : Int) (a1_0 : Int) (a1_1 : Int) (a1_2 : Int) (a1_3 : Int) (a1_4 : Int) (a1_5 : Int) (a1_6 : Int) : Option (Bool) := (impl_isState.f k l0_0 l0_1 a0_2).bind fun t233 => (if t233 = true then ((impl_isWish.f l0_0 l0_1 a0_2 a1_0 a1_1 a1_2 a1_3 a1_4 a1_5 a1_6).bind fun t234 => (some t234)) else (some false))
theorem impl_GoodWish.mono : ∀ a0 a1 a2 a3 a4 a5 a6 a7 a8 a9 k, LeO (impl_GoodWish.f k a0 a1 a2 a3 a4 a5 a6 a7 a8 a9) (impl_GoodWish.f (k + 1) a0 a1 a2 a3 a4 a5 a6 a7 a8 a9) := by
 intro a0 a1 a2 a3 a4 a5 a6 a7 a8 a9 k
 unfold impl_GoodWish.f
 repeat' first
   | (with_reducible exact impl_isState.mono _ _ _ _)
   | (with_reducible exact LeO.refl _)
   | (with_reducible exact LeO.none _)
   | (with_reducible refine LeO.ite ?_ ?_)
   | (with_reducible refine LeO.bind ?_ (fun _ => ?_))
   | exact impl_isState.mono _ _ _ _
   | exact LeO.none _
   | refine LeO.ite ?_ ?_
   | refine LeO.bind ?_ (fun _ => ?_)
set_option maxHeartbeats 8000000 in
set_option maxRecDepth 100000 in
theorem impl_GoodWish.calls (k : Nat) (A0_0 : Option Addr) (c0_0 : Nat) (l0_0 : List Int) (A0_1 : Option Addr) (c0_1 : Nat) (l0_1 : List Int) (a0_2 : Int) (a1_0 : Int) (a1_1 : Int) (a1_2 : Int) (a1_3 : Int) (a1_4 : Int) (a1_5 : Int) (a1_6 : Int) (r : Bool) (w : World) (hr0_0 : Kd.C (Kd.int .i64) w A0_0 l0_0.length l0_0) (hc0_0 : l0_0.length ≤ c0_0) (hr0_1 : Kd.C (Kd.int .i64) w A0_1 l0_1.length l0_1) (hc0_1 : l0_1.length ≤ c0_1) (h : impl_GoodWish.f k l0_0 l0_1 a0_2 a1_0 a1_1 a1_2 a1_3 a1_4 a1_5 a1_6 = some r) :
  Calls Try.prog 65 #[.agg #[.slice A0_0 l0_0.length c0_0, .slice A0_1 l0_1.length c0_1, .int .i64 a0_2], .agg #[.int .i64 a1_0, .int .i64 a1_1, .int .i64 a1_2, .int .i64 a1_3, .int .i64 a1_4, .int .i64 a1_5, .int .i64 a1_6]] w fun e w' => e = .returned (.bool r) ∧ Below w.heap.size w w' := by
 have hu28 := Try.underlying28
 have hu32 := Try.underlying32
 have HR0_0 := Aside0.mk hr0_0
 have HC0_0 := Aside0.mk hc0_0
 clear hr0_0 hc0_0
 have HR0_1 := Aside0.mk hr0_1
 have HC0_1 := Aside0.mk hc0_1
 clear hr0_1 hc0_1
 have HB := Aside0.mk (Below.refl w.heap.size w)
 have H : ((impl_isState.f k l0_0 l0_1 a0_2).bind fun t233 => (if t233 = true then ((impl_isWish.f l0_0 l0_1 a0_2 a1_0 a1_1 a1_2 a1_3 a1_4 a1_5 a1_6).bind fun t234 => (some t234)) else (some false))) = some r := h
 clear h
 replace H := Option.bind_eq_some_iff.mp H
 obtain ⟨t233, A30, H⟩ := H
 have A3 := Aside0.mk A30
 clear A30
 by_cases c4 : t233 = true
 ·subst c4
  rw [if_pos rfl] at H
  replace H := Option.bind_eq_some_iff.mp H
  obtain ⟨t234, A50, H⟩ := H
  have A5 := Aside0.mk A50
  clear A50
  obtain rfl := Option.some.inj H
  go_enter Try.func65, Try.ntmps65
  go_wp2_with (first | ((with_reducible refine gate_dst (N := 2) rfl ?_); refine box_event ?hg (N := 2) ?hd (cs := #[.slice A0_0 l0_0.length c0_0, .slice A0_1 l0_1.length c0_1, .int .i64 a0_2]) (t := 28) ?hr ?_; (case hd => rfl); (case hg => rfl); (case hr => first | (go_simp; done) | (go_simp; rfl)); intro gb231 hg w6 hbox hb; have n_ := And.intro (Aside0.mk (below_step (bw0 HB.out) hb)) (And.intro (Aside0.mk (hbox)) (Aside0.mk ((by rw [hg]; exact (below_size (bw0 HB.out)) : w.heap.size ≤ gb231)))); clear HB; obtain ⟨HB, BK231, GW231⟩ := n_; have GE231 := GW231; clear hb hbox hg) | ((with_reducible refine gate_dst (N := 3) rfl ?_); refine box_event ?hg (N := 3) ?hd (cs := #[.int .i64 a1_0, .int .i64 a1_1, .int .i64 a1_2, .int .i64 a1_3, .int .i64 a1_4, .int .i64 a1_5, .int .i64 a1_6]) (t := 32) ?hr ?_; (case hd => rfl); (case hg => rfl); (case hr => first | (go_simp; done) | (go_simp; rfl)); intro gb232 hg w7 hbox hb; have n_ := And.intro (Aside0.mk (bbq BK231.out hb)) (And.intro (Aside0.mk (below_step (bw1 HB.out GE231.out) hb)) (And.intro (Aside0.mk (hbox)) (And.intro (Aside0.mk ((by rw [hg]; exact (below_size (bw1 HB.out GE231.out)) : w.heap.size ≤ gb232))) (And.intro (Aside0.mk ((nlq BK231.out hg))) (Aside0.mk ((ngq BK231.out hg))))))); clear BK231 HB; obtain ⟨BK231, HB, BK232, GW232, NB231_232, NB232_231⟩ := n_; have GE232 := GW232; clear hb hbox hg; have hnb8 := NB231_232.out; have hnc8 := NB232_231.out; obtain ⟨hcz9_0, hcz9_1, hcz9_2, hfz9_0, hfz9_1, hfz9_2⟩ := cq3 BK231.out) | ((with_reducible refine gate_callee (f := 72) rfl ?_); refine goesL_ (some 6) rfl rfl Try.func72 (by kernel_rfl) rfl #[.agg #[.slice A0_0 l0_0.length c0_0, .slice A0_1 l0_1.length c0_1, .int .i64 a0_2]] rfl aq ?_; (with_reducible refine (impl_isState.calls k _ _ l0_0 _ _ l0_1 a0_2 true _ ?side1 ?side2 ?side3 ?side4 A3.out).mono ?_); (case side1 => exact caq (Kd.C_below HR0_0.out HB.out)); (case side2 => exact HC0_0.out); (case side3 => exact caq (Kd.C_below HR0_1.out HB.out)); (case side4 => exact HC0_1.out); rintro e w10 ⟨rfl, hb⟩; refine ⟨_, rfl, ?_⟩; have n_ := And.intro (Aside0.mk (bbq BK231.out hb)) (And.intro (Aside0.mk (bbq BK232.out hb)) (Aside0.mk (below_step (bw2 HB.out GE231.out GE232.out) hb))); clear BK231 BK232 HB; obtain ⟨BK231, BK232, HB⟩ := n_; (try clear hb); (try clear hb2); (try clear hk); (try clear hi); obtain ⟨hcz11_0, hcz11_1, hcz11_2, hfz11_0, hfz11_1, hfz11_2⟩ := cq3 BK231.out; obtain ⟨hcz12_0, hcz12_1, hcz12_2, hcz12_3, hcz12_4, hcz12_5, hcz12_6, hfz12_0, hfz12_1, hfz12_2, hfz12_3, hfz12_4, hfz12_5, hfz12_6⟩ := cq7 BK232.out) | (go_at_call 97; (with_reducible refine (impl_isWish.calls _ _ l0_0 _ _ l0_1 a0_2 a1_0 a1_1 a1_2 a1_3 a1_4 a1_5 a1_6 t234 _ ?side1 ?side2 ?side3 ?side4 A5.out).mono ?_); (case side1 => exact caq (Kd.C_below HR0_0.out HB.out)); (case side2 => exact HC0_0.out); (case side3 => exact caq (Kd.C_below HR0_1.out HB.out)); (case side4 => exact HC0_1.out); rintro e w13 ⟨rfl, hb⟩; have n_ := And.intro (Aside0.mk (bbq BK231.out hb)) (And.intro (Aside0.mk (bbq BK232.out hb)) (Aside0.mk (below_step (bw2 HB.out GE231.out GE232.out) hb))); clear BK231 BK232 HB; obtain ⟨BK231, BK232, HB⟩ := n_; (try clear hb); (try clear hb2); (try clear hk); (try clear hi)))
  go_ret
  exact ⟨by first | rfl | (simp [errW_none, errW_some] <;> rfl) | (simp [*, errW_none, errW_some] <;> rfl), by repeat (first | (with_reducible first | exact HB.out | apply below_alloc | apply pw_below_drewN | apply below_drew1 | refine below_set ?_ GE231.out | refine below_set ?_ GE232.out) | exact HB.out)⟩
 ·replace c4 := Bool.eq_false_iff.mpr c4
  subst c4
  rw [if_neg (show ¬ (false = true) by decide)] at H
  obtain rfl := Option.some.inj H
  go_enter Try.func65, Try.ntmps65
  go_wp2_with (first | ((with_reducible refine gate_dst (N := 2) rfl ?_); refine box_event ?hg (N := 2) ?hd (cs := #[.slice A0_0 l0_0.length c0_0, .slice A0_1 l0_1.length c0_1, .int .i64 a0_2]) (t := 28) ?hr ?_; (case hd => rfl); (case hg => rfl); (case hr => first | (go_simp; done) | (go_simp; rfl)); intro gb231 hg w14 hbox hb; have n_ := And.intro (Aside0.mk (below_step (bw0 HB.out) hb)) (And.intro (Aside0.mk (hbox)) (Aside0.mk ((by rw [hg]; exact (below_size (bw0 HB.out)) : w.heap.size ≤ gb231)))); clear HB; obtain ⟨HB, BK231, GW231⟩ := n_; have GE231 := GW231; clear hb hbox hg) | ((with_reducible refine gate_dst (N := 3) rfl ?_); refine box_event ?hg (N := 3) ?hd (cs := #[.int .i64 a1_0, .int .i64 a1_1, .int .i64 a1_2, .int .i64 a1_3, .int .i64 a1_4, .int .i64 a1_5, .int .i64 a1_6]) (t := 32) ?hr ?_; (case hd => rfl); (case hg => rfl); (case hr => first | (go_simp; done) | (go_simp; rfl)); intro gb232 hg w15 hbox hb; have n_ := And.intro (Aside0.mk (bbq BK231.out hb)) (And.intro (Aside0.mk (below_step (bw1 HB.out GE231.out) hb)) (And.intro (Aside0.mk (hbox)) (And.intro (Aside0.mk ((by rw [hg]; exact (below_size (bw1 HB.out GE231.out)) : w.heap.size ≤ gb232))) (And.intro (Aside0.mk ((nlq BK231.out hg))) (Aside0.mk ((ngq BK231.out hg))))))); clear BK231 HB; obtain ⟨BK231, HB, BK232, GW232, NB231_232, NB232_231⟩ := n_; have GE232 := GW232; clear hb hbox hg; have hnb16 := NB231_232.out; have hnc16 := NB232_231.out; obtain ⟨hcz17_0, hcz17_1, hcz17_2, hfz17_0, hfz17_1, hfz17_2⟩ := cq3 BK231.out) | ((with_reducible refine gate_callee (f := 72) rfl ?_); refine goesL_ (some 6) rfl rfl Try.func72 (by kernel_rfl) rfl #[.agg #[.slice A0_0 l0_0.length c0_0, .slice A0_1 l0_1.length c0_1, .int .i64 a0_2]] rfl aq ?_; (with_reducible refine (impl_isState.calls k _ _ l0_0 _ _ l0_1 a0_2 false _ ?side1 ?side2 ?side3 ?side4 A3.out).mono ?_); (case side1 => exact caq (Kd.C_below HR0_0.out HB.out)); (case side2 => exact HC0_0.out); (case side3 => exact caq (Kd.C_below HR0_1.out HB.out)); (case side4 => exact HC0_1.out); rintro e w18 ⟨rfl, hb⟩; refine ⟨_, rfl, ?_⟩; have n_ := And.intro (Aside0.mk (bbq BK231.out hb)) (And.intro (Aside0.mk (bbq BK232.out hb)) (Aside0.mk (below_step (bw2 HB.out GE231.out GE232.out) hb))); clear BK231 BK232 HB; obtain ⟨BK231, BK232, HB⟩ := n_; (try clear hb); (try clear hb2); (try clear hk); (try clear hi)))
  go_ret
  exact ⟨by first | rfl | (simp [errW_none, errW_some] <;> rfl) | (simp [*, errW_none, errW_some] <;> rfl), by repeat (first | (with_reducible first | exact HB.out | apply below_alloc | apply pw_below_drewN | apply below_drew1 | refine below_set ?_ GE231.out | refine below_set ?_ GE232.out) | exact HB.out)⟩

/-! ### impl_isPrice: function 66 -/
def impl_isPrice.f (a0 : Int) : Option (Bool) := (impl_within.f a0 8 1000000).bind fun t235 => (some t235)
set_option maxHeartbeats 8000000 in
set_option maxRecDepth 100000 in
theorem impl_isPrice.calls (a0 : Int) (r : Bool) (w : World) (h : impl_isPrice.f a0 = some r) :
  Calls Try.prog 66 #[.int .i64 a0] w fun e w' => e = .returned (.bool r) ∧ Drawn0 w w' := by
 have H : ((impl_within.f a0 8 1000000).bind fun t235 => (some t235)) = some r := h
 clear h
 replace H := Option.bind_eq_some_iff.mp H
 obtain ⟨t235, A20, H⟩ := H
 have A2 := Aside0.mk A20
 clear A20
 obtain rfl := Option.some.inj H
 go_enter Try.func66, Try.ntmps66
 go_wp2_with (first | ((with_reducible refine gate_callee (f := 67) rfl ?_); refine goesL_ (some 4) rfl rfl Try.func67 (by kernel_rfl) rfl #[.int .i64 a0, .int .i64 8, .int .i64 1000000] rfl aq ?_; (with_reducible refine (impl_within.calls a0 8 1000000 t235 _ A2.out).mono ?_); rintro e w' ⟨rfl, ⟨nd, rfl⟩⟩; refine ⟨_, rfl, ?_⟩))
 go_ret
 exact ⟨by first | rfl | (simp; done) | (simp [*]; done), by repeat (first | exact Drawn0.refl _ | apply Drawn0.step)⟩

/-! ### slices_Clone_int_int: function 98 -/
def slices_Clone_int_int.f (l0 : List Int) : Option (List Int) := (some (([] : List Int) : List Int)).bind fun y236 => (if y236.length + l0.length < 17592186044416 then (some (y236 ++ l0)) else (none))
set_option maxHeartbeats 8000000 in
set_option maxRecDepth 100000 in
theorem slices_Clone_int_int.calls_some (ad0 : Addr) (c0 : Nat) (l0 : List Int) (r : List Int) (w : World) (hr0 : Kd.C (Kd.int .i64) w (some ad0) l0.length l0) (hc0 : l0.length ≤ c0) (h : slices_Clone_int_int.f l0 = some r) :
    Calls Try.prog 98 #[.slice (some ad0) l0.length c0] w fun e w' => ∃ v0_ : Value, e = .returned (v0_) ∧ Kd.R (Kd.int .i64) 3 w' w.heap.size (fun _ => True) v0_ r ∧ Below w.heap.size w w' := by
  have HR0 := Aside0.mk hr0
  have HC0 := Aside0.mk hc0
  clear hr0 hc0
  have HB := Aside0.mk (Below.refl w.heap.size w)
  have H : ((some (([] : List Int) : List Int)).bind fun y236 => (if y236.length + l0.length < 17592186044416 then (some (y236 ++ l0)) else (none))) = some r := h
  clear h
  obtain ⟨y236, hy236⟩ : ∃ y_ : List Int, y_ = (([] : List Int)) := ⟨_, rfl⟩
  replace H : (if y236.length + l0.length < 17592186044416 then (some (y236 ++ l0)) else (none)) = some r := by first | (rw [hy236]; with_reducible exact H) | (have H2_ := (Option.bind_some _ _).symm.trans H; rw [hy236]; with_reducible exact H2_) | (have H2_ := (Option.bind_some _ _).symm.trans H; with_reducible exact H2_) | with_reducible exact H | (rw [hy236]; exact H) | exact H
  have Ny236 := Aside0.mk hy236
  clear hy236
  by_cases c2 : y236.length + l0.length < 17592186044416
  · rw [if_pos c2] at H
    have LMc2 := Aside0.mk c2
    clear c2
    obtain ⟨y239, hy239⟩ : ∃ y_ : List Int, y_ = (y236 ++ l0) := ⟨_, rfl⟩
    replace H : (some y239) = some r := by first | (rw [hy239]; with_reducible exact H) | (have H2_ := (Option.bind_some _ _).symm.trans H; rw [hy239]; with_reducible exact H2_) | (have H2_ := (Option.bind_some _ _).symm.trans H; with_reducible exact H2_) | with_reducible exact H | (rw [hy239]; exact H) | exact H
    have Ny239 := Aside0.mk hy239
    clear hy239
    obtain rfl := Option.some.inj H
    have enil := fun (w_ : World) (n_ c_ : Nat) => Go.Lib.run_eql_slice_nil (P := Try.prog) w_ 22 _ (some ad0) n_ c_ 0 0 Try.underlying22
    simp only [Option.isNone_some] at enil
    go_enter Try.func98, Try.ntmps98
    go_wp2_with (first | ((with_reducible refine gate_dst (N := 5) rfl ?_); refine Kd.R_lit (Kd.int .i64) _ 3 ?hg (N := 5) ?hd (xs := ([] : List Int)) (inner := []) (ok := fun _ => True) (okp := fun _ => True) ?hr ?hp (fun _ hk => hk) trivial (Below.refl _ _) (Nat.le_refl _) (by simp) ?_; (case hd => rfl); (case hg => rfl); (case hr => first | (go_simp; done) | (go_simp; rfl)); (case hp => exact (Reps.none _ _)); intro v237 w3 ho4 hb hg_ hnew_; clear hg_ hnew_; (first | rw [← Ny236.out] at ho4 | (simp only [Int.reduceToNat] at ho4; rw [← Ny236.out] at ho4)); have n0_ := Aside0.mk (Kd.R_lower ho4 (below_size (by repeat (first | (with_reducible first | exact HB.out | apply below_alloc | apply pw_below_drewN | apply below_drew1) | exact HB.out)))); have n1_ := Aside0.mk (below_step (by repeat (first | (with_reducible first | exact HB.out | apply below_alloc | apply pw_below_drewN | apply below_drew1) | exact HB.out)) hb); clear HB; have HO238 := n0_; have HB := n1_; clear n0_ n1_; clear hb ho4) | ((with_reducible refine gate_builtin (b := .append) (xs := #[.tmp 5, .tmp 6]) rfl ?_); at_builtin; refine Kd.R_append_rows (Kd.int .i64) (w0 := w) w.heap.size rfl (.tmp 5) (.tmp 6) 22 3 (.int .i64 0) 8 rfl Try.underlying22 info3 rfl (by decide) (by omega) v237 y236 l0 _ _ _ (fun _ => True) (fun _ => False) rfl rfl ?aO ?aR (fun _ _ h => h) (fun _ h => h.elim) ?aF ?aB ?aS ?aL ?_; (case aR => repeat (first | exact (Kd.C_below HR0.out HB.out) | (with_reducible refine Kd.C_alloc ?_ _) | (with_reducible refine Kd.C_drewN ?_ _) | (with_reducible refine Kd.C_drew ?_))); (case aB => exact (by repeat (first | (with_reducible first | exact HB.out | apply below_alloc | apply pw_below_drewN | apply below_drew1) | exact HB.out))); (case aF => exact (fun _ _ => trivial)); (case aO => exact (by (with_reducible repeat (first | apply Kd.R_alloc | apply Kd.R_drewN | apply Kd.R_drew)); exact HO238.out)); (case aS => exact (below_size (by repeat (first | (with_reducible first | exact HB.out | apply below_alloc | apply pw_below_drewN | apply below_drew1) | exact HB.out)))); (case aL => have := LMc2.out; omega); intro v240 w5 ho hb hg hat; rw [← Ny239.out] at ho; have n0_ := Aside0.mk (hb); have n1_ := Aside0.mk (ho); clear HB; clear HO238; have HB := n0_; have HO241 := n1_; clear n0_ n1_; clear ho hb hg hat))
    go_ret
    exact ⟨_, by first | rfl | (simp [errW_none, errW_some] <;> rfl) | (simp [*, errW_none, errW_some] <;> rfl), by (with_reducible repeat (first | apply Kd.R_alloc | apply Kd.R_drewN | apply Kd.R_drew)); exact HO241.out, by repeat (first | (with_reducible first | exact HB.out | apply below_alloc | apply pw_below_drewN | apply below_drew1) | exact HB.out)⟩
  · rw [if_neg c2] at H
    exact absurd H (by simp)
set_option maxHeartbeats 8000000 in
set_option maxRecDepth 100000 in
theorem slices_Clone_int_int.calls (A0 : Option Addr) (c0 : Nat) (l0 : List Int) (r : List Int) (w : World) (hr0 : Kd.C (Kd.int .i64) w A0 l0.length l0) (hc0 : l0.length ≤ c0) (h : slices_Clone_int_int.f l0 = some r) :
    Calls Try.prog 98 #[.slice A0 l0.length c0] w fun e w' => ∃ v0_ : Value, e = .returned (v0_) ∧ Kd.R (Kd.int .i64) 3 w' w.heap.size (fun _ => True) v0_ r ∧ Below w.heap.size w w' := by
  cases A0 with
  | some ad0 => exact slices_Clone_int_int.calls_some ad0 c0 l0 r w hr0 hc0 h
  | none =>
    have hl : l0 = [] := by
      have h3 := hr0.2.2
      cases l0 with
      | nil => rfl
      | cons x xs =>
        obtain ⟨ad, he, _⟩ := h3 (by simp)
        cases he
    subst hl
    have hr : r = [] := by
      simp [slices_Clone_int_int.f] at h
      first | exact h | exact h.symm
    subst hr
    have enil := fun (w_ : World) (n_ c_ : Nat) => Go.Lib.run_eql_slice_nil (P := Try.prog) w_ 22 _ none n_ c_ 0 0 Try.underlying22
    simp only [Option.isNone_none] at enil
    clear hr0 hc0 h
    go_enter Try.func98, Try.ntmps98
    go_wp2
    go_ret
    exact ⟨_, rfl, Kd.R_nil _ _ _ _ _, Below.refl _ _⟩

/-! ### impl_cloneState: function 68 -/
def impl_cloneState.f (l0_0 : List Int) (l0_1 : List Int) (a0_2 : Int) : Option (List Int × List Int × Int) := (slices_Clone_int_int.f l0_0).bind fun t244 => ((slices_Clone_int_int.f l0_1).bind fun t247 => (some (t244, t247, a0_2)))
def impl_cloneState.T1 : Bool × List (List Nat × List Nat) := (true, [([], []), ([0], [0]), ([1], [1]), ([], []), ([3], [3]), ([4, 2], [4]), ([], []), ([6], [6]), ([2, 5, 7], [2, 5, 7]), ([8, 5, 0, 1, 2, 3, 4, 5, 6, 7, 8], [8])])
def impl_cloneState.B1 : List Nat := [0, 1, 3, 0, 8, 31, 0, 64, 255, 511]
theorem impl_cloneState.tab1 : rtab .any (opsOf Try.f68 1) = impl_cloneState.T1 := by kernel_rfl
theorem impl_cloneState.bits1 : waitsOk impl_cloneState.T1.2 impl_cloneState.B1 = true := by kernel_rfl
set_option maxHeartbeats 8000000 in
set_option maxRecDepth 100000 in
theorem impl_cloneState.calls (A0_0 : Option Addr) (c0_0 : Nat) (l0_0 : List Int) (A0_1 : Option Addr) (c0_1 : Nat) (l0_1 : List Int) (a0_2 : Int) (r1 : List Int) (r2 : List Int) (r3 : Int) (w : World) (hr0_0 : Kd.C (Kd.int .i64) w A0_0 l0_0.length l0_0) (hc0_0 : l0_0.length ≤ c0_0) (hr0_1 : Kd.C (Kd.int .i64) w A0_1 l0_1.length l0_1) (hc0_1 : l0_1.length ≤ c0_1) (h : impl_cloneState.f l0_0 l0_1 a0_2 = some (r1, r2, r3)) :
  Calls Try.prog 68 #[.agg #[.slice A0_0 l0_0.length c0_0, .slice A0_1 l0_1.length c0_1, .int .i64 a0_2]] w fun e w' => ∃ v0_ v1_ : Value, e = .returned (.agg #[v0_, v1_, .int .i64 r3]) ∧ Kd.R (Kd.int .i64) 3 w' w.heap.size (fun k_ => some k_ ≠ (v1_ : Value).ownBlock) v0_ r1 ∧ Kd.R (Kd.int .i64) 3 w' w.heap.size (fun k_ => some k_ ≠ (v0_ : Value).ownBlock) v1_ r2 ∧ Below w.heap.size w w' := by
 have hu28 := Try.underlying28
 have HR0_0 := Aside0.mk hr0_0
 have HC0_0 := Aside0.mk hc0_0
 clear hr0_0 hc0_0
 have HR0_1 := Aside0.mk hr0_1
 have HC0_1 := Aside0.mk hc0_1
 clear hr0_1 hc0_1
 have HB := Aside0.mk (Below.refl w.heap.size w)
 have H : ((slices_Clone_int_int.f l0_0).bind fun t244 => ((slices_Clone_int_int.f l0_1).bind fun t247 => (some (t244, t247, a0_2)))) = some (r1, r2, r3) := h
 clear h
 replace H := Option.bind_eq_some_iff.mp H
 obtain ⟨t244, A20, H⟩ := H
 have A2 := Aside0.mk A20
 clear A20
 replace H := Option.bind_eq_some_iff.mp H
 obtain ⟨t247, A30, H⟩ := H
 have A3 := Aside0.mk A30
 clear A30
 simp only [Option.some.injEq, Prod.mk.injEq] at H
 obtain ⟨rfl, rfl, rfl⟩ := H
 go_enter Try.func68, Try.ntmps68
 try go_wp2_with (first | ((with_reducible refine gate_dst (N := 1) rfl ?_); refine box_event ?hg (N := 1) ?hd (cs := #[.slice A0_0 l0_0.length c0_0, .slice A0_1 l0_1.length c0_1, .int .i64 a0_2]) (t := 28) ?hr ?_; (case hd => rfl); (case hg => rfl); (case hr => first | (go_simp; done) | (go_simp; rfl)); intro gb242 hg w4 hbox hb; have n_ := And.intro (Aside0.mk (below_step (bw0 HB.out) hb)) (And.intro (Aside0.mk (hbox)) (Aside0.mk ((by rw [hg]; exact (below_size (bw0 HB.out)) : w.heap.size ≤ gb242)))); clear HB; obtain ⟨HB, BK242, GW242⟩ := n_; have GE242 := GW242; clear hb hbox hg) | ((with_reducible refine gate_dst (N := 2) rfl ?_); refine box_event ?hg (N := 2) ?hd (cs := #[.slice none 0 0, .slice none 0 0, .int .i64 0]) (t := 28) ?hr ?_; (case hd => rfl); (case hg => rfl); (case hr => first | (go_simp; done) | (go_simp; rfl)); intro gb243 hg w5 hbox hb; have n_ := And.intro (Aside0.mk (bbq BK242.out hb)) (And.intro (Aside0.mk (below_step (bw1 HB.out GE242.out) hb)) (And.intro (Aside0.mk (hbox)) (And.intro (Aside0.mk ((by rw [hg]; exact (below_size (bw1 HB.out GE242.out)) : w.heap.size ≤ gb243))) (And.intro (Aside0.mk ((nlq BK242.out hg))) (Aside0.mk ((ngq BK242.out hg))))))); clear BK242 HB; obtain ⟨BK242, HB, BK243, GW243, NB242_243, NB243_242⟩ := n_; have GE243 := GW243; clear hb hbox hg))
 have n_ := And.intro (Aside0.mk (blk_drew BK242.out)) (And.intro (Aside0.mk (blk_drew BK243.out)) (Aside0.mk (below_drew1 HB.out)))
 clear BK242 BK243 HB
 obtain ⟨BK242, BK243, HB⟩ := n_
 refine start_ (n := 10) (S := fun w' => w'.cell? ⟨gb242, 0, none⟩ = some (.slice A0_0 l0_0.length c0_0) ∧ w'.cell? ⟨gb242, 1, none⟩ = some (.slice A0_1 l0_1.length c0_1) ∧ w'.cell? ⟨gb242, 2, none⟩ = some (.int .i64 a0_2)) (ds := []) #[false, false, false, false, false, false, false, false, false, false] (by kernel_rfl) rfl rfl (cl3 BK242.out) (fun hHeld => ?_); refine with_tabW impl_cloneState.tab1 impl_cloneState.bits1 (fun HT_ HW_ => ?_)
 generalize w5.drew = w6 at BK242 BK243 HB hHeld ⊢
 refine pure_ (i := 0) (N := some 3) (v := ?_) (a' := ?_) #[true, false, false, false, false, false, false, false, false, false] rfl rfl (any_of HT_.out (by kernel_rfl)) (fun _ _ _ h => h) (Or.inl ⟨by rfl, ?_⟩) ?_ ?_
 rotate_left
 ·intro w'
  go_simp
  with_reducible rfl
 rotate_left
 ·simp only [apn]
  rfl
 refine pure_ (i := 3) (N := some 6) (v := ?_) (a' := ?_) #[true, false, false, true, false, false, false, false, false, false] rfl rfl (any_of HT_.out (by kernel_rfl)) (fun _ _ _ h => h) (Or.inl ⟨by rfl, ?_⟩) ?_ ?_
 rotate_left
 ·intro w'
  go_simp
  with_reducible rfl
 rotate_left
 ·simp only [apn]
  rfl
 refine pure_ (i := 6) (N := some 9) (v := ?_) (a' := ?_) #[true, false, false, true, false, false, true, false, false, false] rfl rfl (any_of HT_.out (by kernel_rfl)) (fun _ _ _ h => h) (Or.inl ⟨by rfl, ?_⟩) ?_ ?_
 rotate_left
 ·intro w'
  go_simp
  with_reducible rfl
 rotate_left
 ·simp only [apn]
  rfl
 refine take_ (i := 1) (N := some 4) (v := ?_) (a' := ?_) #[true, true, false, true, false, false, true, false, false, false] rfl rfl (take_ofW HT_.out HW_.out (by kernel_rfl)) (fun _ _ _ h => h) (Or.inl ⟨by rfl, ?_⟩) hHeld ?_ ?_
 rotate_left
 ·rintro w' ⟨s0, s1, s2⟩
  go_simp
  with_reducible rfl
 rotate_left
 ·simp only [apn]
  rfl
 refine take_ (i := 4) (N := some 7) (v := ?_) (a' := ?_) #[true, true, false, true, true, false, true, false, false, false] rfl rfl (take_ofW HT_.out HW_.out (by kernel_rfl)) (fun _ _ _ h => h) (Or.inl ⟨by rfl, ?_⟩) hHeld ?_ ?_
 rotate_left
 ·rintro w' ⟨s0, s1, s2⟩
  go_simp
  with_reducible rfl
 rotate_left
 ·simp only [apn]
  rfl
 refine take_ (i := 7) (N := some 10) (v := ?_) (a' := ?_) #[true, true, false, true, true, false, true, true, false, false] rfl rfl (take_ofW HT_.out HW_.out (by kernel_rfl)) (fun _ _ _ h => h) (Or.inl ⟨by rfl, ?_⟩) hHeld ?_ ?_
 rotate_left
 ·rintro w' ⟨s0, s1, s2⟩
  go_simp
  with_reducible rfl
 rotate_left
 ·simp only [apn]
  rfl
 refine one_ (i := 2) (N := some 5) #[true, true, true, true, true, false, true, true, false, false] rfl rfl (one_of HT_.out (by kernel_rfl)) (by decide) (fun K hK => ?_)
 refine goes_ Try.func98 (by kernel_rfl) rfl #[.slice A0_0 l0_0.length c0_0] (by rfl) rfl rfl aq ?_
 with_reducible refine (slices_Clone_int_int.calls _ _ l0_0 t244 _ ?side1 ?side2 A2.out).mono ?_
 (case side1 => exact caq (Kd.C_below HR0_0.out HB.out))
 (case side2 => exact HC0_0.out)
 rintro e w7 ⟨v245, rfl, ho0, hb⟩
 refine ⟨_, rfl, ?_⟩
 have n_ := And.intro (Aside0.mk (Kd.R_lower ho0 (below_size (bw2 HB.out GE242.out GE243.out)))) (And.intro (Aside0.mk (bbq BK242.out hb)) (And.intro (Aside0.mk (bbq BK243.out hb)) (Aside0.mk (below_step (bw2 HB.out GE242.out GE243.out) hb))))
 clear BK242 BK243 HB
 obtain ⟨HO246, BK242, BK243, HB⟩ := n_
 (try clear hb)
 (try clear hb2)
 (try clear hk)
 (try clear hi)
 (try clear ho0)
 refine hK.out _ _ (cl3 BK242.out) (fun hHeld => ?_)
 clear hK K
 refine norm_ (a' := ?_) ?_ ?_
 rotate_left
 ·show Act.put _ (some 5) _ = _
  simp only [apn]
  rfl
 refine one_ (i := 5) (N := some 8) #[true, true, true, true, true, true, true, true, false, false] rfl rfl (one_of HT_.out (by kernel_rfl)) (by decide) (fun K hK => ?_)
 refine goes_ Try.func98 (by kernel_rfl) rfl #[.slice A0_1 l0_1.length c0_1] (by rfl) rfl rfl aq ?_
 with_reducible refine (slices_Clone_int_int.calls _ _ l0_1 t247 _ ?side1 ?side2 A3.out).mono ?_
 (case side1 => exact caq (Kd.C_below HR0_1.out HB.out))
 (case side2 => exact HC0_1.out)
 rintro e w8 ⟨v248, rfl, ho0, hb⟩
 refine ⟨_, rfl, ?_⟩
 have n_ := And.intro (Aside0.mk (Kd.R_elder' (rq HO246.out) (Kd.R_base ho0) hb)) (And.intro (Aside0.mk (Kd.R_lower (Kd.R_new' ho0 (Kd.R_lt (rq HO246.out))) (below_size (bw2 HB.out GE242.out GE243.out)))) (And.intro (Aside0.mk (bbq BK242.out hb)) (And.intro (Aside0.mk (bbq BK243.out hb)) (Aside0.mk (below_step (bw2 HB.out GE242.out GE243.out) hb)))))
 clear HO246 BK242 BK243 HB
 obtain ⟨HO246, HO249, BK242, BK243, HB⟩ := n_
 (try clear hb)
 (try clear hb2)
 (try clear hk)
 (try clear hi)
 (try clear ho0)
 obtain ⟨Ao9, co9, eo9⟩ := Kd.R_slice HO249.out
 (first | subst eo9 | (injection eo9 with f1_ f2_ f3_; have f4_ := f1_.symm; have f5_ := f3_.symm; clear f1_ f2_ f3_; subst f4_; subst f5_))
 obtain ⟨Ao10, co10, eo10⟩ := Kd.R_slice HO246.out
 (first | subst eo10 | (injection eo10 with f1_ f2_ f3_; have f4_ := f1_.symm; have f5_ := f3_.symm; clear f1_ f2_ f3_; subst f4_; subst f5_))
 refine hK.out _ _ (cl3 BK242.out) (fun hHeld => ?_)
 clear hK K
 refine norm_ (a' := ?_) ?_ ?_
 rotate_left
 ·show Act.put _ (some 8) _ = _
  simp only [apn]
  rfl
 refine pure_ (i := 8) (N := some 11) (v := ?_) (a' := ?_) #[true, true, true, true, true, true, true, true, true, false] rfl rfl (any_of HT_.out (by kernel_rfl)) (fun _ _ _ h => h) (Or.inl ⟨by rfl, ?_⟩) ?_ ?_
 rotate_left
 ·intro w'
  go_simp
  with_reducible rfl
 rotate_left
 ·simp only [apn]
  rfl
 refine one_ (i := 9) (N := none) #[true, true, true, true, true, true, true, true, true, true] rfl rfl (one_of HT_.out (by kernel_rfl)) (by decide) (fun K hK => ?_)
 have hs11 : w8.cell? ⟨gb243, 0, none⟩ = some (.slice none 0 0) := (blk_cell BK243.out 0).trans rfl
 have hfs11 := blk_frozen BK243.out 0
 have hns11_0 := NB242_243.out
 have hms11_0 := NB243_242.out
 have hs12 : w8.cell? ⟨gb243, 1, none⟩ = some (.slice none 0 0) := (blk_cell BK243.out 1).trans rfl
 have hfs12 := blk_frozen BK243.out 1
 have hns12_0 := NB242_243.out
 have hms12_0 := NB243_242.out
 have hs13 : w8.cell? ⟨gb243, 2, none⟩ = some (.int .i64 0) := (blk_cell BK243.out 2).trans rfl
 have hfs13 := blk_frozen BK243.out 2
 have hns13_0 := NB242_243.out
 have hms13_0 := NB243_242.out
 refine skip_ (w1 := ?_) (by rfl) rfl ?_ ?_
 rotate_left
 ·go_simp
  rfl
 refine hK.out _ _ ⟨((cell_far (p := ⟨gb243, _, none⟩) NB242_243.out _).trans (((cell_far (p := ⟨gb243, _, none⟩) NB242_243.out _).trans (((cell_far (p := ⟨gb243, _, none⟩) NB242_243.out _).trans (hHeld.1)))))), ((cell_far (p := ⟨gb243, _, none⟩) NB242_243.out _).trans (((cell_far (p := ⟨gb243, _, none⟩) NB242_243.out _).trans (((cell_far (p := ⟨gb243, _, none⟩) NB242_243.out _).trans (hHeld.2.1)))))), ((cell_far (p := ⟨gb243, _, none⟩) NB242_243.out _).trans (((cell_far (p := ⟨gb243, _, none⟩) NB242_243.out _).trans (((cell_far (p := ⟨gb243, _, none⟩) NB242_243.out _).trans (hHeld.2.2))))))⟩ (fun hHeld => ?_)
 clear hK K
 refine done_ (done_of HT_.out (by kernel_rfl)) ?_
 try go_wp2
 refine bodyPost_ret (results_cell_row rfl _ _ gb243 28 #[.slice Ao10 t244.length co10, .slice Ao9 t247.length co9, .int .i64 a0_2] (0, 0) _ rfl (bp3 BK243.out) Try.underlying28 rfl (by kernel_rfl)) rfl ?_
 exact ⟨_, _, by first | rfl | (simp [errW_none, errW_some] <;> rfl) | (simp [*, errW_none, errW_some] <;> rfl), by (with_reducible repeat (first | apply Kd.R_alloc | apply Kd.R_drewN | apply Kd.R_drew)); exact Kd.R_mono (Kd.R_far (p := ⟨gb243, 2, none⟩) (Kd.R_far (p := ⟨gb243, 1, none⟩) (Kd.R_far (p := ⟨gb243, 0, none⟩) (Kd.R_types HO246.out BK243.out (by decide)) (fun _ hk => hk.2) (.slice Ao10 t244.length co10)) (fun _ hk => hk.2) (.slice Ao9 t247.length co9)) (fun _ hk => hk.2) (.int .i64 a0_2)) (fun _ hk => hk.1.2), by (with_reducible repeat (first | apply Kd.R_alloc | apply Kd.R_drewN | apply Kd.R_drew)); exact Kd.R_mono (Kd.R_far (p := ⟨gb243, 2, none⟩) (Kd.R_far (p := ⟨gb243, 1, none⟩) (Kd.R_far (p := ⟨gb243, 0, none⟩) (Kd.R_types HO249.out BK243.out (by decide)) (fun _ hk => hk.2) (.slice Ao10 t244.length co10)) (fun _ hk => hk.2) (.slice Ao9 t247.length co9)) (fun _ hk => hk.2) (.int .i64 a0_2)) (fun _ hk => hk.1.2), by repeat (first | (with_reducible first | exact HB.out | apply below_alloc | apply pw_below_drewN | apply below_drew1 | refine below_set ?_ GE242.out | refine below_set ?_ GE243.out) | exact HB.out)⟩

/-! ### impl_costOf: function 100 -/
def impl_costOf.f (a0 : Int) (a1 : Int) (a2 : Int) (a3 : Int) : Option (Int × Int) := some (wrap64 (a0 * a3), wrap64 (a3 * (mn a1 (wrap64 (a2 - a0)))))
set_option maxHeartbeats 8000000 in
set_option maxRecDepth 100000 in
theorem impl_costOf.calls (a0 : Int) (a1 : Int) (a2 : Int) (a3 : Int) (r1 : Int) (r2 : Int) (w : World) (h : impl_costOf.f a0 a1 a2 a3 = some (r1, r2)) :
  Calls Try.prog 100 #[.int .i64 a0, .int .i64 a1, .int .i64 a2, .int .i64 a3] w fun e w' => e = .returned (.tuple #[.int .i64 r1, .int .i64 r2]) ∧ Below w.heap.size w w' := by
 have HB := Aside0.mk (Below.refl w.heap.size w)
 have H : (some (wrap64 (a0 * a3), wrap64 (a3 * (mn a1 (wrap64 (a2 - a0)))))) = some (r1, r2) := h
 clear h
 obtain ⟨ji5, hji5⟩ : ∃ j_ : Int, (mn a1 (wrap64 (a2 - a0))) = j_ := ⟨_, rfl⟩
 replace H : (some (wrap64 (a0 * a3), wrap64 (a3 * (ji5)))) = some (r1, r2) := by first | (rw [hji5] at H; exact H) | (simp only [hji5] at H ⊢; exact H)
 have hji5_ : (if (wrap64 (a2 - a0)) < a1 then (wrap64 (a2 - a0)) else a1) = ji5 := hji5
 simp only [Option.some.injEq, Prod.mk.injEq] at H
 obtain ⟨rfl, rfl⟩ := H
 go_enter Try.func100, Try.ntmps100
 go_wp2
 go_ret2
 exact ⟨by first | rfl | (simp [errW_none, errW_some] <;> rfl) | (simp only [← hji5]; first | rfl | (simp [errW_none, errW_some] <;> rfl)) | (simp [*, errW_none, errW_some] <;> rfl), by repeat (first | (with_reducible first | exact HB.out | apply below_alloc | apply pw_below_drewN | apply below_drew1) | exact HB.out)⟩

/-! ### impl_mayApply: function 99 -/
def impl_mayApply.f (l0_0 : List Int) (l0_1 : List Int) (a0_2 : Int) (a1_0 : Int) (a1_1 : Int) (a1_2 : Int) (a1_3 : Int) (a1_4 : Int) (a1_5 : Int) (a1_6 : Int) (a2 : Int) : Option (Int) := if 0 ≤ a1_0 then (if a1_0 < (l0_1.length : Int) then (if a1_3 = (rd l0_1 a1_0) then (if a1_5 < a2 then (some 2) else ((impl_costOf.f a2 a1_4 a1_5 a1_6).bind fun bt253 => (if a1_0 < (l0_0.length : Int) then (if (rd l0_0 a1_0) < (wrap64 ((wrap64 (a1_2 + bt253.1)) + bt253.2)) then (some 3) else (if a1_3 = 1000 then (some 4) else (some 0))) else (none)))) else (some 1)) else (none)) else (none)
set_option maxHeartbeats 8000000 in
set_option maxRecDepth 100000 in
theorem impl_mayApply.calls (A0_0 : Option Addr) (c0_0 : Nat) (l0_0 : List Int) (A0_1 : Option Addr) (c0_1 : Nat) (l0_1 : List Int) (a0_2 : Int) (a1_0 : Int) (a1_1 : Int) (a1_2 : Int) (a1_3 : Int) (a1_4 : Int) (a1_5 : Int) (a1_6 : Int) (a2 : Int) (r : Int) (w : World) (hr0_0 : Kd.C (Kd.int .i64) w A0_0 l0_0.length l0_0) (hc0_0 : l0_0.length ≤ c0_0) (hr0_1 : Kd.C (Kd.int .i64) w A0_1 l0_1.length l0_1) (hc0_1 : l0_1.length ≤ c0_1) (h : impl_mayApply.f l0_0 l0_1 a0_2 a1_0 a1_1 a1_2 a1_3 a1_4 a1_5 a1_6 a2 = some r) :
  Calls Try.prog 99 #[.agg #[.slice A0_0 l0_0.length c0_0, .slice A0_1 l0_1.length c0_1, .int .i64 a0_2], .agg #[.int .i64 a1_0, .int .i64 a1_1, .int .i64 a1_2, .int .i64 a1_3, .int .i64 a1_4, .int .i64 a1_5, .int .i64 a1_6], .int .i64 a2] w fun e w' => e = .returned (.int .i64 r) ∧ Below w.heap.size w w' := by
 have hu28 := Try.underlying28
 have hu32 := Try.underlying32
 have HR0_0 := Aside0.mk hr0_0
 have HC0_0 := Aside0.mk hc0_0
 clear hr0_0 hc0_0
 have HR0_1 := Aside0.mk hr0_1
 have HC0_1 := Aside0.mk hc0_1
 clear hr0_1 hc0_1
 have HB := Aside0.mk (Below.refl w.heap.size w)
 have H : (if 0 ≤ a1_0 then (if a1_0 < (l0_1.length : Int) then (if a1_3 = (rd l0_1 a1_0) then (if a1_5 < a2 then (some 2) else ((impl_costOf.f a2 a1_4 a1_5 a1_6).bind fun bt253 => (if a1_0 < (l0_0.length : Int) then (if (rd l0_0 a1_0) < (wrap64 ((wrap64 (a1_2 + bt253.1)) + bt253.2)) then (some 3) else (if a1_3 = 1000 then (some 4) else (some 0))) else (none)))) else (some 1)) else (none)) else (none)) = some r := h
 clear h
 by_cases c4 : 0 ≤ a1_0
 focus
  rw [if_pos c4] at H
  have c4b0 : decide (0 ≤ a1_0) = true := decide_eq_true c4
  clear c4
  by_cases c5 : a1_0 < (l0_1.length : Int)
  focus
   rw [if_pos c5] at H
   have c5b0 : decide (a1_0 < (l0_1.length : Int)) = true := decide_eq_true c5
   clear c5
   by_cases c6 : a1_3 = (rd l0_1 a1_0)
   focus
    rw [if_pos c6] at H
    have c6b0 : (a1_3 == (rd l0_1 a1_0)) = true := beq_iff_eq.mpr c6
    have c6b1 : (a1_3 != (rd l0_1 a1_0)) = false := bne_eq_false_iff_eq.mpr c6
    clear c6
    by_cases c7 : a1_5 < a2
    focus
     rw [if_pos c7] at H
     have c7b0 : decide (a1_5 < a2) = true := decide_eq_true c7
     clear c7
     obtain rfl := Option.some.inj H
    rotate_left
    focus
     rw [if_neg c7] at H
     have c7b0 : decide (a1_5 < a2) = false := decide_eq_false c7
     clear c7
     replace H := Option.bind_eq_some_iff.mp H
     obtain ⟨⟨t253, t254⟩, A130, H⟩ := H
     have A13 := Aside0.mk A130
     clear A130
     by_cases c14 : a1_0 < (l0_0.length : Int)
     focus
      rw [if_pos c14] at H
      have c14b0 : decide (a1_0 < (l0_0.length : Int)) = true := decide_eq_true c14
      clear c14
      by_cases c15 : (rd l0_0 a1_0) < (wrap64 ((wrap64 (a1_2 + t253)) + t254))
      focus
       rw [if_pos c15] at H
       have c15b0 : decide ((rd l0_0 a1_0) < (wrap64 ((wrap64 (a1_2 + t253)) + t254))) = true := decide_eq_true c15
       clear c15
       obtain rfl := Option.some.inj H
      rotate_left
      focus
       rw [if_neg c15] at H
       have c15b0 : decide ((rd l0_0 a1_0) < (wrap64 ((wrap64 (a1_2 + t253)) + t254))) = false := decide_eq_false c15
       clear c15
       by_cases c24 : a1_3 = 1000
       focus
        rw [if_pos c24] at H
        have c24b0 : (a1_3 == 1000) = true := beq_iff_eq.mpr c24
        have c24b1 : (a1_3 != 1000) = false := bne_eq_false_iff_eq.mpr c24
        clear c24
        obtain rfl := Option.some.inj H
       rotate_left
       focus
        rw [if_neg c24] at H
        have c24b0 : (a1_3 == 1000) = false := beq_eq_false_iff_ne.mpr c24
        have c24b1 : (a1_3 != 1000) = true := bne_iff_ne.mpr c24
        obtain rfl := Option.some.inj H
     rotate_left 3
     focus
      rw [if_neg c14] at H
      exact absurd H (by simp)
   rotate_left 4
   focus
    rw [if_neg c6] at H
    have c6b0 : (a1_3 == (rd l0_1 a1_0)) = false := beq_eq_false_iff_ne.mpr c6
    have c6b1 : (a1_3 != (rd l0_1 a1_0)) = true := bne_iff_ne.mpr c6
    obtain rfl := Option.some.inj H
  rotate_left 5
  focus
   rw [if_neg c5] at H
   exact absurd H (by simp)
 rotate_left 5
 focus
  rw [if_neg c4] at H
  exact absurd H (by simp)
 all_goals
  go_enter Try.func99, Try.ntmps99
  go_wp2_with (first | ((with_reducible refine gate_dst (N := 3) rfl ?_); refine box_event ?hg (N := 3) ?hd (cs := #[.slice A0_0 l0_0.length c0_0, .slice A0_1 l0_1.length c0_1, .int .i64 a0_2]) (t := 28) ?hr ?_; (case hd => rfl); (case hg => rfl); (case hr => first | (go_simp; done) | (go_simp; rfl)); intro gb250 hg w_250 hbox hb; have n_ := And.intro (Aside0.mk (below_step (bw0 HB.out) hb)) (And.intro (Aside0.mk (hbox)) (Aside0.mk ((by rw [hg]; exact (below_size (bw0 HB.out)) : w.heap.size ≤ gb250)))); clear HB; obtain ⟨HB, BK250, GW250⟩ := n_; have GE250 := GW250; clear hb hbox hg) | ((with_reducible refine gate_dst (N := 4) rfl ?_); refine box_event ?hg (N := 4) ?hd (cs := #[.int .i64 a1_0, .int .i64 a1_1, .int .i64 a1_2, .int .i64 a1_3, .int .i64 a1_4, .int .i64 a1_5, .int .i64 a1_6]) (t := 32) ?hr ?_; (case hd => rfl); (case hg => rfl); (case hr => first | (go_simp; done) | (go_simp; rfl)); intro gb251 hg w_251 hbox hb; have n_ := And.intro (Aside0.mk (bbq BK250.out hb)) (And.intro (Aside0.mk (below_step (bw1 HB.out GE250.out) hb)) (And.intro (Aside0.mk (hbox)) (And.intro (Aside0.mk ((by rw [hg]; exact (below_size (bw1 HB.out GE250.out)) : w.heap.size ≤ gb251))) (And.intro (Aside0.mk ((nlq BK250.out hg))) (Aside0.mk ((ngq BK250.out hg))))))); clear BK250 HB; obtain ⟨BK250, HB, BK251, GW251, NB250_251, NB251_250⟩ := n_; have GE251 := GW251; clear hb hbox hg; have hnb251a := NB251_250.out; have hnc251a := NB250_251.out; have hcz251a_0 : w_251.cell? ⟨gb251, 0, none⟩ = some (.int .i64 a1_0) := (blk_cell BK251.out 0).trans rfl; have hcz251a_1 : w_251.cell? ⟨gb251, 1, none⟩ = some (.int .i64 a1_1) := (blk_cell BK251.out 1).trans rfl; have hcz251a_2 : w_251.cell? ⟨gb251, 2, none⟩ = some (.int .i64 a1_2) := (blk_cell BK251.out 2).trans rfl; have hcz251a_3 : w_251.cell? ⟨gb251, 3, none⟩ = some (.int .i64 a1_3) := (blk_cell BK251.out 3).trans rfl; have hcz251a_4 : w_251.cell? ⟨gb251, 4, none⟩ = some (.int .i64 a1_4) := (blk_cell BK251.out 4).trans rfl; have hcz251a_5 : w_251.cell? ⟨gb251, 5, none⟩ = some (.int .i64 a1_5) := (blk_cell BK251.out 5).trans rfl; have hcz251a_6 : w_251.cell? ⟨gb251, 6, none⟩ = some (.int .i64 a1_6) := (blk_cell BK251.out 6).trans rfl; have hfz251a_0 := blk_frozen BK251.out 0; have hfz251a_1 := blk_frozen BK251.out 1; have hfz251a_2 := blk_frozen BK251.out 2; have hfz251a_3 := blk_frozen BK251.out 3; have hfz251a_4 := blk_frozen BK251.out 4; have hfz251a_5 := blk_frozen BK251.out 5; have hfz251a_6 := blk_frozen BK251.out 6; have hcz251b_0 : w_251.cell? ⟨gb250, 0, none⟩ = some (.slice A0_0 l0_0.length c0_0) := (blk_cell BK250.out 0).trans rfl; have hcz251b_1 : w_251.cell? ⟨gb250, 1, none⟩ = some (.slice A0_1 l0_1.length c0_1) := (blk_cell BK250.out 1).trans rfl; have hcz251b_2 : w_251.cell? ⟨gb250, 2, none⟩ = some (.int .i64 a0_2) := (blk_cell BK250.out 2).trans rfl; have hfz251b_0 := blk_frozen BK250.out 0; have hfz251b_1 := blk_frozen BK250.out 1; have hfz251b_2 := blk_frozen BK250.out 2; have p252 : 0 ≤ (a1_0 : Int) := of_decide_eq_true sq; have q252 : a1_0 < (l0_1.length : Int) := of_decide_eq_true sq; obtain ⟨ad252, e252, hx252_0⟩ := Kd.at_int HR0_1.out a1_0 p252 q252; cases e252; replace hx252_0 := (HB.out.cell (World.block_lt_of_cell? w _ hx252_0)).trans hx252_0; replace p252 := eq_true p252; replace q252 := eq_true q252) | (go_at_call 100; (with_reducible refine (impl_costOf.calls a2 a1_4 a1_5 a1_6 t253 t254 _ A13.out).mono ?_); rintro e w21 ⟨rfl, hb⟩; have n_ := And.intro (Aside0.mk (bbq BK250.out hb)) (And.intro (Aside0.mk (bbq BK251.out hb)) (Aside0.mk (below_step (bw2 HB.out GE250.out GE251.out) hb))); clear BK250 BK251 HB; obtain ⟨BK250, BK251, HB⟩ := n_; (try clear hb); (try clear hb2); (try clear hk); (try clear hi); obtain ⟨hcz22_0, hcz22_1, hcz22_2, hfz22_0, hfz22_1, hfz22_2⟩ := cq3 BK250.out; obtain ⟨hcz23_0, hcz23_1, hcz23_2, hcz23_3, hcz23_4, hcz23_5, hcz23_6, hfz23_0, hfz23_1, hfz23_2, hfz23_3, hfz23_4, hfz23_5, hfz23_6⟩ := cq7 BK251.out; have p255 : 0 ≤ (a1_0 : Int) := of_decide_eq_true sq; have q255 : a1_0 < (l0_0.length : Int) := of_decide_eq_true sq; obtain ⟨ad255, e255, hx255_0⟩ := Kd.at_int HR0_0.out a1_0 p255 q255; cases e255; replace hx255_0 := (HB.out.cell (World.block_lt_of_cell? w _ hx255_0)).trans hx255_0; replace p255 := eq_true p255; replace q255 := eq_true q255) | (go_at_call 100; (with_reducible refine (impl_costOf.calls a2 a1_4 a1_5 a1_6 t253 t254 _ A13.out).mono ?_); rintro e w30 ⟨rfl, hb⟩; have n_ := And.intro (Aside0.mk (bbq BK250.out hb)) (And.intro (Aside0.mk (bbq BK251.out hb)) (Aside0.mk (below_step (bw2 HB.out GE250.out GE251.out) hb))); clear BK250 BK251 HB; obtain ⟨BK250, BK251, HB⟩ := n_; (try clear hb); (try clear hb2); (try clear hk); (try clear hi); obtain ⟨hcz31_0, hcz31_1, hcz31_2, hfz31_0, hfz31_1, hfz31_2⟩ := cq3 BK250.out; obtain ⟨hcz32_0, hcz32_1, hcz32_2, hcz32_3, hcz32_4, hcz32_5, hcz32_6, hfz32_0, hfz32_1, hfz32_2, hfz32_3, hfz32_4, hfz32_5, hfz32_6⟩ := cq7 BK251.out; have p255 : 0 ≤ (a1_0 : Int) := of_decide_eq_true sq; have q255 : a1_0 < (l0_0.length : Int) := of_decide_eq_true sq; obtain ⟨ad255, e255, hx255_0⟩ := Kd.at_int HR0_0.out a1_0 p255 q255; cases e255; replace hx255_0 := (HB.out.cell (World.block_lt_of_cell? w _ hx255_0)).trans hx255_0; replace p255 := eq_true p255; replace q255 := eq_true q255) | (go_at_call 100; (with_reducible refine (impl_costOf.calls a2 a1_4 a1_5 a1_6 t253 t254 _ A13.out).mono ?_); rintro e w38 ⟨rfl, hb⟩; have n_ := And.intro (Aside0.mk (bbq BK250.out hb)) (And.intro (Aside0.mk (bbq BK251.out hb)) (Aside0.mk (below_step (bw2 HB.out GE250.out GE251.out) hb))); clear BK250 BK251 HB; obtain ⟨BK250, BK251, HB⟩ := n_; (try clear hb); (try clear hb2); (try clear hk); (try clear hi); obtain ⟨hcz39_0, hcz39_1, hcz39_2, hfz39_0, hfz39_1, hfz39_2⟩ := cq3 BK250.out; obtain ⟨hcz40_0, hcz40_1, hcz40_2, hcz40_3, hcz40_4, hcz40_5, hcz40_6, hfz40_0, hfz40_1, hfz40_2, hfz40_3, hfz40_4, hfz40_5, hfz40_6⟩ := cq7 BK251.out; have p255 : 0 ≤ (a1_0 : Int) := of_decide_eq_true sq; have q255 : a1_0 < (l0_0.length : Int) := of_decide_eq_true sq; obtain ⟨ad255, e255, hx255_0⟩ := Kd.at_int HR0_0.out a1_0 p255 q255; cases e255; replace hx255_0 := (HB.out.cell (World.block_lt_of_cell? w _ hx255_0)).trans hx255_0; replace p255 := eq_true p255; replace q255 := eq_true q255))
  repeat (go_quiet (first | ((with_reducible refine gate_dst (N := 3) rfl ?_); refine box_event ?hg (N := 3) ?hd (cs := #[.slice A0_0 l0_0.length c0_0, .slice A0_1 l0_1.length c0_1, .int .i64 a0_2]) (t := 28) ?hr ?_; (case hd => rfl); (case hg => rfl); (case hr => first | (go_simp; done) | (go_simp; rfl)); intro gb250 hg w_250 hbox hb; have n_ := And.intro (Aside0.mk (below_step (bw0 HB.out) hb)) (And.intro (Aside0.mk (hbox)) (Aside0.mk ((by rw [hg]; exact (below_size (bw0 HB.out)) : w.heap.size ≤ gb250)))); clear HB; obtain ⟨HB, BK250, GW250⟩ := n_; have GE250 := GW250; clear hb hbox hg) | ((with_reducible refine gate_dst (N := 4) rfl ?_); refine box_event ?hg (N := 4) ?hd (cs := #[.int .i64 a1_0, .int .i64 a1_1, .int .i64 a1_2, .int .i64 a1_3, .int .i64 a1_4, .int .i64 a1_5, .int .i64 a1_6]) (t := 32) ?hr ?_; (case hd => rfl); (case hg => rfl); (case hr => first | (go_simp; done) | (go_simp; rfl)); intro gb251 hg w_251 hbox hb; have n_ := And.intro (Aside0.mk (bbq BK250.out hb)) (And.intro (Aside0.mk (below_step (bw1 HB.out GE250.out) hb)) (And.intro (Aside0.mk (hbox)) (And.intro (Aside0.mk ((by rw [hg]; exact (below_size (bw1 HB.out GE250.out)) : w.heap.size ≤ gb251))) (And.intro (Aside0.mk ((nlq BK250.out hg))) (Aside0.mk ((ngq BK250.out hg))))))); clear BK250 HB; obtain ⟨BK250, HB, BK251, GW251, NB250_251, NB251_250⟩ := n_; have GE251 := GW251; clear hb hbox hg; have hnb251a := NB251_250.out; have hnc251a := NB250_251.out; have hcz251a_0 : w_251.cell? ⟨gb251, 0, none⟩ = some (.int .i64 a1_0) := (blk_cell BK251.out 0).trans rfl; have hcz251a_1 : w_251.cell? ⟨gb251, 1, none⟩ = some (.int .i64 a1_1) := (blk_cell BK251.out 1).trans rfl; have hcz251a_2 : w_251.cell? ⟨gb251, 2, none⟩ = some (.int .i64 a1_2) := (blk_cell BK251.out 2).trans rfl; have hcz251a_3 : w_251.cell? ⟨gb251, 3, none⟩ = some (.int .i64 a1_3) := (blk_cell BK251.out 3).trans rfl; have hcz251a_4 : w_251.cell? ⟨gb251, 4, none⟩ = some (.int .i64 a1_4) := (blk_cell BK251.out 4).trans rfl; have hcz251a_5 : w_251.cell? ⟨gb251, 5, none⟩ = some (.int .i64 a1_5) := (blk_cell BK251.out 5).trans rfl; have hcz251a_6 : w_251.cell? ⟨gb251, 6, none⟩ = some (.int .i64 a1_6) := (blk_cell BK251.out 6).trans rfl; have hfz251a_0 := blk_frozen BK251.out 0; have hfz251a_1 := blk_frozen BK251.out 1; have hfz251a_2 := blk_frozen BK251.out 2; have hfz251a_3 := blk_frozen BK251.out 3; have hfz251a_4 := blk_frozen BK251.out 4; have hfz251a_5 := blk_frozen BK251.out 5; have hfz251a_6 := blk_frozen BK251.out 6; have hcz251b_0 : w_251.cell? ⟨gb250, 0, none⟩ = some (.slice A0_0 l0_0.length c0_0) := (blk_cell BK250.out 0).trans rfl; have hcz251b_1 : w_251.cell? ⟨gb250, 1, none⟩ = some (.slice A0_1 l0_1.length c0_1) := (blk_cell BK250.out 1).trans rfl; have hcz251b_2 : w_251.cell? ⟨gb250, 2, none⟩ = some (.int .i64 a0_2) := (blk_cell BK250.out 2).trans rfl; have hfz251b_0 := blk_frozen BK250.out 0; have hfz251b_1 := blk_frozen BK250.out 1; have hfz251b_2 := blk_frozen BK250.out 2; have p252 : 0 ≤ (a1_0 : Int) := of_decide_eq_true sq; have q252 : a1_0 < (l0_1.length : Int) := of_decide_eq_true sq; obtain ⟨ad252, e252, hx252_0⟩ := Kd.at_int HR0_1.out a1_0 p252 q252; cases e252; replace hx252_0 := (HB.out.cell (World.block_lt_of_cell? w _ hx252_0)).trans hx252_0; replace p252 := eq_true p252; replace q252 := eq_true q252) | (go_at_call 100; (with_reducible refine (impl_costOf.calls a2 a1_4 a1_5 a1_6 t253 t254 _ A13.out).mono ?_); rintro e w21 ⟨rfl, hb⟩; have n_ := And.intro (Aside0.mk (bbq BK250.out hb)) (And.intro (Aside0.mk (bbq BK251.out hb)) (Aside0.mk (below_step (bw2 HB.out GE250.out GE251.out) hb))); clear BK250 BK251 HB; obtain ⟨BK250, BK251, HB⟩ := n_; (try clear hb); (try clear hb2); (try clear hk); (try clear hi); obtain ⟨hcz22_0, hcz22_1, hcz22_2, hfz22_0, hfz22_1, hfz22_2⟩ := cq3 BK250.out; obtain ⟨hcz23_0, hcz23_1, hcz23_2, hcz23_3, hcz23_4, hcz23_5, hcz23_6, hfz23_0, hfz23_1, hfz23_2, hfz23_3, hfz23_4, hfz23_5, hfz23_6⟩ := cq7 BK251.out; have p255 : 0 ≤ (a1_0 : Int) := of_decide_eq_true sq; have q255 : a1_0 < (l0_0.length : Int) := of_decide_eq_true sq; obtain ⟨ad255, e255, hx255_0⟩ := Kd.at_int HR0_0.out a1_0 p255 q255; cases e255; replace hx255_0 := (HB.out.cell (World.block_lt_of_cell? w _ hx255_0)).trans hx255_0; replace p255 := eq_true p255; replace q255 := eq_true q255) | (go_at_call 100; (with_reducible refine (impl_costOf.calls a2 a1_4 a1_5 a1_6 t253 t254 _ A13.out).mono ?_); rintro e w30 ⟨rfl, hb⟩; have n_ := And.intro (Aside0.mk (bbq BK250.out hb)) (And.intro (Aside0.mk (bbq BK251.out hb)) (Aside0.mk (below_step (bw2 HB.out GE250.out GE251.out) hb))); clear BK250 BK251 HB; obtain ⟨BK250, BK251, HB⟩ := n_; (try clear hb); (try clear hb2); (try clear hk); (try clear hi); obtain ⟨hcz31_0, hcz31_1, hcz31_2, hfz31_0, hfz31_1, hfz31_2⟩ := cq3 BK250.out; obtain ⟨hcz32_0, hcz32_1, hcz32_2, hcz32_3, hcz32_4, hcz32_5, hcz32_6, hfz32_0, hfz32_1, hfz32_2, hfz32_3, hfz32_4, hfz32_5, hfz32_6⟩ := cq7 BK251.out; have p255 : 0 ≤ (a1_0 : Int) := of_decide_eq_true sq; have q255 : a1_0 < (l0_0.length : Int) := of_decide_eq_true sq; obtain ⟨ad255, e255, hx255_0⟩ := Kd.at_int HR0_0.out a1_0 p255 q255; cases e255; replace hx255_0 := (HB.out.cell (World.block_lt_of_cell? w _ hx255_0)).trans hx255_0; replace p255 := eq_true p255; replace q255 := eq_true q255) | (go_at_call 100; (with_reducible refine (impl_costOf.calls a2 a1_4 a1_5 a1_6 t253 t254 _ A13.out).mono ?_); rintro e w38 ⟨rfl, hb⟩; have n_ := And.intro (Aside0.mk (bbq BK250.out hb)) (And.intro (Aside0.mk (bbq BK251.out hb)) (Aside0.mk (below_step (bw2 HB.out GE250.out GE251.out) hb))); clear BK250 BK251 HB; obtain ⟨BK250, BK251, HB⟩ := n_; (try clear hb); (try clear hb2); (try clear hk); (try clear hi); obtain ⟨hcz39_0, hcz39_1, hcz39_2, hfz39_0, hfz39_1, hfz39_2⟩ := cq3 BK250.out; obtain ⟨hcz40_0, hcz40_1, hcz40_2, hcz40_3, hcz40_4, hcz40_5, hcz40_6, hfz40_0, hfz40_1, hfz40_2, hfz40_3, hfz40_4, hfz40_5, hfz40_6⟩ := cq7 BK251.out; have p255 : 0 ≤ (a1_0 : Int) := of_decide_eq_true sq; have q255 : a1_0 < (l0_0.length : Int) := of_decide_eq_true sq; obtain ⟨ad255, e255, hx255_0⟩ := Kd.at_int HR0_0.out a1_0 p255 q255; cases e255; replace hx255_0 := (HB.out.cell (World.block_lt_of_cell? w _ hx255_0)).trans hx255_0; replace p255 := eq_true p255; replace q255 := eq_true q255)); try go_wp2_with (first | ((with_reducible refine gate_dst (N := 3) rfl ?_); refine box_event ?hg (N := 3) ?hd (cs := #[.slice A0_0 l0_0.length c0_0, .slice A0_1 l0_1.length c0_1, .int .i64 a0_2]) (t := 28) ?hr ?_; (case hd => rfl); (case hg => rfl); (case hr => first | (go_simp; done) | (go_simp; rfl)); intro gb250 hg w_250 hbox hb; have n_ := And.intro (Aside0.mk (below_step (bw0 HB.out) hb)) (And.intro (Aside0.mk (hbox)) (Aside0.mk ((by rw [hg]; exact (below_size (bw0 HB.out)) : w.heap.size ≤ gb250)))); clear HB; obtain ⟨HB, BK250, GW250⟩ := n_; have GE250 := GW250; clear hb hbox hg) | ((with_reducible refine gate_dst (N := 4) rfl ?_); refine box_event ?hg (N := 4) ?hd (cs := #[.int .i64 a1_0, .int .i64 a1_1, .int .i64 a1_2, .int .i64 a1_3, .int .i64 a1_4, .int .i64 a1_5, .int .i64 a1_6]) (t := 32) ?hr ?_; (case hd => rfl); (case hg => rfl); (case hr => first | (go_simp; done) | (go_simp; rfl)); intro gb251 hg w_251 hbox hb; have n_ := And.intro (Aside0.mk (bbq BK250.out hb)) (And.intro (Aside0.mk (below_step (bw1 HB.out GE250.out) hb)) (And.intro (Aside0.mk (hbox)) (And.intro (Aside0.mk ((by rw [hg]; exact (below_size (bw1 HB.out GE250.out)) : w.heap.size ≤ gb251))) (And.intro (Aside0.mk ((nlq BK250.out hg))) (Aside0.mk ((ngq BK250.out hg))))))); clear BK250 HB; obtain ⟨BK250, HB, BK251, GW251, NB250_251, NB251_250⟩ := n_; have GE251 := GW251; clear hb hbox hg; have hnb251a := NB251_250.out; have hnc251a := NB250_251.out; have hcz251a_0 : w_251.cell? ⟨gb251, 0, none⟩ = some (.int .i64 a1_0) := (blk_cell BK251.out 0).trans rfl; have hcz251a_1 : w_251.cell? ⟨gb251, 1, none⟩ = some (.int .i64 a1_1) := (blk_cell BK251.out 1).trans rfl; have hcz251a_2 : w_251.cell? ⟨gb251, 2, none⟩ = some (.int .i64 a1_2) := (blk_cell BK251.out 2).trans rfl; have hcz251a_3 : w_251.cell? ⟨gb251, 3, none⟩ = some (.int .i64 a1_3) := (blk_cell BK251.out 3).trans rfl; have hcz251a_4 : w_251.cell? ⟨gb251, 4, none⟩ = some (.int .i64 a1_4) := (blk_cell BK251.out 4).trans rfl; have hcz251a_5 : w_251.cell? ⟨gb251, 5, none⟩ = some (.int .i64 a1_5) := (blk_cell BK251.out 5).trans rfl; have hcz251a_6 : w_251.cell? ⟨gb251, 6, none⟩ = some (.int .i64 a1_6) := (blk_cell BK251.out 6).trans rfl; have hfz251a_0 := blk_frozen BK251.out 0; have hfz251a_1 := blk_frozen BK251.out 1; have hfz251a_2 := blk_frozen BK251.out 2; have hfz251a_3 := blk_frozen BK251.out 3; have hfz251a_4 := blk_frozen BK251.out 4; have hfz251a_5 := blk_frozen BK251.out 5; have hfz251a_6 := blk_frozen BK251.out 6; have hcz251b_0 : w_251.cell? ⟨gb250, 0, none⟩ = some (.slice A0_0 l0_0.length c0_0) := (blk_cell BK250.out 0).trans rfl; have hcz251b_1 : w_251.cell? ⟨gb250, 1, none⟩ = some (.slice A0_1 l0_1.length c0_1) := (blk_cell BK250.out 1).trans rfl; have hcz251b_2 : w_251.cell? ⟨gb250, 2, none⟩ = some (.int .i64 a0_2) := (blk_cell BK250.out 2).trans rfl; have hfz251b_0 := blk_frozen BK250.out 0; have hfz251b_1 := blk_frozen BK250.out 1; have hfz251b_2 := blk_frozen BK250.out 2; have p252 : 0 ≤ (a1_0 : Int) := of_decide_eq_true sq; have q252 : a1_0 < (l0_1.length : Int) := of_decide_eq_true sq; obtain ⟨ad252, e252, hx252_0⟩ := Kd.at_int HR0_1.out a1_0 p252 q252; cases e252; replace hx252_0 := (HB.out.cell (World.block_lt_of_cell? w _ hx252_0)).trans hx252_0; replace p252 := eq_true p252; replace q252 := eq_true q252) | (go_at_call 100; (with_reducible refine (impl_costOf.calls a2 a1_4 a1_5 a1_6 t253 t254 _ A13.out).mono ?_); rintro e w21 ⟨rfl, hb⟩; have n_ := And.intro (Aside0.mk (bbq BK250.out hb)) (And.intro (Aside0.mk (bbq BK251.out hb)) (Aside0.mk (below_step (bw2 HB.out GE250.out GE251.out) hb))); clear BK250 BK251 HB; obtain ⟨BK250, BK251, HB⟩ := n_; (try clear hb); (try clear hb2); (try clear hk); (try clear hi); obtain ⟨hcz22_0, hcz22_1, hcz22_2, hfz22_0, hfz22_1, hfz22_2⟩ := cq3 BK250.out; obtain ⟨hcz23_0, hcz23_1, hcz23_2, hcz23_3, hcz23_4, hcz23_5, hcz23_6, hfz23_0, hfz23_1, hfz23_2, hfz23_3, hfz23_4, hfz23_5, hfz23_6⟩ := cq7 BK251.out; have p255 : 0 ≤ (a1_0 : Int) := of_decide_eq_true sq; have q255 : a1_0 < (l0_0.length : Int) := of_decide_eq_true sq; obtain ⟨ad255, e255, hx255_0⟩ := Kd.at_int HR0_0.out a1_0 p255 q255; cases e255; replace hx255_0 := (HB.out.cell (World.block_lt_of_cell? w _ hx255_0)).trans hx255_0; replace p255 := eq_true p255; replace q255 := eq_true q255) | (go_at_call 100; (with_reducible refine (impl_costOf.calls a2 a1_4 a1_5 a1_6 t253 t254 _ A13.out).mono ?_); rintro e w30 ⟨rfl, hb⟩; have n_ := And.intro (Aside0.mk (bbq BK250.out hb)) (And.intro (Aside0.mk (bbq BK251.out hb)) (Aside0.mk (below_step (bw2 HB.out GE250.out GE251.out) hb))); clear BK250 BK251 HB; obtain ⟨BK250, BK251, HB⟩ := n_; (try clear hb); (try clear hb2); (try clear hk); (try clear hi); obtain ⟨hcz31_0, hcz31_1, hcz31_2, hfz31_0, hfz31_1, hfz31_2⟩ := cq3 BK250.out; obtain ⟨hcz32_0, hcz32_1, hcz32_2, hcz32_3, hcz32_4, hcz32_5, hcz32_6, hfz32_0, hfz32_1, hfz32_2, hfz32_3, hfz32_4, hfz32_5, hfz32_6⟩ := cq7 BK251.out; have p255 : 0 ≤ (a1_0 : Int) := of_decide_eq_true sq; have q255 : a1_0 < (l0_0.length : Int) := of_decide_eq_true sq; obtain ⟨ad255, e255, hx255_0⟩ := Kd.at_int HR0_0.out a1_0 p255 q255; cases e255; replace hx255_0 := (HB.out.cell (World.block_lt_of_cell? w _ hx255_0)).trans hx255_0; replace p255 := eq_true p255; replace q255 := eq_true q255) | (go_at_call 100; (with_reducible refine (impl_costOf.calls a2 a1_4 a1_5 a1_6 t253 t254 _ A13.out).mono ?_); rintro e w38 ⟨rfl, hb⟩; have n_ := And.intro (Aside0.mk (bbq BK250.out hb)) (And.intro (Aside0.mk (bbq BK251.out hb)) (Aside0.mk (below_step (bw2 HB.out GE250.out GE251.out) hb))); clear BK250 BK251 HB; obtain ⟨BK250, BK251, HB⟩ := n_; (try clear hb); (try clear hb2); (try clear hk); (try clear hi); obtain ⟨hcz39_0, hcz39_1, hcz39_2, hfz39_0, hfz39_1, hfz39_2⟩ := cq3 BK250.out; obtain ⟨hcz40_0, hcz40_1, hcz40_2, hcz40_3, hcz40_4, hcz40_5, hcz40_6, hfz40_0, hfz40_1, hfz40_2, hfz40_3, hfz40_4, hfz40_5, hfz40_6⟩ := cq7 BK251.out; have p255 : 0 ≤ (a1_0 : Int) := of_decide_eq_true sq; have q255 : a1_0 < (l0_0.length : Int) := of_decide_eq_true sq; obtain ⟨ad255, e255, hx255_0⟩ := Kd.at_int HR0_0.out a1_0 p255 q255; cases e255; replace hx255_0 := (HB.out.cell (World.block_lt_of_cell? w _ hx255_0)).trans hx255_0; replace p255 := eq_true p255; replace q255 := eq_true q255)))
  go_ret
  exact ⟨by first | rfl | (simp [errW_none, errW_some] <;> rfl) | (simp [*, errW_none, errW_some] <;> rfl), by repeat (first | (with_reducible first | exact HB.out | apply below_alloc | apply pw_below_drewN | apply below_drew1 | refine below_set ?_ GE250.out | refine below_set ?_ GE251.out) | exact HB.out)⟩

end Go.Proofs.Ytiggokojffejeaa.PFnExactApplyWish
