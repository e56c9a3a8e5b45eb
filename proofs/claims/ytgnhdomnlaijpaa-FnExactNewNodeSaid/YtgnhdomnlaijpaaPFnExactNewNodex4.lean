/- Written by this session's program myprint.py, which runs the kit's print.py beside texts of this session's own. No condition. -/
import Derived.Test.YtgnhdomnlaijpaaPFnExactNewNodex0
import Derived.Test.YtgnhdomnlaijpaaPFnExactNewNodex1
import Derived.Test.YtgnhdomnlaijpaaPFnExactNewNodex2
import Derived.Test.YtgnhdomnlaijpaaPFnExactNewNodex3
namespace Go.Proofs.Ytgnhdomnlaijpaa.PFnExactNewNode
open Go.RowKit Go.Proofs.YtgnhdomnlaijpaaW.PrintWords Go.Proofs.YtgnhdomnlaijpaaW.PrintLast Go.Proofs.YtgnhdomnlaijpaaW.PrintMore
attribute [local go_sem] max2_int min2_int max_two min_two max_three min_three max_four min_four   -- for this text's walks alone
set_option linter.unusedVariables false
set_option linter.unusedSimpArgs false

/-! ### laws_FnExactNewNode: function 5 -/
mutual
def laws_FnExactNewNode.j0 : Nat → List Int → Bool → List Int → Bool → Bool → List Int → List (S64) → List Int → List (S64) → Option (Bool)
  | 0, _, _, _, _, _, _, _, _, _ => none
  | k + 1, x0, x4, x5, x7, x37, x174000, x174001, x185000, x185001 => if x37 = true then (none) else ((laws_toIntS.f k x0).bind fun t186 => ((laws_eqIntS.f k x5 t186).bind fun t189 => (if t189 = true then ((laws_markIntS.f k x5 1).bind fun bt190 => (if bt190.1 < 0 then (laws_FnExactNewNode.j1 k x0 x4 true x174000 x174001 x185000 x185001) else ((laws_eqNode.f k x185000 x185001 x174000 x174001).bind fun t192 => (if t192 = true then (laws_FnExactNewNode.j1 k x0 x4 (x7 != x4) x174000 x174001 x185000 x185001) else (laws_FnExactNewNode.j1 k x0 x4 true x174000 x174001 x185000 x185001))))) else (none))))
def laws_FnExactNewNode.j1 : Nat → List Int → Bool → Bool → List Int → List (S64) → List Int → List (S64) → Option (Bool)
  | 0, _, _, _, _, _, _, _ => none
  | k + 1, x0, x4, x58, x174000, x174001, x185000, x185001 => if x58 = true then (none) else ((laws_markNode.f k x185000 x185001 1).bind fun bt193 => ((laws_heldNode.f k bt193.2.1 bt193.2.2 1).bind fun t196 => (if t196 < 0 then (none) else (if t196 = bt193.1 then ((laws_toIntS.f k x0).bind fun t197 => ((impl_NewNode.f t197).bind fun bt200 => ((laws_eqNode.f k bt200.1 bt200.2.1 x174000 x174001).bind fun t208 => (if t208 = true then (laws_FnExactNewNode.j2 k bt193.1 (bt200.2.2 != x4) bt193.2.1 bt193.2.2) else (laws_FnExactNewNode.j2 k bt193.1 true bt193.2.1 bt193.2.2))))) else (none)))))
def laws_FnExactNewNode.j2 : Nat → Int → Bool → List Int → List (S64) → Option (Bool)
  | 0, _, _, _, _ => none
  | k + 1, x9, x84, x185000, x185001 => if x84 = true then (none) else ((laws_heldNode.f k x185000 x185001 1).bind fun t209 => (if t209 < 0 then (none) else (if t209 = x9 then (some true) else (none))))
end
def laws_FnExactNewNode.f (k : Nat) (l0 : List Int) : Option (Bool) := if (l0.length : Int) > 1048576 then (some true) else ((laws_toIntS.f k l0).bind fun t163 => ((spec_NewNode.f k t163).bind fun bt166 => ((laws_toIntS.f k l0).bind fun t174 => ((impl_NewNode.f t174).bind fun bt177 => ((laws_eqNode.f k bt177.1 bt177.2.1 bt166.1 bt166.2.1).bind fun t185 => (if t185 = true then (laws_FnExactNewNode.j0 k l0 bt166.2.2 t174 bt177.2.2 (bt177.2.2 != bt166.2.2) bt166.1 bt166.2.1 bt177.1 bt177.2.1) else (laws_FnExactNewNode.j0 k l0 bt166.2.2 t174 bt177.2.2 true bt166.1 bt166.2.1 bt177.1 bt177.2.1)))))))
theorem laws_FnExactNewNode.mono_l : ∀ k, (∀ y0 y1 y2 y3 y4 y5 y6 y7 y8, LeO (laws_FnExactNewNode.j0 k y0 y1 y2 y3 y4 y5 y6 y7 y8) (laws_FnExactNewNode.j0 (k + 1) y0 y1 y2 y3 y4 y5 y6 y7 y8)) ∧ (∀ y0 y1 y2 y3 y4 y5 y6, LeO (laws_FnExactNewNode.j1 k y0 y1 y2 y3 y4 y5 y6) (laws_FnExactNewNode.j1 (k + 1) y0 y1 y2 y3 y4 y5 y6)) ∧ (∀ y0 y1 y2 y3, LeO (laws_FnExactNewNode.j2 k y0 y1 y2 y3) (laws_FnExactNewNode.j2 (k + 1) y0 y1 y2 y3))
  | 0 => ⟨fun _ _ _ _ _ _ _ _ _ r h => by simp [laws_FnExactNewNode.j0] at h, fun _ _ _ _ _ _ _ r h => by simp [laws_FnExactNewNode.j1] at h, fun _ _ _ _ r h => by simp [laws_FnExactNewNode.j2] at h⟩
  | k + 1 => by
    obtain ⟨ih0, ih1, ih2⟩ := laws_FnExactNewNode.mono_l k
    refine ⟨?_, ?_, ?_⟩
    · intro y0 y1 y2 y3 y4 y5 y6 y7 y8
      unfold laws_FnExactNewNode.j0
      repeat' first
      | (with_reducible exact ih0 _ _ _ _ _ _ _ _ _)
      | (with_reducible exact ih1 _ _ _ _ _ _ _)
      | (with_reducible exact ih2 _ _ _ _)
      | (with_reducible exact laws_eqIntS.mono _ _ _)
      | (with_reducible exact laws_eqNode.mono _ _ _ _ _)
      | (with_reducible exact laws_heldNode.mono _ _ _ _)
      | (with_reducible exact laws_markIntS.mono _ _ _)
      | (with_reducible exact laws_markNode.mono _ _ _ _)
      | (with_reducible exact laws_toIntS.mono _ _)
      | (with_reducible exact spec_NewNode.mono _ _)
      | (with_reducible exact LeO.refl _)
      | (with_reducible exact LeO.none _)
      | (with_reducible refine LeO.ite ?_ ?_)
      | (with_reducible refine LeO.bind ?_ (fun _ => ?_))
      | exact ih0 _ _ _ _ _ _ _ _ _
      | exact ih1 _ _ _ _ _ _ _
      | exact ih2 _ _ _ _
      | exact laws_eqIntS.mono _ _ _
      | exact laws_eqNode.mono _ _ _ _ _
      | exact laws_heldNode.mono _ _ _ _
      | exact laws_markIntS.mono _ _ _
      | exact laws_markNode.mono _ _ _ _
      | exact laws_toIntS.mono _ _
      | exact spec_NewNode.mono _ _
      | exact LeO.none _
      | refine LeO.ite ?_ ?_
      | refine LeO.bind ?_ (fun _ => ?_)
    · intro y0 y1 y2 y3 y4 y5 y6
      unfold laws_FnExactNewNode.j1
      repeat' first
      | (with_reducible exact ih0 _ _ _ _ _ _ _ _ _)
      | (with_reducible exact ih1 _ _ _ _ _ _ _)
      | (with_reducible exact ih2 _ _ _ _)
      | (with_reducible exact laws_eqIntS.mono _ _ _)
      | (with_reducible exact laws_eqNode.mono _ _ _ _ _)
      | (with_reducible exact laws_heldNode.mono _ _ _ _)
      | (with_reducible exact laws_markIntS.mono _ _ _)
      | (with_reducible exact laws_markNode.mono _ _ _ _)
      | (with_reducible exact laws_toIntS.mono _ _)
      | (with_reducible exact spec_NewNode.mono _ _)
      | (with_reducible exact LeO.refl _)
      | (with_reducible exact LeO.none _)
      | (with_reducible refine LeO.ite ?_ ?_)
      | (with_reducible refine LeO.bind ?_ (fun _ => ?_))
      | exact ih0 _ _ _ _ _ _ _ _ _
      | exact ih1 _ _ _ _ _ _ _
      | exact ih2 _ _ _ _
      | exact laws_eqIntS.mono _ _ _
      | exact laws_eqNode.mono _ _ _ _ _
      | exact laws_heldNode.mono _ _ _ _
      | exact laws_markIntS.mono _ _ _
      | exact laws_markNode.mono _ _ _ _
      | exact laws_toIntS.mono _ _
      | exact spec_NewNode.mono _ _
      | exact LeO.none _
      | refine LeO.ite ?_ ?_
      | refine LeO.bind ?_ (fun _ => ?_)
    · intro y0 y1 y2 y3
      unfold laws_FnExactNewNode.j2
      repeat' first
      | (with_reducible exact ih0 _ _ _ _ _ _ _ _ _)
      | (with_reducible exact ih1 _ _ _ _ _ _ _)
      | (with_reducible exact ih2 _ _ _ _)
      | (with_reducible exact laws_eqIntS.mono _ _ _)
      | (with_reducible exact laws_eqNode.mono _ _ _ _ _)
      | (with_reducible exact laws_heldNode.mono _ _ _ _)
      | (with_reducible exact laws_markIntS.mono _ _ _)
      | (with_reducible exact laws_markNode.mono _ _ _ _)
      | (with_reducible exact laws_toIntS.mono _ _)
      | (with_reducible exact spec_NewNode.mono _ _)
      | (with_reducible exact LeO.refl _)
      | (with_reducible exact LeO.none _)
      | (with_reducible refine LeO.ite ?_ ?_)
      | (with_reducible refine LeO.bind ?_ (fun _ => ?_))
      | exact ih0 _ _ _ _ _ _ _ _ _
      | exact ih1 _ _ _ _ _ _ _
      | exact ih2 _ _ _ _
      | exact laws_eqIntS.mono _ _ _
      | exact laws_eqNode.mono _ _ _ _ _
      | exact laws_heldNode.mono _ _ _ _
      | exact laws_markIntS.mono _ _ _
      | exact laws_markNode.mono _ _ _ _
      | exact laws_toIntS.mono _ _
      | exact spec_NewNode.mono _ _
      | exact LeO.none _
      | refine LeO.ite ?_ ?_
      | refine LeO.bind ?_ (fun _ => ?_)
theorem laws_FnExactNewNode.mono : ∀ a0 k, LeO (laws_FnExactNewNode.f k a0) (laws_FnExactNewNode.f (k + 1) a0) := by
  intro a0 k
  obtain ⟨ih0, ih1, ih2⟩ := laws_FnExactNewNode.mono_l k
  unfold laws_FnExactNewNode.f
  repeat' first
      | (with_reducible exact ih0 _ _ _ _ _ _ _ _ _)
      | (with_reducible exact ih1 _ _ _ _ _ _ _)
      | (with_reducible exact ih2 _ _ _ _)
      | (with_reducible exact laws_eqIntS.mono _ _ _)
      | (with_reducible exact laws_eqNode.mono _ _ _ _ _)
      | (with_reducible exact laws_heldNode.mono _ _ _ _)
      | (with_reducible exact laws_markIntS.mono _ _ _)
      | (with_reducible exact laws_markNode.mono _ _ _ _)
      | (with_reducible exact laws_toIntS.mono _ _)
      | (with_reducible exact spec_NewNode.mono _ _)
      | (with_reducible exact LeO.refl _)
      | (with_reducible exact LeO.none _)
      | (with_reducible refine LeO.ite ?_ ?_)
      | (with_reducible refine LeO.bind ?_ (fun _ => ?_))
      | exact ih0 _ _ _ _ _ _ _ _ _
      | exact ih1 _ _ _ _ _ _ _
      | exact ih2 _ _ _ _
      | exact laws_eqIntS.mono _ _ _
      | exact laws_eqNode.mono _ _ _ _ _
      | exact laws_heldNode.mono _ _ _ _
      | exact laws_markIntS.mono _ _ _
      | exact laws_markNode.mono _ _ _ _
      | exact laws_toIntS.mono _ _
      | exact spec_NewNode.mono _ _
      | exact LeO.none _
      | refine LeO.ite ?_ ?_
      | refine LeO.bind ?_ (fun _ => ?_)
set_option maxHeartbeats 8000000 in
set_option maxRecDepth 100000 in
theorem laws_FnExactNewNode.calls (k : Nat) (A0 : Option Addr) (c0 : Nat) (l0 : List Int) (r : Bool) (w : World) (hr0 : Kd.C (Kd.int .i64) w A0 l0.length l0) (hc0 : l0.length ≤ c0) (h : laws_FnExactNewNode.f k l0 = some r) :
    Calls Try.prog 5 #[.slice A0 l0.length c0] w fun e w' => e = .returned (.bool r) ∧ Below w.heap.size w w' := by
  have hu33 := Try.underlying33
  have HR0 := Aside0.mk hr0
  have HC0 := Aside0.mk hc0
  clear hr0 hc0
  have HB := Aside0.mk (Below.refl w.heap.size w)
  have H : (if (l0.length : Int) > 1048576 then (some true) else ((laws_toIntS.f k l0).bind fun t163 => ((spec_NewNode.f k t163).bind fun bt166 => ((laws_toIntS.f k l0).bind fun t174 => ((impl_NewNode.f t174).bind fun bt177 => ((laws_eqNode.f k bt177.1 bt177.2.1 bt166.1 bt166.2.1).bind fun t185 => (if t185 = true then (laws_FnExactNewNode.j0 k l0 bt166.2.2 t174 bt177.2.2 (bt177.2.2 != bt166.2.2) bt166.1 bt166.2.1 bt177.1 bt177.2.1) else (laws_FnExactNewNode.j0 k l0 bt166.2.2 t174 bt177.2.2 true bt166.1 bt166.2.1 bt177.1 bt177.2.1)))))))) = some r := h
  clear h
  by_cases c2 : (l0.length : Int) > 1048576
  · rw [if_pos c2] at H
    have c2b0 : decide (1048576 < (l0.length : Int)) = true := decide_eq_true c2
    have c2b1 : decide (1048576 < l0.length) = true := decide_eq_true (by omega)
    clear c2
    obtain rfl := Option.some.inj H
    go_enter Try.func5, Try.ntmps5
    go_wp2
    go_ret
    exact ⟨by first | rfl | (simp [errW_none, errW_some] <;> rfl) | (simp [*, errW_none, errW_some] <;> rfl), by repeat (first | (with_reducible first | exact HB.out | apply below_alloc | apply pw_below_drewN | apply below_drew1) | exact HB.out)⟩
  · rw [if_neg c2] at H
    have c2b0 : decide (1048576 < (l0.length : Int)) = false := decide_eq_false c2
    have c2b1 : decide (1048576 < l0.length) = false := decide_eq_false (by omega)
    clear c2
    replace H := Option.bind_eq_some_iff.mp H
    obtain ⟨t163, A30, H⟩ := H
    replace H : ((spec_NewNode.f k t163).bind fun bt166 => ((laws_toIntS.f k l0).bind fun t174 => ((impl_NewNode.f t174).bind fun bt177 => ((laws_eqNode.f k bt177.1 bt177.2.1 bt166.1 bt166.2.1).bind fun t185 => (if t185 = true then (laws_FnExactNewNode.j0 k l0 bt166.2.2 t174 bt177.2.2 (bt177.2.2 != bt166.2.2) bt166.1 bt166.2.1 bt177.1 bt177.2.1) else (laws_FnExactNewNode.j0 k l0 bt166.2.2 t174 bt177.2.2 true bt166.1 bt166.2.1 bt177.1 bt177.2.1)))))) = some r := H
    have A3 := Aside0.mk A30
    clear A30
    replace H := Option.bind_eq_some_iff.mp H
    obtain ⟨⟨t166, t169, t172⟩, A40, H⟩ := H
    replace H : ((laws_toIntS.f k l0).bind fun t174 => ((impl_NewNode.f t174).bind fun bt177 => ((laws_eqNode.f k bt177.1 bt177.2.1 t166 t169).bind fun t185 => (if t185 = true then (laws_FnExactNewNode.j0 k l0 t172 t174 bt177.2.2 (bt177.2.2 != t172) t166 t169 bt177.1 bt177.2.1) else (laws_FnExactNewNode.j0 k l0 t172 t174 bt177.2.2 true t166 t169 bt177.1 bt177.2.1))))) = some r := H
    have A4 := Aside0.mk A40
    clear A40
    replace H := Option.bind_eq_some_iff.mp H
    obtain ⟨t174, A50, H⟩ := H
    replace H : ((impl_NewNode.f t174).bind fun bt177 => ((laws_eqNode.f k bt177.1 bt177.2.1 t166 t169).bind fun t185 => (if t185 = true then (laws_FnExactNewNode.j0 k l0 t172 t174 bt177.2.2 (bt177.2.2 != t172) t166 t169 bt177.1 bt177.2.1) else (laws_FnExactNewNode.j0 k l0 t172 t174 bt177.2.2 true t166 t169 bt177.1 bt177.2.1)))) = some r := H
    have A5 := Aside0.mk A50
    clear A50
    replace H := Option.bind_eq_some_iff.mp H
    obtain ⟨⟨t177, t180, t183⟩, A60, H⟩ := H
    replace H : ((laws_eqNode.f k t177 t180 t166 t169).bind fun t185 => (if t185 = true then (laws_FnExactNewNode.j0 k l0 t172 t174 t183 (t183 != t172) t166 t169 t177 t180) else (laws_FnExactNewNode.j0 k l0 t172 t174 t183 true t166 t169 t177 t180))) = some r := H
    have A6 := Aside0.mk A60
    clear A60
    have HC7 := Aside0.mk H
    clear H
    go_enter Try.func5, Try.ntmps5
    go_upto_region 6 with (first | ((with_reducible refine gate_callee (f := 11) rfl ?_); refine goesL_ (some 18) rfl rfl Try.func11 (by kernel_rfl) rfl #[.slice A0 l0.length c0] rfl (by (try simp only [List.map_toArray, List.map_cons, List.map_nil]); first | done | rfl | (simp only [List.length_drop, List.length_take]; rfl)) ?_; (with_reducible refine (laws_toIntS.calls k _ _ l0 t163 _ ?side1 ?side2 A3.out).mono ?_); (case side1 => repeat (first | exact HR0.out | (with_reducible refine Kd.C_alloc ?_ _) | (with_reducible refine Kd.C_drewN ?_ _) | (with_reducible refine Kd.C_drew ?_))); (case side2 => exact HC0.out); rintro e w8 ⟨v164, rfl, ho0, hb⟩; refine ⟨_, rfl, ?_⟩; have n0_ := Aside0.mk (Kd.R_lower ho0 (below_size (by repeat (first | (with_reducible first | exact HB.out | apply below_alloc | apply pw_below_drewN | apply below_drew1) | exact HB.out)))); have n1_ := Aside0.mk (below_step (by repeat (first | (with_reducible first | exact HB.out | apply below_alloc | apply pw_below_drewN | apply below_drew1) | exact HB.out)) hb); clear HB; have HO165 := n0_; have HB := n1_; clear n0_ n1_; (try clear hb); (try clear hb2); (try clear hk); (try clear hi); (try clear ho0); obtain ⟨Ao9, co9, eo9⟩ := Kd.R_slice HO165.out; subst eo9) | ((with_reducible refine gate_callee (f := 18) rfl ?_); refine goesL_ (some 19) rfl rfl Try.func18 (by kernel_rfl) rfl #[.slice Ao9 t163.length co9] rfl (by (try simp only [List.map_toArray, List.map_cons, List.map_nil]); first | done | rfl | (simp only [List.length_drop, List.length_take]; rfl)) ?_; (with_reducible refine (spec_NewNode.calls k _ _ t163 t166 t169 t172 _ ?side1 ?side2 A4.out).mono ?_); (case side1 => repeat (first | exact (Kd.R_reads' HO165.out).2.2 | (with_reducible refine Kd.C_alloc ?_ _) | (with_reducible refine Kd.C_drewN ?_ _) | (with_reducible refine Kd.C_drew ?_))); (case side2 => exact (Kd.R_reads' HO165.out).2.1); rintro e w10 ⟨v167, v170, rfl, ho0, ho1, hb⟩; refine ⟨_, rfl, ?_⟩; have n0_ := Aside0.mk (Kd.R_elder' (by (with_reducible repeat (first | apply Kd.R_alloc | apply Kd.R_drewN | apply Kd.R_drew)); exact HO165.out) (Kd.R_base ho0) hb); have n1_ := Aside0.mk (Kd.R_lower (Kd.R_new' ho0 (Kd.R_lt (by (with_reducible repeat (first | apply Kd.R_alloc | apply Kd.R_drewN | apply Kd.R_drew)); exact HO165.out))) (below_size (by repeat (first | (with_reducible first | exact HB.out | apply below_alloc | apply pw_below_drewN | apply below_drew1) | exact HB.out)))); have n2_ := Aside0.mk (Kd.R_lower ho1 (below_size (by repeat (first | (with_reducible first | exact HB.out | apply below_alloc | apply pw_below_drewN | apply below_drew1) | exact HB.out)))); have n3_ := Aside0.mk (below_step (by repeat (first | (with_reducible first | exact HB.out | apply below_alloc | apply pw_below_drewN | apply below_drew1) | exact HB.out)) hb); clear HO165; clear HB; have HO165 := n0_; have HO168 := n1_; have HO171 := n2_; have HB := n3_; clear n0_ n1_ n2_ n3_; (try clear hb); (try clear hb2); (try clear hk); (try clear hi); (try clear ho0); (try clear ho1)) | ((with_reducible refine gate_dst (N := 3) rfl ?_); refine box_event ?hg (N := 3) ?hd (cs := #[.slice none 0 0, .slice none 0 0]) (t := 33) ?hr ?_; (case hd => rfl); (case hg => rfl); (case hr => first | (go_simp; done) | (go_simp; rfl)); intro gb173 hg w11 hbox hb; have n0_ := Aside0.mk (Kd.R_below (by (with_reducible repeat (first | apply Kd.R_alloc | apply Kd.R_drewN | apply Kd.R_drew)); exact HO165.out) hb); have n1_ := Aside0.mk (Kd.R_below (by (with_reducible repeat (first | apply Kd.R_alloc | apply Kd.R_drewN | apply Kd.R_drew)); exact HO168.out) hb); have n2_ := Aside0.mk (Kd.R_below (by (with_reducible repeat (first | apply Kd.R_alloc | apply Kd.R_drewN | apply Kd.R_drew)); exact HO171.out) hb); have n3_ := Aside0.mk (below_step (by repeat (first | (with_reducible first | exact HB.out | apply below_alloc | apply pw_below_drewN | apply below_drew1) | exact HB.out)) hb); have n4_ := Aside0.mk (hbox); have n5_ := Aside0.mk ((by rw [hg]; exact (below_size (by repeat (first | (with_reducible first | exact HB.out | apply below_alloc | apply pw_below_drewN | apply below_drew1) | exact HB.out))) : w.heap.size ≤ gb173)); have n6_ := Aside0.mk ((by rw [hg]; exact (below_size (by repeat (first | (with_reducible first | exact HB.out | apply below_alloc | apply pw_below_drewN | apply below_drew1) | exact HB.out))) : w.heap.size ≤ gb173)); clear HO165; clear HO168; clear HO171; clear HB; have HO165 := n0_; have HO168 := n1_; have HO171 := n2_; have HB := n3_; have BK173 := n4_; have GW173 := n5_; have GE173 := n6_; clear n0_ n1_ n2_ n3_ n4_ n5_ n6_; clear hb hbox hg; obtain ⟨Ao12, co12, eo12⟩ := Kd.R_slice HO168.out; subst eo12; have hcz13_0 : w11.cell? ⟨gb173, 0, none⟩ = some (.slice none 0 0) := (blk_cell BK173.out 0).trans rfl; have hcz13_1 : w11.cell? ⟨gb173, 1, none⟩ = some (.slice none 0 0) := (blk_cell BK173.out 1).trans rfl; have hfz13_0 := blk_frozen BK173.out 0; have hfz13_1 := blk_frozen BK173.out 1; obtain ⟨Ao14, co14, eo14⟩ := Kd.R_slice HO171.out; subst eo14) | ((with_reducible refine gate_callee (f := 11) rfl ?_); refine goesL_ (some 23) rfl rfl Try.func11 (by kernel_rfl) rfl #[.slice A0 l0.length c0] rfl (by (try simp only [List.map_toArray, List.map_cons, List.map_nil]); first | done | rfl | (simp only [List.length_drop, List.length_take]; rfl)) ?_; (with_reducible refine (laws_toIntS.calls k _ _ l0 t174 _ ?side1 ?side2 A5.out).mono ?_); (case side1 => exact Kd.C_below HR0.out (by repeat (first | (with_reducible first | exact HB.out | apply below_alloc | apply pw_below_drewN | apply below_drew1 | refine below_set ?_ GE173.out) | exact HB.out))); (case side2 => exact HC0.out); rintro e w15 ⟨v175, rfl, ho0, hb⟩; refine ⟨_, rfl, ?_⟩; have n0_ := Aside0.mk (Kd.R_elder' (by (with_reducible repeat (first | apply Kd.R_alloc | apply Kd.R_drewN | apply Kd.R_drew)); exact (Kd.R_mono (Kd.R_far (p := ⟨gb173, 1, none⟩) (Kd.R_far (p := ⟨gb173, 0, none⟩) (Kd.R_types HO165.out BK173.out (by decide)) (fun _ hk => hk.2) (.slice Ao12 t166.length co12)) (fun _ hk => hk.2) (.slice Ao14 t169.length co14)) (fun _ h_ => h_.1))) (Kd.R_base ho0) hb); have n1_ := Aside0.mk (Kd.R_elder' (by (with_reducible repeat (first | apply Kd.R_alloc | apply Kd.R_drewN | apply Kd.R_drew)); exact (Kd.R_mono (Kd.R_far (p := ⟨gb173, 1, none⟩) (Kd.R_far (p := ⟨gb173, 0, none⟩) (Kd.R_types HO168.out BK173.out (by decide)) (fun _ hk => hk.2) (.slice Ao12 t166.length co12)) (fun _ hk => hk.2) (.slice Ao14 t169.length co14)) (fun _ h_ => h_.1))) (Kd.R_base ho0) hb); have n2_ := Aside0.mk (Kd.R_below (by (with_reducible repeat (first | apply Kd.R_alloc | apply Kd.R_drewN | apply Kd.R_drew)); exact (Kd.R_mono (Kd.R_far (p := ⟨gb173, 1, none⟩) (Kd.R_far (p := ⟨gb173, 0, none⟩) (Kd.R_types HO171.out BK173.out (by decide)) (fun _ hk => hk.2) (.slice Ao12 t166.length co12)) (fun _ hk => hk.2) (.slice Ao14 t169.length co14)) (fun _ h_ => h_.1))) hb); have n3_ := Aside0.mk (Kd.R_lower (Kd.R_new' (Kd.R_new' ho0 (Kd.R_lt (by (with_reducible repeat (first | apply Kd.R_alloc | apply Kd.R_drewN | apply Kd.R_drew)); exact (Kd.R_mono (Kd.R_far (p := ⟨gb173, 1, none⟩) (Kd.R_far (p := ⟨gb173, 0, none⟩) (Kd.R_types HO165.out BK173.out (by decide)) (fun _ hk => hk.2) (.slice Ao12 t166.length co12)) (fun _ hk => hk.2) (.slice Ao14 t169.length co14)) (fun _ h_ => h_.1))))) (Kd.R_lt (by (with_reducible repeat (first | apply Kd.R_alloc | apply Kd.R_drewN | apply Kd.R_drew)); exact (Kd.R_mono (Kd.R_far (p := ⟨gb173, 1, none⟩) (Kd.R_far (p := ⟨gb173, 0, none⟩) (Kd.R_types HO168.out BK173.out (by decide)) (fun _ hk => hk.2) (.slice Ao12 t166.length co12)) (fun _ hk => hk.2) (.slice Ao14 t169.length co14)) (fun _ h_ => h_.1))))) (below_size (by repeat (first | (with_reducible first | exact HB.out | apply below_alloc | apply pw_below_drewN | apply below_drew1 | refine below_set ?_ GE173.out) | exact HB.out)))); have n4_ := Aside0.mk (blk_below (g := gb173) (o := .cells #[.slice Ao12 t166.length co12, .slice Ao14 t169.length co14] 33 (0, 0)) (by (with_reducible repeat (first | refine blk_drewN ?_ _ | refine blk_drew ?_ | refine blk_alloc ?_ _)); refine blk_put (cs := #[.slice Ao12 t166.length co12, .slice none 0 0]) ?_ 1 _ rfl; (with_reducible repeat (first | refine blk_drewN ?_ _ | refine blk_drew ?_ | refine blk_alloc ?_ _)); refine blk_put (cs := #[.slice none 0 0, .slice none 0 0]) ?_ 0 _ rfl; (with_reducible repeat (first | refine blk_drewN ?_ _ | refine blk_drew ?_ | refine blk_alloc ?_ _)); exact BK173.out) hb); have n5_ := Aside0.mk (below_step (by repeat (first | (with_reducible first | exact HB.out | apply below_alloc | apply pw_below_drewN | apply below_drew1 | refine below_set ?_ GE173.out) | exact HB.out)) hb); clear HO165; clear HO168; clear HO171; clear BK173; clear HB; have HO165 := n0_; have HO168 := n1_; have HO171 := n2_; have HO176 := n3_; have BK173 := n4_; have HB := n5_; clear n0_ n1_ n2_ n3_ n4_ n5_; (try clear hb); (try clear hb2); (try clear hk); (try clear hi); (try clear ho0); obtain ⟨Ao16, co16, eo16⟩ := Kd.R_slice HO176.out; subst eo16) | ((with_reducible refine gate_callee (f := 19) rfl ?_); refine goesL_ (some 26) rfl rfl Try.func19 (by kernel_rfl) rfl #[.slice Ao16 t174.length co16] rfl (by (try simp only [List.map_toArray, List.map_cons, List.map_nil]); first | done | rfl | (simp only [List.length_drop, List.length_take]; rfl)) ?_; (with_reducible refine (impl_NewNode.calls _ _ t174 t177 t180 t183 _ ?side1 ?side2 A6.out).mono ?_); (case side1 => repeat (first | exact (Kd.R_reads' HO176.out).2.2 | (with_reducible refine Kd.C_alloc ?_ _) | (with_reducible refine Kd.C_drewN ?_ _) | (with_reducible refine Kd.C_drew ?_))); (case side2 => exact (Kd.R_reads' HO176.out).2.1); rintro e w17 ⟨v178, v181, rfl, ho0, ho1, hb⟩; refine ⟨_, rfl, ?_⟩; have n0_ := Aside0.mk (Kd.R_elder' (by (with_reducible repeat (first | apply Kd.R_alloc | apply Kd.R_drewN | apply Kd.R_drew)); exact HO165.out) (Kd.R_base ho0) hb); have n1_ := Aside0.mk (Kd.R_elder' (by (with_reducible repeat (first | apply Kd.R_alloc | apply Kd.R_drewN | apply Kd.R_drew)); exact HO168.out) (Kd.R_base ho0) hb); have n2_ := Aside0.mk (Kd.R_elder' (by (with_reducible repeat (first | apply Kd.R_alloc | apply Kd.R_drewN | apply Kd.R_drew)); exact HO171.out) (Kd.R_base ho1) hb); have n3_ := Aside0.mk (Kd.R_elder' (by (with_reducible repeat (first | apply Kd.R_alloc | apply Kd.R_drewN | apply Kd.R_drew)); exact HO176.out) (Kd.R_base ho0) hb); have n4_ := Aside0.mk (Kd.R_lower (Kd.R_new' (Kd.R_new' (Kd.R_new' ho0 (Kd.R_lt (by (with_reducible repeat (first | apply Kd.R_alloc | apply Kd.R_drewN | apply Kd.R_drew)); exact HO165.out))) (Kd.R_lt (by (with_reducible repeat (first | apply Kd.R_alloc | apply Kd.R_drewN | apply Kd.R_drew)); exact HO168.out))) (Kd.R_lt (by (with_reducible repeat (first | apply Kd.R_alloc | apply Kd.R_drewN | apply Kd.R_drew)); exact HO176.out))) (below_size (by repeat (first | (with_reducible first | exact HB.out | apply below_alloc | apply pw_below_drewN | apply below_drew1 | refine below_set ?_ GE173.out) | exact HB.out)))); have n5_ := Aside0.mk (Kd.R_lower (Kd.R_new' ho1 (Kd.R_lt (by (with_reducible repeat (first | apply Kd.R_alloc | apply Kd.R_drewN | apply Kd.R_drew)); exact HO171.out))) (below_size (by repeat (first | (with_reducible first | exact HB.out | apply below_alloc | apply pw_below_drewN | apply below_drew1 | refine below_set ?_ GE173.out) | exact HB.out)))); have n6_ := Aside0.mk (blk_below (g := gb173) (o := .cells #[.slice Ao12 t166.length co12, .slice Ao14 t169.length co14] 33 (0, 0)) (by (with_reducible repeat (first | refine blk_drewN ?_ _ | refine blk_drew ?_ | refine blk_alloc ?_ _)); exact BK173.out) hb); have n7_ := Aside0.mk (below_step (by repeat (first | (with_reducible first | exact HB.out | apply below_alloc | apply pw_below_drewN | apply below_drew1 | refine below_set ?_ GE173.out) | exact HB.out)) hb); clear HO165; clear HO168; clear HO171; clear HO176; clear BK173; clear HB; have HO165 := n0_; have HO168 := n1_; have HO171 := n2_; have HO176 := n3_; have HO179 := n4_; have HO182 := n5_; have BK173 := n6_; have HB := n7_; clear n0_ n1_ n2_ n3_ n4_ n5_ n6_ n7_; (try clear hb); (try clear hb2); (try clear hk); (try clear hi); (try clear ho0); (try clear ho1)) | ((with_reducible refine gate_dst (N := 6) rfl ?_); refine box_event ?hg (N := 6) ?hd (cs := #[.slice none 0 0, .slice none 0 0]) (t := 33) ?hr ?_; (case hd => rfl); (case hg => rfl); (case hr => first | (go_simp; done) | (go_simp; rfl)); intro gb184 hg w18 hbox hb; have n0_ := Aside0.mk (Kd.R_below (by (with_reducible repeat (first | apply Kd.R_alloc | apply Kd.R_drewN | apply Kd.R_drew)); exact HO165.out) hb); have n1_ := Aside0.mk (Kd.R_below (by (with_reducible repeat (first | apply Kd.R_alloc | apply Kd.R_drewN | apply Kd.R_drew)); exact HO168.out) hb); have n2_ := Aside0.mk (Kd.R_below (by (with_reducible repeat (first | apply Kd.R_alloc | apply Kd.R_drewN | apply Kd.R_drew)); exact HO171.out) hb); have n3_ := Aside0.mk (Kd.R_below (by (with_reducible repeat (first | apply Kd.R_alloc | apply Kd.R_drewN | apply Kd.R_drew)); exact HO176.out) hb); have n4_ := Aside0.mk (Kd.R_below (by (with_reducible repeat (first | apply Kd.R_alloc | apply Kd.R_drewN | apply Kd.R_drew)); exact HO179.out) hb); have n5_ := Aside0.mk (Kd.R_below (by (with_reducible repeat (first | apply Kd.R_alloc | apply Kd.R_drewN | apply Kd.R_drew)); exact HO182.out) hb); have n6_ := Aside0.mk (blk_below (g := gb173) (o := .cells #[.slice Ao12 t166.length co12, .slice Ao14 t169.length co14] 33 (0, 0)) (by (with_reducible repeat (first | refine blk_drewN ?_ _ | refine blk_drew ?_ | refine blk_alloc ?_ _)); exact BK173.out) hb); have n7_ := Aside0.mk (below_step (by repeat (first | (with_reducible first | exact HB.out | apply below_alloc | apply pw_below_drewN | apply below_drew1 | refine below_set ?_ GE173.out) | exact HB.out)) hb); have n8_ := Aside0.mk (hbox); have n9_ := Aside0.mk ((by rw [hg]; exact (below_size (by repeat (first | (with_reducible first | exact HB.out | apply below_alloc | apply pw_below_drewN | apply below_drew1 | refine below_set ?_ GE173.out) | exact HB.out))) : w.heap.size ≤ gb184)); have n10_ := Aside0.mk ((by rw [hg]; exact (below_size (by repeat (first | (with_reducible first | exact HB.out | apply below_alloc | apply pw_below_drewN | apply below_drew1 | refine below_set ?_ GE173.out) | exact HB.out))) : w.heap.size ≤ gb184)); have n11_ := Aside0.mk ((by rw [hg]; exact Nat.ne_of_lt (blk_lt (g := gb173) (o := .cells #[.slice Ao12 t166.length co12, .slice Ao14 t169.length co14] 33 (0, 0)) (by (with_reducible repeat (first | refine blk_drewN ?_ _ | refine blk_drew ?_ | refine blk_alloc ?_ _)); exact BK173.out)) : gb173 ≠ gb184)); have n12_ := Aside0.mk ((by rw [hg]; exact Nat.ne_of_gt (blk_lt (g := gb173) (o := .cells #[.slice Ao12 t166.length co12, .slice Ao14 t169.length co14] 33 (0, 0)) (by (with_reducible repeat (first | refine blk_drewN ?_ _ | refine blk_drew ?_ | refine blk_alloc ?_ _)); exact BK173.out)) : gb184 ≠ gb173)); clear HO165; clear HO168; clear HO171; clear HO176; clear HO179; clear HO182; clear BK173; clear HB; have HO165 := n0_; have HO168 := n1_; have HO171 := n2_; have HO176 := n3_; have HO179 := n4_; have HO182 := n5_; have BK173 := n6_; have HB := n7_; have BK184 := n8_; have GW184 := n9_; have GE184 := n10_; have NB173_184 := n11_; have NB184_173 := n12_; clear n0_ n1_ n2_ n3_ n4_ n5_ n6_ n7_ n8_ n9_ n10_ n11_ n12_; clear hb hbox hg; obtain ⟨Ao19, co19, eo19⟩ := Kd.R_slice HO179.out; subst eo19; have hnb20 := NB184_173.out; have hnc20 := NB173_184.out; have hcz21_0 : w18.cell? ⟨gb184, 0, none⟩ = some (.slice none 0 0) := (blk_cell BK184.out 0).trans rfl; have hcz21_1 : w18.cell? ⟨gb184, 1, none⟩ = some (.slice none 0 0) := (blk_cell BK184.out 1).trans rfl; have hfz21_0 := blk_frozen BK184.out 0; have hfz21_1 := blk_frozen BK184.out 1; obtain ⟨Ao22, co22, eo22⟩ := Kd.R_slice HO182.out; subst eo22))
    (try simp only [Act.put, List.setIfInBounds_toArray, List.set_cons_zero, List.set_cons_succ])
    go_cut [37] (fun v37 wc => ∃ (kq : Nat) (x37_6 : Bool), v37 = .bool x37_6 ∧ Aside0 (laws_FnExactNewNode.j0 kq l0 t172 t174 t183 x37_6 t166 t169 t177 t180 = some r) ∧ Aside0 (kq ≤ k) ∧ Aside0 (Kd.R (Kd.int .i64) 3 wc w.heap.size (fun k_ => some k_ ≠ ((.slice Ao12 t166.length co12) : Value).ownBlock ∧ some k_ ≠ ((.slice Ao19 t177.length co19) : Value).ownBlock) (.slice Ao16 t174.length co16) t174) ∧ Aside0 (Kd.R (Kd.int .i64) 3 wc w.heap.size (fun k_ => some k_ ≠ ((.slice Ao16 t174.length co16) : Value).ownBlock ∧ some k_ ≠ ((.slice Ao19 t177.length co19) : Value).ownBlock) (.slice Ao12 t166.length co12) t166) ∧ Aside0 (Kd.R k64 64 wc w.heap.size (fun k_ => some k_ ≠ ((.slice Ao22 t180.length co22) : Value).ownBlock) (.slice Ao14 t169.length co14) t169) ∧ Aside0 (Kd.R (Kd.int .i64) 3 wc w.heap.size (fun k_ => some k_ ≠ ((.slice Ao16 t174.length co16) : Value).ownBlock ∧ some k_ ≠ ((.slice Ao12 t166.length co12) : Value).ownBlock) (.slice Ao19 t177.length co19) t177) ∧ Aside0 (Kd.R k64 64 wc w.heap.size (fun k_ => some k_ ≠ ((.slice Ao14 t169.length co14) : Value).ownBlock) (.slice Ao22 t180.length co22) t180) ∧ Aside0 (wc.heap[gb173]? = some (.cells #[(.slice Ao12 t166.length co12), (.slice Ao14 t169.length co14)] 33 (0, 0))) ∧ Aside0 (wc.heap[gb184]? = some (.cells #[(.slice Ao19 t177.length co19), (.slice Ao22 t180.length co22)] 33 (0, 0))) ∧ Aside0 (Below w.heap.size w wc))
    case first =>
      have H := HC7.out
      clear HC7
      replace H := Option.bind_eq_some_iff.mp H
      obtain ⟨t185, A230, H⟩ := H
      replace H : (if t185 = true then (laws_FnExactNewNode.j0 k l0 t172 t174 t183 (t183 != t172) t166 t169 t177 t180) else (laws_FnExactNewNode.j0 k l0 t172 t174 t183 true t166 t169 t177 t180)) = some r := H
      have A23 := Aside0.mk A230
      clear A230
      by_cases c24 : t185 = true
      · subst c24
        have H1 : (laws_FnExactNewNode.j0 k l0 t172 t174 t183 (t183 != t172) t166 t169 t177 t180) = some r := by rw [if_pos rfl] at H; exact H
        clear H
        have H := H1
        clear H1
        have H' := Aside0.mk H
        clear H
        have hnb25 := NB184_173.out
        have hnc25 := NB173_184.out
        have hcz26_0 : w18.cell? ⟨gb184, 0, none⟩ = some (.slice none 0 0) := (blk_cell BK184.out 0).trans rfl
        have hcz26_1 : w18.cell? ⟨gb184, 1, none⟩ = some (.slice none 0 0) := (blk_cell BK184.out 1).trans rfl
        have hfz26_0 := blk_frozen BK184.out 0
        have hfz26_1 := blk_frozen BK184.out 1
        have hcz27_0 : w18.cell? ⟨gb173, 0, none⟩ = some (.slice Ao12 t166.length co12) := (blk_cell BK173.out 0).trans rfl
        have hcz27_1 : w18.cell? ⟨gb173, 1, none⟩ = some (.slice Ao14 t169.length co14) := (blk_cell BK173.out 1).trans rfl
        have hfz27_0 := blk_frozen BK173.out 0
        have hfz27_1 := blk_frozen BK173.out 1
        go_wp2_with (first | ((with_reducible refine gate_callee (f := 20) rfl ?_); refine goesL_ (some 31) rfl rfl Try.func20 (by kernel_rfl) rfl #[.agg #[.slice Ao19 t177.length co19, .slice Ao22 t180.length co22], .agg #[.slice Ao12 t166.length co12, .slice Ao14 t169.length co14]] rfl (by (try simp only [List.map_toArray, List.map_cons, List.map_nil]); first | done | rfl | (simp only [List.length_drop, List.length_take]; rfl)) ?_; (with_reducible refine (laws_eqNode.calls k _ _ t177 _ _ t180 _ _ t166 _ _ t169 true _ ?side1 ?side2 ?side3 ?side4 ?side5 ?side6 ?side7 ?side8 A23.out).mono ?_); (case side1 => refine (Kd.R_reads' (e := 3) (base := w.heap.size) (ok := fun k_ => (((True ∧ some k_ ≠ (.slice Ao9 t163.length co9 : Value).ownBlock) ∧ some k_ ≠ (.slice Ao12 t166.length co12 : Value).ownBlock) ∧ some k_ ≠ (.slice Ao16 t174.length co16 : Value).ownBlock)) (n := t177.length) (c := co19) ?_).2.2; exact (by (with_reducible repeat (first | apply Kd.R_alloc | apply Kd.R_drewN | apply Kd.R_drew)); exact (Kd.R_mono (Kd.R_far (p := ⟨gb184, 1, none⟩) (Kd.R_far (p := ⟨gb184, 0, none⟩) (Kd.R_types HO179.out BK184.out (by decide)) (fun _ hk => hk.2) (.slice Ao19 t177.length co19)) (fun _ hk => hk.2) (.slice Ao22 t180.length co22)) (fun _ h_ => h_.1)))); (case side2 => exact (Kd.R_reads' HO179.out).2.1); (case side3 => refine (Kd.R_reads' (e := 64) (base := w.heap.size) (ok := fun k_ => (True ∧ some k_ ≠ (.slice Ao14 t169.length co14 : Value).ownBlock)) (n := t180.length) (c := co22) ?_).2.2; exact (by (with_reducible repeat (first | apply Kd.R_alloc | apply Kd.R_drewN | apply Kd.R_drew)); exact (Kd.R_mono (Kd.R_far (p := ⟨gb184, 1, none⟩) (Kd.R_far (p := ⟨gb184, 0, none⟩) (Kd.R_types HO182.out BK184.out (by decide)) (fun _ hk => hk.2) (.slice Ao19 t177.length co19)) (fun _ hk => hk.2) (.slice Ao22 t180.length co22)) (fun _ h_ => h_.1)))); (case side4 => exact (Kd.R_reads' HO182.out).2.1); (case side5 => refine (Kd.R_reads' (e := 3) (base := w.heap.size) (ok := fun k_ => (((True ∧ some k_ ≠ (.slice Ao9 t163.length co9 : Value).ownBlock) ∧ some k_ ≠ (.slice Ao16 t174.length co16 : Value).ownBlock) ∧ some k_ ≠ (.slice Ao19 t177.length co19 : Value).ownBlock)) (n := t166.length) (c := co12) ?_).2.2; exact (by (with_reducible repeat (first | apply Kd.R_alloc | apply Kd.R_drewN | apply Kd.R_drew)); exact (Kd.R_mono (Kd.R_far (p := ⟨gb184, 1, none⟩) (Kd.R_far (p := ⟨gb184, 0, none⟩) (Kd.R_types HO168.out BK184.out (by decide)) (fun _ hk => hk.2) (.slice Ao19 t177.length co19)) (fun _ hk => hk.2) (.slice Ao22 t180.length co22)) (fun _ h_ => h_.1)))); (case side6 => exact (Kd.R_reads' HO168.out).2.1); (case side7 => refine (Kd.R_reads' (e := 64) (base := w.heap.size) (ok := fun k_ => (True ∧ some k_ ≠ (.slice Ao22 t180.length co22 : Value).ownBlock)) (n := t169.length) (c := co14) ?_).2.2; exact (by (with_reducible repeat (first | apply Kd.R_alloc | apply Kd.R_drewN | apply Kd.R_drew)); exact (Kd.R_mono (Kd.R_far (p := ⟨gb184, 1, none⟩) (Kd.R_far (p := ⟨gb184, 0, none⟩) (Kd.R_types HO171.out BK184.out (by decide)) (fun _ hk => hk.2) (.slice Ao19 t177.length co19)) (fun _ hk => hk.2) (.slice Ao22 t180.length co22)) (fun _ h_ => h_.1)))); (case side8 => exact (Kd.R_reads' HO171.out).2.1); rintro e w28 ⟨rfl, hb⟩; refine ⟨_, rfl, ?_⟩; have n0_ := Aside0.mk (Kd.R_below (by (with_reducible repeat (first | apply Kd.R_alloc | apply Kd.R_drewN | apply Kd.R_drew)); exact (Kd.R_mono (Kd.R_far (p := ⟨gb184, 1, none⟩) (Kd.R_far (p := ⟨gb184, 0, none⟩) (Kd.R_types HO165.out BK184.out (by decide)) (fun _ hk => hk.2) (.slice Ao19 t177.length co19)) (fun _ hk => hk.2) (.slice Ao22 t180.length co22)) (fun _ h_ => h_.1))) hb); have n1_ := Aside0.mk (Kd.R_below (by (with_reducible repeat (first | apply Kd.R_alloc | apply Kd.R_drewN | apply Kd.R_drew)); exact (Kd.R_mono (Kd.R_far (p := ⟨gb184, 1, none⟩) (Kd.R_far (p := ⟨gb184, 0, none⟩) (Kd.R_types HO168.out BK184.out (by decide)) (fun _ hk => hk.2) (.slice Ao19 t177.length co19)) (fun _ hk => hk.2) (.slice Ao22 t180.length co22)) (fun _ h_ => h_.1))) hb); have n2_ := Aside0.mk (Kd.R_below (by (with_reducible repeat (first | apply Kd.R_alloc | apply Kd.R_drewN | apply Kd.R_drew)); exact (Kd.R_mono (Kd.R_far (p := ⟨gb184, 1, none⟩) (Kd.R_far (p := ⟨gb184, 0, none⟩) (Kd.R_types HO171.out BK184.out (by decide)) (fun _ hk => hk.2) (.slice Ao19 t177.length co19)) (fun _ hk => hk.2) (.slice Ao22 t180.length co22)) (fun _ h_ => h_.1))) hb); have n3_ := Aside0.mk (Kd.R_below (by (with_reducible repeat (first | apply Kd.R_alloc | apply Kd.R_drewN | apply Kd.R_drew)); exact (Kd.R_mono (Kd.R_far (p := ⟨gb184, 1, none⟩) (Kd.R_far (p := ⟨gb184, 0, none⟩) (Kd.R_types HO176.out BK184.out (by decide)) (fun _ hk => hk.2) (.slice Ao19 t177.length co19)) (fun _ hk => hk.2) (.slice Ao22 t180.length co22)) (fun _ h_ => h_.1))) hb); have n4_ := Aside0.mk (Kd.R_below (by (with_reducible repeat (first | apply Kd.R_alloc | apply Kd.R_drewN | apply Kd.R_drew)); exact (Kd.R_mono (Kd.R_far (p := ⟨gb184, 1, none⟩) (Kd.R_far (p := ⟨gb184, 0, none⟩) (Kd.R_types HO179.out BK184.out (by decide)) (fun _ hk => hk.2) (.slice Ao19 t177.length co19)) (fun _ hk => hk.2) (.slice Ao22 t180.length co22)) (fun _ h_ => h_.1))) hb); have n5_ := Aside0.mk (Kd.R_below (by (with_reducible repeat (first | apply Kd.R_alloc | apply Kd.R_drewN | apply Kd.R_drew)); exact (Kd.R_mono (Kd.R_far (p := ⟨gb184, 1, none⟩) (Kd.R_far (p := ⟨gb184, 0, none⟩) (Kd.R_types HO182.out BK184.out (by decide)) (fun _ hk => hk.2) (.slice Ao19 t177.length co19)) (fun _ hk => hk.2) (.slice Ao22 t180.length co22)) (fun _ h_ => h_.1))) hb); have n6_ := Aside0.mk (blk_below (g := gb173) (o := .cells #[.slice Ao12 t166.length co12, .slice Ao14 t169.length co14] 33 (0, 0)) (by (with_reducible repeat (first | refine blk_drewN ?_ _ | refine blk_drew ?_ | refine blk_alloc ?_ _)); refine blk_far ?_ NB173_184.out _; (with_reducible repeat (first | refine blk_drewN ?_ _ | refine blk_drew ?_ | refine blk_alloc ?_ _)); refine blk_far ?_ NB173_184.out _; (with_reducible repeat (first | refine blk_drewN ?_ _ | refine blk_drew ?_ | refine blk_alloc ?_ _)); exact BK173.out) hb); have n7_ := Aside0.mk (blk_below (g := gb184) (o := .cells #[.slice Ao19 t177.length co19, .slice Ao22 t180.length co22] 33 (0, 0)) (by (with_reducible repeat (first | refine blk_drewN ?_ _ | refine blk_drew ?_ | refine blk_alloc ?_ _)); refine blk_put (cs := #[.slice Ao19 t177.length co19, .slice none 0 0]) ?_ 1 _ rfl; (with_reducible repeat (first | refine blk_drewN ?_ _ | refine blk_drew ?_ | refine blk_alloc ?_ _)); refine blk_put (cs := #[.slice none 0 0, .slice none 0 0]) ?_ 0 _ rfl; (with_reducible repeat (first | refine blk_drewN ?_ _ | refine blk_drew ?_ | refine blk_alloc ?_ _)); exact BK184.out) hb); have n8_ := Aside0.mk (below_step (by repeat (first | (with_reducible first | exact HB.out | apply below_alloc | apply pw_below_drewN | apply below_drew1 | refine below_set ?_ GE173.out | refine below_set ?_ GE184.out) | exact HB.out)) hb); clear HO165; clear HO168; clear HO171; clear HO176; clear HO179; clear HO182; clear BK173; clear BK184; clear HB; have HO165 := n0_; have HO168 := n1_; have HO171 := n2_; have HO176 := n3_; have HO179 := n4_; have HO182 := n5_; have BK173 := n6_; have BK184 := n7_; have HB := n8_; clear n0_ n1_ n2_ n3_ n4_ n5_ n6_ n7_ n8_; (try clear hb); (try clear hb2); (try clear hk); (try clear hi)))
        go_meet
        case rel => exact ⟨_, ((t183 != t172)), (by first | rfl | (simp; done) | (simp [*]; done)), H', ⟨by first | omega | exact Nat.le_refl _⟩, ⟨by (with_reducible repeat (first | apply Kd.R_alloc | apply Kd.R_drewN | apply Kd.R_drew)); exact Kd.R_mono HO176.out (fun _ hk => ⟨hk.1.2, hk.2⟩)⟩, ⟨by (with_reducible repeat (first | apply Kd.R_alloc | apply Kd.R_drewN | apply Kd.R_drew)); exact Kd.R_mono HO168.out (fun _ hk => ⟨hk.1.2, hk.2⟩)⟩, ⟨by (with_reducible repeat (first | apply Kd.R_alloc | apply Kd.R_drewN | apply Kd.R_drew)); exact Kd.R_mono HO171.out (fun _ hk => hk.2)⟩, ⟨by (with_reducible repeat (first | apply Kd.R_alloc | apply Kd.R_drewN | apply Kd.R_drew)); exact Kd.R_mono HO179.out (fun _ hk => ⟨hk.2, hk.1.2⟩)⟩, ⟨by (with_reducible repeat (first | apply Kd.R_alloc | apply Kd.R_drewN | apply Kd.R_drew)); exact Kd.R_mono HO182.out (fun _ hk => hk.2)⟩, ⟨by (with_reducible repeat (first | refine blk_drewN ?_ _ | refine blk_drew ?_ | refine blk_alloc ?_ _)); exact BK173.out⟩, ⟨by (with_reducible repeat (first | refine blk_drewN ?_ _ | refine blk_drew ?_ | refine blk_alloc ?_ _)); exact BK184.out⟩, ⟨by repeat (first | (with_reducible first | exact HB.out | apply below_alloc | apply pw_below_drewN | apply below_drew1 | refine below_set ?_ GE173.out | refine below_set ?_ GE184.out) | exact HB.out)⟩⟩
      · replace c24 := Bool.eq_false_iff.mpr c24
        subst c24
        have H1 : (laws_FnExactNewNode.j0 k l0 t172 t174 t183 true t166 t169 t177 t180) = some r := by rw [if_neg (show ¬ (false = true) by decide)] at H; exact H
        clear H
        have H := H1
        clear H1
        have H' := Aside0.mk H
        clear H
        have hnb29 := NB184_173.out
        have hnc29 := NB173_184.out
        have hcz30_0 : w18.cell? ⟨gb184, 0, none⟩ = some (.slice none 0 0) := (blk_cell BK184.out 0).trans rfl
        have hcz30_1 : w18.cell? ⟨gb184, 1, none⟩ = some (.slice none 0 0) := (blk_cell BK184.out 1).trans rfl
        have hfz30_0 := blk_frozen BK184.out 0
        have hfz30_1 := blk_frozen BK184.out 1
        have hcz31_0 : w18.cell? ⟨gb173, 0, none⟩ = some (.slice Ao12 t166.length co12) := (blk_cell BK173.out 0).trans rfl
        have hcz31_1 : w18.cell? ⟨gb173, 1, none⟩ = some (.slice Ao14 t169.length co14) := (blk_cell BK173.out 1).trans rfl
        have hfz31_0 := blk_frozen BK173.out 0
        have hfz31_1 := blk_frozen BK173.out 1
        go_wp2_with (first | ((with_reducible refine gate_callee (f := 20) rfl ?_); refine goesL_ (some 31) rfl rfl Try.func20 (by kernel_rfl) rfl #[.agg #[.slice Ao19 t177.length co19, .slice Ao22 t180.length co22], .agg #[.slice Ao12 t166.length co12, .slice Ao14 t169.length co14]] rfl (by (try simp only [List.map_toArray, List.map_cons, List.map_nil]); first | done | rfl | (simp only [List.length_drop, List.length_take]; rfl)) ?_; (with_reducible refine (laws_eqNode.calls k _ _ t177 _ _ t180 _ _ t166 _ _ t169 false _ ?side1 ?side2 ?side3 ?side4 ?side5 ?side6 ?side7 ?side8 A23.out).mono ?_); (case side1 => refine (Kd.R_reads' (e := 3) (base := w.heap.size) (ok := fun k_ => (((True ∧ some k_ ≠ (.slice Ao9 t163.length co9 : Value).ownBlock) ∧ some k_ ≠ (.slice Ao12 t166.length co12 : Value).ownBlock) ∧ some k_ ≠ (.slice Ao16 t174.length co16 : Value).ownBlock)) (n := t177.length) (c := co19) ?_).2.2; exact (by (with_reducible repeat (first | apply Kd.R_alloc | apply Kd.R_drewN | apply Kd.R_drew)); exact (Kd.R_mono (Kd.R_far (p := ⟨gb184, 1, none⟩) (Kd.R_far (p := ⟨gb184, 0, none⟩) (Kd.R_types HO179.out BK184.out (by decide)) (fun _ hk => hk.2) (.slice Ao19 t177.length co19)) (fun _ hk => hk.2) (.slice Ao22 t180.length co22)) (fun _ h_ => h_.1)))); (case side2 => exact (Kd.R_reads' HO179.out).2.1); (case side3 => refine (Kd.R_reads' (e := 64) (base := w.heap.size) (ok := fun k_ => (True ∧ some k_ ≠ (.slice Ao14 t169.length co14 : Value).ownBlock)) (n := t180.length) (c := co22) ?_).2.2; exact (by (with_reducible repeat (first | apply Kd.R_alloc | apply Kd.R_drewN | apply Kd.R_drew)); exact (Kd.R_mono (Kd.R_far (p := ⟨gb184, 1, none⟩) (Kd.R_far (p := ⟨gb184, 0, none⟩) (Kd.R_types HO182.out BK184.out (by decide)) (fun _ hk => hk.2) (.slice Ao19 t177.length co19)) (fun _ hk => hk.2) (.slice Ao22 t180.length co22)) (fun _ h_ => h_.1)))); (case side4 => exact (Kd.R_reads' HO182.out).2.1); (case side5 => refine (Kd.R_reads' (e := 3) (base := w.heap.size) (ok := fun k_ => (((True ∧ some k_ ≠ (.slice Ao9 t163.length co9 : Value).ownBlock) ∧ some k_ ≠ (.slice Ao16 t174.length co16 : Value).ownBlock) ∧ some k_ ≠ (.slice Ao19 t177.length co19 : Value).ownBlock)) (n := t166.length) (c := co12) ?_).2.2; exact (by (with_reducible repeat (first | apply Kd.R_alloc | apply Kd.R_drewN | apply Kd.R_drew)); exact (Kd.R_mono (Kd.R_far (p := ⟨gb184, 1, none⟩) (Kd.R_far (p := ⟨gb184, 0, none⟩) (Kd.R_types HO168.out BK184.out (by decide)) (fun _ hk => hk.2) (.slice Ao19 t177.length co19)) (fun _ hk => hk.2) (.slice Ao22 t180.length co22)) (fun _ h_ => h_.1)))); (case side6 => exact (Kd.R_reads' HO168.out).2.1); (case side7 => refine (Kd.R_reads' (e := 64) (base := w.heap.size) (ok := fun k_ => (True ∧ some k_ ≠ (.slice Ao22 t180.length co22 : Value).ownBlock)) (n := t169.length) (c := co14) ?_).2.2; exact (by (with_reducible repeat (first | apply Kd.R_alloc | apply Kd.R_drewN | apply Kd.R_drew)); exact (Kd.R_mono (Kd.R_far (p := ⟨gb184, 1, none⟩) (Kd.R_far (p := ⟨gb184, 0, none⟩) (Kd.R_types HO171.out BK184.out (by decide)) (fun _ hk => hk.2) (.slice Ao19 t177.length co19)) (fun _ hk => hk.2) (.slice Ao22 t180.length co22)) (fun _ h_ => h_.1)))); (case side8 => exact (Kd.R_reads' HO171.out).2.1); rintro e w32 ⟨rfl, hb⟩; refine ⟨_, rfl, ?_⟩; have n0_ := Aside0.mk (Kd.R_below (by (with_reducible repeat (first | apply Kd.R_alloc | apply Kd.R_drewN | apply Kd.R_drew)); exact (Kd.R_mono (Kd.R_far (p := ⟨gb184, 1, none⟩) (Kd.R_far (p := ⟨gb184, 0, none⟩) (Kd.R_types HO165.out BK184.out (by decide)) (fun _ hk => hk.2) (.slice Ao19 t177.length co19)) (fun _ hk => hk.2) (.slice Ao22 t180.length co22)) (fun _ h_ => h_.1))) hb); have n1_ := Aside0.mk (Kd.R_below (by (with_reducible repeat (first | apply Kd.R_alloc | apply Kd.R_drewN | apply Kd.R_drew)); exact (Kd.R_mono (Kd.R_far (p := ⟨gb184, 1, none⟩) (Kd.R_far (p := ⟨gb184, 0, none⟩) (Kd.R_types HO168.out BK184.out (by decide)) (fun _ hk => hk.2) (.slice Ao19 t177.length co19)) (fun _ hk => hk.2) (.slice Ao22 t180.length co22)) (fun _ h_ => h_.1))) hb); have n2_ := Aside0.mk (Kd.R_below (by (with_reducible repeat (first | apply Kd.R_alloc | apply Kd.R_drewN | apply Kd.R_drew)); exact (Kd.R_mono (Kd.R_far (p := ⟨gb184, 1, none⟩) (Kd.R_far (p := ⟨gb184, 0, none⟩) (Kd.R_types HO171.out BK184.out (by decide)) (fun _ hk => hk.2) (.slice Ao19 t177.length co19)) (fun _ hk => hk.2) (.slice Ao22 t180.length co22)) (fun _ h_ => h_.1))) hb); have n3_ := Aside0.mk (Kd.R_below (by (with_reducible repeat (first | apply Kd.R_alloc | apply Kd.R_drewN | apply Kd.R_drew)); exact (Kd.R_mono (Kd.R_far (p := ⟨gb184, 1, none⟩) (Kd.R_far (p := ⟨gb184, 0, none⟩) (Kd.R_types HO176.out BK184.out (by decide)) (fun _ hk => hk.2) (.slice Ao19 t177.length co19)) (fun _ hk => hk.2) (.slice Ao22 t180.length co22)) (fun _ h_ => h_.1))) hb); have n4_ := Aside0.mk (Kd.R_below (by (with_reducible repeat (first | apply Kd.R_alloc | apply Kd.R_drewN | apply Kd.R_drew)); exact (Kd.R_mono (Kd.R_far (p := ⟨gb184, 1, none⟩) (Kd.R_far (p := ⟨gb184, 0, none⟩) (Kd.R_types HO179.out BK184.out (by decide)) (fun _ hk => hk.2) (.slice Ao19 t177.length co19)) (fun _ hk => hk.2) (.slice Ao22 t180.length co22)) (fun _ h_ => h_.1))) hb); have n5_ := Aside0.mk (Kd.R_below (by (with_reducible repeat (first | apply Kd.R_alloc | apply Kd.R_drewN | apply Kd.R_drew)); exact (Kd.R_mono (Kd.R_far (p := ⟨gb184, 1, none⟩) (Kd.R_far (p := ⟨gb184, 0, none⟩) (Kd.R_types HO182.out BK184.out (by decide)) (fun _ hk => hk.2) (.slice Ao19 t177.length co19)) (fun _ hk => hk.2) (.slice Ao22 t180.length co22)) (fun _ h_ => h_.1))) hb); have n6_ := Aside0.mk (blk_below (g := gb173) (o := .cells #[.slice Ao12 t166.length co12, .slice Ao14 t169.length co14] 33 (0, 0)) (by (with_reducible repeat (first | refine blk_drewN ?_ _ | refine blk_drew ?_ | refine blk_alloc ?_ _)); refine blk_far ?_ NB173_184.out _; (with_reducible repeat (first | refine blk_drewN ?_ _ | refine blk_drew ?_ | refine blk_alloc ?_ _)); refine blk_far ?_ NB173_184.out _; (with_reducible repeat (first | refine blk_drewN ?_ _ | refine blk_drew ?_ | refine blk_alloc ?_ _)); exact BK173.out) hb); have n7_ := Aside0.mk (blk_below (g := gb184) (o := .cells #[.slice Ao19 t177.length co19, .slice Ao22 t180.length co22] 33 (0, 0)) (by (with_reducible repeat (first | refine blk_drewN ?_ _ | refine blk_drew ?_ | refine blk_alloc ?_ _)); refine blk_put (cs := #[.slice Ao19 t177.length co19, .slice none 0 0]) ?_ 1 _ rfl; (with_reducible repeat (first | refine blk_drewN ?_ _ | refine blk_drew ?_ | refine blk_alloc ?_ _)); refine blk_put (cs := #[.slice none 0 0, .slice none 0 0]) ?_ 0 _ rfl; (with_reducible repeat (first | refine blk_drewN ?_ _ | refine blk_drew ?_ | refine blk_alloc ?_ _)); exact BK184.out) hb); have n8_ := Aside0.mk (below_step (by repeat (first | (with_reducible first | exact HB.out | apply below_alloc | apply pw_below_drewN | apply below_drew1 | refine below_set ?_ GE173.out | refine below_set ?_ GE184.out) | exact HB.out)) hb); clear HO165; clear HO168; clear HO171; clear HO176; clear HO179; clear HO182; clear BK173; clear BK184; clear HB; have HO165 := n0_; have HO168 := n1_; have HO171 := n2_; have HO176 := n3_; have HO179 := n4_; have HO182 := n5_; have BK173 := n6_; have BK184 := n7_; have HB := n8_; clear n0_ n1_ n2_ n3_ n4_ n5_ n6_ n7_ n8_; (try clear hb); (try clear hb2); (try clear hk); (try clear hi)))
        go_meet
        case rel => exact ⟨_, (true), (by first | rfl | (simp; done) | (simp [*]; done)), H', ⟨by first | omega | exact Nat.le_refl _⟩, ⟨by (with_reducible repeat (first | apply Kd.R_alloc | apply Kd.R_drewN | apply Kd.R_drew)); exact Kd.R_mono HO176.out (fun _ hk => ⟨hk.1.2, hk.2⟩)⟩, ⟨by (with_reducible repeat (first | apply Kd.R_alloc | apply Kd.R_drewN | apply Kd.R_drew)); exact Kd.R_mono HO168.out (fun _ hk => ⟨hk.1.2, hk.2⟩)⟩, ⟨by (with_reducible repeat (first | apply Kd.R_alloc | apply Kd.R_drewN | apply Kd.R_drew)); exact Kd.R_mono HO171.out (fun _ hk => hk.2)⟩, ⟨by (with_reducible repeat (first | apply Kd.R_alloc | apply Kd.R_drewN | apply Kd.R_drew)); exact Kd.R_mono HO179.out (fun _ hk => ⟨hk.2, hk.1.2⟩)⟩, ⟨by (with_reducible repeat (first | apply Kd.R_alloc | apply Kd.R_drewN | apply Kd.R_drew)); exact Kd.R_mono HO182.out (fun _ hk => hk.2)⟩, ⟨by (with_reducible repeat (first | refine blk_drewN ?_ _ | refine blk_drew ?_ | refine blk_alloc ?_ _)); exact BK173.out⟩, ⟨by (with_reducible repeat (first | refine blk_drewN ?_ _ | refine blk_drew ?_ | refine blk_alloc ?_ _)); exact BK184.out⟩, ⟨by repeat (first | (with_reducible first | exact HB.out | apply below_alloc | apply pw_below_drewN | apply below_drew1 | refine below_set ?_ GE173.out | refine below_set ?_ GE184.out) | exact HB.out)⟩⟩
    case rest =>
      clear HC7
      try clear c1
      try clear c2
      try clear c2b0
      try clear c2b1
      try clear p2
      try clear c5
      try clear c11
      try clear c18
      try clear c19
      try clear c20
      try clear c24
      try clear c25
      try clear c29
      try clear hcz13_0
      try clear hcz13_1
      try clear hcz21_0
      try clear hcz21_1
      try clear hcz26_0
      try clear hcz26_1
      try clear hcz27_0
      try clear hcz27_1
      try clear hcz30_0
      try clear hcz30_1
      try clear hcz31_0
      try clear hcz31_1
      try clear hfz13_0
      try clear hfz13_1
      try clear hfz21_0
      try clear hfz21_1
      try clear hfz26_0
      try clear hfz26_1
      try clear hfz27_0
      try clear hfz27_1
      try clear hfz30_0
      try clear hfz30_1
      try clear hfz31_0
      try clear hfz31_1
      obtain ⟨kq, x37_6, rfl, HA, HJ6, HO_5, HO_174000, HO_174001, HO_185000, HO_185001, BK173, BK184, HB⟩ := hcut
      cases kq with
      | zero => exact absurd HA.out (by simp [laws_FnExactNewNode.j0])
      | succ kj6 =>
        have H := HA.out
        clear HA
        simp only [laws_FnExactNewNode.j0] at H
        by_cases c33 : x37_6 = true
        · subst c33
          have H1 : (none) = some r := by rw [if_pos rfl] at H; exact H
          clear H
          have H := H1
          clear H1
          exact absurd H (by simp)
        · replace c33 := Bool.eq_false_iff.mpr c33
          subst c33
          have H1 : ((laws_toIntS.f kj6 l0).bind fun t186 => ((laws_eqIntS.f kj6 t174 t186).bind fun t189 => (if t189 = true then ((laws_markIntS.f kj6 t174 1).bind fun bt190 => (if bt190.1 < 0 then (laws_FnExactNewNode.j1 kj6 l0 t172 true t166 t169 t177 t180) else ((laws_eqNode.f kj6 t177 t180 t166 t169).bind fun t192 => (if t192 = true then (laws_FnExactNewNode.j1 kj6 l0 t172 (t183 != t172) t166 t169 t177 t180) else (laws_FnExactNewNode.j1 kj6 l0 t172 true t166 t169 t177 t180))))) else (none)))) = some r := by rw [if_neg (show ¬ (false = true) by decide)] at H; exact H
          clear H
          have H := H1
          clear H1
          replace H := Option.bind_eq_some_iff.mp H
          obtain ⟨t186, A340, H⟩ := H
          replace H : ((laws_eqIntS.f kj6 t174 t186).bind fun t189 => (if t189 = true then ((laws_markIntS.f kj6 t174 1).bind fun bt190 => (if bt190.1 < 0 then (laws_FnExactNewNode.j1 kj6 l0 t172 true t166 t169 t177 t180) else ((laws_eqNode.f kj6 t177 t180 t166 t169).bind fun t192 => (if t192 = true then (laws_FnExactNewNode.j1 kj6 l0 t172 (t183 != t172) t166 t169 t177 t180) else (laws_FnExactNewNode.j1 kj6 l0 t172 true t166 t169 t177 t180))))) else (none))) = some r := H
          have A34 := Aside0.mk A340
          clear A340
          replace H := Option.bind_eq_some_iff.mp H
          obtain ⟨t189, A350, H⟩ := H
          replace H : (if t189 = true then ((laws_markIntS.f kj6 t174 1).bind fun bt190 => (if bt190.1 < 0 then (laws_FnExactNewNode.j1 kj6 l0 t172 true t166 t169 t177 t180) else ((laws_eqNode.f kj6 t177 t180 t166 t169).bind fun t192 => (if t192 = true then (laws_FnExactNewNode.j1 kj6 l0 t172 (t183 != t172) t166 t169 t177 t180) else (laws_FnExactNewNode.j1 kj6 l0 t172 true t166 t169 t177 t180))))) else (none)) = some r := H
          have A35 := Aside0.mk A350
          clear A350
          by_cases c36 : t189 = true
          · subst c36
            have H1 : ((laws_markIntS.f kj6 t174 1).bind fun bt190 => (if bt190.1 < 0 then (laws_FnExactNewNode.j1 kj6 l0 t172 true t166 t169 t177 t180) else ((laws_eqNode.f kj6 t177 t180 t166 t169).bind fun t192 => (if t192 = true then (laws_FnExactNewNode.j1 kj6 l0 t172 (t183 != t172) t166 t169 t177 t180) else (laws_FnExactNewNode.j1 kj6 l0 t172 true t166 t169 t177 t180))))) = some r := by rw [if_pos rfl] at H; exact H
            clear H
            have H := H1
            clear H1
            replace H := Option.bind_eq_some_iff.mp H
            obtain ⟨⟨t190, t191⟩, A370, H⟩ := H
            replace H : (if t190 < 0 then (laws_FnExactNewNode.j1 kj6 l0 t172 true t166 t169 t177 t180) else ((laws_eqNode.f kj6 t177 t180 t166 t169).bind fun t192 => (if t192 = true then (laws_FnExactNewNode.j1 kj6 l0 t172 (t183 != t172) t166 t169 t177 t180) else (laws_FnExactNewNode.j1 kj6 l0 t172 true t166 t169 t177 t180)))) = some r := H
            have A37 := Aside0.mk A370
            clear A370
            have HC38 := Aside0.mk H
            clear H
            go_upto_region 12 with (first | ((with_reducible refine gate_callee (f := 11) rfl ?_); refine goesL_ (some 40) rfl rfl Try.func11 (by kernel_rfl) rfl #[.slice A0 l0.length c0] rfl (by (try simp only [List.map_toArray, List.map_cons, List.map_nil]); first | done | rfl | (simp only [List.length_drop, List.length_take]; rfl)) ?_; (with_reducible refine (laws_toIntS.calls kj6 _ _ l0 t186 _ ?side1 ?side2 A34.out).mono ?_); (case side1 => repeat (first | exact (Kd.C_below HR0.out HB.out) | (with_reducible refine Kd.C_alloc ?_ _) | (with_reducible refine Kd.C_drewN ?_ _) | (with_reducible refine Kd.C_drew ?_))); (case side2 => exact HC0.out); rintro e w39 ⟨v187, rfl, ho0, hb⟩; refine ⟨_, rfl, ?_⟩; have n0_ := Aside0.mk (Kd.R_elder' (by (with_reducible repeat (first | apply Kd.R_alloc | apply Kd.R_drewN | apply Kd.R_drew)); exact HO_5.out) (Kd.R_base ho0) hb); have n1_ := Aside0.mk (Kd.R_elder' (by (with_reducible repeat (first | apply Kd.R_alloc | apply Kd.R_drewN | apply Kd.R_drew)); exact HO_174000.out) (Kd.R_base ho0) hb); have n2_ := Aside0.mk (Kd.R_below (by (with_reducible repeat (first | apply Kd.R_alloc | apply Kd.R_drewN | apply Kd.R_drew)); exact HO_174001.out) hb); have n3_ := Aside0.mk (Kd.R_elder' (by (with_reducible repeat (first | apply Kd.R_alloc | apply Kd.R_drewN | apply Kd.R_drew)); exact HO_185000.out) (Kd.R_base ho0) hb); have n4_ := Aside0.mk (Kd.R_below (by (with_reducible repeat (first | apply Kd.R_alloc | apply Kd.R_drewN | apply Kd.R_drew)); exact HO_185001.out) hb); have n5_ := Aside0.mk (Kd.R_lower (Kd.R_new' (Kd.R_new' (Kd.R_new' ho0 (Kd.R_lt (by (with_reducible repeat (first | apply Kd.R_alloc | apply Kd.R_drewN | apply Kd.R_drew)); exact HO_5.out))) (Kd.R_lt (by (with_reducible repeat (first | apply Kd.R_alloc | apply Kd.R_drewN | apply Kd.R_drew)); exact HO_174000.out))) (Kd.R_lt (by (with_reducible repeat (first | apply Kd.R_alloc | apply Kd.R_drewN | apply Kd.R_drew)); exact HO_185000.out))) (below_size (by repeat (first | (with_reducible first | exact HB.out | apply below_alloc | apply pw_below_drewN | apply below_drew1 | refine below_set ?_ GE173.out | refine below_set ?_ GE184.out) | exact HB.out)))); have n6_ := Aside0.mk (blk_below (g := gb173) (o := .cells #[.slice Ao12 t166.length co12, .slice Ao14 t169.length co14] 33 (0, 0)) (by (with_reducible repeat (first | refine blk_drewN ?_ _ | refine blk_drew ?_ | refine blk_alloc ?_ _)); exact BK173.out) hb); have n7_ := Aside0.mk (blk_below (g := gb184) (o := .cells #[.slice Ao19 t177.length co19, .slice Ao22 t180.length co22] 33 (0, 0)) (by (with_reducible repeat (first | refine blk_drewN ?_ _ | refine blk_drew ?_ | refine blk_alloc ?_ _)); exact BK184.out) hb); have n8_ := Aside0.mk (below_step (by repeat (first | (with_reducible first | exact HB.out | apply below_alloc | apply pw_below_drewN | apply below_drew1 | refine below_set ?_ GE173.out | refine below_set ?_ GE184.out) | exact HB.out)) hb); clear HO_5; clear HO_174000; clear HO_174001; clear HO_185000; clear HO_185001; clear BK173; clear BK184; clear HB; have HO_5 := n0_; have HO_174000 := n1_; have HO_174001 := n2_; have HO_185000 := n3_; have HO_185001 := n4_; have HO188 := n5_; have BK173 := n6_; have BK184 := n7_; have HB := n8_; clear n0_ n1_ n2_ n3_ n4_ n5_ n6_ n7_ n8_; (try clear hb); (try clear hb2); (try clear hk); (try clear hi); (try clear ho0); obtain ⟨Ao40, co40, eo40⟩ := Kd.R_slice HO188.out; subst eo40) | ((with_reducible refine gate_callee (f := 13) rfl ?_); refine goesL_ (some 41) rfl rfl Try.func13 (by kernel_rfl) rfl #[.slice Ao16 t174.length co16, .slice Ao40 t186.length co40] rfl (by (try simp only [List.map_toArray, List.map_cons, List.map_nil]); first | done | rfl | (simp only [List.length_drop, List.length_take]; rfl)) ?_; (with_reducible refine (laws_eqIntS.calls kj6 _ _ t174 _ _ t186 true _ ?side1 ?side2 ?side3 ?side4 A35.out).mono ?_); (case side1 => repeat (first | exact (Kd.R_reads' HO_5.out).2.2 | (with_reducible refine Kd.C_alloc ?_ _) | (with_reducible refine Kd.C_drewN ?_ _) | (with_reducible refine Kd.C_drew ?_))); (case side2 => exact (Kd.R_reads' HO_5.out).2.1); (case side3 => repeat (first | exact (Kd.R_reads' HO188.out).2.2 | (with_reducible refine Kd.C_alloc ?_ _) | (with_reducible refine Kd.C_drewN ?_ _) | (with_reducible refine Kd.C_drew ?_))); (case side4 => exact (Kd.R_reads' HO188.out).2.1); rintro e w' ⟨rfl, ⟨nd, rfl⟩⟩; refine ⟨_, rfl, ?_⟩) | ((with_reducible refine gate_callee (f := 16) rfl ?_); refine goesL_ (some 45) rfl rfl Try.func16 (by kernel_rfl) rfl #[.slice Ao16 t174.length co16, .int .i64 1] rfl (by (try simp only [List.map_toArray, List.map_cons, List.map_nil]); first | done | rfl | (simp only [List.length_drop, List.length_take]; rfl)) ?_; (with_reducible refine (laws_markIntS.calls kj6 (fun k_ => some k_ = (.slice Ao16 t174.length co16 : Value).ownBlock) (.slice Ao16 t174.length co16) t174 1 t190 t191 w _ ?side1 ?side2 A37.out).mono ?_); (case side1 => repeat (first | (with_reducible first | exact HB.out | apply below_alloc | apply pw_below_drewN | apply below_drew1 | refine below_set ?_ GE173.out | refine below_set ?_ GE184.out) | exact HB.out)); (case side2 => exact Kd.R_tight rfl HO_5.out); rintro e w41 ⟨rfl, hy0, hb, hkp⟩; refine ⟨_, rfl, ?_⟩; have n0_ := Aside0.mk (Kd.R_reok rfl hy0 (fun k_ e_ => HO_5.out.1 k_ e_)); have n1_ := Aside0.mk (Kd.R_mono (ok' := fun k_ => some k_ ≠ (.slice Ao16 t174.length co16 : Value).ownBlock ∧ some k_ ≠ (.slice Ao19 t177.length co19 : Value).ownBlock ∧ some k_ ≠ (.slice Ao40 t186.length co40 : Value).ownBlock) (Kd.R_keptB (HO_174000.out) hkp (fun k_ hk_ hs_ => (hk_.1.1) hs_)) (fun k_ hk_ => ⟨hk_.1.1.1, hk_.1.1.2, hk_.1.2⟩)); have n2_ := Aside0.mk (Kd.R_mono (ok' := fun k_ => some k_ ≠ (.slice Ao22 t180.length co22 : Value).ownBlock) (Kd.R_keptB ((Kd.R_apart' HO_174001.out (Kd.R_typed HO_5.out) (by decide))) hkp (fun k_ hk_ hs_ => (hk_.2) hs_)) (fun k_ hk_ => hk_.1.1)); have n3_ := Aside0.mk (Kd.R_mono (ok' := fun k_ => some k_ ≠ (.slice Ao16 t174.length co16 : Value).ownBlock ∧ some k_ ≠ (.slice Ao12 t166.length co12 : Value).ownBlock ∧ some k_ ≠ (.slice Ao40 t186.length co40 : Value).ownBlock) (Kd.R_keptB (HO_185000.out) hkp (fun k_ hk_ hs_ => (hk_.1.1) hs_)) (fun k_ hk_ => ⟨hk_.1.1.1, hk_.1.1.2, hk_.1.2⟩)); have n4_ := Aside0.mk (Kd.R_mono (ok' := fun k_ => some k_ ≠ (.slice Ao14 t169.length co14 : Value).ownBlock) (Kd.R_keptB ((Kd.R_apart' HO_185001.out (Kd.R_typed HO_5.out) (by decide))) hkp (fun k_ hk_ hs_ => (hk_.2) hs_)) (fun k_ hk_ => hk_.1.1)); have n5_ := Aside0.mk (blk_kept (by (with_reducible repeat (first | refine blk_drewN ?_ _ | refine blk_drew ?_ | refine blk_alloc ?_ _)); exact BK173.out) hkp (fun hs_ => (fun e_ => (Kd.R_ne HO_5.out BK173.out (by decide)) e_) hs_)); have n6_ := Aside0.mk (blk_kept (by (with_reducible repeat (first | refine blk_drewN ?_ _ | refine blk_drew ?_ | refine blk_alloc ?_ _)); exact BK184.out) hkp (fun hs_ => (fun e_ => (Kd.R_ne HO_5.out BK184.out (by decide)) e_) hs_)); have n7_ := Aside0.mk (Kd.R_mono (ok' := fun k_ => some k_ ≠ (.slice Ao16 t174.length co16 : Value).ownBlock ∧ some k_ ≠ (.slice Ao12 t166.length co12 : Value).ownBlock ∧ some k_ ≠ (.slice Ao19 t177.length co19 : Value).ownBlock) (Kd.R_keptB (HO188.out) hkp (fun k_ hk_ hs_ => (hk_.1.1.2) hs_)) (fun k_ hk_ => ⟨hk_.1.1.1.2, hk_.1.1.2, hk_.1.2⟩)); have n8_ := Aside0.mk (hb); clear HO_5; clear HO_174000; clear HO_174001; clear HO_185000; clear HO_185001; clear BK173; clear BK184; clear HO188; clear HB; have HO_5 := n0_; have HO_174000 := n1_; have HO_174001 := n2_; have HO_185000 := n3_; have HO_185001 := n4_; have BK173 := n5_; have BK184 := n6_; have HO188 := n7_; have HB := n8_; clear n0_ n1_ n2_ n3_ n4_ n5_ n6_ n7_ n8_; (try clear hb); (try clear hkp); (try clear hy0)))
            (try simp only [Act.put, List.setIfInBounds_toArray, List.set_cons_zero, List.set_cons_succ])
            go_cut [58] (fun v58 wc => ∃ (kq : Nat) (x58_37 : Bool), v58 = .bool x58_37 ∧ Aside0 (laws_FnExactNewNode.j1 kq l0 t172 x58_37 t166 t169 t177 t180 = some r) ∧ Aside0 (kq ≤ kj6) ∧ Aside0 (Kd.R (Kd.int .i64) 3 wc w.heap.size (fun k_ => some k_ ≠ ((.slice Ao19 t177.length co19) : Value).ownBlock) (.slice Ao12 t166.length co12) t166) ∧ Aside0 (Kd.R k64 64 wc w.heap.size (fun k_ => some k_ ≠ ((.slice Ao22 t180.length co22) : Value).ownBlock) (.slice Ao14 t169.length co14) t169) ∧ Aside0 (Kd.R (Kd.int .i64) 3 wc w.heap.size (fun k_ => some k_ ≠ ((.slice Ao12 t166.length co12) : Value).ownBlock) (.slice Ao19 t177.length co19) t177) ∧ Aside0 (Kd.R k64 64 wc w.heap.size (fun k_ => some k_ ≠ ((.slice Ao14 t169.length co14) : Value).ownBlock) (.slice Ao22 t180.length co22) t180) ∧ Aside0 (wc.heap[gb173]? = some (.cells #[(.slice Ao12 t166.length co12), (.slice Ao14 t169.length co14)] 33 (0, 0))) ∧ Aside0 (wc.heap[gb184]? = some (.cells #[(.slice Ao19 t177.length co19), (.slice Ao22 t180.length co22)] 33 (0, 0))) ∧ Aside0 (Below w.heap.size w wc))
            case first =>
              have H := HC38.out
              clear HC38
              by_cases c42 : t190 < 0
              · rw [if_pos c42] at H
                have c42b0 : decide (t190 < 0) = true := decide_eq_true c42
                clear c42
                (first | rw [c42b0] | (simp only [i64_w, i32_w]; rw [c42b0]) | skip)
                have H' := Aside0.mk H
                clear H
                go_wp2
                go_meet
                case rel => exact ⟨_, (true), (by first | rfl | (simp; done) | (simp [*]; done)), H', ⟨by have := HJ6.out; first | omega | exact Nat.le_refl _⟩, ⟨by (with_reducible repeat (first | apply Kd.R_alloc | apply Kd.R_drewN | apply Kd.R_drew)); exact Kd.R_mono HO_174000.out (fun _ hk => hk.2.1)⟩, ⟨by (with_reducible repeat (first | apply Kd.R_alloc | apply Kd.R_drewN | apply Kd.R_drew)); exact HO_174001.out⟩, ⟨by (with_reducible repeat (first | apply Kd.R_alloc | apply Kd.R_drewN | apply Kd.R_drew)); exact Kd.R_mono HO_185000.out (fun _ hk => hk.2.1)⟩, ⟨by (with_reducible repeat (first | apply Kd.R_alloc | apply Kd.R_drewN | apply Kd.R_drew)); exact HO_185001.out⟩, ⟨by (with_reducible repeat (first | refine blk_drewN ?_ _ | refine blk_drew ?_ | refine blk_alloc ?_ _)); exact BK173.out⟩, ⟨by (with_reducible repeat (first | refine blk_drewN ?_ _ | refine blk_drew ?_ | refine blk_alloc ?_ _)); exact BK184.out⟩, ⟨by repeat (first | (with_reducible first | exact HB.out | apply below_alloc | apply pw_below_drewN | apply below_drew1 | refine below_set ?_ GE173.out | refine below_set ?_ GE184.out) | exact HB.out)⟩⟩
              · rw [if_neg c42] at H
                have c42b0 : decide (t190 < 0) = false := decide_eq_false c42
                clear c42
                (first | rw [c42b0] | (simp only [i64_w, i32_w]; rw [c42b0]) | skip)
                replace H := Option.bind_eq_some_iff.mp H
                obtain ⟨t192, A430, H⟩ := H
                replace H : (if t192 = true then (laws_FnExactNewNode.j1 kj6 l0 t172 (t183 != t172) t166 t169 t177 t180) else (laws_FnExactNewNode.j1 kj6 l0 t172 true t166 t169 t177 t180)) = some r := H
                have A43 := Aside0.mk A430
                clear A430
                by_cases c44 : t192 = true
                · subst c44
                  have H1 : (laws_FnExactNewNode.j1 kj6 l0 t172 (t183 != t172) t166 t169 t177 t180) = some r := by rw [if_pos rfl] at H; exact H
                  clear H
                  have H := H1
                  clear H1
                  have H' := Aside0.mk H
                  clear H
                  have hnb45 := NB184_173.out
                  have hnc45 := NB173_184.out
                  have hcz46_0 : w41.cell? ⟨gb184, 0, none⟩ = some (.slice Ao19 t177.length co19) := (blk_cell BK184.out 0).trans rfl
                  have hcz46_1 : w41.cell? ⟨gb184, 1, none⟩ = some (.slice Ao22 t180.length co22) := (blk_cell BK184.out 1).trans rfl
                  have hfz46_0 := blk_frozen BK184.out 0
                  have hfz46_1 := blk_frozen BK184.out 1
                  have hcz47_0 : w41.cell? ⟨gb173, 0, none⟩ = some (.slice Ao12 t166.length co12) := (blk_cell BK173.out 0).trans rfl
                  have hcz47_1 : w41.cell? ⟨gb173, 1, none⟩ = some (.slice Ao14 t169.length co14) := (blk_cell BK173.out 1).trans rfl
                  have hfz47_0 := blk_frozen BK173.out 0
                  have hfz47_1 := blk_frozen BK173.out 1
                  go_wp2_with (first | (go_at_call 20; (with_reducible refine (laws_eqNode.calls kj6 _ _ t177 _ _ t180 _ _ t166 _ _ t169 true _ ?side1 ?side2 ?side3 ?side4 ?side5 ?side6 ?side7 ?side8 A43.out).mono ?_); (case side1 => repeat (first | exact (Kd.R_reads' HO_185000.out).2.2 | (with_reducible refine Kd.C_alloc ?_ _) | (with_reducible refine Kd.C_drewN ?_ _) | (with_reducible refine Kd.C_drew ?_))); (case side2 => exact (Kd.R_reads' HO_185000.out).2.1); (case side3 => repeat (first | exact (Kd.R_reads' HO_185001.out).2.2 | (with_reducible refine Kd.C_alloc ?_ _) | (with_reducible refine Kd.C_drewN ?_ _) | (with_reducible refine Kd.C_drew ?_))); (case side4 => exact (Kd.R_reads' HO_185001.out).2.1); (case side5 => repeat (first | exact (Kd.R_reads' HO_174000.out).2.2 | (with_reducible refine Kd.C_alloc ?_ _) | (with_reducible refine Kd.C_drewN ?_ _) | (with_reducible refine Kd.C_drew ?_))); (case side6 => exact (Kd.R_reads' HO_174000.out).2.1); (case side7 => repeat (first | exact (Kd.R_reads' HO_174001.out).2.2 | (with_reducible refine Kd.C_alloc ?_ _) | (with_reducible refine Kd.C_drewN ?_ _) | (with_reducible refine Kd.C_drew ?_))); (case side8 => exact (Kd.R_reads' HO_174001.out).2.1); rintro e w48 ⟨rfl, hb⟩; have n0_ := Aside0.mk (Kd.R_below (by (with_reducible repeat (first | apply Kd.R_alloc | apply Kd.R_drewN | apply Kd.R_drew)); exact HO_5.out) hb); have n1_ := Aside0.mk (Kd.R_below (by (with_reducible repeat (first | apply Kd.R_alloc | apply Kd.R_drewN | apply Kd.R_drew)); exact HO_174000.out) hb); have n2_ := Aside0.mk (Kd.R_below (by (with_reducible repeat (first | apply Kd.R_alloc | apply Kd.R_drewN | apply Kd.R_drew)); exact HO_174001.out) hb); have n3_ := Aside0.mk (Kd.R_below (by (with_reducible repeat (first | apply Kd.R_alloc | apply Kd.R_drewN | apply Kd.R_drew)); exact HO_185000.out) hb); have n4_ := Aside0.mk (Kd.R_below (by (with_reducible repeat (first | apply Kd.R_alloc | apply Kd.R_drewN | apply Kd.R_drew)); exact HO_185001.out) hb); have n5_ := Aside0.mk (Kd.R_below (by (with_reducible repeat (first | apply Kd.R_alloc | apply Kd.R_drewN | apply Kd.R_drew)); exact HO188.out) hb); have n6_ := Aside0.mk (blk_below (g := gb173) (o := .cells #[.slice Ao12 t166.length co12, .slice Ao14 t169.length co14] 33 (0, 0)) (by (with_reducible repeat (first | refine blk_drewN ?_ _ | refine blk_drew ?_ | refine blk_alloc ?_ _)); exact BK173.out) hb); have n7_ := Aside0.mk (blk_below (g := gb184) (o := .cells #[.slice Ao19 t177.length co19, .slice Ao22 t180.length co22] 33 (0, 0)) (by (with_reducible repeat (first | refine blk_drewN ?_ _ | refine blk_drew ?_ | refine blk_alloc ?_ _)); exact BK184.out) hb); have n8_ := Aside0.mk (below_step (by repeat (first | (with_reducible first | exact HB.out | apply below_alloc | apply pw_below_drewN | apply below_drew1 | refine below_set ?_ GE173.out | refine below_set ?_ GE184.out) | exact HB.out)) hb); clear HO_5; clear HO_174000; clear HO_174001; clear HO_185000; clear HO_185001; clear HO188; clear BK173; clear BK184; clear HB; have HO_5 := n0_; have HO_174000 := n1_; have HO_174001 := n2_; have HO_185000 := n3_; have HO_185001 := n4_; have HO188 := n5_; have BK173 := n6_; have BK184 := n7_; have HB := n8_; clear n0_ n1_ n2_ n3_ n4_ n5_ n6_ n7_ n8_; (try clear hb); (try clear hb2); (try clear hk); (try clear hi)))
                  go_meet
                  case rel => exact ⟨_, ((t183 != t172)), (by first | rfl | (simp; done) | (simp [*]; done)), H', ⟨by have := HJ6.out; first | omega | exact Nat.le_refl _⟩, ⟨by (with_reducible repeat (first | apply Kd.R_alloc | apply Kd.R_drewN | apply Kd.R_drew)); exact Kd.R_mono HO_174000.out (fun _ hk => hk.2.1)⟩, ⟨by (with_reducible repeat (first | apply Kd.R_alloc | apply Kd.R_drewN | apply Kd.R_drew)); exact HO_174001.out⟩, ⟨by (with_reducible repeat (first | apply Kd.R_alloc | apply Kd.R_drewN | apply Kd.R_drew)); exact Kd.R_mono HO_185000.out (fun _ hk => hk.2.1)⟩, ⟨by (with_reducible repeat (first | apply Kd.R_alloc | apply Kd.R_drewN | apply Kd.R_drew)); exact HO_185001.out⟩, ⟨by (with_reducible repeat (first | refine blk_drewN ?_ _ | refine blk_drew ?_ | refine blk_alloc ?_ _)); exact BK173.out⟩, ⟨by (with_reducible repeat (first | refine blk_drewN ?_ _ | refine blk_drew ?_ | refine blk_alloc ?_ _)); exact BK184.out⟩, ⟨by repeat (first | (with_reducible first | exact HB.out | apply below_alloc | apply pw_below_drewN | apply below_drew1 | refine below_set ?_ GE173.out | refine below_set ?_ GE184.out) | exact HB.out)⟩⟩
                · replace c44 := Bool.eq_false_iff.mpr c44
                  subst c44
                  have H1 : (laws_FnExactNewNode.j1 kj6 l0 t172 true t166 t169 t177 t180) = some r := by rw [if_neg (show ¬ (false = true) by decide)] at H; exact H
                  clear H
                  have H := H1
                  clear H1
                  have H' := Aside0.mk H
                  clear H
                  have hnb49 := NB184_173.out
                  have hnc49 := NB173_184.out
                  have hcz50_0 : w41.cell? ⟨gb184, 0, none⟩ = some (.slice Ao19 t177.length co19) := (blk_cell BK184.out 0).trans rfl
                  have hcz50_1 : w41.cell? ⟨gb184, 1, none⟩ = some (.slice Ao22 t180.length co22) := (blk_cell BK184.out 1).trans rfl
                  have hfz50_0 := blk_frozen BK184.out 0
                  have hfz50_1 := blk_frozen BK184.out 1
                  have hcz51_0 : w41.cell? ⟨gb173, 0, none⟩ = some (.slice Ao12 t166.length co12) := (blk_cell BK173.out 0).trans rfl
                  have hcz51_1 : w41.cell? ⟨gb173, 1, none⟩ = some (.slice Ao14 t169.length co14) := (blk_cell BK173.out 1).trans rfl
                  have hfz51_0 := blk_frozen BK173.out 0
                  have hfz51_1 := blk_frozen BK173.out 1
                  go_wp2_with (first | (go_at_call 20; (with_reducible refine (laws_eqNode.calls kj6 _ _ t177 _ _ t180 _ _ t166 _ _ t169 false _ ?side1 ?side2 ?side3 ?side4 ?side5 ?side6 ?side7 ?side8 A43.out).mono ?_); (case side1 => repeat (first | exact (Kd.R_reads' HO_185000.out).2.2 | (with_reducible refine Kd.C_alloc ?_ _) | (with_reducible refine Kd.C_drewN ?_ _) | (with_reducible refine Kd.C_drew ?_))); (case side2 => exact (Kd.R_reads' HO_185000.out).2.1); (case side3 => repeat (first | exact (Kd.R_reads' HO_185001.out).2.2 | (with_reducible refine Kd.C_alloc ?_ _) | (with_reducible refine Kd.C_drewN ?_ _) | (with_reducible refine Kd.C_drew ?_))); (case side4 => exact (Kd.R_reads' HO_185001.out).2.1); (case side5 => repeat (first | exact (Kd.R_reads' HO_174000.out).2.2 | (with_reducible refine Kd.C_alloc ?_ _) | (with_reducible refine Kd.C_drewN ?_ _) | (with_reducible refine Kd.C_drew ?_))); (case side6 => exact (Kd.R_reads' HO_174000.out).2.1); (case side7 => repeat (first | exact (Kd.R_reads' HO_174001.out).2.2 | (with_reducible refine Kd.C_alloc ?_ _) | (with_reducible refine Kd.C_drewN ?_ _) | (with_reducible refine Kd.C_drew ?_))); (case side8 => exact (Kd.R_reads' HO_174001.out).2.1); rintro e w52 ⟨rfl, hb⟩; have n0_ := Aside0.mk (Kd.R_below (by (with_reducible repeat (first | apply Kd.R_alloc | apply Kd.R_drewN | apply Kd.R_drew)); exact HO_5.out) hb); have n1_ := Aside0.mk (Kd.R_below (by (with_reducible repeat (first | apply Kd.R_alloc | apply Kd.R_drewN | apply Kd.R_drew)); exact HO_174000.out) hb); have n2_ := Aside0.mk (Kd.R_below (by (with_reducible repeat (first | apply Kd.R_alloc | apply Kd.R_drewN | apply Kd.R_drew)); exact HO_174001.out) hb); have n3_ := Aside0.mk (Kd.R_below (by (with_reducible repeat (first | apply Kd.R_alloc | apply Kd.R_drewN | apply Kd.R_drew)); exact HO_185000.out) hb); have n4_ := Aside0.mk (Kd.R_below (by (with_reducible repeat (first | apply Kd.R_alloc | apply Kd.R_drewN | apply Kd.R_drew)); exact HO_185001.out) hb); have n5_ := Aside0.mk (Kd.R_below (by (with_reducible repeat (first | apply Kd.R_alloc | apply Kd.R_drewN | apply Kd.R_drew)); exact HO188.out) hb); have n6_ := Aside0.mk (blk_below (g := gb173) (o := .cells #[.slice Ao12 t166.length co12, .slice Ao14 t169.length co14] 33 (0, 0)) (by (with_reducible repeat (first | refine blk_drewN ?_ _ | refine blk_drew ?_ | refine blk_alloc ?_ _)); exact BK173.out) hb); have n7_ := Aside0.mk (blk_below (g := gb184) (o := .cells #[.slice Ao19 t177.length co19, .slice Ao22 t180.length co22] 33 (0, 0)) (by (with_reducible repeat (first | refine blk_drewN ?_ _ | refine blk_drew ?_ | refine blk_alloc ?_ _)); exact BK184.out) hb); have n8_ := Aside0.mk (below_step (by repeat (first | (with_reducible first | exact HB.out | apply below_alloc | apply pw_below_drewN | apply below_drew1 | refine below_set ?_ GE173.out | refine below_set ?_ GE184.out) | exact HB.out)) hb); clear HO_5; clear HO_174000; clear HO_174001; clear HO_185000; clear HO_185001; clear HO188; clear BK173; clear BK184; clear HB; have HO_5 := n0_; have HO_174000 := n1_; have HO_174001 := n2_; have HO_185000 := n3_; have HO_185001 := n4_; have HO188 := n5_; have BK173 := n6_; have BK184 := n7_; have HB := n8_; clear n0_ n1_ n2_ n3_ n4_ n5_ n6_ n7_ n8_; (try clear hb); (try clear hb2); (try clear hk); (try clear hi)))
                  go_meet
                  case rel => exact ⟨_, (true), (by first | rfl | (simp; done) | (simp [*]; done)), H', ⟨by have := HJ6.out; first | omega | exact Nat.le_refl _⟩, ⟨by (with_reducible repeat (first | apply Kd.R_alloc | apply Kd.R_drewN | apply Kd.R_drew)); exact Kd.R_mono HO_174000.out (fun _ hk => hk.2.1)⟩, ⟨by (with_reducible repeat (first | apply Kd.R_alloc | apply Kd.R_drewN | apply Kd.R_drew)); exact HO_174001.out⟩, ⟨by (with_reducible repeat (first | apply Kd.R_alloc | apply Kd.R_drewN | apply Kd.R_drew)); exact Kd.R_mono HO_185000.out (fun _ hk => hk.2.1)⟩, ⟨by (with_reducible repeat (first | apply Kd.R_alloc | apply Kd.R_drewN | apply Kd.R_drew)); exact HO_185001.out⟩, ⟨by (with_reducible repeat (first | refine blk_drewN ?_ _ | refine blk_drew ?_ | refine blk_alloc ?_ _)); exact BK173.out⟩, ⟨by (with_reducible repeat (first | refine blk_drewN ?_ _ | refine blk_drew ?_ | refine blk_alloc ?_ _)); exact BK184.out⟩, ⟨by repeat (first | (with_reducible first | exact HB.out | apply below_alloc | apply pw_below_drewN | apply below_drew1 | refine below_set ?_ GE173.out | refine below_set ?_ GE184.out) | exact HB.out)⟩⟩
            case rest =>
              clear HC38
              try clear c1
              try clear c2
              try clear c2b0
              try clear c2b1
              try clear p2
              try clear c3
              try clear c4
              try clear c5
              try clear c11
              try clear c13
              try clear c16
              try clear c18
              try clear c19
              try clear c20
              try clear c24
              try clear c25
              try clear c29
              try clear c33
              try clear c36
              try clear c42
              try clear c42b0
              try clear c44
              try clear c45
              try clear c49
              try clear hcz13_0
              try clear hcz13_1
              try clear hcz21_0
              try clear hcz21_1
              try clear hcz26_0
              try clear hcz26_1
              try clear hcz27_0
              try clear hcz27_1
              try clear hcz30_0
              try clear hcz30_1
              try clear hcz31_0
              try clear hcz31_1
              try clear hcz46_0
              try clear hcz46_1
              try clear hcz47_0
              try clear hcz47_1
              try clear hcz50_0
              try clear hcz50_1
              try clear hcz51_0
              try clear hcz51_1
              try clear hfz13_0
              try clear hfz13_1
              try clear hfz21_0
              try clear hfz21_1
              try clear hfz26_0
              try clear hfz26_1
              try clear hfz27_0
              try clear hfz27_1
              try clear hfz30_0
              try clear hfz30_1
              try clear hfz31_0
              try clear hfz31_1
              try clear hfz46_0
              try clear hfz46_1
              try clear hfz47_0
              try clear hfz47_1
              try clear hfz50_0
              try clear hfz50_1
              try clear hfz51_0
              try clear hfz51_1
              try clear p2
              obtain ⟨kq, x58_37, rfl, HA, HJ37, HO_174000, HO_174001, HO_185000, HO_185001, BK173, BK184, HB⟩ := hcut
              cases kq with
              | zero => exact absurd HA.out (by simp [laws_FnExactNewNode.j1])
              | succ kj37 =>
                have H := HA.out
                clear HA
                simp only [laws_FnExactNewNode.j1] at H
                by_cases c53 : x58_37 = true
                · subst c53
                  have H1 : (none) = some r := by rw [if_pos rfl] at H; exact H
                  clear H
                  have H := H1
                  clear H1
                  exact absurd H (by simp)
                · replace c53 := Bool.eq_false_iff.mpr c53
                  subst c53
                  have H1 : ((laws_markNode.f kj37 t177 t180 1).bind fun bt193 => ((laws_heldNode.f kj37 bt193.2.1 bt193.2.2 1).bind fun t196 => (if t196 < 0 then (none) else (if t196 = bt193.1 then ((laws_toIntS.f kj37 l0).bind fun t197 => ((impl_NewNode.f t197).bind fun bt200 => ((laws_eqNode.f kj37 bt200.1 bt200.2.1 t166 t169).bind fun t208 => (if t208 = true then (laws_FnExactNewNode.j2 kj37 bt193.1 (bt200.2.2 != t172) bt193.2.1 bt193.2.2) else (laws_FnExactNewNode.j2 kj37 bt193.1 true bt193.2.1 bt193.2.2))))) else (none))))) = some r := by rw [if_neg (show ¬ (false = true) by decide)] at H; exact H
                  clear H
                  have H := H1
                  clear H1
                  replace H := Option.bind_eq_some_iff.mp H
                  obtain ⟨⟨t193, t194, t195⟩, A540, H⟩ := H
                  replace H : ((laws_heldNode.f kj37 t194 t195 1).bind fun t196 => (if t196 < 0 then (none) else (if t196 = t193 then ((laws_toIntS.f kj37 l0).bind fun t197 => ((impl_NewNode.f t197).bind fun bt200 => ((laws_eqNode.f kj37 bt200.1 bt200.2.1 t166 t169).bind fun t208 => (if t208 = true then (laws_FnExactNewNode.j2 kj37 t193 (bt200.2.2 != t172) t194 t195) else (laws_FnExactNewNode.j2 kj37 t193 true t194 t195))))) else (none)))) = some r := H
                  have A54 := Aside0.mk A540
                  clear A540
                  replace H := Option.bind_eq_some_iff.mp H
                  obtain ⟨t196, A550, H⟩ := H
                  replace H : (if t196 < 0 then (none) else (if t196 = t193 then ((laws_toIntS.f kj37 l0).bind fun t197 => ((impl_NewNode.f t197).bind fun bt200 => ((laws_eqNode.f kj37 bt200.1 bt200.2.1 t166 t169).bind fun t208 => (if t208 = true then (laws_FnExactNewNode.j2 kj37 t193 (bt200.2.2 != t172) t194 t195) else (laws_FnExactNewNode.j2 kj37 t193 true t194 t195))))) else (none))) = some r := H
                  have A55 := Aside0.mk A550
                  clear A550
                  by_cases c56 : t196 < 0
                  · rw [if_pos c56] at H
                    exact absurd H (by simp)
                  · rw [if_neg c56] at H
                    have c56b0 : decide (t196 < 0) = false := decide_eq_false c56
                    clear c56
                    by_cases c57 : t196 = t193
                    · rw [if_pos c57] at H
                      have c57b0 : (t196 == t193) = true := beq_iff_eq.mpr c57
                      have c57b1 : (t196 != t193) = false := bne_eq_false_iff_eq.mpr c57
                      clear c57
                      replace H := Option.bind_eq_some_iff.mp H
                      obtain ⟨t197, A580, H⟩ := H
                      replace H : ((impl_NewNode.f t197).bind fun bt200 => ((laws_eqNode.f kj37 bt200.1 bt200.2.1 t166 t169).bind fun t208 => (if t208 = true then (laws_FnExactNewNode.j2 kj37 t193 (bt200.2.2 != t172) t194 t195) else (laws_FnExactNewNode.j2 kj37 t193 true t194 t195)))) = some r := H
                      have A58 := Aside0.mk A580
                      clear A580
                      replace H := Option.bind_eq_some_iff.mp H
                      obtain ⟨⟨t200, t203, t206⟩, A590, H⟩ := H
                      replace H : ((laws_eqNode.f kj37 t200 t203 t166 t169).bind fun t208 => (if t208 = true then (laws_FnExactNewNode.j2 kj37 t193 (t206 != t172) t194 t195) else (laws_FnExactNewNode.j2 kj37 t193 true t194 t195))) = some r := H
                      have A59 := Aside0.mk A590
                      clear A590
                      have HC60 := Aside0.mk H
                      clear H
                      have hnb61 := NB184_173.out
                      have hnc61 := NB173_184.out
                      have hcz62_0 : wc.cell? ⟨gb184, 0, none⟩ = some (.slice Ao19 t177.length co19) := (blk_cell BK184.out 0).trans rfl
                      have hcz62_1 : wc.cell? ⟨gb184, 1, none⟩ = some (.slice Ao22 t180.length co22) := (blk_cell BK184.out 1).trans rfl
                      have hfz62_0 := blk_frozen BK184.out 0
                      have hfz62_1 := blk_frozen BK184.out 1
                      go_upto_region 23 with (first | ((with_reducible refine gate_callee (f := 21) rfl ?_); refine goesL_ (some 61) rfl rfl Try.func21 (by kernel_rfl) rfl #[.agg #[.slice Ao19 t177.length co19, .slice Ao22 t180.length co22], .int .i64 1] rfl (by (try simp only [List.map_toArray, List.map_cons, List.map_nil]); first | done | rfl | (simp only [List.length_drop, List.length_take]; rfl)) ?_; (with_reducible refine (laws_markNode.calls kj37 (fun k_ => some k_ = (.slice Ao19 t177.length co19 : Value).ownBlock) (.slice Ao19 t177.length co19) t177 (fun k_ => some k_ = (.slice Ao22 t180.length co22 : Value).ownBlock) (.slice Ao22 t180.length co22) t180 1 t193 t194 t195 w _ ?side1 ?side2 ?side3 A54.out).mono ?_); (case side1 => repeat (first | (with_reducible first | exact HB.out | apply below_alloc | apply pw_below_drewN | apply below_drew1 | refine below_set ?_ GE173.out | refine below_set ?_ GE184.out) | exact HB.out)); (case side2 => exact Kd.R_tight rfl HO_185000.out); (case side3 => exact Kd.R_tight rfl HO_185001.out); rintro e w63 ⟨rfl, hy0, hy1, hb, hkp⟩; refine ⟨_, rfl, ?_⟩; have n0_ := Aside0.mk (Kd.R_mono (ok' := fun k_ => some k_ ≠ (.slice Ao19 t177.length co19 : Value).ownBlock) (Kd.R_keptB ((Kd.R_apart' HO_174000.out (Kd.R_typed HO_185001.out) (by decide))) hkp (fun k_ hk_ hs_ => Or.elim hs_ (fun e_ => (hk_.1) e_) (fun e_ => (hk_.2) e_))) (fun k_ hk_ => hk_.1.1)); have n1_ := Aside0.mk (Kd.R_mono (ok' := fun k_ => some k_ ≠ (.slice Ao22 t180.length co22 : Value).ownBlock) (Kd.R_keptB ((Kd.R_apart' HO_174001.out (Kd.R_typed HO_185000.out) (by decide))) hkp (fun k_ hk_ hs_ => Or.elim hs_ (fun e_ => (hk_.2) e_) (fun e_ => (hk_.1) e_))) (fun k_ hk_ => hk_.1.1)); have n2_ := Aside0.mk (Kd.R_reok rfl hy0 (fun k_ e_ => HO_185000.out.1 k_ e_)); have n3_ := Aside0.mk (Kd.R_reok rfl hy1 (fun k_ e_ => HO_185001.out.1 k_ e_)); have n4_ := Aside0.mk (blk_kept (by (with_reducible repeat (first | refine blk_drewN ?_ _ | refine blk_drew ?_ | refine blk_alloc ?_ _)); exact BK173.out) hkp (fun hs_ => Or.elim hs_ (fun e_ => (fun e_ => (Kd.R_ne HO_185000.out BK173.out (by decide)) e_) e_) (fun e_ => (fun e_ => (Kd.R_ne HO_185001.out BK173.out (by decide)) e_) e_))); have n5_ := Aside0.mk (blk_kept (by (with_reducible repeat (first | refine blk_drewN ?_ _ | refine blk_drew ?_ | refine blk_alloc ?_ _)); exact BK184.out) hkp (fun hs_ => Or.elim hs_ (fun e_ => (fun e_ => (Kd.R_ne HO_185000.out BK184.out (by decide)) e_) e_) (fun e_ => (fun e_ => (Kd.R_ne HO_185001.out BK184.out (by decide)) e_) e_))); have n6_ := Aside0.mk (hb); clear HO_174000; clear HO_174001; clear HO_185000; clear HO_185001; clear BK173; clear BK184; clear HB; have HO_174000 := n0_; have HO_174001 := n1_; have HO_185000 := n2_; have HO_185001 := n3_; have BK173 := n4_; have BK184 := n5_; have HB := n6_; clear n0_ n1_ n2_ n3_ n4_ n5_ n6_; (try clear hb); (try clear hkp); (try clear hy0); (try clear hy1); have hcz64_0 : w63.cell? ⟨gb184, 0, none⟩ = some (.slice Ao19 t177.length co19) := (blk_cell BK184.out 0).trans rfl; have hcz64_1 : w63.cell? ⟨gb184, 1, none⟩ = some (.slice Ao22 t180.length co22) := (blk_cell BK184.out 1).trans rfl; have hfz64_0 := blk_frozen BK184.out 0; have hfz64_1 := blk_frozen BK184.out 1) | ((with_reducible refine gate_callee (f := 22) rfl ?_); refine goesL_ (some 64) rfl rfl Try.func22 (by kernel_rfl) rfl #[.agg #[.slice Ao19 t194.length co19, .slice Ao22 t195.length co22], .int .i64 1] rfl (by (try simp only [List.map_toArray, List.map_cons, List.map_nil]); first | done | (rw [show t194.length = t177.length from (Kd.R_reads' HO_185000.out).1.symm, show t195.length = t180.length from (Kd.R_reads' HO_185001.out).1.symm] <;> rfl) | rfl | (simp only [List.length_drop, List.length_take]; rfl)) ?_; (with_reducible refine (laws_heldNode.calls kj37 _ _ t194 _ _ t195 1 t196 _ ?side1 ?side2 ?side3 ?side4 A55.out).mono ?_); (case side1 => repeat (first | exact (Kd.R_reads' HO_185000.out).2.2 | (with_reducible refine Kd.C_alloc ?_ _) | (with_reducible refine Kd.C_drewN ?_ _) | (with_reducible refine Kd.C_drew ?_))); (case side2 => rw [show t194.length = t177.length from (Kd.R_reads' HO_185000.out).1.symm]; exact (Kd.R_reads' HO_185000.out).2.1); (case side3 => repeat (first | exact (Kd.R_reads' HO_185001.out).2.2 | (with_reducible refine Kd.C_alloc ?_ _) | (with_reducible refine Kd.C_drewN ?_ _) | (with_reducible refine Kd.C_drew ?_))); (case side4 => rw [show t195.length = t180.length from (Kd.R_reads' HO_185001.out).1.symm]; exact (Kd.R_reads' HO_185001.out).2.1); rintro e w65 ⟨rfl, hb⟩; refine ⟨_, rfl, ?_⟩; have n0_ := Aside0.mk (Kd.R_below (by (with_reducible repeat (first | apply Kd.R_alloc | apply Kd.R_drewN | apply Kd.R_drew)); exact HO_174000.out) hb); have n1_ := Aside0.mk (Kd.R_below (by (with_reducible repeat (first | apply Kd.R_alloc | apply Kd.R_drewN | apply Kd.R_drew)); exact HO_174001.out) hb); have n2_ := Aside0.mk (Kd.R_below (by (with_reducible repeat (first | apply Kd.R_alloc | apply Kd.R_drewN | apply Kd.R_drew)); exact HO_185000.out) hb); have n3_ := Aside0.mk (Kd.R_below (by (with_reducible repeat (first | apply Kd.R_alloc | apply Kd.R_drewN | apply Kd.R_drew)); exact HO_185001.out) hb); have n4_ := Aside0.mk (blk_below (g := gb173) (o := .cells #[.slice Ao12 t166.length co12, .slice Ao14 t169.length co14] 33 (0, 0)) (by (with_reducible repeat (first | refine blk_drewN ?_ _ | refine blk_drew ?_ | refine blk_alloc ?_ _)); exact BK173.out) hb); have n5_ := Aside0.mk (blk_below (g := gb184) (o := .cells #[.slice Ao19 t177.length co19, .slice Ao22 t180.length co22] 33 (0, 0)) (by (with_reducible repeat (first | refine blk_drewN ?_ _ | refine blk_drew ?_ | refine blk_alloc ?_ _)); exact BK184.out) hb); have n6_ := Aside0.mk (below_step (by repeat (first | (with_reducible first | exact HB.out | apply below_alloc | apply pw_below_drewN | apply below_drew1 | refine below_set ?_ GE173.out | refine below_set ?_ GE184.out) | exact HB.out)) hb); clear HO_174000; clear HO_174001; clear HO_185000; clear HO_185001; clear BK173; clear BK184; clear HB; have HO_174000 := n0_; have HO_174001 := n1_; have HO_185000 := n2_; have HO_185001 := n3_; have BK173 := n4_; have BK184 := n5_; have HB := n6_; clear n0_ n1_ n2_ n3_ n4_ n5_ n6_; (try clear hb); (try clear hb2); (try clear hk); (try clear hi)) | ((with_reducible refine gate_callee (f := 11) rfl ?_); refine goesL_ (some 72) rfl rfl Try.func11 (by kernel_rfl) rfl #[.slice A0 l0.length c0] rfl (by (try simp only [List.map_toArray, List.map_cons, List.map_nil]); first | done | rfl | (simp only [List.length_drop, List.length_take]; rfl)) ?_; (with_reducible refine (laws_toIntS.calls kj37 _ _ l0 t197 _ ?side1 ?side2 A58.out).mono ?_); (case side1 => repeat (first | exact (Kd.C_below HR0.out HB.out) | (with_reducible refine Kd.C_alloc ?_ _) | (with_reducible refine Kd.C_drewN ?_ _) | (with_reducible refine Kd.C_drew ?_))); (case side2 => exact HC0.out); rintro e w66 ⟨v198, rfl, ho0, hb⟩; refine ⟨_, rfl, ?_⟩; have n0_ := Aside0.mk (Kd.R_elder' (by (with_reducible repeat (first | apply Kd.R_alloc | apply Kd.R_drewN | apply Kd.R_drew)); exact HO_174000.out) (Kd.R_base ho0) hb); have n1_ := Aside0.mk (Kd.R_below (by (with_reducible repeat (first | apply Kd.R_alloc | apply Kd.R_drewN | apply Kd.R_drew)); exact HO_174001.out) hb); have n2_ := Aside0.mk (Kd.R_elder' (by (with_reducible repeat (first | apply Kd.R_alloc | apply Kd.R_drewN | apply Kd.R_drew)); exact HO_185000.out) (Kd.R_base ho0) hb); have n3_ := Aside0.mk (Kd.R_below (by (with_reducible repeat (first | apply Kd.R_alloc | apply Kd.R_drewN | apply Kd.R_drew)); exact HO_185001.out) hb); have n4_ := Aside0.mk (Kd.R_lower (Kd.R_new' (Kd.R_new' ho0 (Kd.R_lt (by (with_reducible repeat (first | apply Kd.R_alloc | apply Kd.R_drewN | apply Kd.R_drew)); exact HO_174000.out))) (Kd.R_lt (by (with_reducible repeat (first | apply Kd.R_alloc | apply Kd.R_drewN | apply Kd.R_drew)); exact HO_185000.out))) (below_size (by repeat (first | (with_reducible first | exact HB.out | apply below_alloc | apply pw_below_drewN | apply below_drew1 | refine below_set ?_ GE173.out | refine below_set ?_ GE184.out) | exact HB.out)))); have n5_ := Aside0.mk (blk_below (g := gb173) (o := .cells #[.slice Ao12 t166.length co12, .slice Ao14 t169.length co14] 33 (0, 0)) (by (with_reducible repeat (first | refine blk_drewN ?_ _ | refine blk_drew ?_ | refine blk_alloc ?_ _)); exact BK173.out) hb); have n6_ := Aside0.mk (blk_below (g := gb184) (o := .cells #[.slice Ao19 t177.length co19, .slice Ao22 t180.length co22] 33 (0, 0)) (by (with_reducible repeat (first | refine blk_drewN ?_ _ | refine blk_drew ?_ | refine blk_alloc ?_ _)); exact BK184.out) hb); have n7_ := Aside0.mk (below_step (by repeat (first | (with_reducible first | exact HB.out | apply below_alloc | apply pw_below_drewN | apply below_drew1 | refine below_set ?_ GE173.out | refine below_set ?_ GE184.out) | exact HB.out)) hb); clear HO_174000; clear HO_174001; clear HO_185000; clear HO_185001; clear BK173; clear BK184; clear HB; have HO_174000 := n0_; have HO_174001 := n1_; have HO_185000 := n2_; have HO_185001 := n3_; have HO199 := n4_; have BK173 := n5_; have BK184 := n6_; have HB := n7_; clear n0_ n1_ n2_ n3_ n4_ n5_ n6_ n7_; (try clear hb); (try clear hb2); (try clear hk); (try clear hi); (try clear ho0); obtain ⟨Ao67, co67, eo67⟩ := Kd.R_slice HO199.out; subst eo67) | ((with_reducible refine gate_callee (f := 19) rfl ?_); refine goesL_ (some 73) rfl rfl Try.func19 (by kernel_rfl) rfl #[.slice Ao67 t197.length co67] rfl (by (try simp only [List.map_toArray, List.map_cons, List.map_nil]); first | done | rfl | (simp only [List.length_drop, List.length_take]; rfl)) ?_; (with_reducible refine (impl_NewNode.calls _ _ t197 t200 t203 t206 _ ?side1 ?side2 A59.out).mono ?_); (case side1 => repeat (first | exact (Kd.R_reads' HO199.out).2.2 | (with_reducible refine Kd.C_alloc ?_ _) | (with_reducible refine Kd.C_drewN ?_ _) | (with_reducible refine Kd.C_drew ?_))); (case side2 => exact (Kd.R_reads' HO199.out).2.1); rintro e w68 ⟨v201, v204, rfl, ho0, ho1, hb⟩; refine ⟨_, rfl, ?_⟩; have n0_ := Aside0.mk (Kd.R_elder' (by (with_reducible repeat (first | apply Kd.R_alloc | apply Kd.R_drewN | apply Kd.R_drew)); exact HO_174000.out) (Kd.R_base ho0) hb); have n1_ := Aside0.mk (Kd.R_elder' (by (with_reducible repeat (first | apply Kd.R_alloc | apply Kd.R_drewN | apply Kd.R_drew)); exact HO_174001.out) (Kd.R_base ho1) hb); have n2_ := Aside0.mk (Kd.R_elder' (by (with_reducible repeat (first | apply Kd.R_alloc | apply Kd.R_drewN | apply Kd.R_drew)); exact HO_185000.out) (Kd.R_base ho0) hb); have n3_ := Aside0.mk (Kd.R_elder' (by (with_reducible repeat (first | apply Kd.R_alloc | apply Kd.R_drewN | apply Kd.R_drew)); exact HO_185001.out) (Kd.R_base ho1) hb); have n4_ := Aside0.mk (Kd.R_elder' (by (with_reducible repeat (first | apply Kd.R_alloc | apply Kd.R_drewN | apply Kd.R_drew)); exact HO199.out) (Kd.R_base ho0) hb); have n5_ := Aside0.mk (Kd.R_lower (Kd.R_new' (Kd.R_new' (Kd.R_new' ho0 (Kd.R_lt (by (with_reducible repeat (first | apply Kd.R_alloc | apply Kd.R_drewN | apply Kd.R_drew)); exact HO_174000.out))) (Kd.R_lt (by (with_reducible repeat (first | apply Kd.R_alloc | apply Kd.R_drewN | apply Kd.R_drew)); exact HO_185000.out))) (Kd.R_lt (by (with_reducible repeat (first | apply Kd.R_alloc | apply Kd.R_drewN | apply Kd.R_drew)); exact HO199.out))) (below_size (by repeat (first | (with_reducible first | exact HB.out | apply below_alloc | apply pw_below_drewN | apply below_drew1 | refine below_set ?_ GE173.out | refine below_set ?_ GE184.out) | exact HB.out)))); have n6_ := Aside0.mk (Kd.R_lower (Kd.R_new' (Kd.R_new' ho1 (Kd.R_lt (by (with_reducible repeat (first | apply Kd.R_alloc | apply Kd.R_drewN | apply Kd.R_drew)); exact HO_174001.out))) (Kd.R_lt (by (with_reducible repeat (first | apply Kd.R_alloc | apply Kd.R_drewN | apply Kd.R_drew)); exact HO_185001.out))) (below_size (by repeat (first | (with_reducible first | exact HB.out | apply below_alloc | apply pw_below_drewN | apply below_drew1 | refine below_set ?_ GE173.out | refine below_set ?_ GE184.out) | exact HB.out)))); have n7_ := Aside0.mk (blk_below (g := gb173) (o := .cells #[.slice Ao12 t166.length co12, .slice Ao14 t169.length co14] 33 (0, 0)) (by (with_reducible repeat (first | refine blk_drewN ?_ _ | refine blk_drew ?_ | refine blk_alloc ?_ _)); exact BK173.out) hb); have n8_ := Aside0.mk (blk_below (g := gb184) (o := .cells #[.slice Ao19 t177.length co19, .slice Ao22 t180.length co22] 33 (0, 0)) (by (with_reducible repeat (first | refine blk_drewN ?_ _ | refine blk_drew ?_ | refine blk_alloc ?_ _)); exact BK184.out) hb); have n9_ := Aside0.mk (below_step (by repeat (first | (with_reducible first | exact HB.out | apply below_alloc | apply pw_below_drewN | apply below_drew1 | refine below_set ?_ GE173.out | refine below_set ?_ GE184.out) | exact HB.out)) hb); clear HO_174000; clear HO_174001; clear HO_185000; clear HO_185001; clear HO199; clear BK173; clear BK184; clear HB; have HO_174000 := n0_; have HO_174001 := n1_; have HO_185000 := n2_; have HO_185001 := n3_; have HO199 := n4_; have HO202 := n5_; have HO205 := n6_; have BK173 := n7_; have BK184 := n8_; have HB := n9_; clear n0_ n1_ n2_ n3_ n4_ n5_ n6_ n7_ n8_ n9_; (try clear hb); (try clear hb2); (try clear hk); (try clear hi); (try clear ho0); (try clear ho1)) | ((with_reducible refine gate_dst (N := 11) rfl ?_); refine box_event ?hg (N := 11) ?hd (cs := #[.slice none 0 0, .slice none 0 0]) (t := 33) ?hr ?_; (case hd => rfl); (case hg => rfl); (case hr => first | (go_simp; done) | (go_simp; rfl)); intro gb207 hg w69 hbox hb; have n0_ := Aside0.mk (Kd.R_below (by (with_reducible repeat (first | apply Kd.R_alloc | apply Kd.R_drewN | apply Kd.R_drew)); exact HO_174000.out) hb); have n1_ := Aside0.mk (Kd.R_below (by (with_reducible repeat (first | apply Kd.R_alloc | apply Kd.R_drewN | apply Kd.R_drew)); exact HO_174001.out) hb); have n2_ := Aside0.mk (Kd.R_below (by (with_reducible repeat (first | apply Kd.R_alloc | apply Kd.R_drewN | apply Kd.R_drew)); exact HO_185000.out) hb); have n3_ := Aside0.mk (Kd.R_below (by (with_reducible repeat (first | apply Kd.R_alloc | apply Kd.R_drewN | apply Kd.R_drew)); exact HO_185001.out) hb); have n4_ := Aside0.mk (Kd.R_below (by (with_reducible repeat (first | apply Kd.R_alloc | apply Kd.R_drewN | apply Kd.R_drew)); exact HO199.out) hb); have n5_ := Aside0.mk (Kd.R_below (by (with_reducible repeat (first | apply Kd.R_alloc | apply Kd.R_drewN | apply Kd.R_drew)); exact HO202.out) hb); have n6_ := Aside0.mk (Kd.R_below (by (with_reducible repeat (first | apply Kd.R_alloc | apply Kd.R_drewN | apply Kd.R_drew)); exact HO205.out) hb); have n7_ := Aside0.mk (blk_below (g := gb173) (o := .cells #[.slice Ao12 t166.length co12, .slice Ao14 t169.length co14] 33 (0, 0)) (by (with_reducible repeat (first | refine blk_drewN ?_ _ | refine blk_drew ?_ | refine blk_alloc ?_ _)); exact BK173.out) hb); have n8_ := Aside0.mk (blk_below (g := gb184) (o := .cells #[.slice Ao19 t177.length co19, .slice Ao22 t180.length co22] 33 (0, 0)) (by (with_reducible repeat (first | refine blk_drewN ?_ _ | refine blk_drew ?_ | refine blk_alloc ?_ _)); exact BK184.out) hb); have n9_ := Aside0.mk (below_step (by repeat (first | (with_reducible first | exact HB.out | apply below_alloc | apply pw_below_drewN | apply below_drew1 | refine below_set ?_ GE173.out | refine below_set ?_ GE184.out) | exact HB.out)) hb); have n10_ := Aside0.mk (hbox); have n11_ := Aside0.mk ((by rw [hg]; exact (below_size (by repeat (first | (with_reducible first | exact HB.out | apply below_alloc | apply pw_below_drewN | apply below_drew1 | refine below_set ?_ GE173.out | refine below_set ?_ GE184.out) | exact HB.out))) : w.heap.size ≤ gb207)); have n12_ := Aside0.mk ((by rw [hg]; exact (below_size (by repeat (first | (with_reducible first | exact HB.out | apply below_alloc | apply pw_below_drewN | apply below_drew1 | refine below_set ?_ GE173.out | refine below_set ?_ GE184.out) | exact HB.out))) : w.heap.size ≤ gb207)); have n13_ := Aside0.mk ((by rw [hg]; exact Nat.ne_of_lt (blk_lt (g := gb173) (o := .cells #[.slice Ao12 t166.length co12, .slice Ao14 t169.length co14] 33 (0, 0)) (by (with_reducible repeat (first | refine blk_drewN ?_ _ | refine blk_drew ?_ | refine blk_alloc ?_ _)); exact BK173.out)) : gb173 ≠ gb207)); have n14_ := Aside0.mk ((by rw [hg]; exact Nat.ne_of_gt (blk_lt (g := gb173) (o := .cells #[.slice Ao12 t166.length co12, .slice Ao14 t169.length co14] 33 (0, 0)) (by (with_reducible repeat (first | refine blk_drewN ?_ _ | refine blk_drew ?_ | refine blk_alloc ?_ _)); exact BK173.out)) : gb207 ≠ gb173)); have n15_ := Aside0.mk ((by rw [hg]; exact Nat.ne_of_lt (blk_lt (g := gb184) (o := .cells #[.slice Ao19 t177.length co19, .slice Ao22 t180.length co22] 33 (0, 0)) (by (with_reducible repeat (first | refine blk_drewN ?_ _ | refine blk_drew ?_ | refine blk_alloc ?_ _)); exact BK184.out)) : gb184 ≠ gb207)); have n16_ := Aside0.mk ((by rw [hg]; exact Nat.ne_of_gt (blk_lt (g := gb184) (o := .cells #[.slice Ao19 t177.length co19, .slice Ao22 t180.length co22] 33 (0, 0)) (by (with_reducible repeat (first | refine blk_drewN ?_ _ | refine blk_drew ?_ | refine blk_alloc ?_ _)); exact BK184.out)) : gb207 ≠ gb184)); clear HO_174000; clear HO_174001; clear HO_185000; clear HO_185001; clear HO199; clear HO202; clear HO205; clear BK173; clear BK184; clear HB; have HO_174000 := n0_; have HO_174001 := n1_; have HO_185000 := n2_; have HO_185001 := n3_; have HO199 := n4_; have HO202 := n5_; have HO205 := n6_; have BK173 := n7_; have BK184 := n8_; have HB := n9_; have BK207 := n10_; have GW207 := n11_; have GE207 := n12_; have NB173_207 := n13_; have NB207_173 := n14_; have NB184_207 := n15_; have NB207_184 := n16_; clear n0_ n1_ n2_ n3_ n4_ n5_ n6_ n7_ n8_ n9_ n10_ n11_ n12_ n13_ n14_ n15_ n16_; clear hb hbox hg; obtain ⟨Ao70, co70, eo70⟩ := Kd.R_slice HO202.out; subst eo70; have hnb71 := NB207_173.out; have hnc71 := NB173_207.out; have hnb72 := NB207_184.out; have hnc72 := NB184_207.out; have hcz73_0 : w69.cell? ⟨gb207, 0, none⟩ = some (.slice none 0 0) := (blk_cell BK207.out 0).trans rfl; have hcz73_1 : w69.cell? ⟨gb207, 1, none⟩ = some (.slice none 0 0) := (blk_cell BK207.out 1).trans rfl; have hfz73_0 := blk_frozen BK207.out 0; have hfz73_1 := blk_frozen BK207.out 1; obtain ⟨Ao74, co74, eo74⟩ := Kd.R_slice HO205.out; subst eo74))
                      (try simp only [Act.put, List.setIfInBounds_toArray, List.set_cons_zero, List.set_cons_succ])
                      go_cut [84] (fun v84 wc => ∃ (kq : Nat) (x84_59 : Bool), v84 = .bool x84_59 ∧ Aside0 (laws_FnExactNewNode.j2 kq t193 x84_59 t194 t195 = some r) ∧ Aside0 (kq ≤ kj37) ∧ Aside0 (Kd.R (Kd.int .i64) 3 wc w.heap.size (fun k_ => some k_ ≠ ((.slice Ao19 t177.length co19) : Value).ownBlock ∧ some k_ ≠ ((.slice Ao70 t200.length co70) : Value).ownBlock) (.slice Ao12 t166.length co12) t166) ∧ Aside0 (Kd.R k64 64 wc w.heap.size (fun k_ => some k_ ≠ ((.slice Ao22 t180.length co22) : Value).ownBlock ∧ some k_ ≠ ((.slice Ao74 t203.length co74) : Value).ownBlock) (.slice Ao14 t169.length co14) t169) ∧ Aside0 (Kd.R (Kd.int .i64) 3 wc w.heap.size (fun k_ => some k_ ≠ ((.slice Ao12 t166.length co12) : Value).ownBlock ∧ some k_ ≠ ((.slice Ao70 t200.length co70) : Value).ownBlock) (.slice Ao19 t177.length co19) t194) ∧ Aside0 (Kd.R k64 64 wc w.heap.size (fun k_ => some k_ ≠ ((.slice Ao14 t169.length co14) : Value).ownBlock ∧ some k_ ≠ ((.slice Ao74 t203.length co74) : Value).ownBlock) (.slice Ao22 t180.length co22) t195) ∧ Aside0 (Kd.R (Kd.int .i64) 3 wc w.heap.size (fun k_ => some k_ ≠ ((.slice Ao12 t166.length co12) : Value).ownBlock ∧ some k_ ≠ ((.slice Ao19 t177.length co19) : Value).ownBlock) (.slice Ao70 t200.length co70) t200) ∧ Aside0 (Kd.R k64 64 wc w.heap.size (fun k_ => some k_ ≠ ((.slice Ao14 t169.length co14) : Value).ownBlock ∧ some k_ ≠ ((.slice Ao22 t180.length co22) : Value).ownBlock) (.slice Ao74 t203.length co74) t203) ∧ Aside0 (wc.heap[gb173]? = some (.cells #[(.slice Ao12 t166.length co12), (.slice Ao14 t169.length co14)] 33 (0, 0))) ∧ Aside0 (wc.heap[gb184]? = some (.cells #[(.slice Ao19 t177.length co19), (.slice Ao22 t180.length co22)] 33 (0, 0))) ∧ Aside0 (wc.heap[gb207]? = some (.cells #[(.slice Ao70 t200.length co70), (.slice Ao74 t203.length co74)] 33 (0, 0))) ∧ Aside0 (Below w.heap.size w wc))
                      case first =>
                        have H := HC60.out
                        clear HC60
                        replace H := Option.bind_eq_some_iff.mp H
                        obtain ⟨t208, A750, H⟩ := H
                        replace H : (if t208 = true then (laws_FnExactNewNode.j2 kj37 t193 (t206 != t172) t194 t195) else (laws_FnExactNewNode.j2 kj37 t193 true t194 t195)) = some r := H
                        have A75 := Aside0.mk A750
                        clear A750
                        by_cases c76 : t208 = true
                        · subst c76
                          have H1 : (laws_FnExactNewNode.j2 kj37 t193 (t206 != t172) t194 t195) = some r := by rw [if_pos rfl] at H; exact H
                          clear H
                          have H := H1
                          clear H1
                          have H' := Aside0.mk H
                          clear H
                          have hnb77 := NB207_173.out
                          have hnc77 := NB173_207.out
                          have hnb78 := NB207_184.out
                          have hnc78 := NB184_207.out
                          have hcz79_0 : w69.cell? ⟨gb207, 0, none⟩ = some (.slice none 0 0) := (blk_cell BK207.out 0).trans rfl
                          have hcz79_1 : w69.cell? ⟨gb207, 1, none⟩ = some (.slice none 0 0) := (blk_cell BK207.out 1).trans rfl
                          have hfz79_0 := blk_frozen BK207.out 0
                          have hfz79_1 := blk_frozen BK207.out 1
                          have hnb80 := NB173_184.out
                          have hnc80 := NB184_173.out
                          have hcz81_0 : w69.cell? ⟨gb173, 0, none⟩ = some (.slice Ao12 t166.length co12) := (blk_cell BK173.out 0).trans rfl
                          have hcz81_1 : w69.cell? ⟨gb173, 1, none⟩ = some (.slice Ao14 t169.length co14) := (blk_cell BK173.out 1).trans rfl
                          have hfz81_0 := blk_frozen BK173.out 0
                          have hfz81_1 := blk_frozen BK173.out 1
                          go_wp2_with (first | ((with_reducible refine gate_callee (f := 20) rfl ?_); refine goesL_ (some 78) rfl rfl Try.func20 (by kernel_rfl) rfl #[.agg #[.slice Ao70 t200.length co70, .slice Ao74 t203.length co74], .agg #[.slice Ao12 t166.length co12, .slice Ao14 t169.length co14]] rfl (by (try simp only [List.map_toArray, List.map_cons, List.map_nil]); first | done | rfl | (simp only [List.length_drop, List.length_take]; rfl)) ?_; (with_reducible refine (laws_eqNode.calls kj37 _ _ t200 _ _ t203 _ _ t166 _ _ t169 true _ ?side1 ?side2 ?side3 ?side4 ?side5 ?side6 ?side7 ?side8 A75.out).mono ?_); (case side1 => refine (Kd.R_reads' (e := 3) (base := w.heap.size) (ok := fun k_ => (((True ∧ some k_ ≠ (.slice Ao12 t166.length co12 : Value).ownBlock) ∧ some k_ ≠ (.slice Ao19 t177.length co19 : Value).ownBlock) ∧ some k_ ≠ (.slice Ao67 t197.length co67 : Value).ownBlock)) (n := t200.length) (c := co70) ?_).2.2; exact (by (with_reducible repeat (first | apply Kd.R_alloc | apply Kd.R_drewN | apply Kd.R_drew)); exact (Kd.R_mono (Kd.R_far (p := ⟨gb207, 1, none⟩) (Kd.R_far (p := ⟨gb207, 0, none⟩) (Kd.R_types HO202.out BK207.out (by decide)) (fun _ hk => hk.2) (.slice Ao70 t200.length co70)) (fun _ hk => hk.2) (.slice Ao74 t203.length co74)) (fun _ h_ => h_.1)))); (case side2 => exact (Kd.R_reads' HO202.out).2.1); (case side3 => refine (Kd.R_reads' (e := 64) (base := w.heap.size) (ok := fun k_ => ((True ∧ some k_ ≠ (.slice Ao14 t169.length co14 : Value).ownBlock) ∧ some k_ ≠ (.slice Ao22 t180.length co22 : Value).ownBlock)) (n := t203.length) (c := co74) ?_).2.2; exact (by (with_reducible repeat (first | apply Kd.R_alloc | apply Kd.R_drewN | apply Kd.R_drew)); exact (Kd.R_mono (Kd.R_far (p := ⟨gb207, 1, none⟩) (Kd.R_far (p := ⟨gb207, 0, none⟩) (Kd.R_types HO205.out BK207.out (by decide)) (fun _ hk => hk.2) (.slice Ao70 t200.length co70)) (fun _ hk => hk.2) (.slice Ao74 t203.length co74)) (fun _ h_ => h_.1)))); (case side4 => exact (Kd.R_reads' HO205.out).2.1); (case side5 => refine (Kd.R_reads' (e := 3) (base := w.heap.size) (ok := fun k_ => ((some k_ ≠ (.slice Ao19 t177.length co19 : Value).ownBlock ∧ some k_ ≠ (.slice Ao67 t197.length co67 : Value).ownBlock) ∧ some k_ ≠ (.slice Ao70 t200.length co70 : Value).ownBlock)) (n := t166.length) (c := co12) ?_).2.2; exact (by (with_reducible repeat (first | apply Kd.R_alloc | apply Kd.R_drewN | apply Kd.R_drew)); exact (Kd.R_mono (Kd.R_far (p := ⟨gb207, 1, none⟩) (Kd.R_far (p := ⟨gb207, 0, none⟩) (Kd.R_types HO_174000.out BK207.out (by decide)) (fun _ hk => hk.2) (.slice Ao70 t200.length co70)) (fun _ hk => hk.2) (.slice Ao74 t203.length co74)) (fun _ h_ => h_.1)))); (case side6 => exact (Kd.R_reads' HO_174000.out).2.1); (case side7 => refine (Kd.R_reads' (e := 64) (base := w.heap.size) (ok := fun k_ => (some k_ ≠ (.slice Ao22 t180.length co22 : Value).ownBlock ∧ some k_ ≠ (.slice Ao74 t203.length co74 : Value).ownBlock)) (n := t169.length) (c := co14) ?_).2.2; exact (by (with_reducible repeat (first | apply Kd.R_alloc | apply Kd.R_drewN | apply Kd.R_drew)); exact (Kd.R_mono (Kd.R_far (p := ⟨gb207, 1, none⟩) (Kd.R_far (p := ⟨gb207, 0, none⟩) (Kd.R_types HO_174001.out BK207.out (by decide)) (fun _ hk => hk.2) (.slice Ao70 t200.length co70)) (fun _ hk => hk.2) (.slice Ao74 t203.length co74)) (fun _ h_ => h_.1)))); (case side8 => exact (Kd.R_reads' HO_174001.out).2.1); rintro e w82 ⟨rfl, hb⟩; refine ⟨_, rfl, ?_⟩; have n0_ := Aside0.mk (Kd.R_below (by (with_reducible repeat (first | apply Kd.R_alloc | apply Kd.R_drewN | apply Kd.R_drew)); exact (Kd.R_mono (Kd.R_far (p := ⟨gb207, 1, none⟩) (Kd.R_far (p := ⟨gb207, 0, none⟩) (Kd.R_types HO_174000.out BK207.out (by decide)) (fun _ hk => hk.2) (.slice Ao70 t200.length co70)) (fun _ hk => hk.2) (.slice Ao74 t203.length co74)) (fun _ h_ => h_.1))) hb); have n1_ := Aside0.mk (Kd.R_below (by (with_reducible repeat (first | apply Kd.R_alloc | apply Kd.R_drewN | apply Kd.R_drew)); exact (Kd.R_mono (Kd.R_far (p := ⟨gb207, 1, none⟩) (Kd.R_far (p := ⟨gb207, 0, none⟩) (Kd.R_types HO_174001.out BK207.out (by decide)) (fun _ hk => hk.2) (.slice Ao70 t200.length co70)) (fun _ hk => hk.2) (.slice Ao74 t203.length co74)) (fun _ h_ => h_.1))) hb); have n2_ := Aside0.mk (Kd.R_below (by (with_reducible repeat (first | apply Kd.R_alloc | apply Kd.R_drewN | apply Kd.R_drew)); exact (Kd.R_mono (Kd.R_far (p := ⟨gb207, 1, none⟩) (Kd.R_far (p := ⟨gb207, 0, none⟩) (Kd.R_types HO_185000.out BK207.out (by decide)) (fun _ hk => hk.2) (.slice Ao70 t200.length co70)) (fun _ hk => hk.2) (.slice Ao74 t203.length co74)) (fun _ h_ => h_.1))) hb); have n3_ := Aside0.mk (Kd.R_below (by (with_reducible repeat (first | apply Kd.R_alloc | apply Kd.R_drewN | apply Kd.R_drew)); exact (Kd.R_mono (Kd.R_far (p := ⟨gb207, 1, none⟩) (Kd.R_far (p := ⟨gb207, 0, none⟩) (Kd.R_types HO_185001.out BK207.out (by decide)) (fun _ hk => hk.2) (.slice Ao70 t200.length co70)) (fun _ hk => hk.2) (.slice Ao74 t203.length co74)) (fun _ h_ => h_.1))) hb); have n4_ := Aside0.mk (Kd.R_below (by (with_reducible repeat (first | apply Kd.R_alloc | apply Kd.R_drewN | apply Kd.R_drew)); exact (Kd.R_mono (Kd.R_far (p := ⟨gb207, 1, none⟩) (Kd.R_far (p := ⟨gb207, 0, none⟩) (Kd.R_types HO199.out BK207.out (by decide)) (fun _ hk => hk.2) (.slice Ao70 t200.length co70)) (fun _ hk => hk.2) (.slice Ao74 t203.length co74)) (fun _ h_ => h_.1))) hb); have n5_ := Aside0.mk (Kd.R_below (by (with_reducible repeat (first | apply Kd.R_alloc | apply Kd.R_drewN | apply Kd.R_drew)); exact (Kd.R_mono (Kd.R_far (p := ⟨gb207, 1, none⟩) (Kd.R_far (p := ⟨gb207, 0, none⟩) (Kd.R_types HO202.out BK207.out (by decide)) (fun _ hk => hk.2) (.slice Ao70 t200.length co70)) (fun _ hk => hk.2) (.slice Ao74 t203.length co74)) (fun _ h_ => h_.1))) hb); have n6_ := Aside0.mk (Kd.R_below (by (with_reducible repeat (first | apply Kd.R_alloc | apply Kd.R_drewN | apply Kd.R_drew)); exact (Kd.R_mono (Kd.R_far (p := ⟨gb207, 1, none⟩) (Kd.R_far (p := ⟨gb207, 0, none⟩) (Kd.R_types HO205.out BK207.out (by decide)) (fun _ hk => hk.2) (.slice Ao70 t200.length co70)) (fun _ hk => hk.2) (.slice Ao74 t203.length co74)) (fun _ h_ => h_.1))) hb); have n7_ := Aside0.mk (blk_below (g := gb173) (o := .cells #[.slice Ao12 t166.length co12, .slice Ao14 t169.length co14] 33 (0, 0)) (by (with_reducible repeat (first | refine blk_drewN ?_ _ | refine blk_drew ?_ | refine blk_alloc ?_ _)); refine blk_far ?_ NB173_207.out _; (with_reducible repeat (first | refine blk_drewN ?_ _ | refine blk_drew ?_ | refine blk_alloc ?_ _)); refine blk_far ?_ NB173_207.out _; (with_reducible repeat (first | refine blk_drewN ?_ _ | refine blk_drew ?_ | refine blk_alloc ?_ _)); exact BK173.out) hb); have n8_ := Aside0.mk (blk_below (g := gb184) (o := .cells #[.slice Ao19 t177.length co19, .slice Ao22 t180.length co22] 33 (0, 0)) (by (with_reducible repeat (first | refine blk_drewN ?_ _ | refine blk_drew ?_ | refine blk_alloc ?_ _)); refine blk_far ?_ NB184_207.out _; (with_reducible repeat (first | refine blk_drewN ?_ _ | refine blk_drew ?_ | refine blk_alloc ?_ _)); refine blk_far ?_ NB184_207.out _; (with_reducible repeat (first | refine blk_drewN ?_ _ | refine blk_drew ?_ | refine blk_alloc ?_ _)); exact BK184.out) hb); have n9_ := Aside0.mk (blk_below (g := gb207) (o := .cells #[.slice Ao70 t200.length co70, .slice Ao74 t203.length co74] 33 (0, 0)) (by (with_reducible repeat (first | refine blk_drewN ?_ _ | refine blk_drew ?_ | refine blk_alloc ?_ _)); refine blk_put (cs := #[.slice Ao70 t200.length co70, .slice none 0 0]) ?_ 1 _ rfl; (with_reducible repeat (first | refine blk_drewN ?_ _ | refine blk_drew ?_ | refine blk_alloc ?_ _)); refine blk_put (cs := #[.slice none 0 0, .slice none 0 0]) ?_ 0 _ rfl; (with_reducible repeat (first | refine blk_drewN ?_ _ | refine blk_drew ?_ | refine blk_alloc ?_ _)); exact BK207.out) hb); have n10_ := Aside0.mk (below_step (by repeat (first | (with_reducible first | exact HB.out | apply below_alloc | apply pw_below_drewN | apply below_drew1 | refine below_set ?_ GE173.out | refine below_set ?_ GE184.out | refine below_set ?_ GE207.out) | exact HB.out)) hb); clear HO_174000; clear HO_174001; clear HO_185000; clear HO_185001; clear HO199; clear HO202; clear HO205; clear BK173; clear BK184; clear BK207; clear HB; have HO_174000 := n0_; have HO_174001 := n1_; have HO_185000 := n2_; have HO_185001 := n3_; have HO199 := n4_; have HO202 := n5_; have HO205 := n6_; have BK173 := n7_; have BK184 := n8_; have BK207 := n9_; have HB := n10_; clear n0_ n1_ n2_ n3_ n4_ n5_ n6_ n7_ n8_ n9_ n10_; (try clear hb); (try clear hb2); (try clear hk); (try clear hi)))
                          go_meet
                          case rel => exact ⟨_, ((t206 != t172)), (by first | rfl | (simp; done) | (simp [*]; done)), H', ⟨by have := HJ6.out; have := HJ37.out; first | omega | exact Nat.le_refl _⟩, ⟨by (with_reducible repeat (first | apply Kd.R_alloc | apply Kd.R_drewN | apply Kd.R_drew)); exact Kd.R_mono HO_174000.out (fun _ hk => ⟨hk.1.1, hk.2⟩)⟩, ⟨by (with_reducible repeat (first | apply Kd.R_alloc | apply Kd.R_drewN | apply Kd.R_drew)); exact HO_174001.out⟩, ⟨by (with_reducible repeat (first | apply Kd.R_alloc | apply Kd.R_drewN | apply Kd.R_drew)); exact Kd.R_mono HO_185000.out (fun _ hk => ⟨hk.1.1, hk.2⟩)⟩, ⟨by (with_reducible repeat (first | apply Kd.R_alloc | apply Kd.R_drewN | apply Kd.R_drew)); exact HO_185001.out⟩, ⟨by (with_reducible repeat (first | apply Kd.R_alloc | apply Kd.R_drewN | apply Kd.R_drew)); exact Kd.R_mono HO202.out (fun _ hk => ⟨hk.1.1.2, hk.1.2⟩)⟩, ⟨by (with_reducible repeat (first | apply Kd.R_alloc | apply Kd.R_drewN | apply Kd.R_drew)); exact Kd.R_mono HO205.out (fun _ hk => ⟨hk.1.2, hk.2⟩)⟩, ⟨by (with_reducible repeat (first | refine blk_drewN ?_ _ | refine blk_drew ?_ | refine blk_alloc ?_ _)); exact BK173.out⟩, ⟨by (with_reducible repeat (first | refine blk_drewN ?_ _ | refine blk_drew ?_ | refine blk_alloc ?_ _)); exact BK184.out⟩, ⟨by (with_reducible repeat (first | refine blk_drewN ?_ _ | refine blk_drew ?_ | refine blk_alloc ?_ _)); exact BK207.out⟩, ⟨by repeat (first | (with_reducible first | exact HB.out | apply below_alloc | apply pw_below_drewN | apply below_drew1 | refine below_set ?_ GE173.out | refine below_set ?_ GE184.out | refine below_set ?_ GE207.out) | exact HB.out)⟩⟩
                        · replace c76 := Bool.eq_false_iff.mpr c76
                          subst c76
                          have H1 : (laws_FnExactNewNode.j2 kj37 t193 true t194 t195) = some r := by rw [if_neg (show ¬ (false = true) by decide)] at H; exact H
                          clear H
                          have H := H1
                          clear H1
                          have H' := Aside0.mk H
                          clear H
                          have hnb83 := NB207_173.out
                          have hnc83 := NB173_207.out
                          have hnb84 := NB207_184.out
                          have hnc84 := NB184_207.out
                          have hcz85_0 : w69.cell? ⟨gb207, 0, none⟩ = some (.slice none 0 0) := (blk_cell BK207.out 0).trans rfl
                          have hcz85_1 : w69.cell? ⟨gb207, 1, none⟩ = some (.slice none 0 0) := (blk_cell BK207.out 1).trans rfl
                          have hfz85_0 := blk_frozen BK207.out 0
                          have hfz85_1 := blk_frozen BK207.out 1
                          have hnb86 := NB173_184.out
                          have hnc86 := NB184_173.out
                          have hcz87_0 : w69.cell? ⟨gb173, 0, none⟩ = some (.slice Ao12 t166.length co12) := (blk_cell BK173.out 0).trans rfl
                          have hcz87_1 : w69.cell? ⟨gb173, 1, none⟩ = some (.slice Ao14 t169.length co14) := (blk_cell BK173.out 1).trans rfl
                          have hfz87_0 := blk_frozen BK173.out 0
                          have hfz87_1 := blk_frozen BK173.out 1
                          go_wp2_with (first | ((with_reducible refine gate_callee (f := 20) rfl ?_); refine goesL_ (some 78) rfl rfl Try.func20 (by kernel_rfl) rfl #[.agg #[.slice Ao70 t200.length co70, .slice Ao74 t203.length co74], .agg #[.slice Ao12 t166.length co12, .slice Ao14 t169.length co14]] rfl (by (try simp only [List.map_toArray, List.map_cons, List.map_nil]); first | done | rfl | (simp only [List.length_drop, List.length_take]; rfl)) ?_; (with_reducible refine (laws_eqNode.calls kj37 _ _ t200 _ _ t203 _ _ t166 _ _ t169 false _ ?side1 ?side2 ?side3 ?side4 ?side5 ?side6 ?side7 ?side8 A75.out).mono ?_); (case side1 => refine (Kd.R_reads' (e := 3) (base := w.heap.size) (ok := fun k_ => (((True ∧ some k_ ≠ (.slice Ao12 t166.length co12 : Value).ownBlock) ∧ some k_ ≠ (.slice Ao19 t177.length co19 : Value).ownBlock) ∧ some k_ ≠ (.slice Ao67 t197.length co67 : Value).ownBlock)) (n := t200.length) (c := co70) ?_).2.2; exact (by (with_reducible repeat (first | apply Kd.R_alloc | apply Kd.R_drewN | apply Kd.R_drew)); exact (Kd.R_mono (Kd.R_far (p := ⟨gb207, 1, none⟩) (Kd.R_far (p := ⟨gb207, 0, none⟩) (Kd.R_types HO202.out BK207.out (by decide)) (fun _ hk => hk.2) (.slice Ao70 t200.length co70)) (fun _ hk => hk.2) (.slice Ao74 t203.length co74)) (fun _ h_ => h_.1)))); (case side2 => exact (Kd.R_reads' HO202.out).2.1); (case side3 => refine (Kd.R_reads' (e := 64) (base := w.heap.size) (ok := fun k_ => ((True ∧ some k_ ≠ (.slice Ao14 t169.length co14 : Value).ownBlock) ∧ some k_ ≠ (.slice Ao22 t180.length co22 : Value).ownBlock)) (n := t203.length) (c := co74) ?_).2.2; exact (by (with_reducible repeat (first | apply Kd.R_alloc | apply Kd.R_drewN | apply Kd.R_drew)); exact (Kd.R_mono (Kd.R_far (p := ⟨gb207, 1, none⟩) (Kd.R_far (p := ⟨gb207, 0, none⟩) (Kd.R_types HO205.out BK207.out (by decide)) (fun _ hk => hk.2) (.slice Ao70 t200.length co70)) (fun _ hk => hk.2) (.slice Ao74 t203.length co74)) (fun _ h_ => h_.1)))); (case side4 => exact (Kd.R_reads' HO205.out).2.1); (case side5 => refine (Kd.R_reads' (e := 3) (base := w.heap.size) (ok := fun k_ => ((some k_ ≠ (.slice Ao19 t177.length co19 : Value).ownBlock ∧ some k_ ≠ (.slice Ao67 t197.length co67 : Value).ownBlock) ∧ some k_ ≠ (.slice Ao70 t200.length co70 : Value).ownBlock)) (n := t166.length) (c := co12) ?_).2.2; exact (by (with_reducible repeat (first | apply Kd.R_alloc | apply Kd.R_drewN | apply Kd.R_drew)); exact (Kd.R_mono (Kd.R_far (p := ⟨gb207, 1, none⟩) (Kd.R_far (p := ⟨gb207, 0, none⟩) (Kd.R_types HO_174000.out BK207.out (by decide)) (fun _ hk => hk.2) (.slice Ao70 t200.length co70)) (fun _ hk => hk.2) (.slice Ao74 t203.length co74)) (fun _ h_ => h_.1)))); (case side6 => exact (Kd.R_reads' HO_174000.out).2.1); (case side7 => refine (Kd.R_reads' (e := 64) (base := w.heap.size) (ok := fun k_ => (some k_ ≠ (.slice Ao22 t180.length co22 : Value).ownBlock ∧ some k_ ≠ (.slice Ao74 t203.length co74 : Value).ownBlock)) (n := t169.length) (c := co14) ?_).2.2; exact (by (with_reducible repeat (first | apply Kd.R_alloc | apply Kd.R_drewN | apply Kd.R_drew)); exact (Kd.R_mono (Kd.R_far (p := ⟨gb207, 1, none⟩) (Kd.R_far (p := ⟨gb207, 0, none⟩) (Kd.R_types HO_174001.out BK207.out (by decide)) (fun _ hk => hk.2) (.slice Ao70 t200.length co70)) (fun _ hk => hk.2) (.slice Ao74 t203.length co74)) (fun _ h_ => h_.1)))); (case side8 => exact (Kd.R_reads' HO_174001.out).2.1); rintro e w88 ⟨rfl, hb⟩; refine ⟨_, rfl, ?_⟩; have n0_ := Aside0.mk (Kd.R_below (by (with_reducible repeat (first | apply Kd.R_alloc | apply Kd.R_drewN | apply Kd.R_drew)); exact (Kd.R_mono (Kd.R_far (p := ⟨gb207, 1, none⟩) (Kd.R_far (p := ⟨gb207, 0, none⟩) (Kd.R_types HO_174000.out BK207.out (by decide)) (fun _ hk => hk.2) (.slice Ao70 t200.length co70)) (fun _ hk => hk.2) (.slice Ao74 t203.length co74)) (fun _ h_ => h_.1))) hb); have n1_ := Aside0.mk (Kd.R_below (by (with_reducible repeat (first | apply Kd.R_alloc | apply Kd.R_drewN | apply Kd.R_drew)); exact (Kd.R_mono (Kd.R_far (p := ⟨gb207, 1, none⟩) (Kd.R_far (p := ⟨gb207, 0, none⟩) (Kd.R_types HO_174001.out BK207.out (by decide)) (fun _ hk => hk.2) (.slice Ao70 t200.length co70)) (fun _ hk => hk.2) (.slice Ao74 t203.length co74)) (fun _ h_ => h_.1))) hb); have n2_ := Aside0.mk (Kd.R_below (by (with_reducible repeat (first | apply Kd.R_alloc | apply Kd.R_drewN | apply Kd.R_drew)); exact (Kd.R_mono (Kd.R_far (p := ⟨gb207, 1, none⟩) (Kd.R_far (p := ⟨gb207, 0, none⟩) (Kd.R_types HO_185000.out BK207.out (by decide)) (fun _ hk => hk.2) (.slice Ao70 t200.length co70)) (fun _ hk => hk.2) (.slice Ao74 t203.length co74)) (fun _ h_ => h_.1))) hb); have n3_ := Aside0.mk (Kd.R_below (by (with_reducible repeat (first | apply Kd.R_alloc | apply Kd.R_drewN | apply Kd.R_drew)); exact (Kd.R_mono (Kd.R_far (p := ⟨gb207, 1, none⟩) (Kd.R_far (p := ⟨gb207, 0, none⟩) (Kd.R_types HO_185001.out BK207.out (by decide)) (fun _ hk => hk.2) (.slice Ao70 t200.length co70)) (fun _ hk => hk.2) (.slice Ao74 t203.length co74)) (fun _ h_ => h_.1))) hb); have n4_ := Aside0.mk (Kd.R_below (by (with_reducible repeat (first | apply Kd.R_alloc | apply Kd.R_drewN | apply Kd.R_drew)); exact (Kd.R_mono (Kd.R_far (p := ⟨gb207, 1, none⟩) (Kd.R_far (p := ⟨gb207, 0, none⟩) (Kd.R_types HO199.out BK207.out (by decide)) (fun _ hk => hk.2) (.slice Ao70 t200.length co70)) (fun _ hk => hk.2) (.slice Ao74 t203.length co74)) (fun _ h_ => h_.1))) hb); have n5_ := Aside0.mk (Kd.R_below (by (with_reducible repeat (first | apply Kd.R_alloc | apply Kd.R_drewN | apply Kd.R_drew)); exact (Kd.R_mono (Kd.R_far (p := ⟨gb207, 1, none⟩) (Kd.R_far (p := ⟨gb207, 0, none⟩) (Kd.R_types HO202.out BK207.out (by decide)) (fun _ hk => hk.2) (.slice Ao70 t200.length co70)) (fun _ hk => hk.2) (.slice Ao74 t203.length co74)) (fun _ h_ => h_.1))) hb); have n6_ := Aside0.mk (Kd.R_below (by (with_reducible repeat (first | apply Kd.R_alloc | apply Kd.R_drewN | apply Kd.R_drew)); exact (Kd.R_mono (Kd.R_far (p := ⟨gb207, 1, none⟩) (Kd.R_far (p := ⟨gb207, 0, none⟩) (Kd.R_types HO205.out BK207.out (by decide)) (fun _ hk => hk.2) (.slice Ao70 t200.length co70)) (fun _ hk => hk.2) (.slice Ao74 t203.length co74)) (fun _ h_ => h_.1))) hb); have n7_ := Aside0.mk (blk_below (g := gb173) (o := .cells #[.slice Ao12 t166.length co12, .slice Ao14 t169.length co14] 33 (0, 0)) (by (with_reducible repeat (first | refine blk_drewN ?_ _ | refine blk_drew ?_ | refine blk_alloc ?_ _)); refine blk_far ?_ NB173_207.out _; (with_reducible repeat (first | refine blk_drewN ?_ _ | refine blk_drew ?_ | refine blk_alloc ?_ _)); refine blk_far ?_ NB173_207.out _; (with_reducible repeat (first | refine blk_drewN ?_ _ | refine blk_drew ?_ | refine blk_alloc ?_ _)); exact BK173.out) hb); have n8_ := Aside0.mk (blk_below (g := gb184) (o := .cells #[.slice Ao19 t177.length co19, .slice Ao22 t180.length co22] 33 (0, 0)) (by (with_reducible repeat (first | refine blk_drewN ?_ _ | refine blk_drew ?_ | refine blk_alloc ?_ _)); refine blk_far ?_ NB184_207.out _; (with_reducible repeat (first | refine blk_drewN ?_ _ | refine blk_drew ?_ | refine blk_alloc ?_ _)); refine blk_far ?_ NB184_207.out _; (with_reducible repeat (first | refine blk_drewN ?_ _ | refine blk_drew ?_ | refine blk_alloc ?_ _)); exact BK184.out) hb); have n9_ := Aside0.mk (blk_below (g := gb207) (o := .cells #[.slice Ao70 t200.length co70, .slice Ao74 t203.length co74] 33 (0, 0)) (by (with_reducible repeat (first | refine blk_drewN ?_ _ | refine blk_drew ?_ | refine blk_alloc ?_ _)); refine blk_put (cs := #[.slice Ao70 t200.length co70, .slice none 0 0]) ?_ 1 _ rfl; (with_reducible repeat (first | refine blk_drewN ?_ _ | refine blk_drew ?_ | refine blk_alloc ?_ _)); refine blk_put (cs := #[.slice none 0 0, .slice none 0 0]) ?_ 0 _ rfl; (with_reducible repeat (first | refine blk_drewN ?_ _ | refine blk_drew ?_ | refine blk_alloc ?_ _)); exact BK207.out) hb); have n10_ := Aside0.mk (below_step (by repeat (first | (with_reducible first | exact HB.out | apply below_alloc | apply pw_below_drewN | apply below_drew1 | refine below_set ?_ GE173.out | refine below_set ?_ GE184.out | refine below_set ?_ GE207.out) | exact HB.out)) hb); clear HO_174000; clear HO_174001; clear HO_185000; clear HO_185001; clear HO199; clear HO202; clear HO205; clear BK173; clear BK184; clear BK207; clear HB; have HO_174000 := n0_; have HO_174001 := n1_; have HO_185000 := n2_; have HO_185001 := n3_; have HO199 := n4_; have HO202 := n5_; have HO205 := n6_; have BK173 := n7_; have BK184 := n8_; have BK207 := n9_; have HB := n10_; clear n0_ n1_ n2_ n3_ n4_ n5_ n6_ n7_ n8_ n9_ n10_; (try clear hb); (try clear hb2); (try clear hk); (try clear hi)))
                          go_meet
                          case rel => exact ⟨_, (true), (by first | rfl | (simp; done) | (simp [*]; done)), H', ⟨by have := HJ6.out; have := HJ37.out; first | omega | exact Nat.le_refl _⟩, ⟨by (with_reducible repeat (first | apply Kd.R_alloc | apply Kd.R_drewN | apply Kd.R_drew)); exact Kd.R_mono HO_174000.out (fun _ hk => ⟨hk.1.1, hk.2⟩)⟩, ⟨by (with_reducible repeat (first | apply Kd.R_alloc | apply Kd.R_drewN | apply Kd.R_drew)); exact HO_174001.out⟩, ⟨by (with_reducible repeat (first | apply Kd.R_alloc | apply Kd.R_drewN | apply Kd.R_drew)); exact Kd.R_mono HO_185000.out (fun _ hk => ⟨hk.1.1, hk.2⟩)⟩, ⟨by (with_reducible repeat (first | apply Kd.R_alloc | apply Kd.R_drewN | apply Kd.R_drew)); exact HO_185001.out⟩, ⟨by (with_reducible repeat (first | apply Kd.R_alloc | apply Kd.R_drewN | apply Kd.R_drew)); exact Kd.R_mono HO202.out (fun _ hk => ⟨hk.1.1.2, hk.1.2⟩)⟩, ⟨by (with_reducible repeat (first | apply Kd.R_alloc | apply Kd.R_drewN | apply Kd.R_drew)); exact Kd.R_mono HO205.out (fun _ hk => ⟨hk.1.2, hk.2⟩)⟩, ⟨by (with_reducible repeat (first | refine blk_drewN ?_ _ | refine blk_drew ?_ | refine blk_alloc ?_ _)); exact BK173.out⟩, ⟨by (with_reducible repeat (first | refine blk_drewN ?_ _ | refine blk_drew ?_ | refine blk_alloc ?_ _)); exact BK184.out⟩, ⟨by (with_reducible repeat (first | refine blk_drewN ?_ _ | refine blk_drew ?_ | refine blk_alloc ?_ _)); exact BK207.out⟩, ⟨by repeat (first | (with_reducible first | exact HB.out | apply below_alloc | apply pw_below_drewN | apply below_drew1 | refine below_set ?_ GE173.out | refine below_set ?_ GE184.out | refine below_set ?_ GE207.out) | exact HB.out)⟩⟩
                      case rest =>
                        clear HC60
                        try clear c1
                        try clear c2
                        try clear c2b0
                        try clear c2b1
                        try clear p2
                        try clear c3
                        try clear c4
                        try clear c5
                        try clear c6
                        try clear c7
                        try clear c8
                        try clear c11
                        try clear c13
                        try clear c16
                        try clear c18
                        try clear c19
                        try clear c20
                        try clear c21
                        try clear c22
                        try clear c24
                        try clear c25
                        try clear c29
                        try clear c33
                        try clear c36
                        try clear c42
                        try clear c42b0
                        try clear c44
                        try clear c45
                        try clear c49
                        try clear c53
                        try clear c56
                        try clear c56b0
                        try clear c57
                        try clear c57b0
                        try clear c57b1
                        try clear c61
                        try clear c71
                        try clear c72
                        try clear c76
                        try clear c77
                        try clear c78
                        try clear c80
                        try clear c83
                        try clear c84
                        try clear c86
                        try clear hcz13_0
                        try clear hcz13_1
                        try clear hcz21_0
                        try clear hcz21_1
                        try clear hcz26_0
                        try clear hcz26_1
                        try clear hcz27_0
                        try clear hcz27_1
                        try clear hcz30_0
                        try clear hcz30_1
                        try clear hcz31_0
                        try clear hcz31_1
                        try clear hcz46_0
                        try clear hcz46_1
                        try clear hcz47_0
                        try clear hcz47_1
                        try clear hcz50_0
                        try clear hcz50_1
                        try clear hcz51_0
                        try clear hcz51_1
                        try clear hcz62_0
                        try clear hcz62_1
                        try clear hcz64_0
                        try clear hcz64_1
                        try clear hcz73_0
                        try clear hcz73_1
                        try clear hcz79_0
                        try clear hcz79_1
                        try clear hcz81_0
                        try clear hcz81_1
                        try clear hcz85_0
                        try clear hcz85_1
                        try clear hcz87_0
                        try clear hcz87_1
                        try clear hfz13_0
                        try clear hfz13_1
                        try clear hfz21_0
                        try clear hfz21_1
                        try clear hfz26_0
                        try clear hfz26_1
                        try clear hfz27_0
                        try clear hfz27_1
                        try clear hfz30_0
                        try clear hfz30_1
                        try clear hfz31_0
                        try clear hfz31_1
                        try clear hfz46_0
                        try clear hfz46_1
                        try clear hfz47_0
                        try clear hfz47_1
                        try clear hfz50_0
                        try clear hfz50_1
                        try clear hfz51_0
                        try clear hfz51_1
                        try clear hfz62_0
                        try clear hfz62_1
                        try clear hfz64_0
                        try clear hfz64_1
                        try clear hfz73_0
                        try clear hfz73_1
                        try clear hfz79_0
                        try clear hfz79_1
                        try clear hfz81_0
                        try clear hfz81_1
                        try clear hfz85_0
                        try clear hfz85_1
                        try clear hfz87_0
                        try clear hfz87_1
                        try clear p2
                        obtain ⟨kq, x84_59, rfl, HA, HJ59, HO_174000, HO_174001, HO_185000, HO_185001, HO_208000, HO_208001, BK173, BK184, BK207, HB⟩ := hcut
                        have hl185000_59 := (Kd.R_reads' HO_185000.out).1
                        rw [hl185000_59] at HO_185000
                        (try simp only [hl185000_59])
                        (try simp only [hl185000_59] at BK173)
                        (try simp only [hl185000_59] at BK184)
                        (try simp only [hl185000_59] at BK207)
                        (try simp only [hl185000_59] at HO_174000)
                        (try simp only [hl185000_59] at HO_174001)
                        (try simp only [hl185000_59] at HO_185001)
                        (try simp only [hl185000_59] at HO_208000)
                        (try simp only [hl185000_59] at HO_208001)
                        have hl185001_59 := (Kd.R_reads' HO_185001.out).1
                        rw [hl185001_59] at HO_185001
                        (try simp only [hl185001_59])
                        (try simp only [hl185001_59] at BK173)
                        (try simp only [hl185001_59] at BK184)
                        (try simp only [hl185001_59] at BK207)
                        (try simp only [hl185001_59] at HO_174000)
                        (try simp only [hl185001_59] at HO_174001)
                        (try simp only [hl185001_59] at HO_185000)
                        (try simp only [hl185001_59] at HO_208000)
                        (try simp only [hl185001_59] at HO_208001)
                        cases kq with
                        | zero => exact absurd HA.out (by simp [laws_FnExactNewNode.j2])
                        | succ kj59 =>
                          have H := HA.out
                          clear HA
                          simp only [laws_FnExactNewNode.j2] at H
                          by_cases c89 : x84_59 = true
                          · subst c89
                            have H1 : (none) = some r := by rw [if_pos rfl] at H; exact H
                            clear H
                            have H := H1
                            clear H1
                            exact absurd H (by simp)
                          · replace c89 := Bool.eq_false_iff.mpr c89
                            subst c89
                            have H1 : ((laws_heldNode.f kj59 t194 t195 1).bind fun t209 => (if t209 < 0 then (none) else (if t209 = t193 then (some true) else (none)))) = some r := by rw [if_neg (show ¬ (false = true) by decide)] at H; exact H
                            clear H
                            have H := H1
                            clear H1
                            replace H := Option.bind_eq_some_iff.mp H
                            obtain ⟨t209, A900, H⟩ := H
                            replace H : (if t209 < 0 then (none) else (if t209 = t193 then (some true) else (none))) = some r := H
                            have A90 := Aside0.mk A900
                            clear A900
                            by_cases c91 : t209 < 0
                            · rw [if_pos c91] at H
                              exact absurd H (by simp)
                            · rw [if_neg c91] at H
                              have c91b0 : decide (t209 < 0) = false := decide_eq_false c91
                              clear c91
                              by_cases c92 : t209 = t193
                              · rw [if_pos c92] at H
                                have c92b0 : (t209 == t193) = true := beq_iff_eq.mpr c92
                                have c92b1 : (t209 != t193) = false := bne_eq_false_iff_eq.mpr c92
                                clear c92
                                obtain rfl := Option.some.inj H
                                have hnb93 := NB184_173.out
                                have hnc93 := NB173_184.out
                                have hnb94 := NB184_207.out
                                have hnc94 := NB207_184.out
                                have hcz95_0 : wc.cell? ⟨gb184, 0, none⟩ = some (.slice Ao19 t194.length co19) := (blk_cell BK184.out 0).trans rfl
                                have hcz95_1 : wc.cell? ⟨gb184, 1, none⟩ = some (.slice Ao22 t195.length co22) := (blk_cell BK184.out 1).trans rfl
                                have hfz95_0 := blk_frozen BK184.out 0
                                have hfz95_1 := blk_frozen BK184.out 1
                                go_wp2_with (first | ((with_reducible refine gate_callee (f := 22) rfl ?_); refine goesL_ (some 87) rfl rfl Try.func22 (by kernel_rfl) rfl #[.agg #[.slice Ao19 t194.length co19, .slice Ao22 t195.length co22], .int .i64 1] rfl (by (try simp only [List.map_toArray, List.map_cons, List.map_nil]); first | done | rfl | (simp only [List.length_drop, List.length_take]; rfl)) ?_; (with_reducible refine (laws_heldNode.calls kj59 _ _ t194 _ _ t195 1 t209 _ ?side1 ?side2 ?side3 ?side4 A90.out).mono ?_); (case side1 => repeat (first | exact (Kd.R_reads' HO_185000.out).2.2 | (with_reducible refine Kd.C_alloc ?_ _) | (with_reducible refine Kd.C_drewN ?_ _) | (with_reducible refine Kd.C_drew ?_))); (case side2 => exact (Kd.R_reads' HO_185000.out).2.1); (case side3 => repeat (first | exact (Kd.R_reads' HO_185001.out).2.2 | (with_reducible refine Kd.C_alloc ?_ _) | (with_reducible refine Kd.C_drewN ?_ _) | (with_reducible refine Kd.C_drew ?_))); (case side4 => exact (Kd.R_reads' HO_185001.out).2.1); rintro e w96 ⟨rfl, hb⟩; refine ⟨_, rfl, ?_⟩; have n0_ := Aside0.mk (Kd.R_below (by (with_reducible repeat (first | apply Kd.R_alloc | apply Kd.R_drewN | apply Kd.R_drew)); exact HO_174000.out) hb); have n1_ := Aside0.mk (Kd.R_below (by (with_reducible repeat (first | apply Kd.R_alloc | apply Kd.R_drewN | apply Kd.R_drew)); exact HO_174001.out) hb); have n2_ := Aside0.mk (Kd.R_below (by (with_reducible repeat (first | apply Kd.R_alloc | apply Kd.R_drewN | apply Kd.R_drew)); exact HO_185000.out) hb); have n3_ := Aside0.mk (Kd.R_below (by (with_reducible repeat (first | apply Kd.R_alloc | apply Kd.R_drewN | apply Kd.R_drew)); exact HO_185001.out) hb); have n4_ := Aside0.mk (Kd.R_below (by (with_reducible repeat (first | apply Kd.R_alloc | apply Kd.R_drewN | apply Kd.R_drew)); exact HO_208000.out) hb); have n5_ := Aside0.mk (Kd.R_below (by (with_reducible repeat (first | apply Kd.R_alloc | apply Kd.R_drewN | apply Kd.R_drew)); exact HO_208001.out) hb); have n6_ := Aside0.mk (blk_below (g := gb173) (o := .cells #[.slice Ao12 t166.length co12, .slice Ao14 t169.length co14] 33 (0, 0)) (by (with_reducible repeat (first | refine blk_drewN ?_ _ | refine blk_drew ?_ | refine blk_alloc ?_ _)); exact BK173.out) hb); have n7_ := Aside0.mk (blk_below (g := gb184) (o := .cells #[.slice Ao19 t194.length co19, .slice Ao22 t195.length co22] 33 (0, 0)) (by (with_reducible repeat (first | refine blk_drewN ?_ _ | refine blk_drew ?_ | refine blk_alloc ?_ _)); exact BK184.out) hb); have n8_ := Aside0.mk (blk_below (g := gb207) (o := .cells #[.slice Ao70 t200.length co70, .slice Ao74 t203.length co74] 33 (0, 0)) (by (with_reducible repeat (first | refine blk_drewN ?_ _ | refine blk_drew ?_ | refine blk_alloc ?_ _)); exact BK207.out) hb); have n9_ := Aside0.mk (below_step (by repeat (first | (with_reducible first | exact HB.out | apply below_alloc | apply pw_below_drewN | apply below_drew1 | refine below_set ?_ GE173.out | refine below_set ?_ GE184.out | refine below_set ?_ GE207.out) | exact HB.out)) hb); clear HO_174000; clear HO_174001; clear HO_185000; clear HO_185001; clear HO_208000; clear HO_208001; clear BK173; clear BK184; clear BK207; clear HB; have HO_174000 := n0_; have HO_174001 := n1_; have HO_185000 := n2_; have HO_185001 := n3_; have HO_208000 := n4_; have HO_208001 := n5_; have BK173 := n6_; have BK184 := n7_; have BK207 := n8_; have HB := n9_; clear n0_ n1_ n2_ n3_ n4_ n5_ n6_ n7_ n8_ n9_; (try clear hb); (try clear hb2); (try clear hk); (try clear hi)))
                                go_ret
                                exact ⟨by first | rfl | (simp [errW_none, errW_some] <;> rfl) | (simp [*, errW_none, errW_some] <;> rfl), by repeat (first | (with_reducible first | exact HB.out | apply below_alloc | apply pw_below_drewN | apply below_drew1 | refine below_set ?_ GE173.out | refine below_set ?_ GE184.out | refine below_set ?_ GE207.out) | exact HB.out)⟩
                              · rw [if_neg c92] at H
                                exact absurd H (by simp)
                    · rw [if_neg c57] at H
                      exact absurd H (by simp)
          · replace c36 := Bool.eq_false_iff.mpr c36
            subst c36
            have H1 : (none) = some r := by rw [if_neg (show ¬ (false = true) by decide)] at H; exact H
            clear H
            have H := H1
            clear H1
            exact absurd H (by simp)

/-- THE ONE PURE STATEMENT of laws_FnExactNewNode: yours. -/
def laws_FnExactNewNode.Pure : Prop := ∀ (l0 : List Int), l0.length ≤ maxLen → l0.length * 8 ≤ 140737488351232 → (∀ x ∈ l0, (Lit.int .i64 x).wf = true) → ∃ k, laws_FnExactNewNode.f k l0 = some true
theorem laws_FnExactNewNode.walk (P : laws_FnExactNewNode.Pure) (a0 : Option Addr) (len0 cap0 : Nat) (z0 : List Int) (w : World) (w0 : (a0 = none ∧ len0 = 0 ∧ cap0 = 0 ∧ z0 = []) ∨ ∃ x, a0 = some x ∧ len0 ≤ cap0 ∧ cap0 ≤ maxLen ∧ z0.length = cap0 ∧ (∀ i, i < z0.length → w.cell? (x.add i) = some (.int .i64 (z0.getD i 0))) ∧ ∀ n ∈ z0, (Lit.int .i64 n).wf = true) (y0 : len0 * 8 ≤ 140737488351232) :
    Calls Try.prog 5 #[.slice a0 len0 cap0] w fun e w' => e = .returned (.bool true) ∧ Below w.heap.size w w' := by
  obtain ⟨l0, rfl, hr0, hm0, hw0, hc0⟩ := ReadsInt.ofRowC w0
  obtain ⟨k, h⟩ := P l0 hm0 y0 hw0
  refine (laws_FnExactNewNode.calls k _ _ l0 true w (Kd.C_of_reads (d := (0 : Int)) (h1 := fun _ => rfl) hr0) hc0 h).mono ?_
  rintro e w' ⟨rfl, hd⟩
  exact ⟨rfl, hd⟩

end Go.Proofs.Ytgnhdomnlaijpaa.PFnExactNewNode
