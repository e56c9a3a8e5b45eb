/- Written by this session's program myprint.py, which runs the kit's print.py beside texts of this session's own. No condition. -/
import Derived.Test.YtiggokojffejeaaPFnExactApplyWishx0
import Derived.Test.YtiggokojffejeaaPFnExactApplyWishx1
import Derived.Test.YtiggokojffejeaaPFnExactApplyWishx5
import Derived.Test.YtiggokojffejeaaPFnExactApplyWishx8
namespace Go.Proofs.Ytiggokojffejeaa.PFnExactApplyWish
open Go.RowKit Go.Proofs.YtiggokojffejeaaW.PrintWords Go.Proofs.YtiggokojffejeaaW.PrintLast Go.Proofs.YtiggokojffejeaaW.PrintMore
attribute [local go_sem] max2_int min2_int max_two min_two max_three min_three max_four min_four   -- for this text's walks alone
set_option linter.unusedVariables false
set_option linter.unusedSimpArgs false

/-! ### laws_FnExactApplyWish: function 3 -/
mutual
def laws_FnExactApplyWish.j0 : Nat → Int → Int → Int → Bool → Int → Bool → Bool → List Int → List Int → Int → Int → Int → Int → Int → Int → Int → Int → List Int → List Int → Int → List Int → List Int → Int → List Int → List Int → Int → Option (Bool)
 | 0, _, _, _, _, _, _, _, _, _, _, _, _, _, _, _, _, _, _, _, _, _, _, _, _, _, _ => none
 | k + 1, x2, x3, x11, x12, x15, x16, x64, x303000, x303001, x303002, x304000, x304001, x304002, x304003, x304004, x304005, x304006, x329000, x329001, x329002, x337000, x337001, x337002, x354000, x354001, x354002 => if x64 = true then (none) else ((laws_toState.f k x303000 x303001 x303002).bind fun bt355 => ((laws_eqState.f k x337000 x337001 x337002 bt355.1 bt355.2.1 bt355.2.2).bind fun t362 => (if t362 = true then ((laws_markState.f k x337000 x337001 x337002 1).bind fun bt363 => (if bt363.1 < 0 then (laws_FnExactApplyWish.j1 k x2 x3 x11 x12 true x303000 x303001 x303002 x304000 x304001 x304002 x304003 x304004 x304005 x304006 x329000 x329001 x329002 x354000 x354001 x354002) else ((laws_eqState.f k x354000 x354001 x354002 x329000 x329001 x329002).bind fun t366 => (if t366 = true then (if x15 = x11 then (laws_FnExactApplyWish.j1 k x2 x3 x11 x12 (x16 != x12) x303000 x303001 x303002 x304000 x304001 x304002 x304003 x304004 x304005 x304006 x329000 x329001 x329002 x354000 x354001 x354002) else (laws_FnExactApplyWish.j1 k x2 x3 x11 x12 true x303000 x303001 x303002 x304000 x304001 x304002 x304003 x304004 x304005 x304006 x329000 x329001 x329002 x354000 x354001 x354002)) else (laws_FnExactApplyWish.j1 k x2 x3 x11 x12 true x303000 x303001 x303002 x304000 x304001 x304002 x304003 x304004 x304005 x304006 x329000 x329001 x329002 x354000 x354001 x354002))))) else (none))))
def laws_FnExactApplyWish.j1 : Nat → Int → Int → Int → Bool → Bool → List Int → List Int → Int → Int → Int → Int → Int → Int → Int → Int → List Int → List Int → Int → List Int → List Int → Int → Option (Bool)
 | 0, _, _, _, _, _, _, _, _, _, _, _, _, _, _, _, _, _, _, _, _, _ => none
 | k + 1, x2, x3, x11, x12, x90, x303000, x303001, x303002, x304000, x304001, x304002, x304003, x304004, x304005, x304006, x329000, x329001, x329002, x354000, x354001, x354002 => if x90 = true then (none) else ((laws_markState.f k x354000 x354001 x354002 1).bind fun bt367 => ((laws_heldState.f k bt367.2.1 bt367.2.2 x354002 1).bind fun t370 => (if t370 < 0 then (none) else (if t370 = bt367.1 then ((laws_toState.f k x303000 x303001 x303002).bind fun bt371 => ((laws_toWish.f x304000 x304001 x304002 x304003 x304004 x304005 x304006).bind fun bt378 => ((impl_ApplyWish.f k bt371.1 bt371.2.1 bt371.2.2 bt378.1 bt378.2.1 bt378.2.2.1 bt378.2.2.2.1 bt378.2.2.2.2.1 bt378.2.2.2.2.2.1 bt378.2.2.2.2.2.2 x2 x3).bind fun bt385 => ((laws_eqState.f k bt385.1 bt385.2.1 bt385.2.2.1 x329000 x329001 x329002).bind fun t395 => (if t395 = true then (if bt385.2.2.2.1 = x11 then (laws_FnExactApplyWish.j2 k bt367.1 (bt385.2.2.2.2 != x12) bt367.2.1 bt367.2.2 x354002) else (laws_FnExactApplyWish.j2 k bt367.1 true bt367.2.1 bt367.2.2 x354002)) else (laws_FnExactApplyWish.j2 k bt367.1 true bt367.2.1 bt367.2.2 x354002)))))) else (none)))))
def laws_FnExactApplyWish.j2 : Nat → Int → Bool → List Int → List Int → Int → Option (Bool)
 | 0, _, _, _, _, _ => none
 | k + 1, x18, x126, x354000, x354001, x354002 => if x126 = true then (none) else ((laws_heldState.f k x354000 x354001 x354002 1).bind fun t396 => (if t396 < 0 then (none) else (if t396 = x18 then (some true) else (none))))
end
def laws_FnExactApplyWish.f (k : Nat) (l0_0 : List Int) (l0_1 : List Int) (a0_2 : Int) (a1_0 : Int) (a1_1 : Int) (a1_2 : Int) (a1_3 : Int) (a1_4 : Int) (a1_5 : Int) (a1_6 : Int) (a2 : Int) (a3 : Int) : Option (Bool) := (laws_szState.f l0_0 l0_1 a0_2 1048576).bind fun t304 => (if t304 < 0 then (some true) else ((laws_toState.f k l0_0 l0_1 a0_2).bind fun bt305 => ((laws_toWish.f a1_0 a1_1 a1_2 a1_3 a1_4 a1_5 a1_6).bind fun bt312 => ((spec_ApplyWish.f k bt305.1 bt305.2.1 bt305.2.2 bt312.1 bt312.2.1 bt312.2.2.1 bt312.2.2.2.1 bt312.2.2.2.2.1 bt312.2.2.2.2.2.1 bt312.2.2.2.2.2.2 a2 a3).bind fun bt319 => ((laws_toState.f k l0_0 l0_1 a0_2).bind fun bt329 => ((laws_toWish.f a1_0 a1_1 a1_2 a1_3 a1_4 a1_5 a1_6).bind fun bt337 => ((impl_ApplyWish.f k bt329.1 bt329.2.1 bt329.2.2 bt337.1 bt337.2.1 bt337.2.2.1 bt337.2.2.2.1 bt337.2.2.2.2.1 bt337.2.2.2.2.2.1 bt337.2.2.2.2.2.2 a2 a3).bind fun bt344 => ((laws_eqState.f k bt344.1 bt344.2.1 bt344.2.2.1 bt319.1 bt319.2.1 bt319.2.2.1).bind fun t354 => (if t354 = true then (if bt344.2.2.2.1 = bt319.2.2.2.1 then (laws_FnExactApplyWish.j0 k a2 a3 bt319.2.2.2.1 bt319.2.2.2.2 bt344.2.2.2.1 bt344.2.2.2.2 (bt344.2.2.2.2 != bt319.2.2.2.2) l0_0 l0_1 a0_2 a1_0 a1_1 a1_2 a1_3 a1_4 a1_5 a1_6 bt319.1 bt319.2.1 bt319.2.2.1 bt329.1 bt329.2.1 bt329.2.2 bt344.1 bt344.2.1 bt344.2.2.1) else (laws_FnExactApplyWish.j0 k a2 a3 bt319.2.2.2.1 bt319.2.2.2.2 bt344.2.2.2.1 bt344.2.2.2.2 true l0_0 l0_1 a0_2 a1_0 a1_1 a1_2 a1_3 a1_4 a1_5 a1_6 bt319.1 bt319.2.1 bt319.2.2.1 bt329.1 bt329.2.1 bt329.2.2 bt344.1 bt344.2.1 bt344.2.2.1)) else (laws_FnExactApplyWish.j0 k a2 a3 bt319.2.2.2.1 bt319.2.2.2.2 bt344.2.2.2.1 bt344.2.2.2.2 true l0_0 l0_1 a0_2 a1_0 a1_1 a1_2 a1_3 a1_4 a1_5 a1_6 bt319.1 bt319.2.1 bt319.2.2.1 bt329.1 bt329.2.1 bt329.2.2 bt344.1 bt344.2.1 bt344.2.2.1))))))))))
theorem laws_FnExactApplyWish.mono_l : ∀ k, (∀ y0 y1 y2 y3 y4 y5 y6 y7 y8 y9 y10 y11 y12 y13 y14 y15 y16 y17 y18 y19 y20 y21 y22 y23 y24 y25, LeO (laws_FnExactApplyWish.j0 k y0 y1 y2 y3 y4 y5 y6 y7 y8 y9 y10 y11 y12 y13 y14 y15 y16 y17 y18 y19 y20 y21 y22 y23 y24 y25) (laws_FnExactApplyWish.j0 (k + 1) y0 y1 y2 y3 y4 y5 y6 y7 y8 y9 y10 y11 y12 y13 y14 y15 y16 y17 y18 y19 y20 y21 y22 y23 y24 y25)) ∧ (∀ y0 y1 y2 y3 y4 y5 y6 y7 y8 y9 y10 y11 y12 y13 y14 y15 y16 y17 y18 y19 y20, LeO (laws_FnExactApplyWish.j1 k y0 y1 y2 y3 y4 y5 y6 y7 y8 y9 y10 y11 y12 y13 y14 y15 y16 y17 y18 y19 y20) (laws_FnExactApplyWish.j1 (k + 1) y0 y1 y2 y3 y4 y5 y6 y7 y8 y9 y10 y11 y12 y13 y14 y15 y16 y17 y18 y19 y20)) ∧ (∀ y0 y1 y2 y3 y4, LeO (laws_FnExactApplyWish.j2 k y0 y1 y2 y3 y4) (laws_FnExactApplyWish.j2 (k + 1) y0 y1 y2 y3 y4))
 | 0 => ⟨fun _ _ _ _ _ _ _ _ _ _ _ _ _ _ _ _ _ _ _ _ _ _ _ _ _ _ r h => by simp [laws_FnExactApplyWish.j0] at h, fun _ _ _ _ _ _ _ _ _ _ _ _ _ _ _ _ _ _ _ _ _ r h => by simp [laws_FnExactApplyWish.j1] at h, fun _ _ _ _ _ r h => by simp [laws_FnExactApplyWish.j2] at h⟩
 | k + 1 => by
  obtain ⟨ih0, ih1, ih2⟩ := laws_FnExactApplyWish.mono_l k
  refine ⟨?_, ?_, ?_⟩
  ·intro y0 y1 y2 y3 y4 y5 y6 y7 y8 y9 y10 y11 y12 y13 y14 y15 y16 y17 y18 y19 y20 y21 y22 y23 y24 y25
   unfold laws_FnExactApplyWish.j0
   repeat' first
   | (with_reducible exact ih0 _ _ _ _ _ _ _ _ _ _ _ _ _ _ _ _ _ _ _ _ _ _ _ _ _ _)
   | (with_reducible exact ih1 _ _ _ _ _ _ _ _ _ _ _ _ _ _ _ _ _ _ _ _ _)
   | (with_reducible exact ih2 _ _ _ _ _)
   | (with_reducible exact impl_ApplyWish.mono _ _ _ _ _ _ _ _ _ _ _ _ _)
   | (with_reducible exact laws_eqState.mono _ _ _ _ _ _ _)
   | (with_reducible exact laws_heldState.mono _ _ _ _ _)
   | (with_reducible exact laws_markState.mono _ _ _ _ _)
   | (with_reducible exact laws_toState.mono _ _ _ _)
   | (with_reducible exact spec_ApplyWish.mono _ _ _ _ _ _ _ _ _ _ _ _ _)
   | (with_reducible exact LeO.refl _)
   | (with_reducible exact LeO.none _)
   | (with_reducible refine LeO.ite ?_ ?_)
   | (with_reducible refine LeO.bind ?_ (fun _ => ?_))
   | exact ih0 _ _ _ _ _ _ _ _ _ _ _ _ _ _ _ _ _ _ _ _ _ _ _ _ _ _
   | exact ih1 _ _ _ _ _ _ _ _ _ _ _ _ _ _ _ _ _ _ _ _ _
   | exact ih2 _ _ _ _ _
   | exact impl_ApplyWish.mono _ _ _ _ _ _ _ _ _ _ _ _ _
   | exact laws_eqState.mono _ _ _ _ _ _ _
   | exact laws_heldState.mono _ _ _ _ _
   | exact laws_markState.mono _ _ _ _ _
   | exact laws_toState.mono _ _ _ _
   | exact spec_ApplyWish.mono _ _ _ _ _ _ _ _ _ _ _ _ _
   | exact LeO.none _
   | refine LeO.ite ?_ ?_
   | refine LeO.bind ?_ (fun _ => ?_)
  ·intro y0 y1 y2 y3 y4 y5 y6 y7 y8 y9 y10 y11 y12 y13 y14 y15 y16 y17 y18 y19 y20
   unfold laws_FnExactApplyWish.j1
   repeat' first
   | (with_reducible exact ih0 _ _ _ _ _ _ _ _ _ _ _ _ _ _ _ _ _ _ _ _ _ _ _ _ _ _)
   | (with_reducible exact ih1 _ _ _ _ _ _ _ _ _ _ _ _ _ _ _ _ _ _ _ _ _)
   | (with_reducible exact ih2 _ _ _ _ _)
   | (with_reducible exact impl_ApplyWish.mono _ _ _ _ _ _ _ _ _ _ _ _ _)
   | (with_reducible exact laws_eqState.mono _ _ _ _ _ _ _)
   | (with_reducible exact laws_heldState.mono _ _ _ _ _)
   | (with_reducible exact laws_markState.mono _ _ _ _ _)
   | (with_reducible exact laws_toState.mono _ _ _ _)
   | (with_reducible exact spec_ApplyWish.mono _ _ _ _ _ _ _ _ _ _ _ _ _)
   | (with_reducible exact LeO.refl _)
   | (with_reducible exact LeO.none _)
   | (with_reducible refine LeO.ite ?_ ?_)
   | (with_reducible refine LeO.bind ?_ (fun _ => ?_))
   | exact ih0 _ _ _ _ _ _ _ _ _ _ _ _ _ _ _ _ _ _ _ _ _ _ _ _ _ _
   | exact ih1 _ _ _ _ _ _ _ _ _ _ _ _ _ _ _ _ _ _ _ _ _
   | exact ih2 _ _ _ _ _
   | exact impl_ApplyWish.mono _ _ _ _ _ _ _ _ _ _ _ _ _
   | exact laws_eqState.mono _ _ _ _ _ _ _
   | exact laws_heldState.mono _ _ _ _ _
   | exact laws_markState.mono _ _ _ _ _
   | exact laws_toState.mono _ _ _ _
   | exact spec_ApplyWish.mono _ _ _ _ _ _ _ _ _ _ _ _ _
   | exact LeO.none _
   | refine LeO.ite ?_ ?_
   | refine LeO.bind ?_ (fun _ => ?_)
  ·intro y0 y1 y2 y3 y4
   unfold laws_FnExactApplyWish.j2
   repeat' first
   | (with_reducible exact ih0 _ _ _ _ _ _ _ _ _ _ _ _ _ _ _ _ _ _ _ _ _ _ _ _ _ _)
   | (with_reducible exact ih1 _ _ _ _ _ _ _ _ _ _ _ _ _ _ _ _ _ _ _ _ _)
   | (with_reducible exact ih2 _ _ _ _ _)
   | (with_reducible exact impl_ApplyWish.mono _ _ _ _ _ _ _ _ _ _ _ _ _)
   | (with_reducible exact laws_eqState.mono _ _ _ _ _ _ _)
   | (with_reducible exact laws_heldState.mono _ _ _ _ _)
   | (with_reducible exact laws_markState.mono _ _ _ _ _)
   | (with_reducible exact laws_toState.mono _ _ _ _)
   | (with_reducible exact spec_ApplyWish.mono _ _ _ _ _ _ _ _ _ _ _ _ _)
   | (with_reducible exact LeO.refl _)
   | (with_reducible exact LeO.none _)
   | (with_reducible refine LeO.ite ?_ ?_)
   | (with_reducible refine LeO.bind ?_ (fun _ => ?_))
   | exact ih0 _ _ _ _ _ _ _ _ _ _ _ _ _ _ _ _ _ _ _ _ _ _ _ _ _ _
   | exact ih1 _ _ _ _ _ _ _ _ _ _ _ _ _ _ _ _ _ _ _ _ _
   | exact ih2 _ _ _ _ _
   | exact impl_ApplyWish.mono _ _ _ _ _ _ _ _ _ _ _ _ _
   | exact laws_eqState.mono _ _ _ _ _ _ _
   | exact laws_heldState.mono _ _ _ _ _
   | exact laws_markState.mono _ _ _ _ _
   | exact laws_toState.mono _ _ _ _
   | exact spec_ApplyWish.mono _ _ _ _ _ _ _ _ _ _ _ _ _
   | exact LeO.none _
   | refine LeO.ite ?_ ?_
   | refine LeO.bind ?_ (fun _ => ?_)
theorem laws_FnExactApplyWish.mono : ∀ a0 a1 a2 a3 a4 a5 a6 a7 a8 a9 a10 a11 k, LeO (laws_FnExactApplyWish.f k a0 a1 a2 a3 a4 a5 a6 a7 a8 a9 a10 a11) (laws_FnExactApplyWish.f (k + 1) a0 a1 a2 a3 a4 a5 a6 a7 a8 a9 a10 a11) := by
 intro a0 a1 a2 a3 a4 a5 a6 a7 a8 a9 a10 a11 k
 obtain ⟨ih0, ih1, ih2⟩ := laws_FnExactApplyWish.mono_l k
 unfold laws_FnExactApplyWish.f
 repeat' first
   | (with_reducible exact ih0 _ _ _ _ _ _ _ _ _ _ _ _ _ _ _ _ _ _ _ _ _ _ _ _ _ _)
   | (with_reducible exact ih1 _ _ _ _ _ _ _ _ _ _ _ _ _ _ _ _ _ _ _ _ _)
   | (with_reducible exact ih2 _ _ _ _ _)
   | (with_reducible exact impl_ApplyWish.mono _ _ _ _ _ _ _ _ _ _ _ _ _)
   | (with_reducible exact laws_eqState.mono _ _ _ _ _ _ _)
   | (with_reducible exact laws_heldState.mono _ _ _ _ _)
   | (with_reducible exact laws_markState.mono _ _ _ _ _)
   | (with_reducible exact laws_toState.mono _ _ _ _)
   | (with_reducible exact spec_ApplyWish.mono _ _ _ _ _ _ _ _ _ _ _ _ _)
   | (with_reducible exact LeO.refl _)
   | (with_reducible exact LeO.none _)
   | (with_reducible refine LeO.ite ?_ ?_)
   | (with_reducible refine LeO.bind ?_ (fun _ => ?_))
   | exact ih0 _ _ _ _ _ _ _ _ _ _ _ _ _ _ _ _ _ _ _ _ _ _ _ _ _ _
   | exact ih1 _ _ _ _ _ _ _ _ _ _ _ _ _ _ _ _ _ _ _ _ _
   | exact ih2 _ _ _ _ _
   | exact impl_ApplyWish.mono _ _ _ _ _ _ _ _ _ _ _ _ _
   | exact laws_eqState.mono _ _ _ _ _ _ _
   | exact laws_heldState.mono _ _ _ _ _
   | exact laws_markState.mono _ _ _ _ _
   | exact laws_toState.mono _ _ _ _
   | exact spec_ApplyWish.mono _ _ _ _ _ _ _ _ _ _ _ _ _
   | exact LeO.none _
   | refine LeO.ite ?_ ?_
   | refine LeO.bind ?_ (fun _ => ?_)
def laws_FnExactApplyWish.T5 : Bool × List (List Nat × List Nat) := (true, [([], []), ([0], [0]), ([], []), ([2, 1], [2]), ([], []), ([], []), ([1, 3, 4, 5, 3], [1, 3, 4, 5]), ([6], [6]), ([7], [7]), ([7], [7]), ([7], [7]), ([], []), ([11, 8, 6, 0, 1, 2, 3, 4, 5, 6, 7, 8, 11], [8, 11]), ([9, 12, 0, 1, 2, 3, 4, 5, 6, 7, 8, 9, 11, 12], [9]), ([10, 13, 0, 1, 2, 3, 4, 5, 6, 7, 8, 9, 10, 11, 12, 13], [10])])
def laws_FnExactApplyWish.B5 : List Nat := [0, 1, 0, 7, 0, 0, 63, 127, 255, 255, 255, 0, 2559, 7167, 16383]
theorem laws_FnExactApplyWish.tab5 : rtab .any (opsOf Try.f3 5) = laws_FnExactApplyWish.T5 := by kernel_rfl
theorem laws_FnExactApplyWish.bits5 : waitsOk laws_FnExactApplyWish.T5.2 laws_FnExactApplyWish.B5 = true := by kernel_rfl
def laws_FnExactApplyWish.T7 : Bool × List (List Nat × List Nat) := (true, [([], []), ([], []), ([1], [1]), ([], []), ([], []), ([0, 2, 3, 4, 2], [0, 2, 3, 4]), ([5], [5]), ([6], [6]), ([6], [6]), ([6], [6]), ([], []), ([10, 7, 5, 0, 1, 2, 3, 4, 5, 6, 7, 10], [7, 10]), ([8, 11, 0, 1, 2, 3, 4, 5, 6, 7, 8, 10, 11], [8]), ([9, 12, 0, 1, 2, 3, 4, 5, 6, 7, 8, 9, 10, 11, 12], [9])])
def laws_FnExactApplyWish.B7 : List Nat := [0, 0, 2, 0, 0, 31, 63, 127, 127, 127, 0, 1279, 3583, 8191]
theorem laws_FnExactApplyWish.tab7 : rtab .any (opsOf Try.f3 7) = laws_FnExactApplyWish.T7 := by kernel_rfl
theorem laws_FnExactApplyWish.bits7 : waitsOk laws_FnExactApplyWish.T7.2 laws_FnExactApplyWish.B7 = true := by kernel_rfl
def laws_FnExactApplyWish.T24 : Bool × List (List Nat × List Nat) := (true, [([], []), ([0], [0]), ([], []), ([2, 1], [2]), ([], []), ([], []), ([1, 3, 4, 5, 3], [1, 3, 4, 5]), ([6], [6]), ([7], [7]), ([7], [7]), ([7], [7]), ([], []), ([11, 8, 6, 0, 1, 2, 3, 4, 5, 6, 7, 8, 11], [8, 11]), ([9, 12, 0, 1, 2, 3, 4, 5, 6, 7, 8, 9, 11, 12], [9]), ([10, 13, 0, 1, 2, 3, 4, 5, 6, 7, 8, 9, 10, 11, 12, 13], [10])])
def laws_FnExactApplyWish.B24 : List Nat := [0, 1, 0, 7, 0, 0, 63, 127, 255, 255, 255, 0, 2559, 7167, 16383]
theorem laws_FnExactApplyWish.tab24 : rtab .any (opsOf Try.f3 24) = laws_FnExactApplyWish.T24 := by kernel_rfl
theorem laws_FnExactApplyWish.bits24 : waitsOk laws_FnExactApplyWish.T24.2 laws_FnExactApplyWish.B24 = true := by kernel_rfl
set_option maxHeartbeats 8000000 in
set_option maxRecDepth 100000 in
theorem laws_FnExactApplyWish.calls (k : Nat) (A0_0 : Option Addr) (c0_0 : Nat) (l0_0 : List Int) (A0_1 : Option Addr) (c0_1 : Nat) (l0_1 : List Int) (a0_2 : Int) (a1_0 : Int) (a1_1 : Int) (a1_2 : Int) (a1_3 : Int) (a1_4 : Int) (a1_5 : Int) (a1_6 : Int) (a2 : Int) (a3 : Int) (r : Bool) (w : World) (hr0_0 : Kd.C (Kd.int .i64) w A0_0 l0_0.length l0_0) (hc0_0 : l0_0.length ≤ c0_0) (hr0_1 : Kd.C (Kd.int .i64) w A0_1 l0_1.length l0_1) (hc0_1 : l0_1.length ≤ c0_1) (h : laws_FnExactApplyWish.f k l0_0 l0_1 a0_2 a1_0 a1_1 a1_2 a1_3 a1_4 a1_5 a1_6 a2 a3 = some r) :
  Calls Try.prog 3 #[.agg #[.slice A0_0 l0_0.length c0_0, .slice A0_1 l0_1.length c0_1, .int .i64 a0_2], .agg #[.int .i64 a1_0, .int .i64 a1_1, .int .i64 a1_2, .int .i64 a1_3, .int .i64 a1_4, .int .i64 a1_5, .int .i64 a1_6], .int .i64 a2, .int .i64 a3] w fun e w' => e = .returned (.bool r) ∧ Below w.heap.size w w' := by
 have hu24 := Try.underlying24
 have hu26 := Try.underlying26
 have hu28 := Try.underlying28
 have HR0_0 := Aside0.mk hr0_0
 have HC0_0 := Aside0.mk hc0_0
 clear hr0_0 hc0_0
 have HR0_1 := Aside0.mk hr0_1
 have HC0_1 := Aside0.mk hc0_1
 clear hr0_1 hc0_1
 have HB := Aside0.mk (Below.refl w.heap.size w)
 have H : ((laws_szState.f l0_0 l0_1 a0_2 1048576).bind fun t304 => (if t304 < 0 then (some true) else ((laws_toState.f k l0_0 l0_1 a0_2).bind fun bt305 => ((laws_toWish.f a1_0 a1_1 a1_2 a1_3 a1_4 a1_5 a1_6).bind fun bt312 => ((spec_ApplyWish.f k bt305.1 bt305.2.1 bt305.2.2 bt312.1 bt312.2.1 bt312.2.2.1 bt312.2.2.2.1 bt312.2.2.2.2.1 bt312.2.2.2.2.2.1 bt312.2.2.2.2.2.2 a2 a3).bind fun bt319 => ((laws_toState.f k l0_0 l0_1 a0_2).bind fun bt329 => ((laws_toWish.f a1_0 a1_1 a1_2 a1_3 a1_4 a1_5 a1_6).bind fun bt337 => ((impl_ApplyWish.f k bt329.1 bt329.2.1 bt329.2.2 bt337.1 bt337.2.1 bt337.2.2.1 bt337.2.2.2.1 bt337.2.2.2.2.1 bt337.2.2.2.2.2.1 bt337.2.2.2.2.2.2 a2 a3).bind fun bt344 => ((laws_eqState.f k bt344.1 bt344.2.1 bt344.2.2.1 bt319.1 bt319.2.1 bt319.2.2.1).bind fun t354 => (if t354 = true then (if bt344.2.2.2.1 = bt319.2.2.2.1 then (laws_FnExactApplyWish.j0 k a2 a3 bt319.2.2.2.1 bt319.2.2.2.2 bt344.2.2.2.1 bt344.2.2.2.2 (bt344.2.2.2.2 != bt319.2.2.2.2) l0_0 l0_1 a0_2 a1_0 a1_1 a1_2 a1_3 a1_4 a1_5 a1_6 bt319.1 bt319.2.1 bt319.2.2.1 bt329.1 bt329.2.1 bt329.2.2 bt344.1 bt344.2.1 bt344.2.2.1) else (laws_FnExactApplyWish.j0 k a2 a3 bt319.2.2.2.1 bt319.2.2.2.2 bt344.2.2.2.1 bt344.2.2.2.2 true l0_0 l0_1 a0_2 a1_0 a1_1 a1_2 a1_3 a1_4 a1_5 a1_6 bt319.1 bt319.2.1 bt319.2.2.1 bt329.1 bt329.2.1 bt329.2.2 bt344.1 bt344.2.1 bt344.2.2.1)) else (laws_FnExactApplyWish.j0 k a2 a3 bt319.2.2.2.1 bt319.2.2.2.2 bt344.2.2.2.1 bt344.2.2.2.2 true l0_0 l0_1 a0_2 a1_0 a1_1 a1_2 a1_3 a1_4 a1_5 a1_6 bt319.1 bt319.2.1 bt319.2.2.1 bt329.1 bt329.2.1 bt329.2.2 bt344.1 bt344.2.1 bt344.2.2.1))))))))))) = some r := h
 clear h
 replace H := Option.bind_eq_some_iff.mp H
 obtain ⟨t304, A50, H⟩ := H
 have A5 := Aside0.mk A50
 clear A50
 by_cases c6 : t304 < 0
 ·rw [if_pos c6] at H
  have c6b0 : decide (t304 < 0) = true := decide_eq_true c6
  clear c6
  obtain rfl := Option.some.inj H
  go_enter Try.func3, Try.ntmps3
  go_wp2_with (first | ((with_reducible refine gate_dst (N := 4) rfl ?_); refine box_event ?hg (N := 4) ?hd (cs := #[.slice A0_0 l0_0.length c0_0, .slice A0_1 l0_1.length c0_1, .int .i64 a0_2]) (t := 24) ?hr ?_; (case hd => rfl); (case hg => rfl); (case hr => first | (go_simp; done) | (go_simp; rfl)); intro gb302 hg w7 hbox hb; have n_ := And.intro (Aside0.mk (below_step (bw0 HB.out) hb)) (And.intro (Aside0.mk (hbox)) (Aside0.mk ((by rw [hg]; exact (below_size (bw0 HB.out)) : w.heap.size ≤ gb302)))); clear HB; obtain ⟨HB, BK302, GW302⟩ := n_; have GE302 := GW302; clear hb hbox hg) | ((with_reducible refine gate_dst (N := 5) rfl ?_); refine box_event ?hg (N := 5) ?hd (cs := #[.int .i64 a1_0, .int .i64 a1_1, .int .i64 a1_2, .int .i64 a1_3, .int .i64 a1_4, .int .i64 a1_5, .int .i64 a1_6]) (t := 26) ?hr ?_; (case hd => rfl); (case hg => rfl); (case hr => first | (go_simp; done) | (go_simp; rfl)); intro gb303 hg w8 hbox hb; have n_ := And.intro (Aside0.mk (bbq BK302.out hb)) (And.intro (Aside0.mk (below_step (bw1 HB.out GE302.out) hb)) (And.intro (Aside0.mk (hbox)) (And.intro (Aside0.mk ((by rw [hg]; exact (below_size (bw1 HB.out GE302.out)) : w.heap.size ≤ gb303))) (And.intro (Aside0.mk ((nlq BK302.out hg))) (Aside0.mk ((ngq BK302.out hg))))))); clear BK302 HB; obtain ⟨BK302, HB, BK303, GW303, NB302_303, NB303_302⟩ := n_; have GE303 := GW303; clear hb hbox hg; obtain ⟨hcz9_0, hcz9_1, hcz9_2, hfz9_0, hfz9_1, hfz9_2⟩ := cq3 BK302.out) | ((with_reducible refine gate_callee (f := 11) rfl ?_); refine goesL_ (some 25) rfl rfl Try.func11 (by kernel_rfl) rfl #[.agg #[.slice A0_0 l0_0.length c0_0, .slice A0_1 l0_1.length c0_1, .int .i64 a0_2], .int .i64 1048576] rfl aq ?_; (with_reducible refine (laws_szState.calls _ _ l0_0 _ _ l0_1 a0_2 1048576 t304 _ ?side1 ?side2 ?side3 ?side4 A5.out).mono ?_); (case side1 => exact caq (Kd.C_below HR0_0.out HB.out)); (case side2 => exact HC0_0.out); (case side3 => exact caq (Kd.C_below HR0_1.out HB.out)); (case side4 => exact HC0_1.out); rintro e w10 ⟨rfl, hb⟩; refine ⟨_, rfl, ?_⟩; have n0_ := Aside0.mk (below_step (bw0 HB.out) hb); clear HB; have HB := n0_; clear n0_; (try clear hb); (try clear hb2); (try clear hk); (try clear hi)))
  go_ret
  exact ⟨by first | rfl | (simp [errW_none, errW_some] <;> rfl) | (simp [*, errW_none, errW_some] <;> rfl), by repeat (first | (with_reducible first | exact HB.out | apply below_alloc | apply pw_below_drewN | apply below_drew1) | exact HB.out)⟩
 ·rw [if_neg c6] at H
  have c6b0 : decide (t304 < 0) = false := decide_eq_false c6
  clear c6
  replace H := Option.bind_eq_some_iff.mp H
  obtain ⟨⟨t305, t308, t311⟩, A110, H⟩ := H
  have A11 := Aside0.mk A110
  clear A110
  replace H := Option.bind_eq_some_iff.mp H
  obtain ⟨⟨t312, t313, t314, t315, t316, t317, t318⟩, A120, H⟩ := H
  have A12 := Aside0.mk A120
  clear A120
  replace H := Option.bind_eq_some_iff.mp H
  obtain ⟨⟨t319, t322, t325, t326, t327⟩, A130, H⟩ := H
  have A13 := Aside0.mk A130
  clear A130
  replace H := Option.bind_eq_some_iff.mp H
  obtain ⟨⟨t329, t332, t335⟩, A140, H⟩ := H
  have A14 := Aside0.mk A140
  clear A140
  replace H := Option.bind_eq_some_iff.mp H
  obtain ⟨⟨t337, t338, t339, t340, t341, t342, t343⟩, A150, H⟩ := H
  have A15 := Aside0.mk A150
  clear A150
  replace H := Option.bind_eq_some_iff.mp H
  obtain ⟨⟨t344, t347, t350, t351, t352⟩, A160, H⟩ := H
  have A16 := Aside0.mk A160
  clear A160
  have HC17 := Aside0.mk H
  clear H
  go_enter Try.func3, Try.ntmps3
  try go_wp2_with (first | ((with_reducible refine gate_dst (N := 4) rfl ?_); refine box_event ?hg (N := 4) ?hd (cs := #[.slice A0_0 l0_0.length c0_0, .slice A0_1 l0_1.length c0_1, .int .i64 a0_2]) (t := 24) ?hr ?_; (case hd => rfl); (case hg => rfl); (case hr => first | (go_simp; done) | (go_simp; rfl)); intro gb302 hg w18 hbox hb; have n_ := And.intro (Aside0.mk (below_step (bw0 HB.out) hb)) (And.intro (Aside0.mk (hbox)) (Aside0.mk ((by rw [hg]; exact (below_size (bw0 HB.out)) : w.heap.size ≤ gb302)))); clear HB; obtain ⟨HB, BK302, GW302⟩ := n_; have GE302 := GW302; clear hb hbox hg) | ((with_reducible refine gate_dst (N := 5) rfl ?_); refine box_event ?hg (N := 5) ?hd (cs := #[.int .i64 a1_0, .int .i64 a1_1, .int .i64 a1_2, .int .i64 a1_3, .int .i64 a1_4, .int .i64 a1_5, .int .i64 a1_6]) (t := 26) ?hr ?_; (case hd => rfl); (case hg => rfl); (case hr => first | (go_simp; done) | (go_simp; rfl)); intro gb303 hg w19 hbox hb; have n_ := And.intro (Aside0.mk (bbq BK302.out hb)) (And.intro (Aside0.mk (below_step (bw1 HB.out GE302.out) hb)) (And.intro (Aside0.mk (hbox)) (And.intro (Aside0.mk ((by rw [hg]; exact (below_size (bw1 HB.out GE302.out)) : w.heap.size ≤ gb303))) (And.intro (Aside0.mk ((nlq BK302.out hg))) (Aside0.mk ((ngq BK302.out hg))))))); clear BK302 HB; obtain ⟨BK302, HB, BK303, GW303, NB302_303, NB303_302⟩ := n_; have GE303 := GW303; clear hb hbox hg; have hnb20 := NB302_303.out; have hnc20 := NB303_302.out; obtain ⟨hcz21_0, hcz21_1, hcz21_2, hfz21_0, hfz21_1, hfz21_2⟩ := cq3 BK302.out) | ((with_reducible refine gate_callee (f := 11) rfl ?_); refine goesL_ (some 25) rfl rfl Try.func11 (by kernel_rfl) rfl #[.agg #[.slice A0_0 l0_0.length c0_0, .slice A0_1 l0_1.length c0_1, .int .i64 a0_2], .int .i64 1048576] rfl aq ?_; (with_reducible refine (laws_szState.calls _ _ l0_0 _ _ l0_1 a0_2 1048576 t304 _ ?side1 ?side2 ?side3 ?side4 A5.out).mono ?_); (case side1 => exact caq (Kd.C_below HR0_0.out HB.out)); (case side2 => exact HC0_0.out); (case side3 => exact caq (Kd.C_below HR0_1.out HB.out)); (case side4 => exact HC0_1.out); rintro e w22 ⟨rfl, hb⟩; refine ⟨_, rfl, ?_⟩; have n_ := And.intro (Aside0.mk (bbq BK302.out hb)) (And.intro (Aside0.mk (bbq BK303.out hb)) (Aside0.mk (below_step (bw2 HB.out GE302.out GE303.out) hb))); clear BK302 BK303 HB; obtain ⟨BK302, BK303, HB⟩ := n_; (try clear hb); (try clear hb2); (try clear hk); (try clear hi)))
  have n_ := And.intro (Aside0.mk (blk_drew BK302.out)) (And.intro (Aside0.mk (blk_drew BK303.out)) (Aside0.mk (below_drew1 HB.out)))
  clear BK302 BK303 HB
  obtain ⟨BK302, BK303, HB⟩ := n_
  refine start_ (n := 15) (S := fun w' => w'.cell? ⟨gb302, 0, none⟩ = some (.slice A0_0 l0_0.length c0_0) ∧ w'.cell? ⟨gb302, 1, none⟩ = some (.slice A0_1 l0_1.length c0_1) ∧ w'.cell? ⟨gb302, 2, none⟩ = some (.int .i64 a0_2) ∧ w'.cell? ⟨gb303, 0, none⟩ = some (.int .i64 a1_0) ∧ w'.cell? ⟨gb303, 1, none⟩ = some (.int .i64 a1_1) ∧ w'.cell? ⟨gb303, 2, none⟩ = some (.int .i64 a1_2) ∧ w'.cell? ⟨gb303, 3, none⟩ = some (.int .i64 a1_3) ∧ w'.cell? ⟨gb303, 4, none⟩ = some (.int .i64 a1_4) ∧ w'.cell? ⟨gb303, 5, none⟩ = some (.int .i64 a1_5) ∧ w'.cell? ⟨gb303, 6, none⟩ = some (.int .i64 a1_6)) (ds := []) #[false, false, false, false, false, false, false, false, false, false, false, false, false, false, false] (by kernel_rfl) rfl rfl (cr3 BK302.out (cl7 BK303.out)) (fun hHeld => ?_); refine with_tabW laws_FnExactApplyWish.tab5 laws_FnExactApplyWish.bits5 (fun HT_ HW_ => ?_)
  generalize w22.drew = w23 at BK302 BK303 HB hHeld ⊢
  refine pure_ (i := 4) (N := some 33) (v := ?_) (a' := ?_) #[false, false, false, false, true, false, false, false, false, false, false, false, false, false, false] rfl rfl (any_of HT_.out (by kernel_rfl)) (fun _ _ _ h => h) (Or.inl ⟨by rfl, ?_⟩) ?_ ?_
  rotate_left
  ·intro w'
   go_simp
   with_reducible rfl
  rotate_left
  ·simp only [apn]
   rfl
  refine pure_ (i := 5) (N := some 34) (v := ?_) (a' := ?_) #[false, false, false, false, true, true, false, false, false, false, false, false, false, false, false] rfl rfl (any_of HT_.out (by kernel_rfl)) (fun _ _ _ h => h) (Or.inl ⟨by rfl, ?_⟩) ?_ ?_
  rotate_left
  ·intro w'
   go_simp
   with_reducible rfl
  rotate_left
  ·simp only [apn]
   rfl
  refine take_ (i := 0) (N := some 29) (v := ?_) (a' := ?_) #[true, false, false, false, true, true, false, false, false, false, false, false, false, false, false] rfl rfl (take_ofW HT_.out HW_.out (by kernel_rfl)) (fun _ _ _ h => h) (Or.inl ⟨by rfl, ?_⟩) hHeld ?_ ?_
  rotate_left
  ·rintro w' ⟨s0, s1, s2, s3, s4, s5, s6, s7, s8, s9⟩
   go_simp
   with_reducible rfl
  rotate_left
  ·simp only [apn]
   rfl
  refine take_ (i := 2) (N := some 31) (v := ?_) (a' := ?_) #[true, false, true, false, true, true, false, false, false, false, false, false, false, false, false] rfl rfl (take_ofW HT_.out HW_.out (by kernel_rfl)) (fun _ _ _ h => h) (Or.inl ⟨by rfl, ?_⟩) hHeld ?_ ?_
  rotate_left
  ·rintro w' ⟨s0, s1, s2, s3, s4, s5, s6, s7, s8, s9⟩
   go_simp
   with_reducible rfl
  rotate_left
  ·simp only [apn]
   rfl
  refine join_ (σ := Value × Value × Value × Value × Nat) 3 #[true, true, true, true, true, true, true, true, true, true, true, true, false, false, false] (fun s_ => [(30, .agg #[s_.1, s_.2.1, .int .i64 t311]), (32, .agg #[.int .i64 t312, .int .i64 t313, .int .i64 t314, .int .i64 t315, .int .i64 t316, .int .i64 t317, .int .i64 t318]), (35, .tuple #[.agg #[s_.2.2.1, s_.2.2.2.1, .int .i64 t325], .int .i64 t326, .bool t327]), (10, .pointer (some ⟨s_.2.2.2.2, 0, none⟩)), (28, .tuple #[.agg #[s_.2.2.1, s_.2.2.2.1, .int .i64 t325], .int .i64 t326, .bool t327]), (36, .agg #[s_.2.2.1, s_.2.2.2.1, .int .i64 t325]), (37, .int .i64 t326), (38, .bool t327)]) (fun s_ w' => (w'.cell? ⟨gb302, 0, none⟩ = some (.slice A0_0 l0_0.length c0_0) ∧ w'.cell? ⟨gb302, 1, none⟩ = some (.slice A0_1 l0_1.length c0_1) ∧ w'.cell? ⟨gb302, 2, none⟩ = some (.int .i64 a0_2) ∧ w'.cell? ⟨gb303, 0, none⟩ = some (.int .i64 a1_0) ∧ w'.cell? ⟨gb303, 1, none⟩ = some (.int .i64 a1_1) ∧ w'.cell? ⟨gb303, 2, none⟩ = some (.int .i64 a1_2) ∧ w'.cell? ⟨gb303, 3, none⟩ = some (.int .i64 a1_3) ∧ w'.cell? ⟨gb303, 4, none⟩ = some (.int .i64 a1_4) ∧ w'.cell? ⟨gb303, 5, none⟩ = some (.int .i64 a1_5) ∧ w'.cell? ⟨gb303, 6, none⟩ = some (.int .i64 a1_6)) ∧ (Kd.R (Kd.int .i64) 3 w' w.heap.size (fun k_ => some k_ ≠ (s_.2.1 : Value).ownBlock ∧ some k_ ≠ (s_.2.2.1 : Value).ownBlock ∧ some k_ ≠ (s_.2.2.2.1 : Value).ownBlock) s_.1 t305) ∧ (Kd.R (Kd.int .i64) 3 w' w.heap.size (fun k_ => some k_ ≠ (s_.1 : Value).ownBlock ∧ some k_ ≠ (s_.2.2.1 : Value).ownBlock ∧ some k_ ≠ (s_.2.2.2.1 : Value).ownBlock) s_.2.1 t308) ∧ (Kd.R (Kd.int .i64) 3 w' w.heap.size (fun k_ => some k_ ≠ (s_.1 : Value).ownBlock ∧ some k_ ≠ (s_.2.1 : Value).ownBlock ∧ some k_ ≠ (s_.2.2.2.1 : Value).ownBlock) s_.2.2.1 t319) ∧ (Kd.R (Kd.int .i64) 3 w' w.heap.size (fun k_ => some k_ ≠ (s_.1 : Value).ownBlock ∧ some k_ ≠ (s_.2.1 : Value).ownBlock ∧ some k_ ≠ (s_.2.2.1 : Value).ownBlock) s_.2.2.2.1 t322) ∧ (w'.heap[gb302]? = some (.cells #[.slice A0_0 l0_0.length c0_0, .slice A0_1 l0_1.length c0_1, .int .i64 a0_2] 24 (0, 0))) ∧ (w'.heap[gb303]? = some (.cells #[.int .i64 a1_0, .int .i64 a1_1, .int .i64 a1_2, .int .i64 a1_3, .int .i64 a1_4, .int .i64 a1_5, .int .i64 a1_6] 26 (0, 0))) ∧ (w'.heap[s_.2.2.2.2]? = some (.cells #[.slice none 0 0, .slice none 0 0, .int .i64 0] 28 (0, 0))) ∧ (w.heap.size ≤ s_.2.2.2.2) ∧ (w.heap.size ≤ s_.2.2.2.2) ∧ (gb302 ≠ s_.2.2.2.2) ∧ (s_.2.2.2.2 ≠ gb302) ∧ (gb303 ≠ s_.2.2.2.2) ∧ (s_.2.2.2.2 ≠ gb303) ∧ (Below w.heap.size w w')) ?_ ?_
  rotate_left
  ·intro hCont
   refine two_ (i := 1) (j := 11) (Ni := some 30) (Nj := some 10) #[true, true, true, false, true, true, false, false, false, false, false, false, false, false, false] #[true, false, true, false, true, true, false, false, false, false, false, true, false, false, false] rfl rfl rfl rfl (two_of HT_.out (by kernel_rfl)) (by decide) (by decide) (fun K hK => ?_) (fun K hK => ?_)
   ·skip
    refine goes_ Try.func13 (by kernel_rfl) rfl #[.agg #[.slice A0_0 l0_0.length c0_0, .slice A0_1 l0_1.length c0_1, .int .i64 a0_2]] (by rfl) rfl rfl aq ?_
    with_reducible refine (laws_toState.calls k _ _ l0_0 _ _ l0_1 a0_2 t305 t308 t311 _ ?side1 ?side2 ?side3 ?side4 A11.out).mono ?_
    (case side1 => exact caq (Kd.C_below HR0_0.out HB.out))
    (case side2 => exact HC0_0.out)
    (case side3 => exact caq (Kd.C_below HR0_1.out HB.out))
    (case side4 => exact HC0_1.out)
    rintro e w24 ⟨v306, v309, rfl, ho0, ho1, hb⟩
    refine ⟨_, rfl, ?_⟩
    have n_ := And.intro (Aside0.mk (Kd.R_lower ho0 (below_size (bw2 HB.out GE302.out GE303.out)))) (And.intro (Aside0.mk (Kd.R_lower ho1 (below_size (bw2 HB.out GE302.out GE303.out)))) (And.intro (Aside0.mk (bbq BK302.out hb)) (And.intro (Aside0.mk (bbq BK303.out hb)) (Aside0.mk (below_step (bw2 HB.out GE302.out GE303.out) hb)))))
    clear BK302 BK303 HB
    obtain ⟨HO307, HO310, BK302, BK303, HB⟩ := n_
    (try clear hb)
    (try clear hb2)
    (try clear hk)
    (try clear hi)
    (try clear ho0)
    (try clear ho1)
    refine hK.out _ _ (cr3 BK302.out (cl7 BK303.out)) (fun hHeld => ?_)
    clear hK K
    refine norm_ (a' := ?_) ?_ ?_
    rotate_left
    ·show Act.put _ (some 30) _ = _
     simp only [apn]
     rfl
    refine two_ (i := 3) (j := 11) (Ni := some 32) (Nj := some 10) #[true, true, true, true, true, true, false, false, false, false, false, false, false, false, false] #[true, true, true, false, true, true, false, false, false, false, false, true, false, false, false] rfl rfl rfl rfl (two_of HT_.out (by kernel_rfl)) (by decide) (by decide) (fun K hK => ?_) (fun K hK => ?_)
    ·skip
     refine goes_ Try.func14 (by kernel_rfl) rfl #[.agg #[.int .i64 a1_0, .int .i64 a1_1, .int .i64 a1_2, .int .i64 a1_3, .int .i64 a1_4, .int .i64 a1_5, .int .i64 a1_6]] (by rfl) rfl rfl aq ?_
     with_reducible refine (laws_toWish.calls a1_0 a1_1 a1_2 a1_3 a1_4 a1_5 a1_6 t312 t313 t314 t315 t316 t317 t318 _ A12.out).mono ?_
     rintro e w25 ⟨rfl, hb⟩
     refine ⟨_, rfl, ?_⟩
     have n_ := And.intro (Aside0.mk (Kd.R_below (rq HO307.out) hb)) (And.intro (Aside0.mk (Kd.R_below (rq HO310.out) hb)) (And.intro (Aside0.mk (bbq BK302.out hb)) (And.intro (Aside0.mk (bbq BK303.out hb)) (Aside0.mk (below_step (bw2 HB.out GE302.out GE303.out) hb)))))
     clear HO307 HO310 BK302 BK303 HB
     obtain ⟨HO307, HO310, BK302, BK303, HB⟩ := n_
     (try clear hb)
     (try clear hb2)
     (try clear hk)
     (try clear hi)
     obtain ⟨Ao26, co26, eo26⟩ := Kd.R_slice HO307.out
     (first | subst eo26 | (injection eo26 with f1_ f2_ f3_; have f4_ := f1_.symm; have f5_ := f3_.symm; clear f1_ f2_ f3_; subst f4_; subst f5_))
     obtain ⟨Ao27, co27, eo27⟩ := Kd.R_slice HO310.out
     (first | subst eo27 | (injection eo27 with f1_ f2_ f3_; have f4_ := f1_.symm; have f5_ := f3_.symm; clear f1_ f2_ f3_; subst f4_; subst f5_))
     refine hK.out _ _ (cr3 BK302.out (cl7 BK303.out)) (fun hHeld => ?_)
     clear hK K
     refine norm_ (a' := ?_) ?_ ?_
     rotate_left
     ·show Act.put _ (some 32) _ = _
      simp only [apn]
      rfl
     refine two_ (i := 6) (j := 11) (Ni := some 35) (Nj := some 10) #[true, true, true, true, true, true, true, false, false, false, false, false, false, false, false] #[true, true, true, true, true, true, false, false, false, false, false, true, false, false, false] rfl rfl rfl rfl (two_of HT_.out (by kernel_rfl)) (by decide) (by decide) (fun K hK => ?_) (fun K hK => ?_)
     ·skip
      refine goes_ Try.func12 (by kernel_rfl) rfl #[.agg #[.slice Ao26 t305.length co26, .slice Ao27 t308.length co27, .int .i64 t311], .agg #[.int .i64 t312, .int .i64 t313, .int .i64 t314, .int .i64 t315, .int .i64 t316, .int .i64 t317, .int .i64 t318], .int .i64 a2, .int .i64 a3] (by rfl) rfl rfl aq ?_
      with_reducible refine (spec_ApplyWish.calls k _ _ t305 _ _ t308 t311 t312 t313 t314 t315 t316 t317 t318 a2 a3 t319 t322 t325 t326 t327 _ ?side1 ?side2 ?side3 ?side4 A13.out).mono ?_
      (case side1 => exact caq (Kd.R_reads' HO307.out).2.2)
      (case side2 => exact (Kd.R_reads' HO307.out).2.1)
      (case side3 => exact caq (Kd.R_reads' HO310.out).2.2)
      (case side4 => exact (Kd.R_reads' HO310.out).2.1)
      rintro e w28 ⟨v320, v323, rfl, ho0, ho1, hb⟩
      refine ⟨_, rfl, ?_⟩
      have n_ := And.intro (Aside0.mk (Kd.R_mono (Kd.R_told (Kd.R_told (Kd.R_old (rq HO307.out) hb) (Kd.R_base ho0)) (Kd.R_base ho1)) (fun _ h_ => h_.1))) (And.intro (Aside0.mk (Kd.R_mono (Kd.R_told (Kd.R_told (Kd.R_old (rq HO310.out) hb) (Kd.R_base ho0)) (Kd.R_base ho1)) (fun _ h_ => h_.1))) (And.intro (Aside0.mk (Kd.R_lower (Kd.R_new' (Kd.R_new' ho0 (Kd.R_lt (rq HO307.out))) (Kd.R_lt (rq HO310.out))) (below_size (bw2 HB.out GE302.out GE303.out)))) (And.intro (Aside0.mk (Kd.R_lower (Kd.R_new' (Kd.R_new' ho1 (Kd.R_lt (rq HO307.out))) (Kd.R_lt (rq HO310.out))) (below_size (bw2 HB.out GE302.out GE303.out)))) (And.intro (Aside0.mk (bbq BK302.out hb)) (And.intro (Aside0.mk (bbq BK303.out hb)) (Aside0.mk (below_step (bw2 HB.out GE302.out GE303.out) hb)))))))
      clear HO307 HO310 BK302 BK303 HB
      obtain ⟨HO307, HO310, HO321, HO324, BK302, BK303, HB⟩ := n_
      (try clear hb)
      (try clear hb2)
      (try clear hk)
      (try clear hi)
      (try clear ho0)
      (try clear ho1)
      refine hK.out _ _ (cr3 BK302.out (cl7 BK303.out)) (fun hHeld => ?_)
      clear hK K
      refine norm_ (a' := ?_) ?_ ?_
      rotate_left
      ·show Act.put _ (some 35) _ = _
       simp only [apn]
       rfl
      refine pure_ (i := 7) (N := some 28) (v := ?_) (a' := ?_) #[true, true, true, true, true, true, true, true, false, false, false, false, false, false, false] rfl rfl (any_of HT_.out (by kernel_rfl)) (fun _ _ _ h => h) (Or.inl ⟨by rfl, ?_⟩) ?_ ?_
      rotate_left
      ·intro w'
       go_simp
       with_reducible rfl
      rotate_left
      ·simp only [apn]
       rfl
      refine pure_ (i := 8) (N := some 36) (v := ?_) (a' := ?_) #[true, true, true, true, true, true, true, true, true, false, false, false, false, false, false] rfl rfl (any_of HT_.out (by kernel_rfl)) (fun _ _ _ h => h) (Or.inl ⟨by rfl, ?_⟩) ?_ ?_
      rotate_left
      ·intro w'
       go_simp
       with_reducible rfl
      rotate_left
      ·simp only [apn]
       rfl
      refine pure_ (i := 9) (N := some 37) (v := ?_) (a' := ?_) #[true, true, true, true, true, true, true, true, true, true, false, false, false, false, false] rfl rfl (any_of HT_.out (by kernel_rfl)) (fun _ _ _ h => h) (Or.inl ⟨by rfl, ?_⟩) ?_ ?_
      rotate_left
      ·intro w'
       go_simp
       with_reducible rfl
      rotate_left
      ·simp only [apn]
       rfl
      refine pure_ (i := 10) (N := some 38) (v := ?_) (a' := ?_) #[true, true, true, true, true, true, true, true, true, true, true, false, false, false, false] rfl rfl (any_of HT_.out (by kernel_rfl)) (fun _ _ _ h => h) (Or.inl ⟨by rfl, ?_⟩) ?_ ?_
      rotate_left
      ·intro w'
       go_simp
       with_reducible rfl
      rotate_left
      ·simp only [apn]
       rfl
      refine one_ (i := 11) (N := some 10) #[true, true, true, true, true, true, true, true, true, true, true, true, false, false, false] rfl rfl (one_of HT_.out (by kernel_rfl)) (by decide) (fun K hK => ?_)
      refine box_step ?hg (N := 10) ?hd (cs := #[.slice none 0 0, .slice none 0 0, .int .i64 0]) (t := 28) ?hr ?_; (case hd => rfl); (case hg => rfl); (case hr => first | (go_simp; done) | (go_simp; rfl))
      intro gb328 hg w29 hbox hb
      have n_ := And.intro (Aside0.mk (Kd.R_below (rq HO307.out) hb)) (And.intro (Aside0.mk (Kd.R_below (rq HO310.out) hb)) (And.intro (Aside0.mk (Kd.R_below (rq HO321.out) hb)) (And.intro (Aside0.mk (Kd.R_below (rq HO324.out) hb)) (And.intro (Aside0.mk (bbq BK302.out hb)) (And.intro (Aside0.mk (bbq BK303.out hb)) (And.intro (Aside0.mk (below_step (bw2 HB.out GE302.out GE303.out) hb)) (And.intro (Aside0.mk (hbox)) (And.intro (Aside0.mk ((by rw [hg]; exact (below_size (bw2 HB.out GE302.out GE303.out)) : w.heap.size ≤ gb328))) (And.intro (Aside0.mk ((by rw [hg]; exact (below_size (bw2 HB.out GE302.out GE303.out)) : w.heap.size ≤ gb328))) (And.intro (Aside0.mk ((nlq BK302.out hg))) (And.intro (Aside0.mk ((ngq BK302.out hg))) (And.intro (Aside0.mk ((nlq BK303.out hg))) (Aside0.mk ((ngq BK303.out hg)))))))))))))))
      clear HO307 HO310 HO321 HO324 BK302 BK303 HB
      obtain ⟨HO307, HO310, HO321, HO324, BK302, BK303, HB, BK328, GW328, GE328, NB302_328, NB328_302, NB303_328, NB328_303⟩ := n_
      clear hb hbox hg
      refine hK.out _ _ (cr3 BK302.out (cl7 BK303.out)) (fun hHeld => ?_)
      clear hK K
      refine norm_ (a' := ?_) ?_ ?_
      rotate_left
      ·show Act.put _ (some 10) _ = _
       simp only [apn]
       rfl
      exact norm_ (by simp only [putAll, Act.put, List.setIfInBounds_toArray, List.set_cons_zero, List.set_cons_succ]) (hCont (.slice Ao26 t305.length co26, .slice Ao27 t308.length co27, v320, v323, gb328) _ ⟨hHeld, (rmq HO307.out (fun _ hk => ⟨hk.1.1, ⟨hk.1.2, hk.2⟩⟩)), (rmq HO310.out (fun _ hk => ⟨hk.1.1, ⟨hk.1.2, hk.2⟩⟩)), (rmq HO321.out (fun _ hk => ⟨hk.1.2, ⟨hk.2, hk.1.1⟩⟩)), (rmq HO324.out (fun _ hk => ⟨hk.1.2, ⟨hk.2, hk.1.1⟩⟩)), (bq BK302.out), (bq BK303.out), (bq BK328.out), GW328.out, GE328.out, NB302_328.out, NB328_302.out, NB303_328.out, NB328_303.out, (bw3 HB.out GE302.out GE303.out GE328.out)⟩)
     ·skip
      refine box_step ?hg (N := 10) ?hd (cs := #[.slice none 0 0, .slice none 0 0, .int .i64 0]) (t := 28) ?hr ?_; (case hd => rfl); (case hg => rfl); (case hr => first | (go_simp; done) | (go_simp; rfl))
      intro gb328 hg w26 hbox hb
      have n_ := And.intro (Aside0.mk (Kd.R_below (rq HO307.out) hb)) (And.intro (Aside0.mk (Kd.R_below (rq HO310.out) hb)) (And.intro (Aside0.mk (bbq BK302.out hb)) (And.intro (Aside0.mk (bbq BK303.out hb)) (And.intro (Aside0.mk (below_step (bw2 HB.out GE302.out GE303.out) hb)) (And.intro (Aside0.mk (hbox)) (And.intro (Aside0.mk ((by rw [hg]; exact (below_size (bw2 HB.out GE302.out GE303.out)) : w.heap.size ≤ gb328))) (And.intro (Aside0.mk ((by rw [hg]; exact (below_size (bw2 HB.out GE302.out GE303.out)) : w.heap.size ≤ gb328))) (And.intro (Aside0.mk ((nlq BK302.out hg))) (And.intro (Aside0.mk ((ngq BK302.out hg))) (And.intro (Aside0.mk ((nlq BK303.out hg))) (Aside0.mk ((ngq BK303.out hg)))))))))))))
      clear HO307 HO310 BK302 BK303 HB
      obtain ⟨HO307, HO310, BK302, BK303, HB, BK328, GW328, GE328, NB302_328, NB328_302, NB303_328, NB328_303⟩ := n_
      clear hb hbox hg
      obtain ⟨Ao27, co27, eo27⟩ := Kd.R_slice HO307.out
      (first | subst eo27 | (injection eo27 with f1_ f2_ f3_; have f4_ := f1_.symm; have f5_ := f3_.symm; clear f1_ f2_ f3_; subst f4_; subst f5_))
      obtain ⟨Ao28, co28, eo28⟩ := Kd.R_slice HO310.out
      (first | subst eo28 | (injection eo28 with f1_ f2_ f3_; have f4_ := f1_.symm; have f5_ := f3_.symm; clear f1_ f2_ f3_; subst f4_; subst f5_))
      refine hK.out _ _ (cr3 BK302.out (cl7 BK303.out)) (fun hHeld => ?_)
      clear hK K
      refine norm_ (a' := ?_) ?_ ?_
      rotate_left
      ·show Act.put _ (some 10) _ = _
       simp only [apn]
       rfl
      refine one_ (i := 6) (N := some 35) #[true, true, true, true, true, true, true, false, false, false, false, true, false, false, false] rfl rfl (one_of HT_.out (by kernel_rfl)) (by decide) (fun K hK => ?_)
      refine goes_ Try.func12 (by kernel_rfl) rfl #[.agg #[.slice Ao27 t305.length co27, .slice Ao28 t308.length co28, .int .i64 t311], .agg #[.int .i64 t312, .int .i64 t313, .int .i64 t314, .int .i64 t315, .int .i64 t316, .int .i64 t317, .int .i64 t318], .int .i64 a2, .int .i64 a3] (by rfl) rfl rfl aq ?_
      with_reducible refine (spec_ApplyWish.calls k _ _ t305 _ _ t308 t311 t312 t313 t314 t315 t316 t317 t318 a2 a3 t319 t322 t325 t326 t327 _ ?side1 ?side2 ?side3 ?side4 A13.out).mono ?_
      (case side1 => exact caq (Kd.R_reads' HO307.out).2.2)
      (case side2 => exact (Kd.R_reads' HO307.out).2.1)
      (case side3 => exact caq (Kd.R_reads' HO310.out).2.2)
      (case side4 => exact (Kd.R_reads' HO310.out).2.1)
      rintro e w29 ⟨v320, v323, rfl, ho0, ho1, hb⟩
      refine ⟨_, rfl, ?_⟩
      have n_ := And.intro (Aside0.mk (Kd.R_mono (Kd.R_told (Kd.R_told (Kd.R_old (rq HO307.out) hb) (Kd.R_base ho0)) (Kd.R_base ho1)) (fun _ h_ => h_.1))) (And.intro (Aside0.mk (Kd.R_mono (Kd.R_told (Kd.R_told (Kd.R_old (rq HO310.out) hb) (Kd.R_base ho0)) (Kd.R_base ho1)) (fun _ h_ => h_.1))) (And.intro (Aside0.mk (Kd.R_lower (Kd.R_new' (Kd.R_new' ho0 (Kd.R_lt (rq HO307.out))) (Kd.R_lt (rq HO310.out))) (below_size (bw3 HB.out GE302.out GE303.out GE328.out)))) (And.intro (Aside0.mk (Kd.R_lower (Kd.R_new' (Kd.R_new' ho1 (Kd.R_lt (rq HO307.out))) (Kd.R_lt (rq HO310.out))) (below_size (bw3 HB.out GE302.out GE303.out GE328.out)))) (And.intro (Aside0.mk (bbq BK302.out hb)) (And.intro (Aside0.mk (bbq BK303.out hb)) (And.intro (Aside0.mk (bbq BK328.out hb)) (Aside0.mk (below_step (bw3 HB.out GE302.out GE303.out GE328.out) hb))))))))
      clear HO307 HO310 BK302 BK303 BK328 HB
      obtain ⟨HO307, HO310, HO321, HO324, BK302, BK303, BK328, HB⟩ := n_
      (try clear hb)
      (try clear hb2)
      (try clear hk)
      (try clear hi)
      (try clear ho0)
      (try clear ho1)
      refine hK.out _ _ (cr3 BK302.out (cl7 BK303.out)) (fun hHeld => ?_)
      clear hK K
      refine norm_ (a' := ?_) ?_ ?_
      rotate_left
      ·show Act.put _ (some 35) _ = _
       simp only [apn]
       rfl
      refine pure_ (i := 7) (N := some 28) (v := ?_) (a' := ?_) #[true, true, true, true, true, true, true, true, false, false, false, true, false, false, false] rfl rfl (any_of HT_.out (by kernel_rfl)) (fun _ _ _ h => h) (Or.inl ⟨by rfl, ?_⟩) ?_ ?_
      rotate_left
      ·intro w'
       go_simp
       with_reducible rfl
      rotate_left
      ·simp only [apn]
       rfl
      refine pure_ (i := 8) (N := some 36) (v := ?_) (a' := ?_) #[true, true, true, true, true, true, true, true, true, false, false, true, false, false, false] rfl rfl (any_of HT_.out (by kernel_rfl)) (fun _ _ _ h => h) (Or.inl ⟨by rfl, ?_⟩) ?_ ?_
      rotate_left
      ·intro w'
       go_simp
       with_reducible rfl
      rotate_left
      ·simp only [apn]
       rfl
      refine pure_ (i := 9) (N := some 37) (v := ?_) (a' := ?_) #[true, true, true, true, true, true, true, true, true, true, false, true, false, false, false] rfl rfl (any_of HT_.out (by kernel_rfl)) (fun _ _ _ h => h) (Or.inl ⟨by rfl, ?_⟩) ?_ ?_
      rotate_left
      ·intro w'
       go_simp
       with_reducible rfl
      rotate_left
      ·simp only [apn]
       rfl
      refine pure_ (i := 10) (N := some 38) (v := ?_) (a' := ?_) #[true, true, true, true, true, true, true, true, true, true, true, true, false, false, false] rfl rfl (any_of HT_.out (by kernel_rfl)) (fun _ _ _ h => h) (Or.inl ⟨by rfl, ?_⟩) ?_ ?_
      rotate_left
      ·intro w'
       go_simp
       with_reducible rfl
      rotate_left
      ·simp only [apn]
       rfl
      exact norm_ (by simp only [putAll, Act.put, List.setIfInBounds_toArray, List.set_cons_zero, List.set_cons_succ]) (hCont (.slice Ao27 t305.length co27, .slice Ao28 t308.length co28, v320, v323, gb328) _ ⟨hHeld, (rmq HO307.out (fun _ hk => ⟨hk.1.1, ⟨hk.1.2, hk.2⟩⟩)), (rmq HO310.out (fun _ hk => ⟨hk.1.1, ⟨hk.1.2, hk.2⟩⟩)), (rmq HO321.out (fun _ hk => ⟨hk.1.2, ⟨hk.2, hk.1.1⟩⟩)), (rmq HO324.out (fun _ hk => ⟨hk.1.2, ⟨hk.2, hk.1.1⟩⟩)), (bq BK302.out), (bq BK303.out), (bq BK328.out), GW328.out, GE328.out, NB302_328.out, NB328_302.out, NB303_328.out, NB328_303.out, (bw3 HB.out GE302.out GE303.out GE328.out)⟩)
    ·skip
     refine box_step ?hg (N := 10) ?hd (cs := #[.slice none 0 0, .slice none 0 0, .int .i64 0]) (t := 28) ?hr ?_; (case hd => rfl); (case hg => rfl); (case hr => first | (go_simp; done) | (go_simp; rfl))
     intro gb328 hg w25 hbox hb
     have n_ := And.intro (Aside0.mk (Kd.R_below (rq HO307.out) hb)) (And.intro (Aside0.mk (Kd.R_below (rq HO310.out) hb)) (And.intro (Aside0.mk (bbq BK302.out hb)) (And.intro (Aside0.mk (bbq BK303.out hb)) (And.intro (Aside0.mk (below_step (bw2 HB.out GE302.out GE303.out) hb)) (And.intro (Aside0.mk (hbox)) (And.intro (Aside0.mk ((by rw [hg]; exact (below_size (bw2 HB.out GE302.out GE303.out)) : w.heap.size ≤ gb328))) (And.intro (Aside0.mk ((by rw [hg]; exact (below_size (bw2 HB.out GE302.out GE303.out)) : w.heap.size ≤ gb328))) (And.intro (Aside0.mk ((nlq BK302.out hg))) (And.intro (Aside0.mk ((ngq BK302.out hg))) (And.intro (Aside0.mk ((nlq BK303.out hg))) (Aside0.mk ((ngq BK303.out hg)))))))))))))
     clear HO307 HO310 BK302 BK303 HB
     obtain ⟨HO307, HO310, BK302, BK303, HB, BK328, GW328, GE328, NB302_328, NB328_302, NB303_328, NB328_303⟩ := n_
     clear hb hbox hg
     refine hK.out _ _ (cr3 BK302.out (cl7 BK303.out)) (fun hHeld => ?_)
     clear hK K
     refine norm_ (a' := ?_) ?_ ?_
     rotate_left
     ·show Act.put _ (some 10) _ = _
      simp only [apn]
      rfl
     refine one_ (i := 3) (N := some 32) #[true, true, true, true, true, true, false, false, false, false, false, true, false, false, false] rfl rfl (one_of HT_.out (by kernel_rfl)) (by decide) (fun K hK => ?_)
     refine goes_ Try.func14 (by kernel_rfl) rfl #[.agg #[.int .i64 a1_0, .int .i64 a1_1, .int .i64 a1_2, .int .i64 a1_3, .int .i64 a1_4, .int .i64 a1_5, .int .i64 a1_6]] (by rfl) rfl rfl aq ?_
     with_reducible refine (laws_toWish.calls a1_0 a1_1 a1_2 a1_3 a1_4 a1_5 a1_6 t312 t313 t314 t315 t316 t317 t318 _ A12.out).mono ?_
     rintro e w26 ⟨rfl, hb⟩
     refine ⟨_, rfl, ?_⟩
     have n_ := And.intro (Aside0.mk (Kd.R_below (rq HO307.out) hb)) (And.intro (Aside0.mk (Kd.R_below (rq HO310.out) hb)) (And.intro (Aside0.mk (bbq BK302.out hb)) (And.intro (Aside0.mk (bbq BK303.out hb)) (And.intro (Aside0.mk (bbq BK328.out hb)) (Aside0.mk (below_step (bw3 HB.out GE302.out GE303.out GE328.out) hb))))))
     clear HO307 HO310 BK302 BK303 BK328 HB
     obtain ⟨HO307, HO310, BK302, BK303, BK328, HB⟩ := n_
     (try clear hb)
     (try clear hb2)
     (try clear hk)
     (try clear hi)
     obtain ⟨Ao27, co27, eo27⟩ := Kd.R_slice HO307.out
     (first | subst eo27 | (injection eo27 with f1_ f2_ f3_; have f4_ := f1_.symm; have f5_ := f3_.symm; clear f1_ f2_ f3_; subst f4_; subst f5_))
     obtain ⟨Ao28, co28, eo28⟩ := Kd.R_slice HO310.out
     (first | subst eo28 | (injection eo28 with f1_ f2_ f3_; have f4_ := f1_.symm; have f5_ := f3_.symm; clear f1_ f2_ f3_; subst f4_; subst f5_))
     refine hK.out _ _ (cr3 BK302.out (cl7 BK303.out)) (fun hHeld => ?_)
     clear hK K
     refine norm_ (a' := ?_) ?_ ?_
     rotate_left
     ·show Act.put _ (some 32) _ = _
      simp only [apn]
      rfl
     refine one_ (i := 6) (N := some 35) #[true, true, true, true, true, true, true, false, false, false, false, true, false, false, false] rfl rfl (one_of HT_.out (by kernel_rfl)) (by decide) (fun K hK => ?_)
     refine goes_ Try.func12 (by kernel_rfl) rfl #[.agg #[.slice Ao27 t305.length co27, .slice Ao28 t308.length co28, .int .i64 t311], .agg #[.int .i64 t312, .int .i64 t313, .int .i64 t314, .int .i64 t315, .int .i64 t316, .int .i64 t317, .int .i64 t318], .int .i64 a2, .int .i64 a3] (by rfl) rfl rfl aq ?_
     with_reducible refine (spec_ApplyWish.calls k _ _ t305 _ _ t308 t311 t312 t313 t314 t315 t316 t317 t318 a2 a3 t319 t322 t325 t326 t327 _ ?side1 ?side2 ?side3 ?side4 A13.out).mono ?_
     (case side1 => exact caq (Kd.R_reads' HO307.out).2.2)
     (case side2 => exact (Kd.R_reads' HO307.out).2.1)
     (case side3 => exact caq (Kd.R_reads' HO310.out).2.2)
     (case side4 => exact (Kd.R_reads' HO310.out).2.1)
     rintro e w29 ⟨v320, v323, rfl, ho0, ho1, hb⟩
     refine ⟨_, rfl, ?_⟩
     have n_ := And.intro (Aside0.mk (Kd.R_mono (Kd.R_told (Kd.R_told (Kd.R_old (rq HO307.out) hb) (Kd.R_base ho0)) (Kd.R_base ho1)) (fun _ h_ => h_.1))) (And.intro (Aside0.mk (Kd.R_mono (Kd.R_told (Kd.R_told (Kd.R_old (rq HO310.out) hb) (Kd.R_base ho0)) (Kd.R_base ho1)) (fun _ h_ => h_.1))) (And.intro (Aside0.mk (Kd.R_lower (Kd.R_new' (Kd.R_new' ho0 (Kd.R_lt (rq HO307.out))) (Kd.R_lt (rq HO310.out))) (below_size (bw3 HB.out GE302.out GE303.out GE328.out)))) (And.intro (Aside0.mk (Kd.R_lower (Kd.R_new' (Kd.R_new' ho1 (Kd.R_lt (rq HO307.out))) (Kd.R_lt (rq HO310.out))) (below_size (bw3 HB.out GE302.out GE303.out GE328.out)))) (And.intro (Aside0.mk (bbq BK302.out hb)) (And.intro (Aside0.mk (bbq BK303.out hb)) (And.intro (Aside0.mk (bbq BK328.out hb)) (Aside0.mk (below_step (bw3 HB.out GE302.out GE303.out GE328.out) hb))))))))
     clear HO307 HO310 BK302 BK303 BK328 HB
     obtain ⟨HO307, HO310, HO321, HO324, BK302, BK303, BK328, HB⟩ := n_
     (try clear hb)
     (try clear hb2)
     (try clear hk)
     (try clear hi)
     (try clear ho0)
     (try clear ho1)
     refine hK.out _ _ (cr3 BK302.out (cl7 BK303.out)) (fun hHeld => ?_)
     clear hK K
     refine norm_ (a' := ?_) ?_ ?_
     rotate_left
     ·show Act.put _ (some 35) _ = _
      simp only [apn]
      rfl
     refine pure_ (i := 7) (N := some 28) (v := ?_) (a' := ?_) #[true, true, true, true, true, true, true, true, false, false, false, true, false, false, false] rfl rfl (any_of HT_.out (by kernel_rfl)) (fun _ _ _ h => h) (Or.inl ⟨by rfl, ?_⟩) ?_ ?_
     rotate_left
     ·intro w'
      go_simp
      with_reducible rfl
     rotate_left
     ·simp only [apn]
      rfl
     refine pure_ (i := 8) (N := some 36) (v := ?_) (a' := ?_) #[true, true, true, true, true, true, true, true, true, false, false, true, false, false, false] rfl rfl (any_of HT_.out (by kernel_rfl)) (fun _ _ _ h => h) (Or.inl ⟨by rfl, ?_⟩) ?_ ?_
     rotate_left
     ·intro w'
      go_simp
      with_reducible rfl
     rotate_left
     ·simp only [apn]
      rfl
     refine pure_ (i := 9) (N := some 37) (v := ?_) (a' := ?_) #[true, true, true, true, true, true, true, true, true, true, false, true, false, false, false] rfl rfl (any_of HT_.out (by kernel_rfl)) (fun _ _ _ h => h) (Or.inl ⟨by rfl, ?_⟩) ?_ ?_
     rotate_left
     ·intro w'
      go_simp
      with_reducible rfl
     rotate_left
     ·simp only [apn]
      rfl
     refine pure_ (i := 10) (N := some 38) (v := ?_) (a' := ?_) #[true, true, true, true, true, true, true, true, true, true, true, true, false, false, false] rfl rfl (any_of HT_.out (by kernel_rfl)) (fun _ _ _ h => h) (Or.inl ⟨by rfl, ?_⟩) ?_ ?_
     rotate_left
     ·intro w'
      go_simp
      with_reducible rfl
     rotate_left
     ·simp only [apn]
      rfl
     exact norm_ (by simp only [putAll, Act.put, List.setIfInBounds_toArray, List.set_cons_zero, List.set_cons_succ]) (hCont (.slice Ao27 t305.length co27, .slice Ao28 t308.length co28, v320, v323, gb328) _ ⟨hHeld, (rmq HO307.out (fun _ hk => ⟨hk.1.1, ⟨hk.1.2, hk.2⟩⟩)), (rmq HO310.out (fun _ hk => ⟨hk.1.1, ⟨hk.1.2, hk.2⟩⟩)), (rmq HO321.out (fun _ hk => ⟨hk.1.2, ⟨hk.2, hk.1.1⟩⟩)), (rmq HO324.out (fun _ hk => ⟨hk.1.2, ⟨hk.2, hk.1.1⟩⟩)), (bq BK302.out), (bq BK303.out), (bq BK328.out), GW328.out, GE328.out, NB302_328.out, NB328_302.out, NB303_328.out, NB328_303.out, (bw3 HB.out GE302.out GE303.out GE328.out)⟩)
   ·skip
    refine box_step ?hg (N := 10) ?hd (cs := #[.slice none 0 0, .slice none 0 0, .int .i64 0]) (t := 28) ?hr ?_; (case hd => rfl); (case hg => rfl); (case hr => first | (go_simp; done) | (go_simp; rfl))
    intro gb328 hg w24 hbox hb
    have n_ := And.intro (Aside0.mk (bbq BK302.out hb)) (And.intro (Aside0.mk (bbq BK303.out hb)) (And.intro (Aside0.mk (below_step (bw2 HB.out GE302.out GE303.out) hb)) (And.intro (Aside0.mk (hbox)) (And.intro (Aside0.mk ((by rw [hg]; exact (below_size (bw2 HB.out GE302.out GE303.out)) : w.heap.size ≤ gb328))) (And.intro (Aside0.mk ((by rw [hg]; exact (below_size (bw2 HB.out GE302.out GE303.out)) : w.heap.size ≤ gb328))) (And.intro (Aside0.mk ((nlq BK302.out hg))) (And.intro (Aside0.mk ((ngq BK302.out hg))) (And.intro (Aside0.mk ((nlq BK303.out hg))) (Aside0.mk ((ngq BK303.out hg)))))))))))
    clear BK302 BK303 HB
    obtain ⟨BK302, BK303, HB, BK328, GW328, GE328, NB302_328, NB328_302, NB303_328, NB328_303⟩ := n_
    clear hb hbox hg
    refine hK.out _ _ (cr3 BK302.out (cl7 BK303.out)) (fun hHeld => ?_)
    clear hK K
    refine norm_ (a' := ?_) ?_ ?_
    rotate_left
    ·show Act.put _ (some 10) _ = _
     simp only [apn]
     rfl
    refine one_ (i := 1) (N := some 30) #[true, true, true, false, true, true, false, false, false, false, false, true, false, false, false] rfl rfl (one_of HT_.out (by kernel_rfl)) (by decide) (fun K hK => ?_)
    refine goes_ Try.func13 (by kernel_rfl) rfl #[.agg #[.slice A0_0 l0_0.length c0_0, .slice A0_1 l0_1.length c0_1, .int .i64 a0_2]] (by rfl) rfl rfl aq ?_
    with_reducible refine (laws_toState.calls k _ _ l0_0 _ _ l0_1 a0_2 t305 t308 t311 _ ?side1 ?side2 ?side3 ?side4 A11.out).mono ?_
    (case side1 => exact caq (Kd.C_below HR0_0.out HB.out))
    (case side2 => exact HC0_0.out)
    (case side3 => exact caq (Kd.C_below HR0_1.out HB.out))
    (case side4 => exact HC0_1.out)
    rintro e w25 ⟨v306, v309, rfl, ho0, ho1, hb⟩
    refine ⟨_, rfl, ?_⟩
    have n_ := And.intro (Aside0.mk (Kd.R_lower ho0 (below_size (bw3 HB.out GE302.out GE303.out GE328.out)))) (And.intro (Aside0.mk (Kd.R_lower ho1 (below_size (bw3 HB.out GE302.out GE303.out GE328.out)))) (And.intro (Aside0.mk (bbq BK302.out hb)) (And.intro (Aside0.mk (bbq BK303.out hb)) (And.intro (Aside0.mk (bbq BK328.out hb)) (Aside0.mk (below_step (bw3 HB.out GE302.out GE303.out GE328.out) hb))))))
    clear BK302 BK303 BK328 HB
    obtain ⟨HO307, HO310, BK302, BK303, BK328, HB⟩ := n_
    (try clear hb)
    (try clear hb2)
    (try clear hk)
    (try clear hi)
    (try clear ho0)
    (try clear ho1)
    refine hK.out _ _ (cr3 BK302.out (cl7 BK303.out)) (fun hHeld => ?_)
    clear hK K
    refine norm_ (a' := ?_) ?_ ?_
    rotate_left
    ·show Act.put _ (some 30) _ = _
     simp only [apn]
     rfl
    refine one_ (i := 3) (N := some 32) #[true, true, true, true, true, true, false, false, false, false, false, true, false, false, false] rfl rfl (one_of HT_.out (by kernel_rfl)) (by decide) (fun K hK => ?_)
    refine goes_ Try.func14 (by kernel_rfl) rfl #[.agg #[.int .i64 a1_0, .int .i64 a1_1, .int .i64 a1_2, .int .i64 a1_3, .int .i64 a1_4, .int .i64 a1_5, .int .i64 a1_6]] (by rfl) rfl rfl aq ?_
    with_reducible refine (laws_toWish.calls a1_0 a1_1 a1_2 a1_3 a1_4 a1_5 a1_6 t312 t313 t314 t315 t316 t317 t318 _ A12.out).mono ?_
    rintro e w26 ⟨rfl, hb⟩
    refine ⟨_, rfl, ?_⟩
    have n_ := And.intro (Aside0.mk (Kd.R_below (rq HO307.out) hb)) (And.intro (Aside0.mk (Kd.R_below (rq HO310.out) hb)) (And.intro (Aside0.mk (bbq BK302.out hb)) (And.intro (Aside0.mk (bbq BK303.out hb)) (And.intro (Aside0.mk (bbq BK328.out hb)) (Aside0.mk (below_step (bw3 HB.out GE302.out GE303.out GE328.out) hb))))))
    clear HO307 HO310 BK302 BK303 BK328 HB
    obtain ⟨HO307, HO310, BK302, BK303, BK328, HB⟩ := n_
    (try clear hb)
    (try clear hb2)
    (try clear hk)
    (try clear hi)
    obtain ⟨Ao27, co27, eo27⟩ := Kd.R_slice HO307.out
    (first | subst eo27 | (injection eo27 with f1_ f2_ f3_; have f4_ := f1_.symm; have f5_ := f3_.symm; clear f1_ f2_ f3_; subst f4_; subst f5_))
    obtain ⟨Ao28, co28, eo28⟩ := Kd.R_slice HO310.out
    (first | subst eo28 | (injection eo28 with f1_ f2_ f3_; have f4_ := f1_.symm; have f5_ := f3_.symm; clear f1_ f2_ f3_; subst f4_; subst f5_))
    refine hK.out _ _ (cr3 BK302.out (cl7 BK303.out)) (fun hHeld => ?_)
    clear hK K
    refine norm_ (a' := ?_) ?_ ?_
    rotate_left
    ·show Act.put _ (some 32) _ = _
     simp only [apn]
     rfl
    refine one_ (i := 6) (N := some 35) #[true, true, true, true, true, true, true, false, false, false, false, true, false, false, false] rfl rfl (one_of HT_.out (by kernel_rfl)) (by decide) (fun K hK => ?_)
    refine goes_ Try.func12 (by kernel_rfl) rfl #[.agg #[.slice Ao27 t305.length co27, .slice Ao28 t308.length co28, .int .i64 t311], .agg #[.int .i64 t312, .int .i64 t313, .int .i64 t314, .int .i64 t315, .int .i64 t316, .int .i64 t317, .int .i64 t318], .int .i64 a2, .int .i64 a3] (by rfl) rfl rfl aq ?_
    with_reducible refine (spec_ApplyWish.calls k _ _ t305 _ _ t308 t311 t312 t313 t314 t315 t316 t317 t318 a2 a3 t319 t322 t325 t326 t327 _ ?side1 ?side2 ?side3 ?side4 A13.out).mono ?_
    (case side1 => exact caq (Kd.R_reads' HO307.out).2.2)
    (case side2 => exact (Kd.R_reads' HO307.out).2.1)
    (case side3 => exact caq (Kd.R_reads' HO310.out).2.2)
    (case side4 => exact (Kd.R_reads' HO310.out).2.1)
    rintro e w29 ⟨v320, v323, rfl, ho0, ho1, hb⟩
    refine ⟨_, rfl, ?_⟩
    have n_ := And.intro (Aside0.mk (Kd.R_mono (Kd.R_told (Kd.R_told (Kd.R_old (rq HO307.out) hb) (Kd.R_base ho0)) (Kd.R_base ho1)) (fun _ h_ => h_.1))) (And.intro (Aside0.mk (Kd.R_mono (Kd.R_told (Kd.R_told (Kd.R_old (rq HO310.out) hb) (Kd.R_base ho0)) (Kd.R_base ho1)) (fun _ h_ => h_.1))) (And.intro (Aside0.mk (Kd.R_lower (Kd.R_new' (Kd.R_new' ho0 (Kd.R_lt (rq HO307.out))) (Kd.R_lt (rq HO310.out))) (below_size (bw3 HB.out GE302.out GE303.out GE328.out)))) (And.intro (Aside0.mk (Kd.R_lower (Kd.R_new' (Kd.R_new' ho1 (Kd.R_lt (rq HO307.out))) (Kd.R_lt (rq HO310.out))) (below_size (bw3 HB.out GE302.out GE303.out GE328.out)))) (And.intro (Aside0.mk (bbq BK302.out hb)) (And.intro (Aside0.mk (bbq BK303.out hb)) (And.intro (Aside0.mk (bbq BK328.out hb)) (Aside0.mk (below_step (bw3 HB.out GE302.out GE303.out GE328.out) hb))))))))
    clear HO307 HO310 BK302 BK303 BK328 HB
    obtain ⟨HO307, HO310, HO321, HO324, BK302, BK303, BK328, HB⟩ := n_
    (try clear hb)
    (try clear hb2)
    (try clear hk)
    (try clear hi)
    (try clear ho0)
    (try clear ho1)
    refine hK.out _ _ (cr3 BK302.out (cl7 BK303.out)) (fun hHeld => ?_)
    clear hK K
    refine norm_ (a' := ?_) ?_ ?_
    rotate_left
    ·show Act.put _ (some 35) _ = _
     simp only [apn]
     rfl
    refine pure_ (i := 7) (N := some 28) (v := ?_) (a' := ?_) #[true, true, true, true, true, true, true, true, false, false, false, true, false, false, false] rfl rfl (any_of HT_.out (by kernel_rfl)) (fun _ _ _ h => h) (Or.inl ⟨by rfl, ?_⟩) ?_ ?_
    rotate_left
    ·intro w'
     go_simp
     with_reducible rfl
    rotate_left
    ·simp only [apn]
     rfl
    refine pure_ (i := 8) (N := some 36) (v := ?_) (a' := ?_) #[true, true, true, true, true, true, true, true, true, false, false, true, false, false, false] rfl rfl (any_of HT_.out (by kernel_rfl)) (fun _ _ _ h => h) (Or.inl ⟨by rfl, ?_⟩) ?_ ?_
    rotate_left
    ·intro w'
     go_simp
     with_reducible rfl
    rotate_left
    ·simp only [apn]
     rfl
    refine pure_ (i := 9) (N := some 37) (v := ?_) (a' := ?_) #[true, true, true, true, true, true, true, true, true, true, false, true, false, false, false] rfl rfl (any_of HT_.out (by kernel_rfl)) (fun _ _ _ h => h) (Or.inl ⟨by rfl, ?_⟩) ?_ ?_
    rotate_left
    ·intro w'
     go_simp
     with_reducible rfl
    rotate_left
    ·simp only [apn]
     rfl
    refine pure_ (i := 10) (N := some 38) (v := ?_) (a' := ?_) #[true, true, true, true, true, true, true, true, true, true, true, true, false, false, false] rfl rfl (any_of HT_.out (by kernel_rfl)) (fun _ _ _ h => h) (Or.inl ⟨by rfl, ?_⟩) ?_ ?_
    rotate_left
    ·intro w'
     go_simp
     with_reducible rfl
    rotate_left
    ·simp only [apn]
     rfl
    exact norm_ (by simp only [putAll, Act.put, List.setIfInBounds_toArray, List.set_cons_zero, List.set_cons_succ]) (hCont (.slice Ao27 t305.length co27, .slice Ao28 t308.length co28, v320, v323, gb328) _ ⟨hHeld, (rmq HO307.out (fun _ hk => ⟨hk.1.1, ⟨hk.1.2, hk.2⟩⟩)), (rmq HO310.out (fun _ hk => ⟨hk.1.1, ⟨hk.1.2, hk.2⟩⟩)), (rmq HO321.out (fun _ hk => ⟨hk.1.2, ⟨hk.2, hk.1.1⟩⟩)), (rmq HO324.out (fun _ hk => ⟨hk.1.2, ⟨hk.2, hk.1.1⟩⟩)), (bq BK302.out), (bq BK303.out), (bq BK328.out), GW328.out, GE328.out, NB302_328.out, NB328_302.out, NB303_328.out, NB328_303.out, (bw3 HB.out GE302.out GE303.out GE328.out)⟩)
  rintro ⟨v306, v309, v320, v323, gb328⟩ w30 ⟨hS_, h0_, h1_, h2_, h3_, h4_, h5_, h6_, h7_, h8_, h9_, h10_, h11_, h12_, h13_⟩
  have n0_ : Aside0 (Kd.R (Kd.int .i64) 3 w30 w.heap.size (fun k_ => some k_ ≠ (v309 : Value).ownBlock ∧ some k_ ≠ (v320 : Value).ownBlock ∧ some k_ ≠ (v323 : Value).ownBlock) v306 t305) := ⟨h0_⟩
  have n1_ : Aside0 (Kd.R (Kd.int .i64) 3 w30 w.heap.size (fun k_ => some k_ ≠ (v306 : Value).ownBlock ∧ some k_ ≠ (v320 : Value).ownBlock ∧ some k_ ≠ (v323 : Value).ownBlock) v309 t308) := ⟨h1_⟩
  have n2_ : Aside0 (Kd.R (Kd.int .i64) 3 w30 w.heap.size (fun k_ => some k_ ≠ (v306 : Value).ownBlock ∧ some k_ ≠ (v309 : Value).ownBlock ∧ some k_ ≠ (v323 : Value).ownBlock) v320 t319) := ⟨h2_⟩
  have n3_ : Aside0 (Kd.R (Kd.int .i64) 3 w30 w.heap.size (fun k_ => some k_ ≠ (v306 : Value).ownBlock ∧ some k_ ≠ (v309 : Value).ownBlock ∧ some k_ ≠ (v320 : Value).ownBlock) v323 t322) := ⟨h3_⟩
  have n4_ : Aside0 (w30.heap[gb302]? = some (.cells #[.slice A0_0 l0_0.length c0_0, .slice A0_1 l0_1.length c0_1, .int .i64 a0_2] 24 (0, 0))) := ⟨h4_⟩
  have n5_ : Aside0 (w30.heap[gb303]? = some (.cells #[.int .i64 a1_0, .int .i64 a1_1, .int .i64 a1_2, .int .i64 a1_3, .int .i64 a1_4, .int .i64 a1_5, .int .i64 a1_6] 26 (0, 0))) := ⟨h5_⟩
  have n6_ : Aside0 (w30.heap[gb328]? = some (.cells #[.slice none 0 0, .slice none 0 0, .int .i64 0] 28 (0, 0))) := ⟨h6_⟩
  have n7_ : Aside0 (w.heap.size ≤ gb328) := ⟨h7_⟩
  have n8_ : Aside0 (w.heap.size ≤ gb328) := ⟨h8_⟩
  have n9_ : Aside0 (gb302 ≠ gb328) := ⟨h9_⟩
  have n10_ : Aside0 (gb328 ≠ gb302) := ⟨h10_⟩
  have n11_ : Aside0 (gb303 ≠ gb328) := ⟨h11_⟩
  have n12_ : Aside0 (gb328 ≠ gb303) := ⟨h12_⟩
  have n13_ : Aside0 (Below w.heap.size w w30) := ⟨h13_⟩
  clear BK302
  clear BK303
  clear HB
  clear h0_ h1_ h2_ h3_ h4_ h5_ h6_ h7_ h8_ h9_ h10_ h11_ h12_ h13_
  have HO307 := n0_
  have HO310 := n1_
  have HO321 := n2_
  have HO324 := n3_
  have BK302 := n4_
  have BK303 := n5_
  have BK328 := n6_
  have GW328 := n7_
  have GE328 := n8_
  have NB302_328 := n9_
  have NB328_302 := n10_
  have NB303_328 := n11_
  have NB328_303 := n12_
  have HB := n13_
  clear n0_ n1_ n2_ n3_ n4_ n5_ n6_ n7_ n8_ n9_ n10_ n11_ n12_ n13_
  have hHeld : w30.cell? ⟨gb302, 0, none⟩ = some (.slice A0_0 l0_0.length c0_0) ∧ w30.cell? ⟨gb302, 1, none⟩ = some (.slice A0_1 l0_1.length c0_1) ∧ w30.cell? ⟨gb302, 2, none⟩ = some (.int .i64 a0_2) ∧ w30.cell? ⟨gb303, 0, none⟩ = some (.int .i64 a1_0) ∧ w30.cell? ⟨gb303, 1, none⟩ = some (.int .i64 a1_1) ∧ w30.cell? ⟨gb303, 2, none⟩ = some (.int .i64 a1_2) ∧ w30.cell? ⟨gb303, 3, none⟩ = some (.int .i64 a1_3) ∧ w30.cell? ⟨gb303, 4, none⟩ = some (.int .i64 a1_4) ∧ w30.cell? ⟨gb303, 5, none⟩ = some (.int .i64 a1_5) ∧ w30.cell? ⟨gb303, 6, none⟩ = some (.int .i64 a1_6) := hS_
  obtain ⟨Ao31, co31, eo31⟩ := Kd.R_slice HO321.out
  (first | subst eo31 | (injection eo31 with f1_ f2_ f3_; have f4_ := f1_.symm; have f5_ := f3_.symm; clear f1_ f2_ f3_; subst f4_; subst f5_))
  obtain ⟨Ao33, co33, eo33⟩ := Kd.R_slice HO324.out
  (first | subst eo33 | (injection eo33 with f1_ f2_ f3_; have f4_ := f1_.symm; have f5_ := f3_.symm; clear f1_ f2_ f3_; subst f4_; subst f5_))
  refine norm_ (a' := ?_) ?_ ?_
  rotate_left
  ·simp only [putAll, Act.put, List.setIfInBounds_toArray, List.set_cons_zero, List.set_cons_succ]
   rfl
  refine one_ (i := 12) (N := none) #[true, true, true, true, true, true, true, true, true, true, true, true, true, false, false] rfl rfl (one_of HT_.out (by kernel_rfl)) (by decide) (fun K hK => ?_)
  have hs32 : w30.cell? ⟨gb328, 0, none⟩ = some (.slice none 0 0) := (blk_cell BK328.out 0).trans rfl
  have hfs32 := blk_frozen BK328.out 0
  have hns32_0 := NB302_328.out
  have hns32_1 := NB303_328.out
  have hms32_0 := NB328_302.out
  have hms32_1 := NB328_303.out
  have hs34 : w30.cell? ⟨gb328, 1, none⟩ = some (.slice none 0 0) := (blk_cell BK328.out 1).trans rfl
  have hfs34 := blk_frozen BK328.out 1
  have hns34_0 := NB302_328.out
  have hns34_1 := NB303_328.out
  have hms34_0 := NB328_302.out
  have hms34_1 := NB328_303.out
  have hs35 : w30.cell? ⟨gb328, 2, none⟩ = some (.int .i64 0) := (blk_cell BK328.out 2).trans rfl
  have hfs35 := blk_frozen BK328.out 2
  have hns35_0 := NB302_328.out
  have hns35_1 := NB303_328.out
  have hms35_0 := NB328_302.out
  have hms35_1 := NB328_303.out
  refine skip_ (w1 := ?_) (by rfl) rfl ?_ ?_
  rotate_left
  ·go_simp
   rfl
  refine hK.out _ _ ⟨((cell_far (p := ⟨gb328, _, none⟩) NB302_328.out _).trans (((cell_far (p := ⟨gb328, _, none⟩) NB302_328.out _).trans (((cell_far (p := ⟨gb328, _, none⟩) NB302_328.out _).trans (hHeld.1)))))), ((cell_far (p := ⟨gb328, _, none⟩) NB302_328.out _).trans (((cell_far (p := ⟨gb328, _, none⟩) NB302_328.out _).trans (((cell_far (p := ⟨gb328, _, none⟩) NB302_328.out _).trans (hHeld.2.1)))))), ((cell_far (p := ⟨gb328, _, none⟩) NB302_328.out _).trans (((cell_far (p := ⟨gb328, _, none⟩) NB302_328.out _).trans (((cell_far (p := ⟨gb328, _, none⟩) NB302_328.out _).trans (hHeld.2.2.1)))))), ((cell_far (p := ⟨gb328, _, none⟩) NB303_328.out _).trans (((cell_far (p := ⟨gb328, _, none⟩) NB303_328.out _).trans (((cell_far (p := ⟨gb328, _, none⟩) NB303_328.out _).trans (hHeld.2.2.2.1)))))), ((cell_far (p := ⟨gb328, _, none⟩) NB303_328.out _).trans (((cell_far (p := ⟨gb328, _, none⟩) NB303_328.out _).trans (((cell_far (p := ⟨gb328, _, none⟩) NB303_328.out _).trans (hHeld.2.2.2.2.1)))))), ((cell_far (p := ⟨gb328, _, none⟩) NB303_328.out _).trans (((cell_far (p := ⟨gb328, _, none⟩) NB303_328.out _).trans (((cell_far (p := ⟨gb328, _, none⟩) NB303_328.out _).trans (hHeld.2.2.2.2.2.1)))))), ((cell_far (p := ⟨gb328, _, none⟩) NB303_328.out _).trans (((cell_far (p := ⟨gb328, _, none⟩) NB303_328.out _).trans (((cell_far (p := ⟨gb328, _, none⟩) NB303_328.out _).trans (hHeld.2.2.2.2.2.2.1)))))), ((cell_far (p := ⟨gb328, _, none⟩) NB303_328.out _).trans (((cell_far (p := ⟨gb328, _, none⟩) NB303_328.out _).trans (((cell_far (p := ⟨gb328, _, none⟩) NB303_328.out _).trans (hHeld.2.2.2.2.2.2.2.1)))))), ((cell_far (p := ⟨gb328, _, none⟩) NB303_328.out _).trans (((cell_far (p := ⟨gb328, _, none⟩) NB303_328.out _).trans (((cell_far (p := ⟨gb328, _, none⟩) NB303_328.out _).trans (hHeld.2.2.2.2.2.2.2.2.1)))))), ((cell_far (p := ⟨gb328, _, none⟩) NB303_328.out _).trans (((cell_far (p := ⟨gb328, _, none⟩) NB303_328.out _).trans (((cell_far (p := ⟨gb328, _, none⟩) NB303_328.out _).trans (hHeld.2.2.2.2.2.2.2.2.2))))))⟩ (fun hHeld => ?_)
  clear hK K
  refine pure_ (i := 13) (N := some 11) (v := ?_) (a' := ?_) #[true, true, true, true, true, true, true, true, true, true, true, true, true, true, false] rfl rfl (any_of HT_.out (by kernel_rfl)) (fun _ _ _ h => h) (Or.inl ⟨by rfl, ?_⟩) ?_ ?_
  rotate_left
  ·intro w'
   go_simp
   with_reducible rfl
  rotate_left
  ·simp only [apn]
   rfl
  refine pure_ (i := 14) (N := some 12) (v := ?_) (a' := ?_) #[true, true, true, true, true, true, true, true, true, true, true, true, true, true, true] rfl rfl (any_of HT_.out (by kernel_rfl)) (fun _ _ _ h => h) (Or.inl ⟨by rfl, ?_⟩) ?_ ?_
  rotate_left
  ·intro w'
   go_simp
   with_reducible rfl
  rotate_left
  ·simp only [apn]
   rfl
  refine done_ (done_of HT_.out (by kernel_rfl)) ?_
  have hnb36 := NB302_328.out
  have hnc36 := NB328_302.out
  obtain ⟨hcz37_0, hcz37_1, hcz37_2, hfz37_0, hfz37_1, hfz37_2⟩ := cq3 BK302.out
  try go_wp2_with (first | ((with_reducible refine gate_callee (f := 13) rfl ?_); refine goesL_ (some 40) rfl rfl Try.func13 (by kernel_rfl) rfl #[.agg #[.slice A0_0 l0_0.length c0_0, .slice A0_1 l0_1.length c0_1, .int .i64 a0_2]] rfl aq ?_; (with_reducible refine (laws_toState.calls k _ _ l0_0 _ _ l0_1 a0_2 t329 t332 t335 _ ?side1 ?side2 ?side3 ?side4 A14.out).mono ?_); (case side1 => exact Kd.C_below HR0_0.out (bw3 HB.out GE302.out GE303.out GE328.out)); (case side2 => exact HC0_0.out); (case side3 => exact Kd.C_below HR0_1.out (bw3 HB.out GE302.out GE303.out GE328.out)); (case side4 => exact HC0_1.out); rintro e w38 ⟨v330, v333, rfl, ho0, ho1, hb⟩; refine ⟨_, rfl, ?_⟩; have n_ := And.intro (Aside0.mk (Kd.R_mono (Kd.R_told (Kd.R_told (Kd.R_old (by (with_reducible repeat (first | apply Kd.R_alloc | apply Kd.R_drewN | apply Kd.R_drew)); exact (rf3 HO307.out BK328.out)) hb) (Kd.R_base ho0)) (Kd.R_base ho1)) (fun _ h_ => h_.1))) (And.intro (Aside0.mk (Kd.R_mono (Kd.R_told (Kd.R_told (Kd.R_old (by (with_reducible repeat (first | apply Kd.R_alloc | apply Kd.R_drewN | apply Kd.R_drew)); exact (rf3 HO310.out BK328.out)) hb) (Kd.R_base ho0)) (Kd.R_base ho1)) (fun _ h_ => h_.1))) (And.intro (Aside0.mk (Kd.R_mono (Kd.R_told (Kd.R_told (Kd.R_old (by (with_reducible repeat (first | apply Kd.R_alloc | apply Kd.R_drewN | apply Kd.R_drew)); exact (rf3 HO321.out BK328.out)) hb) (Kd.R_base ho0)) (Kd.R_base ho1)) (fun _ h_ => h_.1))) (And.intro (Aside0.mk (Kd.R_mono (Kd.R_told (Kd.R_told (Kd.R_old (by (with_reducible repeat (first | apply Kd.R_alloc | apply Kd.R_drewN | apply Kd.R_drew)); exact (rf3 HO324.out BK328.out)) hb) (Kd.R_base ho0)) (Kd.R_base ho1)) (fun _ h_ => h_.1))) (And.intro (Aside0.mk (Kd.R_lower (Kd.R_new' (Kd.R_new' (Kd.R_new' (Kd.R_new' ho0 (Kd.R_lt (by (with_reducible repeat (first | apply Kd.R_alloc | apply Kd.R_drewN | apply Kd.R_drew)); exact (rf3 HO307.out BK328.out)))) (Kd.R_lt (by (with_reducible repeat (first | apply Kd.R_alloc | apply Kd.R_drewN | apply Kd.R_drew)); exact (rf3 HO310.out BK328.out)))) (Kd.R_lt (by (with_reducible repeat (first | apply Kd.R_alloc | apply Kd.R_drewN | apply Kd.R_drew)); exact (rf3 HO321.out BK328.out)))) (Kd.R_lt (by (with_reducible repeat (first | apply Kd.R_alloc | apply Kd.R_drewN | apply Kd.R_drew)); exact (rf3 HO324.out BK328.out)))) (below_size (bw3 HB.out GE302.out GE303.out GE328.out)))) (And.intro (Aside0.mk (Kd.R_lower (Kd.R_new' (Kd.R_new' (Kd.R_new' (Kd.R_new' ho1 (Kd.R_lt (by (with_reducible repeat (first | apply Kd.R_alloc | apply Kd.R_drewN | apply Kd.R_drew)); exact (rf3 HO307.out BK328.out)))) (Kd.R_lt (by (with_reducible repeat (first | apply Kd.R_alloc | apply Kd.R_drewN | apply Kd.R_drew)); exact (rf3 HO310.out BK328.out)))) (Kd.R_lt (by (with_reducible repeat (first | apply Kd.R_alloc | apply Kd.R_drewN | apply Kd.R_drew)); exact (rf3 HO321.out BK328.out)))) (Kd.R_lt (by (with_reducible repeat (first | apply Kd.R_alloc | apply Kd.R_drewN | apply Kd.R_drew)); exact (rf3 HO324.out BK328.out)))) (below_size (bw3 HB.out GE302.out GE303.out GE328.out)))) (And.intro (Aside0.mk (blk_below (bf3 BK302.out NB302_328.out) hb)) (And.intro (Aside0.mk (blk_below (bf3 BK303.out NB303_328.out) hb)) (And.intro (Aside0.mk (blk_below (bp3 BK328.out) hb)) (Aside0.mk (below_step (bw3 HB.out GE302.out GE303.out GE328.out) hb)))))))))); clear HO307 HO310 HO321 HO324 BK302 BK303 BK328 HB; obtain ⟨HO307, HO310, HO321, HO324, HO331, HO334, BK302, BK303, BK328, HB⟩ := n_; (try clear hb); (try clear hb2); (try clear hk); (try clear hi); (try clear ho0); (try clear ho1)) | ((with_reducible refine gate_dst (N := 13) rfl ?_); refine box_event ?hg (N := 13) ?hd (cs := #[.slice none 0 0, .slice none 0 0, .int .i64 0]) (t := 28) ?hr ?_; (case hd => rfl); (case hg => rfl); (case hr => first | (go_simp; done) | (go_simp; rfl)); intro gb336 hg w39 hbox hb; have n_ := And.intro (Aside0.mk (Kd.R_below (rq HO321.out) hb)) (And.intro (Aside0.mk (Kd.R_below (rq HO324.out) hb)) (And.intro (Aside0.mk (Kd.R_below (rq HO331.out) hb)) (And.intro (Aside0.mk (Kd.R_below (rq HO334.out) hb)) (And.intro (Aside0.mk (bbq BK302.out hb)) (And.intro (Aside0.mk (bbq BK303.out hb)) (And.intro (Aside0.mk (bbq BK328.out hb)) (And.intro (Aside0.mk (below_step (bw3 HB.out GE302.out GE303.out GE328.out) hb)) (And.intro (Aside0.mk (hbox)) (And.intro (Aside0.mk ((by rw [hg]; exact (below_size (bw3 HB.out GE302.out GE303.out GE328.out)) : w.heap.size ≤ gb336))) (And.intro (Aside0.mk ((nlq BK302.out hg))) (And.intro (Aside0.mk ((ngq BK302.out hg))) (And.intro (Aside0.mk ((nlq BK303.out hg))) (And.intro (Aside0.mk ((ngq BK303.out hg))) (And.intro (Aside0.mk ((nlq BK328.out hg))) (Aside0.mk ((ngq BK328.out hg))))))))))))))))); clear HO321 HO324 HO331 HO334 BK302 BK303 BK328 HB; obtain ⟨HO321, HO324, HO331, HO334, BK302, BK303, BK328, HB, BK336, GW336, NB302_336, NB336_302, NB303_336, NB336_303, NB328_336, NB336_328⟩ := n_; have GE336 := GW336; clear hb hbox hg; obtain ⟨Ao40, co40, eo40⟩ := Kd.R_slice HO331.out; subst eo40; have hnb41 := NB336_302.out; have hnc41 := NB302_336.out; have hnb42 := NB336_303.out; have hnc42 := NB303_336.out; have hnb43 := NB336_328.out; have hnc43 := NB328_336.out; obtain ⟨hcz44_0, hcz44_1, hcz44_2, hfz44_0, hfz44_1, hfz44_2⟩ := cq3 BK336.out; obtain ⟨Ao45, co45, eo45⟩ := Kd.R_slice HO334.out; subst eo45))
  have n0_ : Aside0 (Kd.R (Kd.int .i64) 3 (((w39.setCell ⟨gb336, 0, none⟩ (.slice Ao40 t329.length co40)).setCell ⟨gb336, 1, none⟩ (.slice Ao45 t332.length co45)).setCell ⟨gb336, 2, none⟩ (.int .i64 t335)) w.heap.size (fun k_ => some k_ ≠ (.slice Ao33 t322.length co33 : Value).ownBlock ∧ some k_ ≠ (.slice Ao40 t329.length co40 : Value).ownBlock ∧ some k_ ≠ (.slice Ao45 t332.length co45 : Value).ownBlock) (.slice Ao31 t319.length co31) t319) := ⟨by (with_reducible repeat (first | apply Kd.R_alloc | apply Kd.R_drewN | apply Kd.R_drew)); exact Kd.R_mono (Kd.R_far (p := ⟨gb336, 2, none⟩) (Kd.R_far (p := ⟨gb336, 1, none⟩) (Kd.R_far (p := ⟨gb336, 0, none⟩) (Kd.R_types HO321.out BK336.out (by decide)) (fun _ hk => hk.2) (.slice Ao40 t329.length co40)) (fun _ hk => hk.2) (.slice Ao45 t332.length co45)) (fun _ hk => hk.2) (.int .i64 t335)) (fun _ hk => ⟨hk.1.1.1.2.2, ⟨hk.1.1.2, hk.1.2⟩⟩)⟩
  have n1_ : Aside0 (Kd.R (Kd.int .i64) 3 (((w39.setCell ⟨gb336, 0, none⟩ (.slice Ao40 t329.length co40)).setCell ⟨gb336, 1, none⟩ (.slice Ao45 t332.length co45)).setCell ⟨gb336, 2, none⟩ (.int .i64 t335)) w.heap.size (fun k_ => some k_ ≠ (.slice Ao31 t319.length co31 : Value).ownBlock ∧ some k_ ≠ (.slice Ao40 t329.length co40 : Value).ownBlock ∧ some k_ ≠ (.slice Ao45 t332.length co45 : Value).ownBlock) (.slice Ao33 t322.length co33) t322) := ⟨by (with_reducible repeat (first | apply Kd.R_alloc | apply Kd.R_drewN | apply Kd.R_drew)); exact Kd.R_mono (Kd.R_far (p := ⟨gb336, 2, none⟩) (Kd.R_far (p := ⟨gb336, 1, none⟩) (Kd.R_far (p := ⟨gb336, 0, none⟩) (Kd.R_types HO324.out BK336.out (by decide)) (fun _ hk => hk.2) (.slice Ao40 t329.length co40)) (fun _ hk => hk.2) (.slice Ao45 t332.length co45)) (fun _ hk => hk.2) (.int .i64 t335)) (fun _ hk => ⟨hk.1.1.1.2.2, ⟨hk.1.1.2, hk.1.2⟩⟩)⟩
  have n2_ : Aside0 (Kd.R (Kd.int .i64) 3 (((w39.setCell ⟨gb336, 0, none⟩ (.slice Ao40 t329.length co40)).setCell ⟨gb336, 1, none⟩ (.slice Ao45 t332.length co45)).setCell ⟨gb336, 2, none⟩ (.int .i64 t335)) w.heap.size (fun k_ => some k_ ≠ (.slice Ao31 t319.length co31 : Value).ownBlock ∧ some k_ ≠ (.slice Ao33 t322.length co33 : Value).ownBlock ∧ some k_ ≠ (.slice Ao45 t332.length co45 : Value).ownBlock) (.slice Ao40 t329.length co40) t329) := ⟨by (with_reducible repeat (first | apply Kd.R_alloc | apply Kd.R_drewN | apply Kd.R_drew)); exact Kd.R_mono (Kd.R_far (p := ⟨gb336, 2, none⟩) (Kd.R_far (p := ⟨gb336, 1, none⟩) (Kd.R_far (p := ⟨gb336, 0, none⟩) (Kd.R_types HO331.out BK336.out (by decide)) (fun _ hk => hk.2) (.slice Ao40 t329.length co40)) (fun _ hk => hk.2) (.slice Ao45 t332.length co45)) (fun _ hk => hk.2) (.int .i64 t335)) (fun _ hk => ⟨hk.1.1.2, ⟨hk.1.2, hk.1.1.1.1.1⟩⟩)⟩
  have n3_ : Aside0 (Kd.R (Kd.int .i64) 3 (((w39.setCell ⟨gb336, 0, none⟩ (.slice Ao40 t329.length co40)).setCell ⟨gb336, 1, none⟩ (.slice Ao45 t332.length co45)).setCell ⟨gb336, 2, none⟩ (.int .i64 t335)) w.heap.size (fun k_ => some k_ ≠ (.slice Ao31 t319.length co31 : Value).ownBlock ∧ some k_ ≠ (.slice Ao33 t322.length co33 : Value).ownBlock ∧ some k_ ≠ (.slice Ao40 t329.length co40 : Value).ownBlock) (.slice Ao45 t332.length co45) t332) := ⟨by (with_reducible repeat (first | apply Kd.R_alloc | apply Kd.R_drewN | apply Kd.R_drew)); exact Kd.R_mono (Kd.R_far (p := ⟨gb336, 2, none⟩) (Kd.R_far (p := ⟨gb336, 1, none⟩) (Kd.R_far (p := ⟨gb336, 0, none⟩) (Kd.R_types HO334.out BK336.out (by decide)) (fun _ hk => hk.2) (.slice Ao40 t329.length co40)) (fun _ hk => hk.2) (.slice Ao45 t332.length co45)) (fun _ hk => hk.2) (.int .i64 t335)) (fun _ hk => ⟨hk.1.1.2, ⟨hk.1.2, hk.1.1.1.1.1⟩⟩)⟩
  have n4_ : Aside0 ((((w39.setCell ⟨gb336, 0, none⟩ (.slice Ao40 t329.length co40)).setCell ⟨gb336, 1, none⟩ (.slice Ao45 t332.length co45)).setCell ⟨gb336, 2, none⟩ (.int .i64 t335)).heap[gb302]? = some (.cells #[.slice A0_0 l0_0.length c0_0, .slice A0_1 l0_1.length c0_1, .int .i64 a0_2] 24 (0, 0))) := ⟨by (with_reducible repeat (first | refine blk_drewN ?_ _ | refine blk_drew ?_ | refine blk_alloc ?_ _)); refine blk_far ?_ NB302_336.out _; (with_reducible repeat (first | refine blk_drewN ?_ _ | refine blk_drew ?_ | refine blk_alloc ?_ _)); refine blk_far ?_ NB302_336.out _; (with_reducible repeat (first | refine blk_drewN ?_ _ | refine blk_drew ?_ | refine blk_alloc ?_ _)); refine blk_far ?_ NB302_336.out _; (with_reducible repeat (first | refine blk_drewN ?_ _ | refine blk_drew ?_ | refine blk_alloc ?_ _)); exact BK302.out⟩
  have n5_ : Aside0 ((((w39.setCell ⟨gb336, 0, none⟩ (.slice Ao40 t329.length co40)).setCell ⟨gb336, 1, none⟩ (.slice Ao45 t332.length co45)).setCell ⟨gb336, 2, none⟩ (.int .i64 t335)).heap[gb303]? = some (.cells #[.int .i64 a1_0, .int .i64 a1_1, .int .i64 a1_2, .int .i64 a1_3, .int .i64 a1_4, .int .i64 a1_5, .int .i64 a1_6] 26 (0, 0))) := ⟨by (with_reducible repeat (first | refine blk_drewN ?_ _ | refine blk_drew ?_ | refine blk_alloc ?_ _)); refine blk_far ?_ NB303_336.out _; (with_reducible repeat (first | refine blk_drewN ?_ _ | refine blk_drew ?_ | refine blk_alloc ?_ _)); refine blk_far ?_ NB303_336.out _; (with_reducible repeat (first | refine blk_drewN ?_ _ | refine blk_drew ?_ | refine blk_alloc ?_ _)); refine blk_far ?_ NB303_336.out _; (with_reducible repeat (first | refine blk_drewN ?_ _ | refine blk_drew ?_ | refine blk_alloc ?_ _)); exact BK303.out⟩
  have n6_ : Aside0 ((((w39.setCell ⟨gb336, 0, none⟩ (.slice Ao40 t329.length co40)).setCell ⟨gb336, 1, none⟩ (.slice Ao45 t332.length co45)).setCell ⟨gb336, 2, none⟩ (.int .i64 t335)).heap[gb328]? = some (.cells #[.slice Ao31 t319.length co31, .slice Ao33 t322.length co33, .int .i64 t325] 28 (0, 0))) := ⟨by (with_reducible repeat (first | refine blk_drewN ?_ _ | refine blk_drew ?_ | refine blk_alloc ?_ _)); refine blk_far ?_ NB328_336.out _; (with_reducible repeat (first | refine blk_drewN ?_ _ | refine blk_drew ?_ | refine blk_alloc ?_ _)); refine blk_far ?_ NB328_336.out _; (with_reducible repeat (first | refine blk_drewN ?_ _ | refine blk_drew ?_ | refine blk_alloc ?_ _)); refine blk_far ?_ NB328_336.out _; (with_reducible repeat (first | refine blk_drewN ?_ _ | refine blk_drew ?_ | refine blk_alloc ?_ _)); exact BK328.out⟩
  have n7_ : Aside0 ((((w39.setCell ⟨gb336, 0, none⟩ (.slice Ao40 t329.length co40)).setCell ⟨gb336, 1, none⟩ (.slice Ao45 t332.length co45)).setCell ⟨gb336, 2, none⟩ (.int .i64 t335)).heap[gb336]? = some (.cells #[.slice Ao40 t329.length co40, .slice Ao45 t332.length co45, .int .i64 t335] 28 (0, 0))) := ⟨by (with_reducible repeat (first | refine blk_drewN ?_ _ | refine blk_drew ?_ | refine blk_alloc ?_ _)); refine blk_put (cs := #[.slice Ao40 t329.length co40, .slice Ao45 t332.length co45, .int .i64 0]) ?_ 2 _ rfl; (with_reducible repeat (first | refine blk_drewN ?_ _ | refine blk_drew ?_ | refine blk_alloc ?_ _)); refine blk_put (cs := #[.slice Ao40 t329.length co40, .slice none 0 0, .int .i64 0]) ?_ 1 _ rfl; (with_reducible repeat (first | refine blk_drewN ?_ _ | refine blk_drew ?_ | refine blk_alloc ?_ _)); refine blk_put (cs := #[.slice none 0 0, .slice none 0 0, .int .i64 0]) ?_ 0 _ rfl; (with_reducible repeat (first | refine blk_drewN ?_ _ | refine blk_drew ?_ | refine blk_alloc ?_ _)); exact BK336.out⟩
  have n8_ : Aside0 (Below w.heap.size w (((w39.setCell ⟨gb336, 0, none⟩ (.slice Ao40 t329.length co40)).setCell ⟨gb336, 1, none⟩ (.slice Ao45 t332.length co45)).setCell ⟨gb336, 2, none⟩ (.int .i64 t335))) := ⟨by repeat (first | (with_reducible first | exact HB.out | apply below_alloc | apply pw_below_drewN | apply below_drew1 | refine below_set ?_ GE302.out | refine below_set ?_ GE303.out | refine below_set ?_ GE328.out | refine below_set ?_ GE336.out) | exact HB.out)⟩
  (try clear HO321)
  (try clear HO324)
  (try clear HO331)
  (try clear HO334)
  (try clear BK302)
  (try clear BK303)
  (try clear BK328)
  (try clear BK336)
  (try clear HB)
  generalize (((w39.setCell ⟨gb336, 0, none⟩ (.slice Ao40 t329.length co40)).setCell ⟨gb336, 1, none⟩ (.slice Ao45 t332.length co45)).setCell ⟨gb336, 2, none⟩ (.int .i64 t335)) = w46 at n0_ n1_ n2_ n3_ n4_ n5_ n6_ n7_ n8_ ⊢
  have HO321 := n0_
  have HO324 := n1_
  have HO331 := n2_
  have HO334 := n3_
  have BK302 := n4_
  have BK303 := n5_
  have BK328 := n6_
  have BK336 := n7_
  have HB := n8_
  clear n0_ n1_ n2_ n3_ n4_ n5_ n6_ n7_ n8_
  have n_ := And.intro (Aside0.mk (Kd.R_drew HO321.out)) (And.intro (Aside0.mk (Kd.R_drew HO324.out)) (And.intro (Aside0.mk (Kd.R_drew HO331.out)) (And.intro (Aside0.mk (Kd.R_drew HO334.out)) (And.intro (Aside0.mk (blk_drew BK302.out)) (And.intro (Aside0.mk (blk_drew BK303.out)) (And.intro (Aside0.mk (blk_drew BK328.out)) (And.intro (Aside0.mk (blk_drew BK336.out)) (Aside0.mk (below_drew1 HB.out)))))))))
  clear HO321 HO324 HO331 HO334 BK302 BK303 BK328 BK336 HB
  obtain ⟨HO321, HO324, HO331, HO334, BK302, BK303, BK328, BK336, HB⟩ := n_
  refine start_ (n := 14) (S := fun w' => w'.cell? ⟨gb336, 0, none⟩ = some (.slice Ao40 t329.length co40) ∧ w'.cell? ⟨gb336, 1, none⟩ = some (.slice Ao45 t332.length co45) ∧ w'.cell? ⟨gb336, 2, none⟩ = some (.int .i64 t335) ∧ w'.cell? ⟨gb303, 0, none⟩ = some (.int .i64 a1_0) ∧ w'.cell? ⟨gb303, 1, none⟩ = some (.int .i64 a1_1) ∧ w'.cell? ⟨gb303, 2, none⟩ = some (.int .i64 a1_2) ∧ w'.cell? ⟨gb303, 3, none⟩ = some (.int .i64 a1_3) ∧ w'.cell? ⟨gb303, 4, none⟩ = some (.int .i64 a1_4) ∧ w'.cell? ⟨gb303, 5, none⟩ = some (.int .i64 a1_5) ∧ w'.cell? ⟨gb303, 6, none⟩ = some (.int .i64 a1_6)) (ds := []) #[false, false, false, false, false, false, false, false, false, false, false, false, false, false] (by kernel_rfl) rfl rfl (cr3 BK336.out (cl7 BK303.out)) (fun hHeld => ?_); refine with_tabW laws_FnExactApplyWish.tab7 laws_FnExactApplyWish.bits7 (fun HT_ HW_ => ?_)
  generalize w46.drew = w47 at HO321 HO324 HO331 HO334 BK302 BK303 BK328 BK336 HB hHeld ⊢
  refine pure_ (i := 3) (N := some 45) (v := ?_) (a' := ?_) #[false, false, false, true, false, false, false, false, false, false, false, false, false, false] rfl rfl (any_of HT_.out (by kernel_rfl)) (fun _ _ _ h => h) (Or.inl ⟨by rfl, ?_⟩) ?_ ?_
  rotate_left
  ·intro w'
   go_simp
   with_reducible rfl
  rotate_left
  ·simp only [apn]
   rfl
  refine pure_ (i := 4) (N := some 46) (v := ?_) (a' := ?_) #[false, false, false, true, true, false, false, false, false, false, false, false, false, false] rfl rfl (any_of HT_.out (by kernel_rfl)) (fun _ _ _ h => h) (Or.inl ⟨by rfl, ?_⟩) ?_ ?_
  rotate_left
  ·intro w'
   go_simp
   with_reducible rfl
  rotate_left
  ·simp only [apn]
   rfl
  refine take_ (i := 0) (N := some 42) (v := ?_) (a' := ?_) #[true, false, false, true, true, false, false, false, false, false, false, false, false, false] rfl rfl (take_ofW HT_.out HW_.out (by kernel_rfl)) (fun _ _ _ h => h) (Or.inl ⟨by rfl, ?_⟩) hHeld ?_ ?_
  rotate_left
  ·rintro w' ⟨s0, s1, s2, s3, s4, s5, s6, s7, s8, s9⟩
   go_simp
   with_reducible rfl
  rotate_left
  ·simp only [apn]
   rfl
  refine take_ (i := 1) (N := some 43) (v := ?_) (a' := ?_) #[true, true, false, true, true, false, false, false, false, false, false, false, false, false] rfl rfl (take_ofW HT_.out HW_.out (by kernel_rfl)) (fun _ _ _ h => h) (Or.inl ⟨by rfl, ?_⟩) hHeld ?_ ?_
  rotate_left
  ·rintro w' ⟨s0, s1, s2, s3, s4, s5, s6, s7, s8, s9⟩
   go_simp
   with_reducible rfl
  rotate_left
  ·simp only [apn]
   rfl
  refine join_ (σ := Value × Value × Nat) 3 #[true, true, true, true, true, true, true, true, true, true, true, false, false, false] (fun s_ => [(44, .agg #[.int .i64 t337, .int .i64 t338, .int .i64 t339, .int .i64 t340, .int .i64 t341, .int .i64 t342, .int .i64 t343]), (47, .tuple #[.agg #[s_.1, s_.2.1, .int .i64 t350], .int .i64 t351, .bool t352]), (14, .pointer (some ⟨s_.2.2, 0, none⟩)), (41, .tuple #[.agg #[s_.1, s_.2.1, .int .i64 t350], .int .i64 t351, .bool t352]), (48, .agg #[s_.1, s_.2.1, .int .i64 t350]), (49, .int .i64 t351), (50, .bool t352)]) (fun s_ w' => (w'.cell? ⟨gb336, 0, none⟩ = some (.slice Ao40 t329.length co40) ∧ w'.cell? ⟨gb336, 1, none⟩ = some (.slice Ao45 t332.length co45) ∧ w'.cell? ⟨gb336, 2, none⟩ = some (.int .i64 t335) ∧ w'.cell? ⟨gb303, 0, none⟩ = some (.int .i64 a1_0) ∧ w'.cell? ⟨gb303, 1, none⟩ = some (.int .i64 a1_1) ∧ w'.cell? ⟨gb303, 2, none⟩ = some (.int .i64 a1_2) ∧ w'.cell? ⟨gb303, 3, none⟩ = some (.int .i64 a1_3) ∧ w'.cell? ⟨gb303, 4, none⟩ = some (.int .i64 a1_4) ∧ w'.cell? ⟨gb303, 5, none⟩ = some (.int .i64 a1_5) ∧ w'.cell? ⟨gb303, 6, none⟩ = some (.int .i64 a1_6)) ∧ (Kd.R (Kd.int .i64) 3 w' w.heap.size (fun k_ => some k_ ≠ (.slice Ao33 t322.length co33 : Value).ownBlock ∧ some k_ ≠ (.slice Ao40 t329.length co40 : Value).ownBlock ∧ some k_ ≠ (.slice Ao45 t332.length co45 : Value).ownBlock ∧ some k_ ≠ (s_.1 : Value).ownBlock ∧ some k_ ≠ (s_.2.1 : Value).ownBlock) (.slice Ao31 t319.length co31) t319) ∧ (Kd.R (Kd.int .i64) 3 w' w.heap.size (fun k_ => some k_ ≠ (.slice Ao31 t319.length co31 : Value).ownBlock ∧ some k_ ≠ (.slice Ao40 t329.length co40 : Value).ownBlock ∧ some k_ ≠ (.slice Ao45 t332.length co45 : Value).ownBlock ∧ some k_ ≠ (s_.1 : Value).ownBlock ∧ some k_ ≠ (s_.2.1 : Value).ownBlock) (.slice Ao33 t322.length co33) t322) ∧ (Kd.R (Kd.int .i64) 3 w' w.heap.size (fun k_ => some k_ ≠ (.slice Ao31 t319.length co31 : Value).ownBlock ∧ some k_ ≠ (.slice Ao33 t322.length co33 : Value).ownBlock ∧ some k_ ≠ (.slice Ao45 t332.length co45 : Value).ownBlock ∧ some k_ ≠ (s_.1 : Value).ownBlock ∧ some k_ ≠ (s_.2.1 : Value).ownBlock) (.slice Ao40 t329.length co40) t329) ∧ (Kd.R (Kd.int .i64) 3 w' w.heap.size (fun k_ => some k_ ≠ (.slice Ao31 t319.length co31 : Value).ownBlock ∧ some k_ ≠ (.slice Ao33 t322.length co33 : Value).ownBlock ∧ some k_ ≠ (.slice Ao40 t329.length co40 : Value).ownBlock ∧ some k_ ≠ (s_.1 : Value).ownBlock ∧ some k_ ≠ (s_.2.1 : Value).ownBlock) (.slice Ao45 t332.length co45) t332) ∧ (Kd.R (Kd.int .i64) 3 w' w.heap.size (fun k_ => some k_ ≠ (.slice Ao31 t319.length co31 : Value).ownBlock ∧ some k_ ≠ (.slice Ao33 t322.length co33 : Value).ownBlock ∧ some k_ ≠ (.slice Ao40 t329.length co40 : Value).ownBlock ∧ some k_ ≠ (.slice Ao45 t332.length co45 : Value).ownBlock ∧ some k_ ≠ (s_.2.1 : Value).ownBlock) s_.1 t344) ∧ (Kd.R (Kd.int .i64) 3 w' w.heap.size (fun k_ => some k_ ≠ (.slice Ao31 t319.length co31 : Value).ownBlock ∧ some k_ ≠ (.slice Ao33 t322.length co33 : Value).ownBlock ∧ some k_ ≠ (.slice Ao40 t329.length co40 : Value).ownBlock ∧ some k_ ≠ (.slice Ao45 t332.length co45 : Value).ownBlock ∧ some k_ ≠ (s_.1 : Value).ownBlock) s_.2.1 t347) ∧ (w'.heap[gb302]? = some (.cells #[.slice A0_0 l0_0.length c0_0, .slice A0_1 l0_1.length c0_1, .int .i64 a0_2] 24 (0, 0))) ∧ (w'.heap[gb303]? = some (.cells #[.int .i64 a1_0, .int .i64 a1_1, .int .i64 a1_2, .int .i64 a1_3, .int .i64 a1_4, .int .i64 a1_5, .int .i64 a1_6] 26 (0, 0))) ∧ (w'.heap[gb328]? = some (.cells #[.slice Ao31 t319.length co31, .slice Ao33 t322.length co33, .int .i64 t325] 28 (0, 0))) ∧ (w'.heap[gb336]? = some (.cells #[.slice Ao40 t329.length co40, .slice Ao45 t332.length co45, .int .i64 t335] 28 (0, 0))) ∧ (w'.heap[s_.2.2]? = some (.cells #[.slice none 0 0, .slice none 0 0, .int .i64 0] 28 (0, 0))) ∧ (w.heap.size ≤ s_.2.2) ∧ (w.heap.size ≤ s_.2.2) ∧ (gb302 ≠ s_.2.2) ∧ (s_.2.2 ≠ gb302) ∧ (gb303 ≠ s_.2.2) ∧ (s_.2.2 ≠ gb303) ∧ (gb328 ≠ s_.2.2) ∧ (s_.2.2 ≠ gb328) ∧ (gb336 ≠ s_.2.2) ∧ (s_.2.2 ≠ gb336) ∧ (Below w.heap.size w w')) ?_ ?_
  rotate_left
  ·intro hCont
   refine two_ (i := 2) (j := 10) (Ni := some 44) (Nj := some 14) #[true, true, true, true, true, false, false, false, false, false, false, false, false, false] #[true, true, false, true, true, false, false, false, false, false, true, false, false, false] rfl rfl rfl rfl (two_of HT_.out (by kernel_rfl)) (by decide) (by decide) (fun K hK => ?_) (fun K hK => ?_)
   ·skip
    refine goes_ Try.func14 (by kernel_rfl) rfl #[.agg #[.int .i64 a1_0, .int .i64 a1_1, .int .i64 a1_2, .int .i64 a1_3, .int .i64 a1_4, .int .i64 a1_5, .int .i64 a1_6]] (by rfl) rfl rfl aq ?_
    with_reducible refine (laws_toWish.calls a1_0 a1_1 a1_2 a1_3 a1_4 a1_5 a1_6 t337 t338 t339 t340 t341 t342 t343 _ A15.out).mono ?_
    rintro e w48 ⟨rfl, hb⟩
    refine ⟨_, rfl, ?_⟩
    have n_ := And.intro (Aside0.mk (Kd.R_below (rq HO321.out) hb)) (And.intro (Aside0.mk (Kd.R_below (rq HO324.out) hb)) (And.intro (Aside0.mk (Kd.R_below (rq HO331.out) hb)) (And.intro (Aside0.mk (Kd.R_below (rq HO334.out) hb)) (And.intro (Aside0.mk (bbq BK302.out hb)) (And.intro (Aside0.mk (bbq BK303.out hb)) (And.intro (Aside0.mk (bbq BK328.out hb)) (And.intro (Aside0.mk (bbq BK336.out hb)) (Aside0.mk (below_step (bw4 HB.out GE302.out GE303.out GE328.out GE336.out) hb)))))))))
    clear HO321 HO324 HO331 HO334 BK302 BK303 BK328 BK336 HB
    obtain ⟨HO321, HO324, HO331, HO334, BK302, BK303, BK328, BK336, HB⟩ := n_
    (try clear hb)
    (try clear hb2)
    (try clear hk)
    (try clear hi)
    refine hK.out _ _ (cr3 BK336.out (cl7 BK303.out)) (fun hHeld => ?_)
    clear hK K
    refine norm_ (a' := ?_) ?_ ?_
    rotate_left
    ·show Act.put _ (some 44) _ = _
     simp only [apn]
     rfl
    refine two_ (i := 5) (j := 10) (Ni := some 47) (Nj := some 14) #[true, true, true, true, true, true, false, false, false, false, false, false, false, false] #[true, true, true, true, true, false, false, false, false, false, true, false, false, false] rfl rfl rfl rfl (two_of HT_.out (by kernel_rfl)) (by decide) (by decide) (fun K hK => ?_) (fun K hK => ?_)
    ·skip
     refine goes_ Try.func15 (by kernel_rfl) rfl #[.agg #[.slice Ao40 t329.length co40, .slice Ao45 t332.length co45, .int .i64 t335], .agg #[.int .i64 t337, .int .i64 t338, .int .i64 t339, .int .i64 t340, .int .i64 t341, .int .i64 t342, .int .i64 t343], .int .i64 a2, .int .i64 a3] (by rfl) rfl rfl aq ?_
     with_reducible refine (impl_ApplyWish.calls k _ _ t329 _ _ t332 t335 t337 t338 t339 t340 t341 t342 t343 a2 a3 t344 t347 t350 t351 t352 _ ?side1 ?side2 ?side3 ?side4 A16.out).mono ?_
     (case side1 => exact caq (Kd.R_reads' HO331.out).2.2)
     (case side2 => exact (Kd.R_reads' HO331.out).2.1)
     (case side3 => exact caq (Kd.R_reads' HO334.out).2.2)
     (case side4 => exact (Kd.R_reads' HO334.out).2.1)
     rintro e w49 ⟨v345, v348, rfl, ho0, ho1, hb⟩
     refine ⟨_, rfl, ?_⟩
     have n_ := And.intro (Aside0.mk (Kd.R_mono (Kd.R_told (Kd.R_told (Kd.R_old (rq HO321.out) hb) (Kd.R_base ho0)) (Kd.R_base ho1)) (fun _ h_ => h_.1))) (And.intro (Aside0.mk (Kd.R_mono (Kd.R_told (Kd.R_told (Kd.R_old (rq HO324.out) hb) (Kd.R_base ho0)) (Kd.R_base ho1)) (fun _ h_ => h_.1))) (And.intro (Aside0.mk (Kd.R_mono (Kd.R_told (Kd.R_told (Kd.R_old (rq HO331.out) hb) (Kd.R_base ho0)) (Kd.R_base ho1)) (fun _ h_ => h_.1))) (And.intro (Aside0.mk (Kd.R_mono (Kd.R_told (Kd.R_told (Kd.R_old (rq HO334.out) hb) (Kd.R_base ho0)) (Kd.R_base ho1)) (fun _ h_ => h_.1))) (And.intro (Aside0.mk (Kd.R_lower (Kd.R_new' (Kd.R_new' (Kd.R_new' (Kd.R_new' ho0 (Kd.R_lt (rq HO321.out))) (Kd.R_lt (rq HO324.out))) (Kd.R_lt (rq HO331.out))) (Kd.R_lt (rq HO334.out))) (below_size (bw4 HB.out GE302.out GE303.out GE328.out GE336.out)))) (And.intro (Aside0.mk (Kd.R_lower (Kd.R_new' (Kd.R_new' (Kd.R_new' (Kd.R_new' ho1 (Kd.R_lt (rq HO321.out))) (Kd.R_lt (rq HO324.out))) (Kd.R_lt (rq HO331.out))) (Kd.R_lt (rq HO334.out))) (below_size (bw4 HB.out GE302.out GE303.out GE328.out GE336.out)))) (And.intro (Aside0.mk (bbq BK302.out hb)) (And.intro (Aside0.mk (bbq BK303.out hb)) (And.intro (Aside0.mk (bbq BK328.out hb)) (And.intro (Aside0.mk (bbq BK336.out hb)) (Aside0.mk (below_step (bw4 HB.out GE302.out GE303.out GE328.out GE336.out) hb)))))))))))
     clear HO321 HO324 HO331 HO334 BK302 BK303 BK328 BK336 HB
     obtain ⟨HO321, HO324, HO331, HO334, HO346, HO349, BK302, BK303, BK328, BK336, HB⟩ := n_
     (try clear hb)
     (try clear hb2)
     (try clear hk)
     (try clear hi)
     (try clear ho0)
     (try clear ho1)
     refine hK.out _ _ (cr3 BK336.out (cl7 BK303.out)) (fun hHeld => ?_)
     clear hK K
     refine norm_ (a' := ?_) ?_ ?_
     rotate_left
     ·show Act.put _ (some 47) _ = _
      simp only [apn]
      rfl
     refine pure_ (i := 6) (N := some 41) (v := ?_) (a' := ?_) #[true, true, true, true, true, true, true, false, false, false, false, false, false, false] rfl rfl (any_of HT_.out (by kernel_rfl)) (fun _ _ _ h => h) (Or.inl ⟨by rfl, ?_⟩) ?_ ?_
     rotate_left
     ·intro w'
      go_simp
      with_reducible rfl
     rotate_left
     ·simp only [apn]
      rfl
     refine pure_ (i := 7) (N := some 48) (v := ?_) (a' := ?_) #[true, true, true, true, true, true, true, true, false, false, false, false, false, false] rfl rfl (any_of HT_.out (by kernel_rfl)) (fun _ _ _ h => h) (Or.inl ⟨by rfl, ?_⟩) ?_ ?_
     rotate_left
     ·intro w'
      go_simp
      with_reducible rfl
     rotate_left
     ·simp only [apn]
      rfl
     refine pure_ (i := 8) (N := some 49) (v := ?_) (a' := ?_) #[true, true, true, true, true, true, true, true, true, false, false, false, false, false] rfl rfl (any_of HT_.out (by kernel_rfl)) (fun _ _ _ h => h) (Or.inl ⟨by rfl, ?_⟩) ?_ ?_
     rotate_left
     ·intro w'
      go_simp
      with_reducible rfl
     rotate_left
     ·simp only [apn]
      rfl
     refine pure_ (i := 9) (N := some 50) (v := ?_) (a' := ?_) #[true, true, true, true, true, true, true, true, true, true, false, false, false, false] rfl rfl (any_of HT_.out (by kernel_rfl)) (fun _ _ _ h => h) (Or.inl ⟨by rfl, ?_⟩) ?_ ?_
     rotate_left
     ·intro w'
      go_simp
      with_reducible rfl
     rotate_left
     ·simp only [apn]
      rfl
     refine one_ (i := 10) (N := some 14) #[true, true, true, true, true, true, true, true, true, true, true, false, false, false] rfl rfl (one_of HT_.out (by kernel_rfl)) (by decide) (fun K hK => ?_)
     refine box_step ?hg (N := 14) ?hd (cs := #[.slice none 0 0, .slice none 0 0, .int .i64 0]) (t := 28) ?hr ?_; (case hd => rfl); (case hg => rfl); (case hr => first | (go_simp; done) | (go_simp; rfl))
     intro gb353 hg w50 hbox hb
     have n_ := And.intro (Aside0.mk (Kd.R_below (rq HO321.out) hb)) (And.intro (Aside0.mk (Kd.R_below (rq HO324.out) hb)) (And.intro (Aside0.mk (Kd.R_below (rq HO331.out) hb)) (And.intro (Aside0.mk (Kd.R_below (rq HO334.out) hb)) (And.intro (Aside0.mk (Kd.R_below (rq HO346.out) hb)) (And.intro (Aside0.mk (Kd.R_below (rq HO349.out) hb)) (And.intro (Aside0.mk (bbq BK302.out hb)) (And.intro (Aside0.mk (bbq BK303.out hb)) (And.intro (Aside0.mk (bbq BK328.out hb)) (And.intro (Aside0.mk (bbq BK336.out hb)) (And.intro (Aside0.mk (below_step (bw4 HB.out GE302.out GE303.out GE328.out GE336.out) hb)) (And.intro (Aside0.mk (hbox)) (And.intro (Aside0.mk ((by rw [hg]; exact (below_size (bw4 HB.out GE302.out GE303.out GE328.out GE336.out)) : w.heap.size ≤ gb353))) (And.intro (Aside0.mk ((by rw [hg]; exact (below_size (bw4 HB.out GE302.out GE303.out GE328.out GE336.out)) : w.heap.size ≤ gb353))) (And.intro (Aside0.mk ((nlq BK302.out hg))) (And.intro (Aside0.mk ((ngq BK302.out hg))) (And.intro (Aside0.mk ((nlq BK303.out hg))) (And.intro (Aside0.mk ((ngq BK303.out hg))) (And.intro (Aside0.mk ((nlq BK328.out hg))) (And.intro (Aside0.mk ((ngq BK328.out hg))) (And.intro (Aside0.mk ((nlq BK336.out hg))) (Aside0.mk ((ngq BK336.out hg)))))))))))))))))))))))
     clear HO321 HO324 HO331 HO334 HO346 HO349 BK302 BK303 BK328 BK336 HB
     obtain ⟨HO321, HO324, HO331, HO334, HO346, HO349, BK302, BK303, BK328, BK336, HB, BK353, GW353, GE353, NB302_353, NB353_302, NB303_353, NB353_303, NB328_353, NB353_328, NB336_353, NB353_336⟩ := n_
     clear hb hbox hg
     refine hK.out _ _ (cr3 BK336.out (cl7 BK303.out)) (fun hHeld => ?_)
     clear hK K
     refine norm_ (a' := ?_) ?_ ?_
     rotate_left
     ·show Act.put _ (some 14) _ = _
      simp only [apn]
      rfl
     exact norm_ (by simp only [putAll, Act.put, List.setIfInBounds_toArray, List.set_cons_zero, List.set_cons_succ]) (hCont (v345, v348, gb353) _ ⟨hHeld, (rmq HO321.out (fun _ hk => ⟨hk.1.1.1, ⟨hk.1.1.2.1, ⟨hk.1.1.2.2, ⟨hk.1.2, hk.2⟩⟩⟩⟩)), (rmq HO324.out (fun _ hk => ⟨hk.1.1.1, ⟨hk.1.1.2.1, ⟨hk.1.1.2.2, ⟨hk.1.2, hk.2⟩⟩⟩⟩)), (rmq HO331.out (fun _ hk => ⟨hk.1.1.1, ⟨hk.1.1.2.1, ⟨hk.1.1.2.2, ⟨hk.1.2, hk.2⟩⟩⟩⟩)), (rmq HO334.out (fun _ hk => ⟨hk.1.1.1, ⟨hk.1.1.2.1, ⟨hk.1.1.2.2, ⟨hk.1.2, hk.2⟩⟩⟩⟩)), (rmq HO346.out (fun _ hk => ⟨hk.1.1.1.2, ⟨hk.1.1.2, ⟨hk.1.2, ⟨hk.2, hk.1.1.1.1⟩⟩⟩⟩)), (rmq HO349.out (fun _ hk => ⟨hk.1.1.1.2, ⟨hk.1.1.2, ⟨hk.1.2, ⟨hk.2, hk.1.1.1.1⟩⟩⟩⟩)), (bq BK302.out), (bq BK303.out), (bq BK328.out), (bq BK336.out), (bq BK353.out), GW353.out, GE353.out, NB302_353.out, NB353_302.out, NB303_353.out, NB353_303.out, NB328_353.out, NB353_328.out, NB336_353.out, NB353_336.out, (bw5 HB.out GE302.out GE303.out GE328.out GE336.out GE353.out)⟩)
    ·skip
     refine box_step ?hg (N := 14) ?hd (cs := #[.slice none 0 0, .slice none 0 0, .int .i64 0]) (t := 28) ?hr ?_; (case hd => rfl); (case hg => rfl); (case hr => first | (go_simp; done) | (go_simp; rfl))
     intro gb353 hg w49 hbox hb
     have n_ := And.intro (Aside0.mk (Kd.R_below (rq HO321.out) hb)) (And.intro (Aside0.mk (Kd.R_below (rq HO324.out) hb)) (And.intro (Aside0.mk (Kd.R_below (rq HO331.out) hb)) (And.intro (Aside0.mk (Kd.R_below (rq HO334.out) hb)) (And.intro (Aside0.mk (bbq BK302.out hb)) (And.intro (Aside0.mk (bbq BK303.out hb)) (And.intro (Aside0.mk (bbq BK328.out hb)) (And.intro (Aside0.mk (bbq BK336.out hb)) (And.intro (Aside0.mk (below_step (bw4 HB.out GE302.out GE303.out GE328.out GE336.out) hb)) (And.intro (Aside0.mk (hbox)) (And.intro (Aside0.mk ((by rw [hg]; exact (below_size (bw4 HB.out GE302.out GE303.out GE328.out GE336.out)) : w.heap.size ≤ gb353))) (And.intro (Aside0.mk ((by rw [hg]; exact (below_size (bw4 HB.out GE302.out GE303.out GE328.out GE336.out)) : w.heap.size ≤ gb353))) (And.intro (Aside0.mk ((nlq BK302.out hg))) (And.intro (Aside0.mk ((ngq BK302.out hg))) (And.intro (Aside0.mk ((nlq BK303.out hg))) (And.intro (Aside0.mk ((ngq BK303.out hg))) (And.intro (Aside0.mk ((nlq BK328.out hg))) (And.intro (Aside0.mk ((ngq BK328.out hg))) (And.intro (Aside0.mk ((nlq BK336.out hg))) (Aside0.mk ((ngq BK336.out hg)))))))))))))))))))))
     clear HO321 HO324 HO331 HO334 BK302 BK303 BK328 BK336 HB
     obtain ⟨HO321, HO324, HO331, HO334, BK302, BK303, BK328, BK336, HB, BK353, GW353, GE353, NB302_353, NB353_302, NB303_353, NB353_303, NB328_353, NB353_328, NB336_353, NB353_336⟩ := n_
     clear hb hbox hg
     refine hK.out _ _ (cr3 BK336.out (cl7 BK303.out)) (fun hHeld => ?_)
     clear hK K
     refine norm_ (a' := ?_) ?_ ?_
     rotate_left
     ·show Act.put _ (some 14) _ = _
      simp only [apn]
      rfl
     refine one_ (i := 5) (N := some 47) #[true, true, true, true, true, true, false, false, false, false, true, false, false, false] rfl rfl (one_of HT_.out (by kernel_rfl)) (by decide) (fun K hK => ?_)
     refine goes_ Try.func15 (by kernel_rfl) rfl #[.agg #[.slice Ao40 t329.length co40, .slice Ao45 t332.length co45, .int .i64 t335], .agg #[.int .i64 t337, .int .i64 t338, .int .i64 t339, .int .i64 t340, .int .i64 t341, .int .i64 t342, .int .i64 t343], .int .i64 a2, .int .i64 a3] (by rfl) rfl rfl aq ?_
     with_reducible refine (impl_ApplyWish.calls k _ _ t329 _ _ t332 t335 t337 t338 t339 t340 t341 t342 t343 a2 a3 t344 t347 t350 t351 t352 _ ?side1 ?side2 ?side3 ?side4 A16.out).mono ?_
     (case side1 => exact caq (Kd.R_reads' HO331.out).2.2)
     (case side2 => exact (Kd.R_reads' HO331.out).2.1)
     (case side3 => exact caq (Kd.R_reads' HO334.out).2.2)
     (case side4 => exact (Kd.R_reads' HO334.out).2.1)
     rintro e w50 ⟨v345, v348, rfl, ho0, ho1, hb⟩
     refine ⟨_, rfl, ?_⟩
     have n_ := And.intro (Aside0.mk (Kd.R_mono (Kd.R_told (Kd.R_told (Kd.R_old (rq HO321.out) hb) (Kd.R_base ho0)) (Kd.R_base ho1)) (fun _ h_ => h_.1))) (And.intro (Aside0.mk (Kd.R_mono (Kd.R_told (Kd.R_told (Kd.R_old (rq HO324.out) hb) (Kd.R_base ho0)) (Kd.R_base ho1)) (fun _ h_ => h_.1))) (And.intro (Aside0.mk (Kd.R_mono (Kd.R_told (Kd.R_told (Kd.R_old (rq HO331.out) hb) (Kd.R_base ho0)) (Kd.R_base ho1)) (fun _ h_ => h_.1))) (And.intro (Aside0.mk (Kd.R_mono (Kd.R_told (Kd.R_told (Kd.R_old (rq HO334.out) hb) (Kd.R_base ho0)) (Kd.R_base ho1)) (fun _ h_ => h_.1))) (And.intro (Aside0.mk (Kd.R_lower (Kd.R_new' (Kd.R_new' (Kd.R_new' (Kd.R_new' ho0 (Kd.R_lt (rq HO321.out))) (Kd.R_lt (rq HO324.out))) (Kd.R_lt (rq HO331.out))) (Kd.R_lt (rq HO334.out))) (below_size (bw5 HB.out GE302.out GE303.out GE328.out GE336.out GE353.out)))) (And.intro (Aside0.mk (Kd.R_lower (Kd.R_new' (Kd.R_new' (Kd.R_new' (Kd.R_new' ho1 (Kd.R_lt (rq HO321.out))) (Kd.R_lt (rq HO324.out))) (Kd.R_lt (rq HO331.out))) (Kd.R_lt (rq HO334.out))) (below_size (bw5 HB.out GE302.out GE303.out GE328.out GE336.out GE353.out)))) (And.intro (Aside0.mk (bbq BK302.out hb)) (And.intro (Aside0.mk (bbq BK303.out hb)) (And.intro (Aside0.mk (bbq BK328.out hb)) (And.intro (Aside0.mk (bbq BK336.out hb)) (And.intro (Aside0.mk (bbq BK353.out hb)) (Aside0.mk (below_step (bw5 HB.out GE302.out GE303.out GE328.out GE336.out GE353.out) hb))))))))))))
     clear HO321 HO324 HO331 HO334 BK302 BK303 BK328 BK336 BK353 HB
     obtain ⟨HO321, HO324, HO331, HO334, HO346, HO349, BK302, BK303, BK328, BK336, BK353, HB⟩ := n_
     (try clear hb)
     (try clear hb2)
     (try clear hk)
     (try clear hi)
     (try clear ho0)
     (try clear ho1)
     refine hK.out _ _ (cr3 BK336.out (cl7 BK303.out)) (fun hHeld => ?_)
     clear hK K
     refine norm_ (a' := ?_) ?_ ?_
     rotate_left
     ·show Act.put _ (some 47) _ = _
      simp only [apn]
      rfl
     refine pure_ (i := 6) (N := some 41) (v := ?_) (a' := ?_) #[true, true, true, true, true, true, true, false, false, false, true, false, false, false] rfl rfl (any_of HT_.out (by kernel_rfl)) (fun _ _ _ h => h) (Or.inl ⟨by rfl, ?_⟩) ?_ ?_
     rotate_left
     ·intro w'
      go_simp
      with_reducible rfl
     rotate_left
     ·simp only [apn]
      rfl
     refine pure_ (i := 7) (N := some 48) (v := ?_) (a' := ?_) #[true, true, true, true, true, true, true, true, false, false, true, false, false, false] rfl rfl (any_of HT_.out (by kernel_rfl)) (fun _ _ _ h => h) (Or.inl ⟨by rfl, ?_⟩) ?_ ?_
     rotate_left
     ·intro w'
      go_simp
      with_reducible rfl
     rotate_left
     ·simp only [apn]
      rfl
     refine pure_ (i := 8) (N := some 49) (v := ?_) (a' := ?_) #[true, true, true, true, true, true, true, true, true, false, true, false, false, false] rfl rfl (any_of HT_.out (by kernel_rfl)) (fun _ _ _ h => h) (Or.inl ⟨by rfl, ?_⟩) ?_ ?_
     rotate_left
     ·intro w'
      go_simp
      with_reducible rfl
     rotate_left
     ·simp only [apn]
      rfl
     refine pure_ (i := 9) (N := some 50) (v := ?_) (a' := ?_) #[true, true, true, true, true, true, true, true, true, true, true, false, false, false] rfl rfl (any_of HT_.out (by kernel_rfl)) (fun _ _ _ h => h) (Or.inl ⟨by rfl, ?_⟩) ?_ ?_
     rotate_left
     ·intro w'
      go_simp
      with_reducible rfl
     rotate_left
     ·simp only [apn]
      rfl
     exact norm_ (by simp only [putAll, Act.put, List.setIfInBounds_toArray, List.set_cons_zero, List.set_cons_succ]) (hCont (v345, v348, gb353) _ ⟨hHeld, (rmq HO321.out (fun _ hk => ⟨hk.1.1.1, ⟨hk.1.1.2.1, ⟨hk.1.1.2.2, ⟨hk.1.2, hk.2⟩⟩⟩⟩)), (rmq HO324.out (fun _ hk => ⟨hk.1.1.1, ⟨hk.1.1.2.1, ⟨hk.1.1.2.2, ⟨hk.1.2, hk.2⟩⟩⟩⟩)), (rmq HO331.out (fun _ hk => ⟨hk.1.1.1, ⟨hk.1.1.2.1, ⟨hk.1.1.2.2, ⟨hk.1.2, hk.2⟩⟩⟩⟩)), (rmq HO334.out (fun _ hk => ⟨hk.1.1.1, ⟨hk.1.1.2.1, ⟨hk.1.1.2.2, ⟨hk.1.2, hk.2⟩⟩⟩⟩)), (rmq HO346.out (fun _ hk => ⟨hk.1.1.1.2, ⟨hk.1.1.2, ⟨hk.1.2, ⟨hk.2, hk.1.1.1.1⟩⟩⟩⟩)), (rmq HO349.out (fun _ hk => ⟨hk.1.1.1.2, ⟨hk.1.1.2, ⟨hk.1.2, ⟨hk.2, hk.1.1.1.1⟩⟩⟩⟩)), (bq BK302.out), (bq BK303.out), (bq BK328.out), (bq BK336.out), (bq BK353.out), GW353.out, GE353.out, NB302_353.out, NB353_302.out, NB303_353.out, NB353_303.out, NB328_353.out, NB353_328.out, NB336_353.out, NB353_336.out, (bw5 HB.out GE302.out GE303.out GE328.out GE336.out GE353.out)⟩)
   ·skip
    refine box_step ?hg (N := 14) ?hd (cs := #[.slice none 0 0, .slice none 0 0, .int .i64 0]) (t := 28) ?hr ?_; (case hd => rfl); (case hg => rfl); (case hr => first | (go_simp; done) | (go_simp; rfl))
    intro gb353 hg w48 hbox hb
    have n_ := And.intro (Aside0.mk (Kd.R_below (rq HO321.out) hb)) (And.intro (Aside0.mk (Kd.R_below (rq HO324.out) hb)) (And.intro (Aside0.mk (Kd.R_below (rq HO331.out) hb)) (And.intro (Aside0.mk (Kd.R_below (rq HO334.out) hb)) (And.intro (Aside0.mk (bbq BK302.out hb)) (And.intro (Aside0.mk (bbq BK303.out hb)) (And.intro (Aside0.mk (bbq BK328.out hb)) (And.intro (Aside0.mk (bbq BK336.out hb)) (And.intro (Aside0.mk (below_step (bw4 HB.out GE302.out GE303.out GE328.out GE336.out) hb)) (And.intro (Aside0.mk (hbox)) (And.intro (Aside0.mk ((by rw [hg]; exact (below_size (bw4 HB.out GE302.out GE303.out GE328.out GE336.out)) : w.heap.size ≤ gb353))) (And.intro (Aside0.mk ((by rw [hg]; exact (below_size (bw4 HB.out GE302.out GE303.out GE328.out GE336.out)) : w.heap.size ≤ gb353))) (And.intro (Aside0.mk ((nlq BK302.out hg))) (And.intro (Aside0.mk ((ngq BK302.out hg))) (And.intro (Aside0.mk ((nlq BK303.out hg))) (And.intro (Aside0.mk ((ngq BK303.out hg))) (And.intro (Aside0.mk ((nlq BK328.out hg))) (And.intro (Aside0.mk ((ngq BK328.out hg))) (And.intro (Aside0.mk ((nlq BK336.out hg))) (Aside0.mk ((ngq BK336.out hg)))))))))))))))))))))
    clear HO321 HO324 HO331 HO334 BK302 BK303 BK328 BK336 HB
    obtain ⟨HO321, HO324, HO331, HO334, BK302, BK303, BK328, BK336, HB, BK353, GW353, GE353, NB302_353, NB353_302, NB303_353, NB353_303, NB328_353, NB353_328, NB336_353, NB353_336⟩ := n_
    clear hb hbox hg
    refine hK.out _ _ (cr3 BK336.out (cl7 BK303.out)) (fun hHeld => ?_)
    clear hK K
    refine norm_ (a' := ?_) ?_ ?_
    rotate_left
    ·show Act.put _ (some 14) _ = _
     simp only [apn]
     rfl
    refine one_ (i := 2) (N := some 44) #[true, true, true, true, true, false, false, false, false, false, true, false, false, false] rfl rfl (one_of HT_.out (by kernel_rfl)) (by decide) (fun K hK => ?_)
    refine goes_ Try.func14 (by kernel_rfl) rfl #[.agg #[.int .i64 a1_0, .int .i64 a1_1, .int .i64 a1_2, .int .i64 a1_3, .int .i64 a1_4, .int .i64 a1_5, .int .i64 a1_6]] (by rfl) rfl rfl aq ?_
    with_reducible refine (laws_toWish.calls a1_0 a1_1 a1_2 a1_3 a1_4 a1_5 a1_6 t337 t338 t339 t340 t341 t342 t343 _ A15.out).mono ?_
    rintro e w49 ⟨rfl, hb⟩
    refine ⟨_, rfl, ?_⟩
    have n_ := And.intro (Aside0.mk (Kd.R_below (rq HO321.out) hb)) (And.intro (Aside0.mk (Kd.R_below (rq HO324.out) hb)) (And.intro (Aside0.mk (Kd.R_below (rq HO331.out) hb)) (And.intro (Aside0.mk (Kd.R_below (rq HO334.out) hb)) (And.intro (Aside0.mk (bbq BK302.out hb)) (And.intro (Aside0.mk (bbq BK303.out hb)) (And.intro (Aside0.mk (bbq BK328.out hb)) (And.intro (Aside0.mk (bbq BK336.out hb)) (And.intro (Aside0.mk (bbq BK353.out hb)) (Aside0.mk (below_step (bw5 HB.out GE302.out GE303.out GE328.out GE336.out GE353.out) hb))))))))))
    clear HO321 HO324 HO331 HO334 BK302 BK303 BK328 BK336 BK353 HB
    obtain ⟨HO321, HO324, HO331, HO334, BK302, BK303, BK328, BK336, BK353, HB⟩ := n_
    (try clear hb)
    (try clear hb2)
    (try clear hk)
    (try clear hi)
    refine hK.out _ _ (cr3 BK336.out (cl7 BK303.out)) (fun hHeld => ?_)
    clear hK K
    refine norm_ (a' := ?_) ?_ ?_
    rotate_left
    ·show Act.put _ (some 44) _ = _
     simp only [apn]
     rfl
    refine one_ (i := 5) (N := some 47) #[true, true, true, true, true, true, false, false, false, false, true, false, false, false] rfl rfl (one_of HT_.out (by kernel_rfl)) (by decide) (fun K hK => ?_)
    refine goes_ Try.func15 (by kernel_rfl) rfl #[.agg #[.slice Ao40 t329.length co40, .slice Ao45 t332.length co45, .int .i64 t335], .agg #[.int .i64 t337, .int .i64 t338, .int .i64 t339, .int .i64 t340, .int .i64 t341, .int .i64 t342, .int .i64 t343], .int .i64 a2, .int .i64 a3] (by rfl) rfl rfl aq ?_
    with_reducible refine (impl_ApplyWish.calls k _ _ t329 _ _ t332 t335 t337 t338 t339 t340 t341 t342 t343 a2 a3 t344 t347 t350 t351 t352 _ ?side1 ?side2 ?side3 ?side4 A16.out).mono ?_
    (case side1 => exact caq (Kd.R_reads' HO331.out).2.2)
    (case side2 => exact (Kd.R_reads' HO331.out).2.1)
    (case side3 => exact caq (Kd.R_reads' HO334.out).2.2)
    (case side4 => exact (Kd.R_reads' HO334.out).2.1)
    rintro e w50 ⟨v345, v348, rfl, ho0, ho1, hb⟩
    refine ⟨_, rfl, ?_⟩
    have n_ := And.intro (Aside0.mk (Kd.R_mono (Kd.R_told (Kd.R_told (Kd.R_old (rq HO321.out) hb) (Kd.R_base ho0)) (Kd.R_base ho1)) (fun _ h_ => h_.1))) (And.intro (Aside0.mk (Kd.R_mono (Kd.R_told (Kd.R_told (Kd.R_old (rq HO324.out) hb) (Kd.R_base ho0)) (Kd.R_base ho1)) (fun _ h_ => h_.1))) (And.intro (Aside0.mk (Kd.R_mono (Kd.R_told (Kd.R_told (Kd.R_old (rq HO331.out) hb) (Kd.R_base ho0)) (Kd.R_base ho1)) (fun _ h_ => h_.1))) (And.intro (Aside0.mk (Kd.R_mono (Kd.R_told (Kd.R_told (Kd.R_old (rq HO334.out) hb) (Kd.R_base ho0)) (Kd.R_base ho1)) (fun _ h_ => h_.1))) (And.intro (Aside0.mk (Kd.R_lower (Kd.R_new' (Kd.R_new' (Kd.R_new' (Kd.R_new' ho0 (Kd.R_lt (rq HO321.out))) (Kd.R_lt (rq HO324.out))) (Kd.R_lt (rq HO331.out))) (Kd.R_lt (rq HO334.out))) (below_size (bw5 HB.out GE302.out GE303.out GE328.out GE336.out GE353.out)))) (And.intro (Aside0.mk (Kd.R_lower (Kd.R_new' (Kd.R_new' (Kd.R_new' (Kd.R_new' ho1 (Kd.R_lt (rq HO321.out))) (Kd.R_lt (rq HO324.out))) (Kd.R_lt (rq HO331.out))) (Kd.R_lt (rq HO334.out))) (below_size (bw5 HB.out GE302.out GE303.out GE328.out GE336.out GE353.out)))) (And.intro (Aside0.mk (bbq BK302.out hb)) (And.intro (Aside0.mk (bbq BK303.out hb)) (And.intro (Aside0.mk (bbq BK328.out hb)) (And.intro (Aside0.mk (bbq BK336.out hb)) (And.intro (Aside0.mk (bbq BK353.out hb)) (Aside0.mk (below_step (bw5 HB.out GE302.out GE303.out GE328.out GE336.out GE353.out) hb))))))))))))
    clear HO321 HO324 HO331 HO334 BK302 BK303 BK328 BK336 BK353 HB
    obtain ⟨HO321, HO324, HO331, HO334, HO346, HO349, BK302, BK303, BK328, BK336, BK353, HB⟩ := n_
    (try clear hb)
    (try clear hb2)
    (try clear hk)
    (try clear hi)
    (try clear ho0)
    (try clear ho1)
    refine hK.out _ _ (cr3 BK336.out (cl7 BK303.out)) (fun hHeld => ?_)
    clear hK K
    refine norm_ (a' := ?_) ?_ ?_
    rotate_left
    ·show Act.put _ (some 47) _ = _
     simp only [apn]
     rfl
    refine pure_ (i := 6) (N := some 41) (v := ?_) (a' := ?_) #[true, true, true, true, true, true, true, false, false, false, true, false, false, false] rfl rfl (any_of HT_.out (by kernel_rfl)) (fun _ _ _ h => h) (Or.inl ⟨by rfl, ?_⟩) ?_ ?_
    rotate_left
    ·intro w'
     go_simp
     with_reducible rfl
    rotate_left
    ·simp only [apn]
     rfl
    refine pure_ (i := 7) (N := some 48) (v := ?_) (a' := ?_) #[true, true, true, true, true, true, true, true, false, false, true, false, false, false] rfl rfl (any_of HT_.out (by kernel_rfl)) (fun _ _ _ h => h) (Or.inl ⟨by rfl, ?_⟩) ?_ ?_
    rotate_left
    ·intro w'
     go_simp
     with_reducible rfl
    rotate_left
    ·simp only [apn]
     rfl
    refine pure_ (i := 8) (N := some 49) (v := ?_) (a' := ?_) #[true, true, true, true, true, true, true, true, true, false, true, false, false, false] rfl rfl (any_of HT_.out (by kernel_rfl)) (fun _ _ _ h => h) (Or.inl ⟨by rfl, ?_⟩) ?_ ?_
    rotate_left
    ·intro w'
     go_simp
     with_reducible rfl
    rotate_left
    ·simp only [apn]
     rfl
    refine pure_ (i := 9) (N := some 50) (v := ?_) (a' := ?_) #[true, true, true, true, true, true, true, true, true, true, true, false, false, false] rfl rfl (any_of HT_.out (by kernel_rfl)) (fun _ _ _ h => h) (Or.inl ⟨by rfl, ?_⟩) ?_ ?_
    rotate_left
    ·intro w'
     go_simp
     with_reducible rfl
    rotate_left
    ·simp only [apn]
     rfl
    exact norm_ (by simp only [putAll, Act.put, List.setIfInBounds_toArray, List.set_cons_zero, List.set_cons_succ]) (hCont (v345, v348, gb353) _ ⟨hHeld, (rmq HO321.out (fun _ hk => ⟨hk.1.1.1, ⟨hk.1.1.2.1, ⟨hk.1.1.2.2, ⟨hk.1.2, hk.2⟩⟩⟩⟩)), (rmq HO324.out (fun _ hk => ⟨hk.1.1.1, ⟨hk.1.1.2.1, ⟨hk.1.1.2.2, ⟨hk.1.2, hk.2⟩⟩⟩⟩)), (rmq HO331.out (fun _ hk => ⟨hk.1.1.1, ⟨hk.1.1.2.1, ⟨hk.1.1.2.2, ⟨hk.1.2, hk.2⟩⟩⟩⟩)), (rmq HO334.out (fun _ hk => ⟨hk.1.1.1, ⟨hk.1.1.2.1, ⟨hk.1.1.2.2, ⟨hk.1.2, hk.2⟩⟩⟩⟩)), (rmq HO346.out (fun _ hk => ⟨hk.1.1.1.2, ⟨hk.1.1.2, ⟨hk.1.2, ⟨hk.2, hk.1.1.1.1⟩⟩⟩⟩)), (rmq HO349.out (fun _ hk => ⟨hk.1.1.1.2, ⟨hk.1.1.2, ⟨hk.1.2, ⟨hk.2, hk.1.1.1.1⟩⟩⟩⟩)), (bq BK302.out), (bq BK303.out), (bq BK328.out), (bq BK336.out), (bq BK353.out), GW353.out, GE353.out, NB302_353.out, NB353_302.out, NB303_353.out, NB353_303.out, NB328_353.out, NB353_328.out, NB336_353.out, NB353_336.out, (bw5 HB.out GE302.out GE303.out GE328.out GE336.out GE353.out)⟩)
  rintro ⟨v345, v348, gb353⟩ w51 ⟨hS_, h0_, h1_, h2_, h3_, h4_, h5_, h6_, h7_, h8_, h9_, h10_, h11_, h12_, h13_, h14_, h15_, h16_, h17_, h18_, h19_, h20_, h21_⟩
  have n0_ : Aside0 (Kd.R (Kd.int .i64) 3 w51 w.heap.size (fun k_ => some k_ ≠ (.slice Ao33 t322.length co33 : Value).ownBlock ∧ some k_ ≠ (.slice Ao40 t329.length co40 : Value).ownBlock ∧ some k_ ≠ (.slice Ao45 t332.length co45 : Value).ownBlock ∧ some k_ ≠ (v345 : Value).ownBlock ∧ some k_ ≠ (v348 : Value).ownBlock) (.slice Ao31 t319.length co31) t319) := ⟨h0_⟩
  have n1_ : Aside0 (Kd.R (Kd.int .i64) 3 w51 w.heap.size (fun k_ => some k_ ≠ (.slice Ao31 t319.length co31 : Value).ownBlock ∧ some k_ ≠ (.slice Ao40 t329.length co40 : Value).ownBlock ∧ some k_ ≠ (.slice Ao45 t332.length co45 : Value).ownBlock ∧ some k_ ≠ (v345 : Value).ownBlock ∧ some k_ ≠ (v348 : Value).ownBlock) (.slice Ao33 t322.length co33) t322) := ⟨h1_⟩
  have n2_ : Aside0 (Kd.R (Kd.int .i64) 3 w51 w.heap.size (fun k_ => some k_ ≠ (.slice Ao31 t319.length co31 : Value).ownBlock ∧ some k_ ≠ (.slice Ao33 t322.length co33 : Value).ownBlock ∧ some k_ ≠ (.slice Ao45 t332.length co45 : Value).ownBlock ∧ some k_ ≠ (v345 : Value).ownBlock ∧ some k_ ≠ (v348 : Value).ownBlock) (.slice Ao40 t329.length co40) t329) := ⟨h2_⟩
  have n3_ : Aside0 (Kd.R (Kd.int .i64) 3 w51 w.heap.size (fun k_ => some k_ ≠ (.slice Ao31 t319.length co31 : Value).ownBlock ∧ some k_ ≠ (.slice Ao33 t322.length co33 : Value).ownBlock ∧ some k_ ≠ (.slice Ao40 t329.length co40 : Value).ownBlock ∧ some k_ ≠ (v345 : Value).ownBlock ∧ some k_ ≠ (v348 : Value).ownBlock) (.slice Ao45 t332.length co45) t332) := ⟨h3_⟩
  have n4_ : Aside0 (Kd.R (Kd.int .i64) 3 w51 w.heap.size (fun k_ => some k_ ≠ (.slice Ao31 t319.length co31 : Value).ownBlock ∧ some k_ ≠ (.slice Ao33 t322.length co33 : Value).ownBlock ∧ some k_ ≠ (.slice Ao40 t329.length co40 : Value).ownBlock ∧ some k_ ≠ (.slice Ao45 t332.length co45 : Value).ownBlock ∧ some k_ ≠ (v348 : Value).ownBlock) v345 t344) := ⟨h4_⟩
  have n5_ : Aside0 (Kd.R (Kd.int .i64) 3 w51 w.heap.size (fun k_ => some k_ ≠ (.slice Ao31 t319.length co31 : Value).ownBlock ∧ some k_ ≠ (.slice Ao33 t322.length co33 : Value).ownBlock ∧ some k_ ≠ (.slice Ao40 t329.length co40 : Value).ownBlock ∧ some k_ ≠ (.slice Ao45 t332.length co45 : Value).ownBlock ∧ some k_ ≠ (v345 : Value).ownBlock) v348 t347) := ⟨h5_⟩
  have n6_ : Aside0 (w51.heap[gb302]? = some (.cells #[.slice A0_0 l0_0.length c0_0, .slice A0_1 l0_1.length c0_1, .int .i64 a0_2] 24 (0, 0))) := ⟨h6_⟩
  have n7_ : Aside0 (w51.heap[gb303]? = some (.cells #[.int .i64 a1_0, .int .i64 a1_1, .int .i64 a1_2, .int .i64 a1_3, .int .i64 a1_4, .int .i64 a1_5, .int .i64 a1_6] 26 (0, 0))) := ⟨h7_⟩
  have n8_ : Aside0 (w51.heap[gb328]? = some (.cells #[.slice Ao31 t319.length co31, .slice Ao33 t322.length co33, .int .i64 t325] 28 (0, 0))) := ⟨h8_⟩
  have n9_ : Aside0 (w51.heap[gb336]? = some (.cells #[.slice Ao40 t329.length co40, .slice Ao45 t332.length co45, .int .i64 t335] 28 (0, 0))) := ⟨h9_⟩
  have n10_ : Aside0 (w51.heap[gb353]? = some (.cells #[.slice none 0 0, .slice none 0 0, .int .i64 0] 28 (0, 0))) := ⟨h10_⟩
  have n11_ : Aside0 (w.heap.size ≤ gb353) := ⟨h11_⟩
  have n12_ : Aside0 (w.heap.size ≤ gb353) := ⟨h12_⟩
  have n13_ : Aside0 (gb302 ≠ gb353) := ⟨h13_⟩
  have n14_ : Aside0 (gb353 ≠ gb302) := ⟨h14_⟩
  have n15_ : Aside0 (gb303 ≠ gb353) := ⟨h15_⟩
  have n16_ : Aside0 (gb353 ≠ gb303) := ⟨h16_⟩
  have n17_ : Aside0 (gb328 ≠ gb353) := ⟨h17_⟩
  have n18_ : Aside0 (gb353 ≠ gb328) := ⟨h18_⟩
  have n19_ : Aside0 (gb336 ≠ gb353) := ⟨h19_⟩
  have n20_ : Aside0 (gb353 ≠ gb336) := ⟨h20_⟩
  have n21_ : Aside0 (Below w.heap.size w w51) := ⟨h21_⟩
  clear HO321
  clear HO324
  clear HO331
  clear HO334
  clear BK302
  clear BK303
  clear BK328
  clear BK336
  clear HB
  clear h0_ h1_ h2_ h3_ h4_ h5_ h6_ h7_ h8_ h9_ h10_ h11_ h12_ h13_ h14_ h15_ h16_ h17_ h18_ h19_ h20_ h21_
  have HO321 := n0_
  have HO324 := n1_
  have HO331 := n2_
  have HO334 := n3_
  have HO346 := n4_
  have HO349 := n5_
  have BK302 := n6_
  have BK303 := n7_
  have BK328 := n8_
  have BK336 := n9_
  have BK353 := n10_
  have GW353 := n11_
  have GE353 := n12_
  have NB302_353 := n13_
  have NB353_302 := n14_
  have NB303_353 := n15_
  have NB353_303 := n16_
  have NB328_353 := n17_
  have NB353_328 := n18_
  have NB336_353 := n19_
  have NB353_336 := n20_
  have HB := n21_
  clear n0_ n1_ n2_ n3_ n4_ n5_ n6_ n7_ n8_ n9_ n10_ n11_ n12_ n13_ n14_ n15_ n16_ n17_ n18_ n19_ n20_ n21_
  have hHeld : w51.cell? ⟨gb336, 0, none⟩ = some (.slice Ao40 t329.length co40) ∧ w51.cell? ⟨gb336, 1, none⟩ = some (.slice Ao45 t332.length co45) ∧ w51.cell? ⟨gb336, 2, none⟩ = some (.int .i64 t335) ∧ w51.cell? ⟨gb303, 0, none⟩ = some (.int .i64 a1_0) ∧ w51.cell? ⟨gb303, 1, none⟩ = some (.int .i64 a1_1) ∧ w51.cell? ⟨gb303, 2, none⟩ = some (.int .i64 a1_2) ∧ w51.cell? ⟨gb303, 3, none⟩ = some (.int .i64 a1_3) ∧ w51.cell? ⟨gb303, 4, none⟩ = some (.int .i64 a1_4) ∧ w51.cell? ⟨gb303, 5, none⟩ = some (.int .i64 a1_5) ∧ w51.cell? ⟨gb303, 6, none⟩ = some (.int .i64 a1_6) := hS_
  obtain ⟨Ao52, co52, eo52⟩ := Kd.R_slice HO346.out
  (first | subst eo52 | (injection eo52 with f1_ f2_ f3_; have f4_ := f1_.symm; have f5_ := f3_.symm; clear f1_ f2_ f3_; subst f4_; subst f5_))
  obtain ⟨Ao54, co54, eo54⟩ := Kd.R_slice HO349.out
  (first | subst eo54 | (injection eo54 with f1_ f2_ f3_; have f4_ := f1_.symm; have f5_ := f3_.symm; clear f1_ f2_ f3_; subst f4_; subst f5_))
  refine norm_ (a' := ?_) ?_ ?_
  rotate_left
  ·simp only [putAll, Act.put, List.setIfInBounds_toArray, List.set_cons_zero, List.set_cons_succ]
   rfl
  refine one_ (i := 11) (N := none) #[true, true, true, true, true, true, true, true, true, true, true, true, false, false] rfl rfl (one_of HT_.out (by kernel_rfl)) (by decide) (fun K hK => ?_)
  have hs53 : w51.cell? ⟨gb353, 0, none⟩ = some (.slice none 0 0) := (blk_cell BK353.out 0).trans rfl
  have hfs53 := blk_frozen BK353.out 0
  have hns53_0 := NB302_353.out
  have hns53_1 := NB303_353.out
  have hns53_2 := NB328_353.out
  have hns53_3 := NB336_353.out
  have hms53_0 := NB353_302.out
  have hms53_1 := NB353_303.out
  have hms53_2 := NB353_328.out
  have hms53_3 := NB353_336.out
  have hs55 : w51.cell? ⟨gb353, 1, none⟩ = some (.slice none 0 0) := (blk_cell BK353.out 1).trans rfl
  have hfs55 := blk_frozen BK353.out 1
  have hns55_0 := NB302_353.out
  have hns55_1 := NB303_353.out
  have hns55_2 := NB328_353.out
  have hns55_3 := NB336_353.out
  have hms55_0 := NB353_302.out
  have hms55_1 := NB353_303.out
  have hms55_2 := NB353_328.out
  have hms55_3 := NB353_336.out
  have hs56 : w51.cell? ⟨gb353, 2, none⟩ = some (.int .i64 0) := (blk_cell BK353.out 2).trans rfl
  have hfs56 := blk_frozen BK353.out 2
  have hns56_0 := NB302_353.out
  have hns56_1 := NB303_353.out
  have hns56_2 := NB328_353.out
  have hns56_3 := NB336_353.out
  have hms56_0 := NB353_302.out
  have hms56_1 := NB353_303.out
  have hms56_2 := NB353_328.out
  have hms56_3 := NB353_336.out
  refine skip_ (w1 := ?_) (by rfl) rfl ?_ ?_
  rotate_left
  ·go_simp
   rfl
  refine hK.out _ _ ⟨((cell_far (p := ⟨gb353, _, none⟩) NB336_353.out _).trans (((cell_far (p := ⟨gb353, _, none⟩) NB336_353.out _).trans (((cell_far (p := ⟨gb353, _, none⟩) NB336_353.out _).trans (hHeld.1)))))), ((cell_far (p := ⟨gb353, _, none⟩) NB336_353.out _).trans (((cell_far (p := ⟨gb353, _, none⟩) NB336_353.out _).trans (((cell_far (p := ⟨gb353, _, none⟩) NB336_353.out _).trans (hHeld.2.1)))))), ((cell_far (p := ⟨gb353, _, none⟩) NB336_353.out _).trans (((cell_far (p := ⟨gb353, _, none⟩) NB336_353.out _).trans (((cell_far (p := ⟨gb353, _, none⟩) NB336_353.out _).trans (hHeld.2.2.1)))))), ((cell_far (p := ⟨gb353, _, none⟩) NB303_353.out _).trans (((cell_far (p := ⟨gb353, _, none⟩) NB303_353.out _).trans (((cell_far (p := ⟨gb353, _, none⟩) NB303_353.out _).trans (hHeld.2.2.2.1)))))), ((cell_far (p := ⟨gb353, _, none⟩) NB303_353.out _).trans (((cell_far (p := ⟨gb353, _, none⟩) NB303_353.out _).trans (((cell_far (p := ⟨gb353, _, none⟩) NB303_353.out _).trans (hHeld.2.2.2.2.1)))))), ((cell_far (p := ⟨gb353, _, none⟩) NB303_353.out _).trans (((cell_far (p := ⟨gb353, _, none⟩) NB303_353.out _).trans (((cell_far (p := ⟨gb353, _, none⟩) NB303_353.out _).trans (hHeld.2.2.2.2.2.1)))))), ((cell_far (p := ⟨gb353, _, none⟩) NB303_353.out _).trans (((cell_far (p := ⟨gb353, _, none⟩) NB303_353.out _).trans (((cell_far (p := ⟨gb353, _, none⟩) NB303_353.out _).trans (hHeld.2.2.2.2.2.2.1)))))), ((cell_far (p := ⟨gb353, _, none⟩) NB303_353.out _).trans (((cell_far (p := ⟨gb353, _, none⟩) NB303_353.out _).trans (((cell_far (p := ⟨gb353, _, none⟩) NB303_353.out _).trans (hHeld.2.2.2.2.2.2.2.1)))))), ((cell_far (p := ⟨gb353, _, none⟩) NB303_353.out _).trans (((cell_far (p := ⟨gb353, _, none⟩) NB303_353.out _).trans (((cell_far (p := ⟨gb353, _, none⟩) NB303_353.out _).trans (hHeld.2.2.2.2.2.2.2.2.1)))))), ((cell_far (p := ⟨gb353, _, none⟩) NB303_353.out _).trans (((cell_far (p := ⟨gb353, _, none⟩) NB303_353.out _).trans (((cell_far (p := ⟨gb353, _, none⟩) NB303_353.out _).trans (hHeld.2.2.2.2.2.2.2.2.2))))))⟩ (fun hHeld => ?_)
  clear hK K
  refine pure_ (i := 12) (N := some 15) (v := ?_) (a' := ?_) #[true, true, true, true, true, true, true, true, true, true, true, true, true, false] rfl rfl (any_of HT_.out (by kernel_rfl)) (fun _ _ _ h => h) (Or.inl ⟨by rfl, ?_⟩) ?_ ?_
  rotate_left
  ·intro w'
   go_simp
   with_reducible rfl
  rotate_left
  ·simp only [apn]
   rfl
  refine pure_ (i := 13) (N := some 16) (v := ?_) (a' := ?_) #[true, true, true, true, true, true, true, true, true, true, true, true, true, true] rfl rfl (any_of HT_.out (by kernel_rfl)) (fun _ _ _ h => h) (Or.inl ⟨by rfl, ?_⟩) ?_ ?_
  rotate_left
  ·intro w'
   go_simp
   with_reducible rfl
  rotate_left
  ·simp only [apn]
   rfl
  refine done_ (done_of HT_.out (by kernel_rfl)) ?_
  go_upto_region 8 with (fail)
  go_cut [64] (fun v64 wc => ∃ (kq : Nat) (x64_16 : Bool), v64 = .bool x64_16 ∧ Aside0 (laws_FnExactApplyWish.j0 kq a2 a3 t326 t327 t351 t352 x64_16 l0_0 l0_1 a0_2 a1_0 a1_1 a1_2 a1_3 a1_4 a1_5 a1_6 t319 t322 t325 t329 t332 t335 t344 t347 t350 = some r) ∧ Aside0 (kq ≤ k) ∧ Aside0 (Kd.R (Kd.int .i64) 3 wc w.heap.size (fun k_ => some k_ ≠ ((.slice Ao33 t322.length co33) : Value).ownBlock ∧ some k_ ≠ ((.slice Ao40 t329.length co40) : Value).ownBlock ∧ some k_ ≠ ((.slice Ao45 t332.length co45) : Value).ownBlock ∧ some k_ ≠ ((.slice Ao52 t344.length co52) : Value).ownBlock ∧ some k_ ≠ ((.slice Ao54 t347.length co54) : Value).ownBlock) (.slice Ao31 t319.length co31) t319) ∧ Aside0 (Kd.R (Kd.int .i64) 3 wc w.heap.size (fun k_ => some k_ ≠ ((.slice Ao31 t319.length co31) : Value).ownBlock ∧ some k_ ≠ ((.slice Ao40 t329.length co40) : Value).ownBlock ∧ some k_ ≠ ((.slice Ao45 t332.length co45) : Value).ownBlock ∧ some k_ ≠ ((.slice Ao52 t344.length co52) : Value).ownBlock ∧ some k_ ≠ ((.slice Ao54 t347.length co54) : Value).ownBlock) (.slice Ao33 t322.length co33) t322) ∧ Aside0 (Kd.R (Kd.int .i64) 3 wc w.heap.size (fun k_ => some k_ ≠ ((.slice Ao31 t319.length co31) : Value).ownBlock ∧ some k_ ≠ ((.slice Ao33 t322.length co33) : Value).ownBlock ∧ some k_ ≠ ((.slice Ao45 t332.length co45) : Value).ownBlock ∧ some k_ ≠ ((.slice Ao52 t344.length co52) : Value).ownBlock ∧ some k_ ≠ ((.slice Ao54 t347.length co54) : Value).ownBlock) (.slice Ao40 t329.length co40) t329) ∧ Aside0 (Kd.R (Kd.int .i64) 3 wc w.heap.size (fun k_ => some k_ ≠ ((.slice Ao31 t319.length co31) : Value).ownBlock ∧ some k_ ≠ ((.slice Ao33 t322.length co33) : Value).ownBlock ∧ some k_ ≠ ((.slice Ao40 t329.length co40) : Value).ownBlock ∧ some k_ ≠ ((.slice Ao52 t344.length co52) : Value).ownBlock ∧ some k_ ≠ ((.slice Ao54 t347.length co54) : Value).ownBlock) (.slice Ao45 t332.length co45) t332) ∧ Aside0 (Kd.R (Kd.int .i64) 3 wc w.heap.size (fun k_ => some k_ ≠ ((.slice Ao31 t319.length co31) : Value).ownBlock ∧ some k_ ≠ ((.slice Ao33 t322.length co33) : Value).ownBlock ∧ some k_ ≠ ((.slice Ao40 t329.length co40) : Value).ownBlock ∧ some k_ ≠ ((.slice Ao45 t332.length co45) : Value).ownBlock ∧ some k_ ≠ ((.slice Ao54 t347.length co54) : Value).ownBlock) (.slice Ao52 t344.length co52) t344) ∧ Aside0 (Kd.R (Kd.int .i64) 3 wc w.heap.size (fun k_ => some k_ ≠ ((.slice Ao31 t319.length co31) : Value).ownBlock ∧ some k_ ≠ ((.slice Ao33 t322.length co33) : Value).ownBlock ∧ some k_ ≠ ((.slice Ao40 t329.length co40) : Value).ownBlock ∧ some k_ ≠ ((.slice Ao45 t332.length co45) : Value).ownBlock ∧ some k_ ≠ ((.slice Ao52 t344.length co52) : Value).ownBlock) (.slice Ao54 t347.length co54) t347) ∧ Aside0 (wc.heap[gb302]? = some (.cells #[(.slice A0_0 l0_0.length c0_0), (.slice A0_1 l0_1.length c0_1), .int .i64 a0_2] 24 (0, 0))) ∧ Aside0 (wc.heap[gb303]? = some (.cells #[.int .i64 a1_0, .int .i64 a1_1, .int .i64 a1_2, .int .i64 a1_3, .int .i64 a1_4, .int .i64 a1_5, .int .i64 a1_6] 26 (0, 0))) ∧ Aside0 (wc.heap[gb328]? = some (.cells #[(.slice Ao31 t319.length co31), (.slice Ao33 t322.length co33), .int .i64 t325] 28 (0, 0))) ∧ Aside0 (wc.heap[gb336]? = some (.cells #[(.slice Ao40 t329.length co40), (.slice Ao45 t332.length co45), .int .i64 t335] 28 (0, 0))) ∧ Aside0 (wc.heap[gb353]? = some (.cells #[(.slice Ao52 t344.length co52), (.slice Ao54 t347.length co54), .int .i64 t350] 28 (0, 0))) ∧ Aside0 (Below w.heap.size w wc))
  case first =>
   have H := HC17.out
   clear HC17
   replace H := Option.bind_eq_some_iff.mp H
   obtain ⟨t354, A570, H⟩ := H
   have A57 := Aside0.mk A570
   clear A570
   by_cases c58 : t354 = true
   ·subst c58
    rw [if_pos rfl] at H
    by_cases c59 : t351 = t326
    ·rw [if_pos c59] at H
     have c59b0 : (t351 == t326) = true := beq_iff_eq.mpr c59
     have c59b1 : (t351 != t326) = false := bne_eq_false_iff_eq.mpr c59
     clear c59
     (first | rw [c59b0] | (simp only [i64_w, i32_w]; rw [c59b0]) | skip)
     have H' := Aside0.mk H
     clear H
     have hnb60 := NB353_302.out
     have hnc60 := NB302_353.out
     have hnb61 := NB353_303.out
     have hnc61 := NB303_353.out
     have hnb62 := NB353_328.out
     have hnc62 := NB328_353.out
     have hnb63 := NB353_336.out
     have hnc63 := NB336_353.out
     obtain ⟨hcz64_0, hcz64_1, hcz64_2, hfz64_0, hfz64_1, hfz64_2⟩ := cq3 BK353.out
     have hnb65 := NB328_302.out
     have hnc65 := NB302_328.out
     have hnb66 := NB328_303.out
     have hnc66 := NB303_328.out
     have hnb67 := NB328_336.out
     have hnc67 := NB336_328.out
     obtain ⟨hcz68_0, hcz68_1, hcz68_2, hfz68_0, hfz68_1, hfz68_2⟩ := cq3 BK328.out
     go_wp2_with (first | ((with_reducible refine gate_callee (f := 16) rfl ?_); refine goesL_ (some 53) rfl rfl Try.func16 (by kernel_rfl) rfl #[.agg #[.slice Ao52 t344.length co52, .slice Ao54 t347.length co54, .int .i64 t350], .agg #[.slice Ao31 t319.length co31, .slice Ao33 t322.length co33, .int .i64 t325]] rfl aq ?_; (with_reducible refine (laws_eqState.calls k _ _ t344 _ _ t347 t350 _ _ t319 _ _ t322 t325 true _ ?side1 ?side2 ?side3 ?side4 ?side5 ?side6 ?side7 ?side8 A57.out).mono ?_); (case side1 => refine (Kd.R_reads' (e := 3) (base := w.heap.size) (ok := fun k_ => (some k_ ≠ (.slice Ao31 t319.length co31 : Value).ownBlock ∧ (some k_ ≠ (.slice Ao33 t322.length co33 : Value).ownBlock ∧ (some k_ ≠ (.slice Ao40 t329.length co40 : Value).ownBlock ∧ (some k_ ≠ (.slice Ao45 t332.length co45 : Value).ownBlock ∧ some k_ ≠ (.slice Ao54 t347.length co54 : Value).ownBlock))))) (n := t344.length) (c := co52) ?_).2.2; exact (by (with_reducible repeat (first | apply Kd.R_alloc | apply Kd.R_drewN | apply Kd.R_drew)); exact (rf3 HO346.out BK353.out))); (case side2 => exact (Kd.R_reads' HO346.out).2.1); (case side3 => refine (Kd.R_reads' (e := 3) (base := w.heap.size) (ok := fun k_ => (some k_ ≠ (.slice Ao31 t319.length co31 : Value).ownBlock ∧ (some k_ ≠ (.slice Ao33 t322.length co33 : Value).ownBlock ∧ (some k_ ≠ (.slice Ao40 t329.length co40 : Value).ownBlock ∧ (some k_ ≠ (.slice Ao45 t332.length co45 : Value).ownBlock ∧ some k_ ≠ (.slice Ao52 t344.length co52 : Value).ownBlock))))) (n := t347.length) (c := co54) ?_).2.2; exact (by (with_reducible repeat (first | apply Kd.R_alloc | apply Kd.R_drewN | apply Kd.R_drew)); exact (rf3 HO349.out BK353.out))); (case side4 => exact (Kd.R_reads' HO349.out).2.1); (case side5 => refine (Kd.R_reads' (e := 3) (base := w.heap.size) (ok := fun k_ => (some k_ ≠ (.slice Ao33 t322.length co33 : Value).ownBlock ∧ (some k_ ≠ (.slice Ao40 t329.length co40 : Value).ownBlock ∧ (some k_ ≠ (.slice Ao45 t332.length co45 : Value).ownBlock ∧ (some k_ ≠ (.slice Ao52 t344.length co52 : Value).ownBlock ∧ some k_ ≠ (.slice Ao54 t347.length co54 : Value).ownBlock))))) (n := t319.length) (c := co31) ?_).2.2; exact (by (with_reducible repeat (first | apply Kd.R_alloc | apply Kd.R_drewN | apply Kd.R_drew)); exact (rf3 HO321.out BK353.out))); (case side6 => exact (Kd.R_reads' HO321.out).2.1); (case side7 => refine (Kd.R_reads' (e := 3) (base := w.heap.size) (ok := fun k_ => (some k_ ≠ (.slice Ao31 t319.length co31 : Value).ownBlock ∧ (some k_ ≠ (.slice Ao40 t329.length co40 : Value).ownBlock ∧ (some k_ ≠ (.slice Ao45 t332.length co45 : Value).ownBlock ∧ (some k_ ≠ (.slice Ao52 t344.length co52 : Value).ownBlock ∧ some k_ ≠ (.slice Ao54 t347.length co54 : Value).ownBlock))))) (n := t322.length) (c := co33) ?_).2.2; exact (by (with_reducible repeat (first | apply Kd.R_alloc | apply Kd.R_drewN | apply Kd.R_drew)); exact (rf3 HO324.out BK353.out))); (case side8 => exact (Kd.R_reads' HO324.out).2.1); rintro e w69 ⟨rfl, hb⟩; refine ⟨_, rfl, ?_⟩; have n_ := And.intro (Aside0.mk (Kd.R_below (by (with_reducible repeat (first | apply Kd.R_alloc | apply Kd.R_drewN | apply Kd.R_drew)); exact (rf3 HO321.out BK353.out)) hb)) (And.intro (Aside0.mk (Kd.R_below (by (with_reducible repeat (first | apply Kd.R_alloc | apply Kd.R_drewN | apply Kd.R_drew)); exact (rf3 HO324.out BK353.out)) hb)) (And.intro (Aside0.mk (Kd.R_below (by (with_reducible repeat (first | apply Kd.R_alloc | apply Kd.R_drewN | apply Kd.R_drew)); exact (rf3 HO331.out BK353.out)) hb)) (And.intro (Aside0.mk (Kd.R_below (by (with_reducible repeat (first | apply Kd.R_alloc | apply Kd.R_drewN | apply Kd.R_drew)); exact (rf3 HO334.out BK353.out)) hb)) (And.intro (Aside0.mk (Kd.R_below (by (with_reducible repeat (first | apply Kd.R_alloc | apply Kd.R_drewN | apply Kd.R_drew)); exact (rf3 HO346.out BK353.out)) hb)) (And.intro (Aside0.mk (Kd.R_below (by (with_reducible repeat (first | apply Kd.R_alloc | apply Kd.R_drewN | apply Kd.R_drew)); exact (rf3 HO349.out BK353.out)) hb)) (And.intro (Aside0.mk (blk_below (bf3 BK302.out NB302_353.out) hb)) (And.intro (Aside0.mk (blk_below (bf3 BK303.out NB303_353.out) hb)) (And.intro (Aside0.mk (blk_below (bf3 BK328.out NB328_353.out) hb)) (And.intro (Aside0.mk (blk_below (bf3 BK336.out NB336_353.out) hb)) (And.intro (Aside0.mk (blk_below (bp3 BK353.out) hb)) (Aside0.mk (below_step (bw5 HB.out GE302.out GE303.out GE328.out GE336.out GE353.out) hb)))))))))))); clear HO321 HO324 HO331 HO334 HO346 HO349 BK302 BK303 BK328 BK336 BK353 HB; obtain ⟨HO321, HO324, HO331, HO334, HO346, HO349, BK302, BK303, BK328, BK336, BK353, HB⟩ := n_; (try clear hb); (try clear hb2); (try clear hk); (try clear hi)))
     go_meet
     case rel => exact ⟨_, ((t352 != t327)), (by first | rfl | (simp; done) | (simp [*]; done)), H', ⟨by first | omega | exact Nat.le_refl _⟩, ⟨by (with_reducible repeat (first | apply Kd.R_alloc | apply Kd.R_drewN | apply Kd.R_drew)); exact HO321.out⟩, ⟨by (with_reducible repeat (first | apply Kd.R_alloc | apply Kd.R_drewN | apply Kd.R_drew)); exact HO324.out⟩, ⟨by (with_reducible repeat (first | apply Kd.R_alloc | apply Kd.R_drewN | apply Kd.R_drew)); exact HO331.out⟩, ⟨by (with_reducible repeat (first | apply Kd.R_alloc | apply Kd.R_drewN | apply Kd.R_drew)); exact HO334.out⟩, ⟨by (with_reducible repeat (first | apply Kd.R_alloc | apply Kd.R_drewN | apply Kd.R_drew)); exact HO346.out⟩, ⟨by (with_reducible repeat (first | apply Kd.R_alloc | apply Kd.R_drewN | apply Kd.R_drew)); exact HO349.out⟩, ⟨by (with_reducible repeat (first | refine blk_drewN ?_ _ | refine blk_drew ?_ | refine blk_alloc ?_ _)); exact BK302.out⟩, ⟨by (with_reducible repeat (first | refine blk_drewN ?_ _ | refine blk_drew ?_ | refine blk_alloc ?_ _)); exact BK303.out⟩, ⟨by (with_reducible repeat (first | refine blk_drewN ?_ _ | refine blk_drew ?_ | refine blk_alloc ?_ _)); exact BK328.out⟩, ⟨by (with_reducible repeat (first | refine blk_drewN ?_ _ | refine blk_drew ?_ | refine blk_alloc ?_ _)); exact BK336.out⟩, ⟨by (with_reducible repeat (first | refine blk_drewN ?_ _ | refine blk_drew ?_ | refine blk_alloc ?_ _)); exact BK353.out⟩, ⟨by repeat (first | (with_reducible first | exact HB.out | apply below_alloc | apply pw_below_drewN | apply below_drew1 | refine below_set ?_ GE302.out | refine below_set ?_ GE303.out | refine below_set ?_ GE328.out | refine below_set ?_ GE336.out | refine below_set ?_ GE353.out) | exact HB.out)⟩⟩
    ·rw [if_neg c59] at H
     have c59b0 : (t351 == t326) = false := beq_eq_false_iff_ne.mpr c59
     have c59b1 : (t351 != t326) = true := bne_iff_ne.mpr c59
     (first | rw [c59b0] | (simp only [i64_w, i32_w]; rw [c59b0]) | skip)
     have H' := Aside0.mk H
     clear H
     have hnb70 := NB353_302.out
     have hnc70 := NB302_353.out
     have hnb71 := NB353_303.out
     have hnc71 := NB303_353.out
     have hnb72 := NB353_328.out
     have hnc72 := NB328_353.out
     have hnb73 := NB353_336.out
     have hnc73 := NB336_353.out
     obtain ⟨hcz74_0, hcz74_1, hcz74_2, hfz74_0, hfz74_1, hfz74_2⟩ := cq3 BK353.out
     have hnb75 := NB328_302.out
     have hnc75 := NB302_328.out
     have hnb76 := NB328_303.out
     have hnc76 := NB303_328.out
     have hnb77 := NB328_336.out
     have hnc77 := NB336_328.out
     obtain ⟨hcz78_0, hcz78_1, hcz78_2, hfz78_0, hfz78_1, hfz78_2⟩ := cq3 BK328.out
     go_wp2_with (first | ((with_reducible refine gate_callee (f := 16) rfl ?_); refine goesL_ (some 53) rfl rfl Try.func16 (by kernel_rfl) rfl #[.agg #[.slice Ao52 t344.length co52, .slice Ao54 t347.length co54, .int .i64 t350], .agg #[.slice Ao31 t319.length co31, .slice Ao33 t322.length co33, .int .i64 t325]] rfl aq ?_; (with_reducible refine (laws_eqState.calls k _ _ t344 _ _ t347 t350 _ _ t319 _ _ t322 t325 true _ ?side1 ?side2 ?side3 ?side4 ?side5 ?side6 ?side7 ?side8 A57.out).mono ?_); (case side1 => refine (Kd.R_reads' (e := 3) (base := w.heap.size) (ok := fun k_ => (some k_ ≠ (.slice Ao31 t319.length co31 : Value).ownBlock ∧ (some k_ ≠ (.slice Ao33 t322.length co33 : Value).ownBlock ∧ (some k_ ≠ (.slice Ao40 t329.length co40 : Value).ownBlock ∧ (some k_ ≠ (.slice Ao45 t332.length co45 : Value).ownBlock ∧ some k_ ≠ (.slice Ao54 t347.length co54 : Value).ownBlock))))) (n := t344.length) (c := co52) ?_).2.2; exact (by (with_reducible repeat (first | apply Kd.R_alloc | apply Kd.R_drewN | apply Kd.R_drew)); exact (rf3 HO346.out BK353.out))); (case side2 => exact (Kd.R_reads' HO346.out).2.1); (case side3 => refine (Kd.R_reads' (e := 3) (base := w.heap.size) (ok := fun k_ => (some k_ ≠ (.slice Ao31 t319.length co31 : Value).ownBlock ∧ (some k_ ≠ (.slice Ao33 t322.length co33 : Value).ownBlock ∧ (some k_ ≠ (.slice Ao40 t329.length co40 : Value).ownBlock ∧ (some k_ ≠ (.slice Ao45 t332.length co45 : Value).ownBlock ∧ some k_ ≠ (.slice Ao52 t344.length co52 : Value).ownBlock))))) (n := t347.length) (c := co54) ?_).2.2; exact (by (with_reducible repeat (first | apply Kd.R_alloc | apply Kd.R_drewN | apply Kd.R_drew)); exact (rf3 HO349.out BK353.out))); (case side4 => exact (Kd.R_reads' HO349.out).2.1); (case side5 => refine (Kd.R_reads' (e := 3) (base := w.heap.size) (ok := fun k_ => (some k_ ≠ (.slice Ao33 t322.length co33 : Value).ownBlock ∧ (some k_ ≠ (.slice Ao40 t329.length co40 : Value).ownBlock ∧ (some k_ ≠ (.slice Ao45 t332.length co45 : Value).ownBlock ∧ (some k_ ≠ (.slice Ao52 t344.length co52 : Value).ownBlock ∧ some k_ ≠ (.slice Ao54 t347.length co54 : Value).ownBlock))))) (n := t319.length) (c := co31) ?_).2.2; exact (by (with_reducible repeat (first | apply Kd.R_alloc | apply Kd.R_drewN | apply Kd.R_drew)); exact (rf3 HO321.out BK353.out))); (case side6 => exact (Kd.R_reads' HO321.out).2.1); (case side7 => refine (Kd.R_reads' (e := 3) (base := w.heap.size) (ok := fun k_ => (some k_ ≠ (.slice Ao31 t319.length co31 : Value).ownBlock ∧ (some k_ ≠ (.slice Ao40 t329.length co40 : Value).ownBlock ∧ (some k_ ≠ (.slice Ao45 t332.length co45 : Value).ownBlock ∧ (some k_ ≠ (.slice Ao52 t344.length co52 : Value).ownBlock ∧ some k_ ≠ (.slice Ao54 t347.length co54 : Value).ownBlock))))) (n := t322.length) (c := co33) ?_).2.2; exact (by (with_reducible repeat (first | apply Kd.R_alloc | apply Kd.R_drewN | apply Kd.R_drew)); exact (rf3 HO324.out BK353.out))); (case side8 => exact (Kd.R_reads' HO324.out).2.1); rintro e w79 ⟨rfl, hb⟩; refine ⟨_, rfl, ?_⟩; have n_ := And.intro (Aside0.mk (Kd.R_below (by (with_reducible repeat (first | apply Kd.R_alloc | apply Kd.R_drewN | apply Kd.R_drew)); exact (rf3 HO321.out BK353.out)) hb)) (And.intro (Aside0.mk (Kd.R_below (by (with_reducible repeat (first | apply Kd.R_alloc | apply Kd.R_drewN | apply Kd.R_drew)); exact (rf3 HO324.out BK353.out)) hb)) (And.intro (Aside0.mk (Kd.R_below (by (with_reducible repeat (first | apply Kd.R_alloc | apply Kd.R_drewN | apply Kd.R_drew)); exact (rf3 HO331.out BK353.out)) hb)) (And.intro (Aside0.mk (Kd.R_below (by (with_reducible repeat (first | apply Kd.R_alloc | apply Kd.R_drewN | apply Kd.R_drew)); exact (rf3 HO334.out BK353.out)) hb)) (And.intro (Aside0.mk (Kd.R_below (by (with_reducible repeat (first | apply Kd.R_alloc | apply Kd.R_drewN | apply Kd.R_drew)); exact (rf3 HO346.out BK353.out)) hb)) (And.intro (Aside0.mk (Kd.R_below (by (with_reducible repeat (first | apply Kd.R_alloc | apply Kd.R_drewN | apply Kd.R_drew)); exact (rf3 HO349.out BK353.out)) hb)) (And.intro (Aside0.mk (blk_below (bf3 BK302.out NB302_353.out) hb)) (And.intro (Aside0.mk (blk_below (bf3 BK303.out NB303_353.out) hb)) (And.intro (Aside0.mk (blk_below (bf3 BK328.out NB328_353.out) hb)) (And.intro (Aside0.mk (blk_below (bf3 BK336.out NB336_353.out) hb)) (And.intro (Aside0.mk (blk_below (bp3 BK353.out) hb)) (Aside0.mk (below_step (bw5 HB.out GE302.out GE303.out GE328.out GE336.out GE353.out) hb)))))))))))); clear HO321 HO324 HO331 HO334 HO346 HO349 BK302 BK303 BK328 BK336 BK353 HB; obtain ⟨HO321, HO324, HO331, HO334, HO346, HO349, BK302, BK303, BK328, BK336, BK353, HB⟩ := n_; (try clear hb); (try clear hb2); (try clear hk); (try clear hi)))
     go_meet
     case rel => exact ⟨_, (true), (by first | rfl | (simp; done) | (simp [*]; done)), H', ⟨by first | omega | exact Nat.le_refl _⟩, ⟨by (with_reducible repeat (first | apply Kd.R_alloc | apply Kd.R_drewN | apply Kd.R_drew)); exact HO321.out⟩, ⟨by (with_reducible repeat (first | apply Kd.R_alloc | apply Kd.R_drewN | apply Kd.R_drew)); exact HO324.out⟩, ⟨by (with_reducible repeat (first | apply Kd.R_alloc | apply Kd.R_drewN | apply Kd.R_drew)); exact HO331.out⟩, ⟨by (with_reducible repeat (first | apply Kd.R_alloc | apply Kd.R_drewN | apply Kd.R_drew)); exact HO334.out⟩, ⟨by (with_reducible repeat (first | apply Kd.R_alloc | apply Kd.R_drewN | apply Kd.R_drew)); exact HO346.out⟩, ⟨by (with_reducible repeat (first | apply Kd.R_alloc | apply Kd.R_drewN | apply Kd.R_drew)); exact HO349.out⟩, ⟨by (with_reducible repeat (first | refine blk_drewN ?_ _ | refine blk_drew ?_ | refine blk_alloc ?_ _)); exact BK302.out⟩, ⟨by (with_reducible repeat (first | refine blk_drewN ?_ _ | refine blk_drew ?_ | refine blk_alloc ?_ _)); exact BK303.out⟩, ⟨by (with_reducible repeat (first | refine blk_drewN ?_ _ | refine blk_drew ?_ | refine blk_alloc ?_ _)); exact BK328.out⟩, ⟨by (with_reducible repeat (first | refine blk_drewN ?_ _ | refine blk_drew ?_ | refine blk_alloc ?_ _)); exact BK336.out⟩, ⟨by (with_reducible repeat (first | refine blk_drewN ?_ _ | refine blk_drew ?_ | refine blk_alloc ?_ _)); exact BK353.out⟩, ⟨by repeat (first | (with_reducible first | exact HB.out | apply below_alloc | apply pw_below_drewN | apply below_drew1 | refine below_set ?_ GE302.out | refine below_set ?_ GE303.out | refine below_set ?_ GE328.out | refine below_set ?_ GE336.out | refine below_set ?_ GE353.out) | exact HB.out)⟩⟩
   ·replace c58 := Bool.eq_false_iff.mpr c58
    subst c58
    rw [if_neg (show ¬ (false = true) by decide)] at H
    have H' := Aside0.mk H
    clear H
    have hnb80 := NB353_302.out
    have hnc80 := NB302_353.out
    have hnb81 := NB353_303.out
    have hnc81 := NB303_353.out
    have hnb82 := NB353_328.out
    have hnc82 := NB328_353.out
    have hnb83 := NB353_336.out
    have hnc83 := NB336_353.out
    obtain ⟨hcz84_0, hcz84_1, hcz84_2, hfz84_0, hfz84_1, hfz84_2⟩ := cq3 BK353.out
    have hnb85 := NB328_302.out
    have hnc85 := NB302_328.out
    have hnb86 := NB328_303.out
    have hnc86 := NB303_328.out
    have hnb87 := NB328_336.out
    have hnc87 := NB336_328.out
    obtain ⟨hcz88_0, hcz88_1, hcz88_2, hfz88_0, hfz88_1, hfz88_2⟩ := cq3 BK328.out
    go_wp2_with (first | ((with_reducible refine gate_callee (f := 16) rfl ?_); refine goesL_ (some 53) rfl rfl Try.func16 (by kernel_rfl) rfl #[.agg #[.slice Ao52 t344.length co52, .slice Ao54 t347.length co54, .int .i64 t350], .agg #[.slice Ao31 t319.length co31, .slice Ao33 t322.length co33, .int .i64 t325]] rfl aq ?_; (with_reducible refine (laws_eqState.calls k _ _ t344 _ _ t347 t350 _ _ t319 _ _ t322 t325 false _ ?side1 ?side2 ?side3 ?side4 ?side5 ?side6 ?side7 ?side8 A57.out).mono ?_); (case side1 => refine (Kd.R_reads' (e := 3) (base := w.heap.size) (ok := fun k_ => (some k_ ≠ (.slice Ao31 t319.length co31 : Value).ownBlock ∧ (some k_ ≠ (.slice Ao33 t322.length co33 : Value).ownBlock ∧ (some k_ ≠ (.slice Ao40 t329.length co40 : Value).ownBlock ∧ (some k_ ≠ (.slice Ao45 t332.length co45 : Value).ownBlock ∧ some k_ ≠ (.slice Ao54 t347.length co54 : Value).ownBlock))))) (n := t344.length) (c := co52) ?_).2.2; exact (by (with_reducible repeat (first | apply Kd.R_alloc | apply Kd.R_drewN | apply Kd.R_drew)); exact (rf3 HO346.out BK353.out))); (case side2 => exact (Kd.R_reads' HO346.out).2.1); (case side3 => refine (Kd.R_reads' (e := 3) (base := w.heap.size) (ok := fun k_ => (some k_ ≠ (.slice Ao31 t319.length co31 : Value).ownBlock ∧ (some k_ ≠ (.slice Ao33 t322.length co33 : Value).ownBlock ∧ (some k_ ≠ (.slice Ao40 t329.length co40 : Value).ownBlock ∧ (some k_ ≠ (.slice Ao45 t332.length co45 : Value).ownBlock ∧ some k_ ≠ (.slice Ao52 t344.length co52 : Value).ownBlock))))) (n := t347.length) (c := co54) ?_).2.2; exact (by (with_reducible repeat (first | apply Kd.R_alloc | apply Kd.R_drewN | apply Kd.R_drew)); exact (rf3 HO349.out BK353.out))); (case side4 => exact (Kd.R_reads' HO349.out).2.1); (case side5 => refine (Kd.R_reads' (e := 3) (base := w.heap.size) (ok := fun k_ => (some k_ ≠ (.slice Ao33 t322.length co33 : Value).ownBlock ∧ (some k_ ≠ (.slice Ao40 t329.length co40 : Value).ownBlock ∧ (some k_ ≠ (.slice Ao45 t332.length co45 : Value).ownBlock ∧ (some k_ ≠ (.slice Ao52 t344.length co52 : Value).ownBlock ∧ some k_ ≠ (.slice Ao54 t347.length co54 : Value).ownBlock))))) (n := t319.length) (c := co31) ?_).2.2; exact (by (with_reducible repeat (first | apply Kd.R_alloc | apply Kd.R_drewN | apply Kd.R_drew)); exact (rf3 HO321.out BK353.out))); (case side6 => exact (Kd.R_reads' HO321.out).2.1); (case side7 => refine (Kd.R_reads' (e := 3) (base := w.heap.size) (ok := fun k_ => (some k_ ≠ (.slice Ao31 t319.length co31 : Value).ownBlock ∧ (some k_ ≠ (.slice Ao40 t329.length co40 : Value).ownBlock ∧ (some k_ ≠ (.slice Ao45 t332.length co45 : Value).ownBlock ∧ (some k_ ≠ (.slice Ao52 t344.length co52 : Value).ownBlock ∧ some k_ ≠ (.slice Ao54 t347.length co54 : Value).ownBlock))))) (n := t322.length) (c := co33) ?_).2.2; exact (by (with_reducible repeat (first | apply Kd.R_alloc | apply Kd.R_drewN | apply Kd.R_drew)); exact (rf3 HO324.out BK353.out))); (case side8 => exact (Kd.R_reads' HO324.out).2.1); rintro e w89 ⟨rfl, hb⟩; refine ⟨_, rfl, ?_⟩; have n_ := And.intro (Aside0.mk (Kd.R_below (by (with_reducible repeat (first | apply Kd.R_alloc | apply Kd.R_drewN | apply Kd.R_drew)); exact (rf3 HO321.out BK353.out)) hb)) (And.intro (Aside0.mk (Kd.R_below (by (with_reducible repeat (first | apply Kd.R_alloc | apply Kd.R_drewN | apply Kd.R_drew)); exact (rf3 HO324.out BK353.out)) hb)) (And.intro (Aside0.mk (Kd.R_below (by (with_reducible repeat (first | apply Kd.R_alloc | apply Kd.R_drewN | apply Kd.R_drew)); exact (rf3 HO331.out BK353.out)) hb)) (And.intro (Aside0.mk (Kd.R_below (by (with_reducible repeat (first | apply Kd.R_alloc | apply Kd.R_drewN | apply Kd.R_drew)); exact (rf3 HO334.out BK353.out)) hb)) (And.intro (Aside0.mk (Kd.R_below (by (with_reducible repeat (first | apply Kd.R_alloc | apply Kd.R_drewN | apply Kd.R_drew)); exact (rf3 HO346.out BK353.out)) hb)) (And.intro (Aside0.mk (Kd.R_below (by (with_reducible repeat (first | apply Kd.R_alloc | apply Kd.R_drewN | apply Kd.R_drew)); exact (rf3 HO349.out BK353.out)) hb)) (And.intro (Aside0.mk (blk_below (bf3 BK302.out NB302_353.out) hb)) (And.intro (Aside0.mk (blk_below (bf3 BK303.out NB303_353.out) hb)) (And.intro (Aside0.mk (blk_below (bf3 BK328.out NB328_353.out) hb)) (And.intro (Aside0.mk (blk_below (bf3 BK336.out NB336_353.out) hb)) (And.intro (Aside0.mk (blk_below (bp3 BK353.out) hb)) (Aside0.mk (below_step (bw5 HB.out GE302.out GE303.out GE328.out GE336.out GE353.out) hb)))))))))))); clear HO321 HO324 HO331 HO334 HO346 HO349 BK302 BK303 BK328 BK336 BK353 HB; obtain ⟨HO321, HO324, HO331, HO334, HO346, HO349, BK302, BK303, BK328, BK336, BK353, HB⟩ := n_; (try clear hb); (try clear hb2); (try clear hk); (try clear hi)))
    go_meet
    case rel => exact ⟨_, (true), (by first | rfl | (simp; done) | (simp [*]; done)), H', ⟨by first | omega | exact Nat.le_refl _⟩, ⟨by (with_reducible repeat (first | apply Kd.R_alloc | apply Kd.R_drewN | apply Kd.R_drew)); exact HO321.out⟩, ⟨by (with_reducible repeat (first | apply Kd.R_alloc | apply Kd.R_drewN | apply Kd.R_drew)); exact HO324.out⟩, ⟨by (with_reducible repeat (first | apply Kd.R_alloc | apply Kd.R_drewN | apply Kd.R_drew)); exact HO331.out⟩, ⟨by (with_reducible repeat (first | apply Kd.R_alloc | apply Kd.R_drewN | apply Kd.R_drew)); exact HO334.out⟩, ⟨by (with_reducible repeat (first | apply Kd.R_alloc | apply Kd.R_drewN | apply Kd.R_drew)); exact HO346.out⟩, ⟨by (with_reducible repeat (first | apply Kd.R_alloc | apply Kd.R_drewN | apply Kd.R_drew)); exact HO349.out⟩, ⟨by (with_reducible repeat (first | refine blk_drewN ?_ _ | refine blk_drew ?_ | refine blk_alloc ?_ _)); exact BK302.out⟩, ⟨by (with_reducible repeat (first | refine blk_drewN ?_ _ | refine blk_drew ?_ | refine blk_alloc ?_ _)); exact BK303.out⟩, ⟨by (with_reducible repeat (first | refine blk_drewN ?_ _ | refine blk_drew ?_ | refine blk_alloc ?_ _)); exact BK328.out⟩, ⟨by (with_reducible repeat (first | refine blk_drewN ?_ _ | refine blk_drew ?_ | refine blk_alloc ?_ _)); exact BK336.out⟩, ⟨by (with_reducible repeat (first | refine blk_drewN ?_ _ | refine blk_drew ?_ | refine blk_alloc ?_ _)); exact BK353.out⟩, ⟨by repeat (first | (with_reducible first | exact HB.out | apply below_alloc | apply pw_below_drewN | apply below_drew1 | refine below_set ?_ GE302.out | refine below_set ?_ GE303.out | refine below_set ?_ GE328.out | refine below_set ?_ GE336.out | refine below_set ?_ GE353.out) | exact HB.out)⟩⟩
  case rest =>
   clear HC17
   try clear c1
   try clear p2
   try clear c5
   try clear c6
   try clear c7
   try clear c8
   try clear c14
   try clear c15
   try clear c16
   try clear c58
   try clear c59
   try clear c59b0
   try clear c59b1
   try clear c60
   try clear c61
   try clear c62
   try clear c63
   try clear c65
   try clear c66
   try clear c67
   try clear c70
   try clear c71
   try clear c72
   try clear c73
   try clear c75
   try clear c76
   try clear c77
   try clear c80
   try clear c81
   try clear c82
   try clear c83
   try clear c85
   try clear c86
   try clear c87
   obtain ⟨kq, x64_16, rfl, HA, HJ16, HO_329000, HO_329001, HO_337000, HO_337001, HO_354000, HO_354001, BK302, BK303, BK328, BK336, BK353, HB⟩ := hcut
   cases kq with
   | zero => exact absurd HA.out (by simp [laws_FnExactApplyWish.j0])
   | succ kj16 =>
    have H := HA.out
    clear HA
    simp only [laws_FnExactApplyWish.j0] at H
    by_cases c90 : x64_16 = true
    ·subst c90
     rw [if_pos rfl] at H
     exact absurd H (by simp)
    ·replace c90 := Bool.eq_false_iff.mpr c90
     subst c90
     rw [if_neg (show ¬ (false = true) by decide)] at H
     replace H := Option.bind_eq_some_iff.mp H
     obtain ⟨⟨t355, t358, t361⟩, A910, H⟩ := H
     have A91 := Aside0.mk A910
     clear A910
     replace H := Option.bind_eq_some_iff.mp H
     obtain ⟨t362, A920, H⟩ := H
     have A92 := Aside0.mk A920
     clear A920
     by_cases c93 : t362 = true
     ·subst c93
      rw [if_pos rfl] at H
      replace H := Option.bind_eq_some_iff.mp H
      obtain ⟨⟨t363, t364, t365⟩, A940, H⟩ := H
      have A94 := Aside0.mk A940
      clear A940
      have HC95 := Aside0.mk H
      clear H
      try go_wp2
      have n_ := And.intro (Aside0.mk (Kd.R_drew HO_329000.out)) (And.intro (Aside0.mk (Kd.R_drew HO_329001.out)) (And.intro (Aside0.mk (Kd.R_drew HO_337000.out)) (And.intro (Aside0.mk (Kd.R_drew HO_337001.out)) (And.intro (Aside0.mk (Kd.R_drew HO_354000.out)) (And.intro (Aside0.mk (Kd.R_drew HO_354001.out)) (And.intro (Aside0.mk (blk_drew BK302.out)) (And.intro (Aside0.mk (blk_drew BK303.out)) (And.intro (Aside0.mk (blk_drew BK328.out)) (And.intro (Aside0.mk (blk_drew BK336.out)) (And.intro (Aside0.mk (blk_drew BK353.out)) (Aside0.mk (below_drew1 HB.out))))))))))))
      clear HO_329000 HO_329001 HO_337000 HO_337001 HO_354000 HO_354001 BK302 BK303 BK328 BK336 BK353 HB
      obtain ⟨HO_329000, HO_329001, HO_337000, HO_337001, HO_354000, HO_354001, BK302, BK303, BK328, BK336, BK353, HB⟩ := n_
      refine start_ (n := 5) (S := fun w' => w'.cell? ⟨gb336, 0, none⟩ = some (.slice Ao40 t329.length co40) ∧ w'.cell? ⟨gb336, 1, none⟩ = some (.slice Ao45 t332.length co45) ∧ w'.cell? ⟨gb336, 2, none⟩ = some (.int .i64 t335) ∧ w'.cell? ⟨gb302, 0, none⟩ = some (.slice A0_0 l0_0.length c0_0) ∧ w'.cell? ⟨gb302, 1, none⟩ = some (.slice A0_1 l0_1.length c0_1) ∧ w'.cell? ⟨gb302, 2, none⟩ = some (.int .i64 a0_2)) (ds := []) #[false, false, false, false, false] (by kernel_rfl) rfl rfl (cr3 BK336.out (cl3 BK302.out)) (fun hHeld => ?_)
      generalize wc.drew = w96 at HO_329000 HO_329001 HO_337000 HO_337001 HO_354000 HO_354001 BK302 BK303 BK328 BK336 BK353 HB hHeld ⊢
      refine take_ (i := 0) (N := some 65) (v := ?_) (a' := ?_) #[true, false, false, false, false] rfl rfl (by kernel_rfl) (fun _ _ _ h => h) (Or.inl ⟨by rfl, ?_⟩) hHeld ?_ ?_
      rotate_left
      ·rintro w' ⟨s0, s1, s2, s3, s4, s5⟩
       go_simp
       with_reducible rfl
      rotate_left
      ·simp only [apn]
       rfl
      refine take_ (i := 1) (N := some 66) (v := ?_) (a' := ?_) #[true, true, false, false, false] rfl rfl (by kernel_rfl) (fun _ _ _ h => h) (Or.inl ⟨by rfl, ?_⟩) hHeld ?_ ?_
      rotate_left
      ·rintro w' ⟨s0, s1, s2, s3, s4, s5⟩
       go_simp
       with_reducible rfl
      rotate_left
      ·simp only [apn]
       rfl
      refine one_ (i := 2) (N := some 67) #[true, true, true, false, false] rfl rfl (by kernel_rfl) (by decide) (fun K hK => ?_)
      refine goes_ Try.func13 (by kernel_rfl) rfl #[.agg #[.slice A0_0 l0_0.length c0_0, .slice A0_1 l0_1.length c0_1, .int .i64 a0_2]] (by rfl) rfl rfl aq ?_
      with_reducible refine (laws_toState.calls kj16 _ _ l0_0 _ _ l0_1 a0_2 t355 t358 t361 _ ?side1 ?side2 ?side3 ?side4 A91.out).mono ?_
      (case side1 => exact caq (Kd.C_below HR0_0.out HB.out))
      (case side2 => exact HC0_0.out)
      (case side3 => exact caq (Kd.C_below HR0_1.out HB.out))
      (case side4 => exact HC0_1.out)
      rintro e w97 ⟨v356, v359, rfl, ho0, ho1, hb⟩
      refine ⟨_, rfl, ?_⟩
      have n_ := And.intro (Aside0.mk (Kd.R_mono (Kd.R_told (Kd.R_told (Kd.R_old (rq HO_329000.out) hb) (Kd.R_base ho0)) (Kd.R_base ho1)) (fun _ h_ => h_.1))) (And.intro (Aside0.mk (Kd.R_mono (Kd.R_told (Kd.R_told (Kd.R_old (rq HO_329001.out) hb) (Kd.R_base ho0)) (Kd.R_base ho1)) (fun _ h_ => h_.1))) (And.intro (Aside0.mk (Kd.R_mono (Kd.R_told (Kd.R_told (Kd.R_old (rq HO_337000.out) hb) (Kd.R_base ho0)) (Kd.R_base ho1)) (fun _ h_ => h_.1))) (And.intro (Aside0.mk (Kd.R_mono (Kd.R_told (Kd.R_told (Kd.R_old (rq HO_337001.out) hb) (Kd.R_base ho0)) (Kd.R_base ho1)) (fun _ h_ => h_.1))) (And.intro (Aside0.mk (Kd.R_mono (Kd.R_told (Kd.R_told (Kd.R_old (rq HO_354000.out) hb) (Kd.R_base ho0)) (Kd.R_base ho1)) (fun _ h_ => h_.1))) (And.intro (Aside0.mk (Kd.R_mono (Kd.R_told (Kd.R_told (Kd.R_old (rq HO_354001.out) hb) (Kd.R_base ho0)) (Kd.R_base ho1)) (fun _ h_ => h_.1))) (And.intro (Aside0.mk (Kd.R_lower (Kd.R_new' (Kd.R_new' (Kd.R_new' (Kd.R_new' (Kd.R_new' (Kd.R_new' ho0 (Kd.R_lt (rq HO_329000.out))) (Kd.R_lt (rq HO_329001.out))) (Kd.R_lt (rq HO_337000.out))) (Kd.R_lt (rq HO_337001.out))) (Kd.R_lt (rq HO_354000.out))) (Kd.R_lt (rq HO_354001.out))) (below_size (bw5 HB.out GE302.out GE303.out GE328.out GE336.out GE353.out)))) (And.intro (Aside0.mk (Kd.R_lower (Kd.R_new' (Kd.R_new' (Kd.R_new' (Kd.R_new' (Kd.R_new' (Kd.R_new' ho1 (Kd.R_lt (rq HO_329000.out))) (Kd.R_lt (rq HO_329001.out))) (Kd.R_lt (rq HO_337000.out))) (Kd.R_lt (rq HO_337001.out))) (Kd.R_lt (rq HO_354000.out))) (Kd.R_lt (rq HO_354001.out))) (below_size (bw5 HB.out GE302.out GE303.out GE328.out GE336.out GE353.out)))) (And.intro (Aside0.mk (bbq BK302.out hb)) (And.intro (Aside0.mk (bbq BK303.out hb)) (And.intro (Aside0.mk (bbq BK328.out hb)) (And.intro (Aside0.mk (bbq BK336.out hb)) (And.intro (Aside0.mk (bbq BK353.out hb)) (Aside0.mk (below_step (bw5 HB.out GE302.out GE303.out GE328.out GE336.out GE353.out) hb))))))))))))))
      clear HO_329000 HO_329001 HO_337000 HO_337001 HO_354000 HO_354001 BK302 BK303 BK328 BK336 BK353 HB
      obtain ⟨HO_329000, HO_329001, HO_337000, HO_337001, HO_354000, HO_354001, HO357, HO360, BK302, BK303, BK328, BK336, BK353, HB⟩ := n_
      (try clear hb)
      (try clear hb2)
      (try clear hk)
      (try clear hi)
      (try clear ho0)
      (try clear ho1)
      obtain ⟨Ao98, co98, eo98⟩ := Kd.R_slice HO357.out
      (first | subst eo98 | (injection eo98 with f1_ f2_ f3_; have f4_ := f1_.symm; have f5_ := f3_.symm; clear f1_ f2_ f3_; subst f4_; subst f5_))
      obtain ⟨Ao99, co99, eo99⟩ := Kd.R_slice HO360.out
      (first | subst eo99 | (injection eo99 with f1_ f2_ f3_; have f4_ := f1_.symm; have f5_ := f3_.symm; clear f1_ f2_ f3_; subst f4_; subst f5_))
      refine hK.out _ _ (cr3 BK336.out (cl3 BK302.out)) (fun hHeld => ?_)
      clear hK K
      refine norm_ (a' := ?_) ?_ ?_
      rotate_left
      ·show Act.put _ (some 67) _ = _
       simp only [apn]
       rfl
      refine one_ (i := 3) (N := some 68) #[true, true, true, true, false] rfl rfl (by kernel_rfl) (by decide) (fun K hK => ?_)
      refine goes_ Try.func16 (by kernel_rfl) rfl #[.agg #[.slice Ao40 t329.length co40, .slice Ao45 t332.length co45, .int .i64 t335], .agg #[.slice Ao98 t355.length co98, .slice Ao99 t358.length co99, .int .i64 t361]] (by rfl) rfl rfl aq ?_
      with_reducible refine (laws_eqState.calls kj16 _ _ t329 _ _ t332 t335 _ _ t355 _ _ t358 t361 true _ ?side1 ?side2 ?side3 ?side4 ?side5 ?side6 ?side7 ?side8 A92.out).mono ?_
      (case side1 => exact caq (Kd.R_reads' HO_337000.out).2.2)
      (case side2 => exact (Kd.R_reads' HO_337000.out).2.1)
      (case side3 => exact caq (Kd.R_reads' HO_337001.out).2.2)
      (case side4 => exact (Kd.R_reads' HO_337001.out).2.1)
      (case side5 => exact caq (Kd.R_reads' HO357.out).2.2)
      (case side6 => exact (Kd.R_reads' HO357.out).2.1)
      (case side7 => exact caq (Kd.R_reads' HO360.out).2.2)
      (case side8 => exact (Kd.R_reads' HO360.out).2.1)
      rintro e w100 ⟨rfl, hb⟩
      refine ⟨_, rfl, ?_⟩
      have n_ := And.intro (Aside0.mk (Kd.R_below (rq HO_329000.out) hb)) (And.intro (Aside0.mk (Kd.R_below (rq HO_329001.out) hb)) (And.intro (Aside0.mk (Kd.R_below (rq HO_337000.out) hb)) (And.intro (Aside0.mk (Kd.R_below (rq HO_337001.out) hb)) (And.intro (Aside0.mk (Kd.R_below (rq HO_354000.out) hb)) (And.intro (Aside0.mk (Kd.R_below (rq HO_354001.out) hb)) (And.intro (Aside0.mk (Kd.R_below (rq HO357.out) hb)) (And.intro (Aside0.mk (Kd.R_below (rq HO360.out) hb)) (And.intro (Aside0.mk (bbq BK302.out hb)) (And.intro (Aside0.mk (bbq BK303.out hb)) (And.intro (Aside0.mk (bbq BK328.out hb)) (And.intro (Aside0.mk (bbq BK336.out hb)) (And.intro (Aside0.mk (bbq BK353.out hb)) (Aside0.mk (below_step (bw5 HB.out GE302.out GE303.out GE328.out GE336.out GE353.out) hb))))))))))))))
      clear HO_329000 HO_329001 HO_337000 HO_337001 HO_354000 HO_354001 HO357 HO360 BK302 BK303 BK328 BK336 BK353 HB
      obtain ⟨HO_329000, HO_329001, HO_337000, HO_337001, HO_354000, HO_354001, HO357, HO360, BK302, BK303, BK328, BK336, BK353, HB⟩ := n_
      (try clear hb)
      (try clear hb2)
      (try clear hk)
      (try clear hi)
      refine hK.out _ _ (cr3 BK336.out (cl3 BK302.out)) (fun hHeld => ?_)
      clear hK K
      refine norm_ (a' := ?_) ?_ ?_
      rotate_left
      ·show Act.put _ (some 68) _ = _
       simp only [apn]
       rfl
      refine pure_ (i := 4) (N := some 69) (v := ?_) (a' := ?_) #[true, true, true, true, true] rfl rfl (by kernel_rfl) (fun _ _ _ h => h) (Or.inl ⟨by rfl, ?_⟩) ?_ ?_
      rotate_left
      ·intro w'
       go_simp
       with_reducible rfl
      rotate_left
      ·simp only [apn]
       rfl
      refine done_ (by kernel_rfl) ?_
      have hnb101 := NB336_302.out
      have hnc101 := NB302_336.out
      have hnb102 := NB336_303.out
      have hnc102 := NB303_336.out
      have hnb103 := NB336_328.out
      have hnc103 := NB328_336.out
      have hnb104 := NB336_353.out
      have hnc104 := NB353_336.out
      obtain ⟨hcz105_0, hcz105_1, hcz105_2, hfz105_0, hfz105_1, hfz105_2⟩ := cq3 BK336.out
      go_upto_region 14 with (first | ((with_reducible refine gate_callee (f := 17) rfl ?_); refine goesL_ (some 72) rfl rfl Try.func17 (by kernel_rfl) rfl #[.agg #[.slice Ao40 t329.length co40, .slice Ao45 t332.length co45, .int .i64 t335], .int .i64 1] rfl aq ?_; (with_reducible refine (laws_markState.calls kj16 (fun k_ => some k_ = (.slice Ao40 t329.length co40 : Value).ownBlock) (.slice Ao40 t329.length co40) t329 (fun k_ => some k_ = (.slice Ao45 t332.length co45 : Value).ownBlock) (.slice Ao45 t332.length co45) t332 t335 1 t363 t364 t365 w _ ?side1 ?side2 ?side3 ?side4 ?side5 A94.out).mono ?_); (case side1 => repeat (first | (with_reducible first | exact HB.out | apply below_alloc | apply pw_below_drewN | apply below_drew1 | refine below_set ?_ GE302.out | refine below_set ?_ GE303.out | refine below_set ?_ GE328.out | refine below_set ?_ GE353.out) | exact HB.out)); (case side2 => exact Kd.R_tight rfl HO_337000.out); (case side3 => exact fun k_ e_ => (HO_337000.out.1 k_ e_.symm).1.1.2.2.1); (case side4 => exact Kd.R_tight rfl HO_337001.out); (case side5 => exact fun k_ e_ => (HO_337001.out.1 k_ e_.symm).1.1.2.2.1); rintro e w106 ⟨rfl, hy0, hy1, hb, hkp⟩; refine ⟨_, rfl, ?_⟩; have n_ := And.intro (Aside0.mk (Kd.R_mono (ok' := fun k_ => some k_ ≠ (.slice Ao33 t322.length co33 : Value).ownBlock ∧ some k_ ≠ (.slice Ao40 t329.length co40 : Value).ownBlock ∧ some k_ ≠ (.slice Ao45 t332.length co45 : Value).ownBlock ∧ some k_ ≠ (.slice Ao52 t344.length co52 : Value).ownBlock ∧ some k_ ≠ (.slice Ao54 t347.length co54 : Value).ownBlock) (Kd.R_keptB (HO_329000.out) hkp (fun k_ hk_ hs_ => Or.elim hs_ (fun e_ => (hk_.1.1.2.1) e_) (fun e_ => (hk_.1.1.2.2.1) e_))) (fun k_ hk_ => ⟨hk_.1.1.1.1, hk_.1.1.1.2.1, hk_.1.1.1.2.2.1, hk_.1.1.1.2.2.2.1, hk_.1.1.1.2.2.2.2⟩))) (And.intro (Aside0.mk (Kd.R_mono (ok' := fun k_ => some k_ ≠ (.slice Ao31 t319.length co31 : Value).ownBlock ∧ some k_ ≠ (.slice Ao40 t329.length co40 : Value).ownBlock ∧ some k_ ≠ (.slice Ao45 t332.length co45 : Value).ownBlock ∧ some k_ ≠ (.slice Ao52 t344.length co52 : Value).ownBlock ∧ some k_ ≠ (.slice Ao54 t347.length co54 : Value).ownBlock) (Kd.R_keptB (HO_329001.out) hkp (fun k_ hk_ hs_ => Or.elim hs_ (fun e_ => (hk_.1.1.2.1) e_) (fun e_ => (hk_.1.1.2.2.1) e_))) (fun k_ hk_ => ⟨hk_.1.1.1.1, hk_.1.1.1.2.1, hk_.1.1.1.2.2.1, hk_.1.1.1.2.2.2.1, hk_.1.1.1.2.2.2.2⟩))) (And.intro (Aside0.mk (Kd.R_reok rfl hy0 (fun k_ e_ => HO_337000.out.1 k_ e_))) (And.intro (Aside0.mk (Kd.R_reok rfl hy1 (fun k_ e_ => HO_337001.out.1 k_ e_))) (And.intro (Aside0.mk (Kd.R_mono (ok' := fun k_ => some k_ ≠ (.slice Ao31 t319.length co31 : Value).ownBlock ∧ some k_ ≠ (.slice Ao33 t322.length co33 : Value).ownBlock ∧ some k_ ≠ (.slice Ao40 t329.length co40 : Value).ownBlock ∧ some k_ ≠ (.slice Ao45 t332.length co45 : Value).ownBlock ∧ some k_ ≠ (.slice Ao54 t347.length co54 : Value).ownBlock) (Kd.R_keptB (HO_354000.out) hkp (fun k_ hk_ hs_ => Or.elim hs_ (fun e_ => (hk_.1.1.2.2.1) e_) (fun e_ => (hk_.1.1.2.2.2.1) e_))) (fun k_ hk_ => ⟨hk_.1.1.1.1, hk_.1.1.1.2.1, hk_.1.1.1.2.2.1, hk_.1.1.1.2.2.2.1, hk_.1.1.1.2.2.2.2⟩))) (And.intro (Aside0.mk (Kd.R_mono (ok' := fun k_ => some k_ ≠ (.slice Ao31 t319.length co31 : Value).ownBlock ∧ some k_ ≠ (.slice Ao33 t322.length co33 : Value).ownBlock ∧ some k_ ≠ (.slice Ao40 t329.length co40 : Value).ownBlock ∧ some k_ ≠ (.slice Ao45 t332.length co45 : Value).ownBlock ∧ some k_ ≠ (.slice Ao52 t344.length co52 : Value).ownBlock) (Kd.R_keptB (HO_354001.out) hkp (fun k_ hk_ hs_ => Or.elim hs_ (fun e_ => (hk_.1.1.2.2.1) e_) (fun e_ => (hk_.1.1.2.2.2.1) e_))) (fun k_ hk_ => ⟨hk_.1.1.1.1, hk_.1.1.1.2.1, hk_.1.1.1.2.2.1, hk_.1.1.1.2.2.2.1, hk_.1.1.1.2.2.2.2⟩))) (And.intro (Aside0.mk (blk_kept (bq BK302.out) hkp (fun hs_ => Or.elim hs_ (fun e_ => (fun e_ => (Kd.R_ne HO_337000.out BK302.out (by decide)) e_) e_) (fun e_ => (fun e_ => (Kd.R_ne HO_337001.out BK302.out (by decide)) e_) e_)))) (And.intro (Aside0.mk (blk_kept (bq BK303.out) hkp (fun hs_ => Or.elim hs_ (fun e_ => (fun e_ => (Kd.R_ne HO_337000.out BK303.out (by decide)) e_) e_) (fun e_ => (fun e_ => (Kd.R_ne HO_337001.out BK303.out (by decide)) e_) e_)))) (And.intro (Aside0.mk (blk_kept (bq BK328.out) hkp (fun hs_ => Or.elim hs_ (fun e_ => (fun e_ => (Kd.R_ne HO_337000.out BK328.out (by decide)) e_) e_) (fun e_ => (fun e_ => (Kd.R_ne HO_337001.out BK328.out (by decide)) e_) e_)))) (And.intro (Aside0.mk (blk_kept (bq BK353.out) hkp (fun hs_ => Or.elim hs_ (fun e_ => (fun e_ => (Kd.R_ne HO_337000.out BK353.out (by decide)) e_) e_) (fun e_ => (fun e_ => (Kd.R_ne HO_337001.out BK353.out (by decide)) e_) e_)))) (Aside0.mk (hb))))))))))); clear HO_329000 HO_329001 HO_337000 HO_337001 HO_354000 HO_354001 BK302 BK303 BK328 BK353 HB; obtain ⟨HO_329000, HO_329001, HO_337000, HO_337001, HO_354000, HO_354001, BK302, BK303, BK328, BK353, HB⟩ := n_; (try clear hb); (try clear hkp); (try clear hy0); (try clear hy1)))
      (try simp only [Act.put, List.setIfInBounds_toArray, List.set_cons_zero, List.set_cons_succ])
      go_cut [90] (fun v90 wc => ∃ (kq : Nat) (x90_94 : Bool), v90 = .bool x90_94 ∧ Aside0 (laws_FnExactApplyWish.j1 kq a2 a3 t326 t327 x90_94 l0_0 l0_1 a0_2 a1_0 a1_1 a1_2 a1_3 a1_4 a1_5 a1_6 t319 t322 t325 t344 t347 t350 = some r) ∧ Aside0 (kq ≤ kj16) ∧ Aside0 (Kd.R (Kd.int .i64) 3 wc w.heap.size (fun k_ => some k_ ≠ ((.slice Ao33 t322.length co33) : Value).ownBlock ∧ some k_ ≠ ((.slice Ao52 t344.length co52) : Value).ownBlock ∧ some k_ ≠ ((.slice Ao54 t347.length co54) : Value).ownBlock) (.slice Ao31 t319.length co31) t319) ∧ Aside0 (Kd.R (Kd.int .i64) 3 wc w.heap.size (fun k_ => some k_ ≠ ((.slice Ao31 t319.length co31) : Value).ownBlock ∧ some k_ ≠ ((.slice Ao52 t344.length co52) : Value).ownBlock ∧ some k_ ≠ ((.slice Ao54 t347.length co54) : Value).ownBlock) (.slice Ao33 t322.length co33) t322) ∧ Aside0 (Kd.R (Kd.int .i64) 3 wc w.heap.size (fun k_ => some k_ ≠ ((.slice Ao31 t319.length co31) : Value).ownBlock ∧ some k_ ≠ ((.slice Ao33 t322.length co33) : Value).ownBlock ∧ some k_ ≠ ((.slice Ao54 t347.length co54) : Value).ownBlock) (.slice Ao52 t344.length co52) t344) ∧ Aside0 (Kd.R (Kd.int .i64) 3 wc w.heap.size (fun k_ => some k_ ≠ ((.slice Ao31 t319.length co31) : Value).ownBlock ∧ some k_ ≠ ((.slice Ao33 t322.length co33) : Value).ownBlock ∧ some k_ ≠ ((.slice Ao52 t344.length co52) : Value).ownBlock) (.slice Ao54 t347.length co54) t347) ∧ Aside0 (wc.heap[gb302]? = some (.cells #[(.slice A0_0 l0_0.length c0_0), (.slice A0_1 l0_1.length c0_1), .int .i64 a0_2] 24 (0, 0))) ∧ Aside0 (wc.heap[gb303]? = some (.cells #[.int .i64 a1_0, .int .i64 a1_1, .int .i64 a1_2, .int .i64 a1_3, .int .i64 a1_4, .int .i64 a1_5, .int .i64 a1_6] 26 (0, 0))) ∧ Aside0 (wc.heap[gb328]? = some (.cells #[(.slice Ao31 t319.length co31), (.slice Ao33 t322.length co33), .int .i64 t325] 28 (0, 0))) ∧ Aside0 (wc.heap[gb353]? = some (.cells #[(.slice Ao52 t344.length co52), (.slice Ao54 t347.length co54), .int .i64 t350] 28 (0, 0))) ∧ Aside0 (Below w.heap.size w wc))
      case first =>
       have H := HC95.out
       clear HC95
       by_cases c107 : t363 < 0
       ·rw [if_pos c107] at H
        have c107b0 : decide (t363 < 0) = true := decide_eq_true c107
        clear c107
        (first | rw [c107b0] | (simp only [i64_w, i32_w]; rw [c107b0]) | skip)
        have H' := Aside0.mk H
        clear H
        go_wp2
        go_meet
        case rel => exact ⟨_, (true), (by first | rfl | (simp; done) | (simp [*]; done)), H', ⟨by have := HJ16.out; first | omega | exact Nat.le_refl _⟩, ⟨by (with_reducible repeat (first | apply Kd.R_alloc | apply Kd.R_drewN | apply Kd.R_drew)); exact Kd.R_mono HO_329000.out (fun _ hk => ⟨hk.1, ⟨hk.2.2.2.1, hk.2.2.2.2⟩⟩)⟩, ⟨by (with_reducible repeat (first | apply Kd.R_alloc | apply Kd.R_drewN | apply Kd.R_drew)); exact Kd.R_mono HO_329001.out (fun _ hk => ⟨hk.1, ⟨hk.2.2.2.1, hk.2.2.2.2⟩⟩)⟩, ⟨by (with_reducible repeat (first | apply Kd.R_alloc | apply Kd.R_drewN | apply Kd.R_drew)); exact Kd.R_mono HO_354000.out (fun _ hk => ⟨hk.1, ⟨hk.2.1, hk.2.2.2.2⟩⟩)⟩, ⟨by (with_reducible repeat (first | apply Kd.R_alloc | apply Kd.R_drewN | apply Kd.R_drew)); exact Kd.R_mono HO_354001.out (fun _ hk => ⟨hk.1, ⟨hk.2.1, hk.2.2.2.2⟩⟩)⟩, ⟨by (with_reducible repeat (first | refine blk_drewN ?_ _ | refine blk_drew ?_ | refine blk_alloc ?_ _)); exact BK302.out⟩, ⟨by (with_reducible repeat (first | refine blk_drewN ?_ _ | refine blk_drew ?_ | refine blk_alloc ?_ _)); exact BK303.out⟩, ⟨by (with_reducible repeat (first | refine blk_drewN ?_ _ | refine blk_drew ?_ | refine blk_alloc ?_ _)); exact BK328.out⟩, ⟨by (with_reducible repeat (first | refine blk_drewN ?_ _ | refine blk_drew ?_ | refine blk_alloc ?_ _)); exact BK353.out⟩, ⟨by repeat (first | (with_reducible first | exact HB.out | apply below_alloc | apply pw_below_drewN | apply below_drew1 | refine below_set ?_ GE302.out | refine below_set ?_ GE303.out | refine below_set ?_ GE328.out | refine below_set ?_ GE353.out) | exact HB.out)⟩⟩
       ·rw [if_neg c107] at H
        have c107b0 : decide (t363 < 0) = false := decide_eq_false c107
        clear c107
        (first | rw [c107b0] | (simp only [i64_w, i32_w]; rw [c107b0]) | skip)
        replace H := Option.bind_eq_some_iff.mp H
        obtain ⟨t366, A1080, H⟩ := H
        have A108 := Aside0.mk A1080
        clear A1080
        by_cases c109 : t366 = true
        ·subst c109
         rw [if_pos rfl] at H
         by_cases c110 : t351 = t326
         ·rw [if_pos c110] at H
          have c110b0 : (t351 == t326) = true := beq_iff_eq.mpr c110
          have c110b1 : (t351 != t326) = false := bne_eq_false_iff_eq.mpr c110
          clear c110
          have H' := Aside0.mk H
          clear H
          have hnb111 := NB353_302.out
          have hnc111 := NB302_353.out
          have hnb112 := NB353_303.out
          have hnc112 := NB303_353.out
          have hnb113 := NB353_328.out
          have hnc113 := NB328_353.out
          obtain ⟨hcz114_0, hcz114_1, hcz114_2, hfz114_0, hfz114_1, hfz114_2⟩ := cq3 BK353.out
          have hnb115 := NB328_302.out
          have hnc115 := NB302_328.out
          have hnb116 := NB328_303.out
          have hnc116 := NB303_328.out
          obtain ⟨hcz117_0, hcz117_1, hcz117_2, hfz117_0, hfz117_1, hfz117_2⟩ := cq3 BK328.out
          go_wp2_with (first | (go_at_call 16; (with_reducible refine (laws_eqState.calls kj16 _ _ t344 _ _ t347 t350 _ _ t319 _ _ t322 t325 true _ ?side1 ?side2 ?side3 ?side4 ?side5 ?side6 ?side7 ?side8 A108.out).mono ?_); (case side1 => exact caq (Kd.R_reads' HO_354000.out).2.2); (case side2 => exact (Kd.R_reads' HO_354000.out).2.1); (case side3 => exact caq (Kd.R_reads' HO_354001.out).2.2); (case side4 => exact (Kd.R_reads' HO_354001.out).2.1); (case side5 => exact caq (Kd.R_reads' HO_329000.out).2.2); (case side6 => exact (Kd.R_reads' HO_329000.out).2.1); (case side7 => exact caq (Kd.R_reads' HO_329001.out).2.2); (case side8 => exact (Kd.R_reads' HO_329001.out).2.1); rintro e w118 ⟨rfl, hb⟩; have n_ := And.intro (Aside0.mk (Kd.R_below (rq HO_329000.out) hb)) (And.intro (Aside0.mk (Kd.R_below (rq HO_329001.out) hb)) (And.intro (Aside0.mk (Kd.R_below (rq HO_354000.out) hb)) (And.intro (Aside0.mk (Kd.R_below (rq HO_354001.out) hb)) (And.intro (Aside0.mk (bbq BK302.out hb)) (And.intro (Aside0.mk (bbq BK303.out hb)) (And.intro (Aside0.mk (bbq BK328.out hb)) (And.intro (Aside0.mk (bbq BK353.out hb)) (Aside0.mk (below_step (bw4 HB.out GE302.out GE303.out GE328.out GE353.out) hb))))))))); clear HO_329000 HO_329001 HO_354000 HO_354001 BK302 BK303 BK328 BK353 HB; obtain ⟨HO_329000, HO_329001, HO_354000, HO_354001, BK302, BK303, BK328, BK353, HB⟩ := n_; (try clear hb); (try clear hb2); (try clear hk); (try clear hi)))
          go_meet
          case rel => exact ⟨_, ((t352 != t327)), (by first | rfl | (simp; done) | (simp [*]; done)), H', ⟨by have := HJ16.out; first | omega | exact Nat.le_refl _⟩, ⟨by (with_reducible repeat (first | apply Kd.R_alloc | apply Kd.R_drewN | apply Kd.R_drew)); exact Kd.R_mono HO_329000.out (fun _ hk => ⟨hk.1, ⟨hk.2.2.2.1, hk.2.2.2.2⟩⟩)⟩, ⟨by (with_reducible repeat (first | apply Kd.R_alloc | apply Kd.R_drewN | apply Kd.R_drew)); exact Kd.R_mono HO_329001.out (fun _ hk => ⟨hk.1, ⟨hk.2.2.2.1, hk.2.2.2.2⟩⟩)⟩, ⟨by (with_reducible repeat (first | apply Kd.R_alloc | apply Kd.R_drewN | apply Kd.R_drew)); exact Kd.R_mono HO_354000.out (fun _ hk => ⟨hk.1, ⟨hk.2.1, hk.2.2.2.2⟩⟩)⟩, ⟨by (with_reducible repeat (first | apply Kd.R_alloc | apply Kd.R_drewN | apply Kd.R_drew)); exact Kd.R_mono HO_354001.out (fun _ hk => ⟨hk.1, ⟨hk.2.1, hk.2.2.2.2⟩⟩)⟩, ⟨by (with_reducible repeat (first | refine blk_drewN ?_ _ | refine blk_drew ?_ | refine blk_alloc ?_ _)); exact BK302.out⟩, ⟨by (with_reducible repeat (first | refine blk_drewN ?_ _ | refine blk_drew ?_ | refine blk_alloc ?_ _)); exact BK303.out⟩, ⟨by (with_reducible repeat (first | refine blk_drewN ?_ _ | refine blk_drew ?_ | refine blk_alloc ?_ _)); exact BK328.out⟩, ⟨by (with_reducible repeat (first | refine blk_drewN ?_ _ | refine blk_drew ?_ | refine blk_alloc ?_ _)); exact BK353.out⟩, ⟨by repeat (first | (with_reducible first | exact HB.out | apply below_alloc | apply pw_below_drewN | apply below_drew1 | refine below_set ?_ GE302.out | refine below_set ?_ GE303.out | refine below_set ?_ GE328.out | refine below_set ?_ GE353.out) | exact HB.out)⟩⟩
         ·rw [if_neg c110] at H
          have c110b0 : (t351 == t326) = false := beq_eq_false_iff_ne.mpr c110
          have c110b1 : (t351 != t326) = true := bne_iff_ne.mpr c110
          have H' := Aside0.mk H
          clear H
          have hnb119 := NB353_302.out
          have hnc119 := NB302_353.out
          have hnb120 := NB353_303.out
          have hnc120 := NB303_353.out
          have hnb121 := NB353_328.out
          have hnc121 := NB328_353.out
          obtain ⟨hcz122_0, hcz122_1, hcz122_2, hfz122_0, hfz122_1, hfz122_2⟩ := cq3 BK353.out
          have hnb123 := NB328_302.out
          have hnc123 := NB302_328.out
          have hnb124 := NB328_303.out
          have hnc124 := NB303_328.out
          obtain ⟨hcz125_0, hcz125_1, hcz125_2, hfz125_0, hfz125_1, hfz125_2⟩ := cq3 BK328.out
          go_wp2_with (first | (go_at_call 16; (with_reducible refine (laws_eqState.calls kj16 _ _ t344 _ _ t347 t350 _ _ t319 _ _ t322 t325 true _ ?side1 ?side2 ?side3 ?side4 ?side5 ?side6 ?side7 ?side8 A108.out).mono ?_); (case side1 => exact caq (Kd.R_reads' HO_354000.out).2.2); (case side2 => exact (Kd.R_reads' HO_354000.out).2.1); (case side3 => exact caq (Kd.R_reads' HO_354001.out).2.2); (case side4 => exact (Kd.R_reads' HO_354001.out).2.1); (case side5 => exact caq (Kd.R_reads' HO_329000.out).2.2); (case side6 => exact (Kd.R_reads' HO_329000.out).2.1); (case side7 => exact caq (Kd.R_reads' HO_329001.out).2.2); (case side8 => exact (Kd.R_reads' HO_329001.out).2.1); rintro e w126 ⟨rfl, hb⟩; have n_ := And.intro (Aside0.mk (Kd.R_below (rq HO_329000.out) hb)) (And.intro (Aside0.mk (Kd.R_below (rq HO_329001.out) hb)) (And.intro (Aside0.mk (Kd.R_below (rq HO_354000.out) hb)) (And.intro (Aside0.mk (Kd.R_below (rq HO_354001.out) hb)) (And.intro (Aside0.mk (bbq BK302.out hb)) (And.intro (Aside0.mk (bbq BK303.out hb)) (And.intro (Aside0.mk (bbq BK328.out hb)) (And.intro (Aside0.mk (bbq BK353.out hb)) (Aside0.mk (below_step (bw4 HB.out GE302.out GE303.out GE328.out GE353.out) hb))))))))); clear HO_329000 HO_329001 HO_354000 HO_354001 BK302 BK303 BK328 BK353 HB; obtain ⟨HO_329000, HO_329001, HO_354000, HO_354001, BK302, BK303, BK328, BK353, HB⟩ := n_; (try clear hb); (try clear hb2); (try clear hk); (try clear hi)))
          go_meet
          case rel => exact ⟨_, (true), (by first | rfl | (simp; done) | (simp [*]; done)), H', ⟨by have := HJ16.out; first | omega | exact Nat.le_refl _⟩, ⟨by (with_reducible repeat (first | apply Kd.R_alloc | apply Kd.R_drewN | apply Kd.R_drew)); exact Kd.R_mono HO_329000.out (fun _ hk => ⟨hk.1, ⟨hk.2.2.2.1, hk.2.2.2.2⟩⟩)⟩, ⟨by (with_reducible repeat (first | apply Kd.R_alloc | apply Kd.R_drewN | apply Kd.R_drew)); exact Kd.R_mono HO_329001.out (fun _ hk => ⟨hk.1, ⟨hk.2.2.2.1, hk.2.2.2.2⟩⟩)⟩, ⟨by (with_reducible repeat (first | apply Kd.R_alloc | apply Kd.R_drewN | apply Kd.R_drew)); exact Kd.R_mono HO_354000.out (fun _ hk => ⟨hk.1, ⟨hk.2.1, hk.2.2.2.2⟩⟩)⟩, ⟨by (with_reducible repeat (first | apply Kd.R_alloc | apply Kd.R_drewN | apply Kd.R_drew)); exact Kd.R_mono HO_354001.out (fun _ hk => ⟨hk.1, ⟨hk.2.1, hk.2.2.2.2⟩⟩)⟩, ⟨by (with_reducible repeat (first | refine blk_drewN ?_ _ | refine blk_drew ?_ | refine blk_alloc ?_ _)); exact BK302.out⟩, ⟨by (with_reducible repeat (first | refine blk_drewN ?_ _ | refine blk_drew ?_ | refine blk_alloc ?_ _)); exact BK303.out⟩, ⟨by (with_reducible repeat (first | refine blk_drewN ?_ _ | refine blk_drew ?_ | refine blk_alloc ?_ _)); exact BK328.out⟩, ⟨by (with_reducible repeat (first | refine blk_drewN ?_ _ | refine blk_drew ?_ | refine blk_alloc ?_ _)); exact BK353.out⟩, ⟨by repeat (first | (with_reducible first | exact HB.out | apply below_alloc | apply pw_below_drewN | apply below_drew1 | refine below_set ?_ GE302.out | refine below_set ?_ GE303.out | refine below_set ?_ GE328.out | refine below_set ?_ GE353.out) | exact HB.out)⟩⟩
        ·replace c109 := Bool.eq_false_iff.mpr c109
         subst c109
         rw [if_neg (show ¬ (false = true) by decide)] at H
         have H' := Aside0.mk H
         clear H
         have hnb127 := NB353_302.out
         have hnc127 := NB302_353.out
         have hnb128 := NB353_303.out
         have hnc128 := NB303_353.out
         have hnb129 := NB353_328.out
         have hnc129 := NB328_353.out
         obtain ⟨hcz130_0, hcz130_1, hcz130_2, hfz130_0, hfz130_1, hfz130_2⟩ := cq3 BK353.out
         have hnb131 := NB328_302.out
         have hnc131 := NB302_328.out
         have hnb132 := NB328_303.out
         have hnc132 := NB303_328.out
         obtain ⟨hcz133_0, hcz133_1, hcz133_2, hfz133_0, hfz133_1, hfz133_2⟩ := cq3 BK328.out
         go_wp2_with (first | (go_at_call 16; (with_reducible refine (laws_eqState.calls kj16 _ _ t344 _ _ t347 t350 _ _ t319 _ _ t322 t325 false _ ?side1 ?side2 ?side3 ?side4 ?side5 ?side6 ?side7 ?side8 A108.out).mono ?_); (case side1 => exact caq (Kd.R_reads' HO_354000.out).2.2); (case side2 => exact (Kd.R_reads' HO_354000.out).2.1); (case side3 => exact caq (Kd.R_reads' HO_354001.out).2.2); (case side4 => exact (Kd.R_reads' HO_354001.out).2.1); (case side5 => exact caq (Kd.R_reads' HO_329000.out).2.2); (case side6 => exact (Kd.R_reads' HO_329000.out).2.1); (case side7 => exact caq (Kd.R_reads' HO_329001.out).2.2); (case side8 => exact (Kd.R_reads' HO_329001.out).2.1); rintro e w134 ⟨rfl, hb⟩; have n_ := And.intro (Aside0.mk (Kd.R_below (rq HO_329000.out) hb)) (And.intro (Aside0.mk (Kd.R_below (rq HO_329001.out) hb)) (And.intro (Aside0.mk (Kd.R_below (rq HO_354000.out) hb)) (And.intro (Aside0.mk (Kd.R_below (rq HO_354001.out) hb)) (And.intro (Aside0.mk (bbq BK302.out hb)) (And.intro (Aside0.mk (bbq BK303.out hb)) (And.intro (Aside0.mk (bbq BK328.out hb)) (And.intro (Aside0.mk (bbq BK353.out hb)) (Aside0.mk (below_step (bw4 HB.out GE302.out GE303.out GE328.out GE353.out) hb))))))))); clear HO_329000 HO_329001 HO_354000 HO_354001 BK302 BK303 BK328 BK353 HB; obtain ⟨HO_329000, HO_329001, HO_354000, HO_354001, BK302, BK303, BK328, BK353, HB⟩ := n_; (try clear hb); (try clear hb2); (try clear hk); (try clear hi)))
         go_meet
         case rel => exact ⟨_, (true), (by first | rfl | (simp; done) | (simp [*]; done)), H', ⟨by have := HJ16.out; first | omega | exact Nat.le_refl _⟩, ⟨by (with_reducible repeat (first | apply Kd.R_alloc | apply Kd.R_drewN | apply Kd.R_drew)); exact Kd.R_mono HO_329000.out (fun _ hk => ⟨hk.1, ⟨hk.2.2.2.1, hk.2.2.2.2⟩⟩)⟩, ⟨by (with_reducible repeat (first | apply Kd.R_alloc | apply Kd.R_drewN | apply Kd.R_drew)); exact Kd.R_mono HO_329001.out (fun _ hk => ⟨hk.1, ⟨hk.2.2.2.1, hk.2.2.2.2⟩⟩)⟩, ⟨by (with_reducible repeat (first | apply Kd.R_alloc | apply Kd.R_drewN | apply Kd.R_drew)); exact Kd.R_mono HO_354000.out (fun _ hk => ⟨hk.1, ⟨hk.2.1, hk.2.2.2.2⟩⟩)⟩, ⟨by (with_reducible repeat (first | apply Kd.R_alloc | apply Kd.R_drewN | apply Kd.R_drew)); exact Kd.R_mono HO_354001.out (fun _ hk => ⟨hk.1, ⟨hk.2.1, hk.2.2.2.2⟩⟩)⟩, ⟨by (with_reducible repeat (first | refine blk_drewN ?_ _ | refine blk_drew ?_ | refine blk_alloc ?_ _)); exact BK302.out⟩, ⟨by (with_reducible repeat (first | refine blk_drewN ?_ _ | refine blk_drew ?_ | refine blk_alloc ?_ _)); exact BK303.out⟩, ⟨by (with_reducible repeat (first | refine blk_drewN ?_ _ | refine blk_drew ?_ | refine blk_alloc ?_ _)); exact BK328.out⟩, ⟨by (with_reducible repeat (first | refine blk_drewN ?_ _ | refine blk_drew ?_ | refine blk_alloc ?_ _)); exact BK353.out⟩, ⟨by repeat (first | (with_reducible first | exact HB.out | apply below_alloc | apply pw_below_drewN | apply below_drew1 | refine below_set ?_ GE302.out | refine below_set ?_ GE303.out | refine below_set ?_ GE328.out | refine below_set ?_ GE353.out) | exact HB.out)⟩⟩
      case rest =>
       clear HC95
       try clear c1
       try clear p2
       try clear c5
       try clear c6
       try clear c7
       try clear c8
       try clear c9
       try clear c10
       try clear c11
       try clear c12
       try clear c13
       try clear c14
       try clear c15
       try clear c16
       try clear c17
       try clear c58
       try clear c59
       try clear c59b0
       try clear c59b1
       try clear c60
       try clear c61
       try clear c62
       try clear c63
       try clear c65
       try clear c66
       try clear c67
       try clear c70
       try clear c71
       try clear c72
       try clear c73
       try clear c75
       try clear c76
       try clear c77
       try clear c80
       try clear c81
       try clear c82
       try clear c83
       try clear c85
       try clear c86
       try clear c87
       try clear c90
       try clear c93
       try clear c101
       try clear c102
       try clear c103
       try clear c104
       try clear c107
       try clear c107b0
       try clear c109
       try clear c110
       try clear c110b0
       try clear c110b1
       try clear c111
       try clear c112
       try clear c113
       try clear c115
       try clear c116
       try clear c119
       try clear c120
       try clear c121
       try clear c123
       try clear c124
       try clear c127
       try clear c128
       try clear c129
       try clear c131
       try clear c132
       try clear p2
       obtain ⟨kq, x90_94, rfl, HA, HJ94, HO_329000, HO_329001, HO_354000, HO_354001, BK302, BK303, BK328, BK353, HB⟩ := hcut
       cases kq with
       | zero => exact absurd HA.out (by simp [laws_FnExactApplyWish.j1])
       | succ kj94 =>
        have H := HA.out
        clear HA
        simp only [laws_FnExactApplyWish.j1] at H
        by_cases c135 : x90_94 = true
        ·subst c135
         rw [if_pos rfl] at H
         exact absurd H (by simp)
        ·replace c135 := Bool.eq_false_iff.mpr c135
         subst c135
         rw [if_neg (show ¬ (false = true) by decide)] at H
         replace H := Option.bind_eq_some_iff.mp H
         obtain ⟨⟨t367, t368, t369⟩, A1360, H⟩ := H
         have A136 := Aside0.mk A1360
         clear A1360
         replace H := Option.bind_eq_some_iff.mp H
         obtain ⟨t370, A1370, H⟩ := H
         have A137 := Aside0.mk A1370
         clear A1370
         by_cases c138 : t370 < 0
         ·rw [if_pos c138] at H
          exact absurd H (by simp)
         ·rw [if_neg c138] at H
          have c138b0 : decide (t370 < 0) = false := decide_eq_false c138
          clear c138
          by_cases c139 : t370 = t367
          ·rw [if_pos c139] at H
           have c139b0 : (t370 == t367) = true := beq_iff_eq.mpr c139
           have c139b1 : (t370 != t367) = false := bne_eq_false_iff_eq.mpr c139
           clear c139
           replace H := Option.bind_eq_some_iff.mp H
           obtain ⟨⟨t371, t374, t377⟩, A1400, H⟩ := H
           have A140 := Aside0.mk A1400
           clear A1400
           replace H := Option.bind_eq_some_iff.mp H
           obtain ⟨⟨t378, t379, t380, t381, t382, t383, t384⟩, A1410, H⟩ := H
           have A141 := Aside0.mk A1410
           clear A1410
           replace H := Option.bind_eq_some_iff.mp H
           obtain ⟨⟨t385, t388, t391, t392, t393⟩, A1420, H⟩ := H
           have A142 := Aside0.mk A1420
           clear A1420
           have HC143 := Aside0.mk H
           clear H
           have hnb144 := NB353_302.out
           have hnc144 := NB302_353.out
           have hnb145 := NB353_303.out
           have hnc145 := NB303_353.out
           have hnb146 := NB353_328.out
           have hnc146 := NB328_353.out
           obtain ⟨hcz147_0, hcz147_1, hcz147_2, hfz147_0, hfz147_1, hfz147_2⟩ := cq3 BK353.out
           try go_wp2_with (first | ((with_reducible refine gate_callee (f := 17) rfl ?_); refine goesL_ (some 93) rfl rfl Try.func17 (by kernel_rfl) rfl #[.agg #[.slice Ao52 t344.length co52, .slice Ao54 t347.length co54, .int .i64 t350], .int .i64 1] rfl aq ?_; (with_reducible refine (laws_markState.calls kj94 (fun k_ => some k_ = (.slice Ao52 t344.length co52 : Value).ownBlock) (.slice Ao52 t344.length co52) t344 (fun k_ => some k_ = (.slice Ao54 t347.length co54 : Value).ownBlock) (.slice Ao54 t347.length co54) t347 t350 1 t367 t368 t369 w _ ?side1 ?side2 ?side3 ?side4 ?side5 A136.out).mono ?_); (case side1 => repeat (first | (with_reducible first | exact HB.out | apply below_alloc | apply pw_below_drewN | apply below_drew1 | refine below_set ?_ GE302.out | refine below_set ?_ GE303.out | refine below_set ?_ GE328.out | refine below_set ?_ GE353.out) | exact HB.out)); (case side2 => exact Kd.R_tight rfl HO_354000.out); (case side3 => exact fun k_ e_ => (HO_354000.out.1 k_ e_.symm).2.2); (case side4 => exact Kd.R_tight rfl HO_354001.out); (case side5 => exact fun k_ e_ => (HO_354001.out.1 k_ e_.symm).2.2); rintro e w148 ⟨rfl, hy0, hy1, hb, hkp⟩; refine ⟨_, rfl, ?_⟩; have n_ := And.intro (Aside0.mk (Kd.R_mono (ok' := fun k_ => some k_ ≠ (.slice Ao33 t322.length co33 : Value).ownBlock ∧ some k_ ≠ (.slice Ao52 t344.length co52 : Value).ownBlock ∧ some k_ ≠ (.slice Ao54 t347.length co54 : Value).ownBlock) (Kd.R_keptB (HO_329000.out) hkp (fun k_ hk_ hs_ => Or.elim hs_ (fun e_ => (hk_.2.1) e_) (fun e_ => (hk_.2.2) e_))) (fun k_ hk_ => ⟨hk_.1.1, hk_.1.2.1, hk_.1.2.2⟩))) (And.intro (Aside0.mk (Kd.R_mono (ok' := fun k_ => some k_ ≠ (.slice Ao31 t319.length co31 : Value).ownBlock ∧ some k_ ≠ (.slice Ao52 t344.length co52 : Value).ownBlock ∧ some k_ ≠ (.slice Ao54 t347.length co54 : Value).ownBlock) (Kd.R_keptB (HO_329001.out) hkp (fun k_ hk_ hs_ => Or.elim hs_ (fun e_ => (hk_.2.1) e_) (fun e_ => (hk_.2.2) e_))) (fun k_ hk_ => ⟨hk_.1.1, hk_.1.2.1, hk_.1.2.2⟩))) (And.intro (Aside0.mk (Kd.R_reok rfl hy0 (fun k_ e_ => HO_354000.out.1 k_ e_))) (And.intro (Aside0.mk (Kd.R_reok rfl hy1 (fun k_ e_ => HO_354001.out.1 k_ e_))) (And.intro (Aside0.mk (blk_kept (bq BK302.out) hkp (fun hs_ => Or.elim hs_ (fun e_ => (fun e_ => (Kd.R_ne HO_354000.out BK302.out (by decide)) e_) e_) (fun e_ => (fun e_ => (Kd.R_ne HO_354001.out BK302.out (by decide)) e_) e_)))) (And.intro (Aside0.mk (blk_kept (bq BK303.out) hkp (fun hs_ => Or.elim hs_ (fun e_ => (fun e_ => (Kd.R_ne HO_354000.out BK303.out (by decide)) e_) e_) (fun e_ => (fun e_ => (Kd.R_ne HO_354001.out BK303.out (by decide)) e_) e_)))) (And.intro (Aside0.mk (blk_kept (bq BK328.out) hkp (fun hs_ => Or.elim hs_ (fun e_ => (fun e_ => (Kd.R_ne HO_354000.out BK328.out (by decide)) e_) e_) (fun e_ => (fun e_ => (Kd.R_ne HO_354001.out BK328.out (by decide)) e_) e_)))) (And.intro (Aside0.mk (blk_kept (bq BK353.out) hkp (fun hs_ => Or.elim hs_ (fun e_ => (fun e_ => (Kd.R_ne HO_354000.out BK353.out (by decide)) e_) e_) (fun e_ => (fun e_ => (Kd.R_ne HO_354001.out BK353.out (by decide)) e_) e_)))) (Aside0.mk (hb))))))))); clear HO_329000 HO_329001 HO_354000 HO_354001 BK302 BK303 BK328 BK353 HB; obtain ⟨HO_329000, HO_329001, HO_354000, HO_354001, BK302, BK303, BK328, BK353, HB⟩ := n_; (try clear hb); (try clear hkp); (try clear hy0); (try clear hy1); obtain ⟨hcz149_0, hcz149_1, hcz149_2, hfz149_0, hfz149_1, hfz149_2⟩ := cq3 BK353.out) | ((with_reducible refine gate_callee (f := 18) rfl ?_); refine goesL_ (some 96) rfl rfl Try.func18 (by kernel_rfl) rfl #[.agg #[.slice Ao52 t368.length co52, .slice Ao54 t369.length co54, .int .i64 t350], .int .i64 1] rfl (by (try simp only [List.map_toArray, List.map_cons, List.map_nil]); first | done | (rw [show t368.length = t344.length from (Kd.R_reads' HO_354000.out).1.symm, show t369.length = t347.length from (Kd.R_reads' HO_354001.out).1.symm] <;> rfl) | rfl | (simp only [List.length_drop, List.length_take]; rfl)) ?_; (with_reducible refine (laws_heldState.calls kj94 _ _ t368 _ _ t369 t350 1 t370 _ ?side1 ?side2 ?side3 ?side4 A137.out).mono ?_); (case side1 => exact caq (Kd.R_reads' HO_354000.out).2.2); (case side2 => rw [show t368.length = t344.length from (Kd.R_reads' HO_354000.out).1.symm]; exact (Kd.R_reads' HO_354000.out).2.1); (case side3 => exact caq (Kd.R_reads' HO_354001.out).2.2); (case side4 => rw [show t369.length = t347.length from (Kd.R_reads' HO_354001.out).1.symm]; exact (Kd.R_reads' HO_354001.out).2.1); rintro e w150 ⟨rfl, hb⟩; refine ⟨_, rfl, ?_⟩; have n_ := And.intro (Aside0.mk (Kd.R_below (rq HO_329000.out) hb)) (And.intro (Aside0.mk (Kd.R_below (rq HO_329001.out) hb)) (And.intro (Aside0.mk (Kd.R_below (rq HO_354000.out) hb)) (And.intro (Aside0.mk (Kd.R_below (rq HO_354001.out) hb)) (And.intro (Aside0.mk (bbq BK302.out hb)) (And.intro (Aside0.mk (bbq BK303.out hb)) (And.intro (Aside0.mk (bbq BK328.out hb)) (And.intro (Aside0.mk (bbq BK353.out hb)) (Aside0.mk (below_step (bw4 HB.out GE302.out GE303.out GE328.out GE353.out) hb))))))))); clear HO_329000 HO_329001 HO_354000 HO_354001 BK302 BK303 BK328 BK353 HB; obtain ⟨HO_329000, HO_329001, HO_354000, HO_354001, BK302, BK303, BK328, BK353, HB⟩ := n_; (try clear hb); (try clear hb2); (try clear hk); (try clear hi)))
           have n_ := And.intro (Aside0.mk (Kd.R_drew HO_329000.out)) (And.intro (Aside0.mk (Kd.R_drew HO_329001.out)) (And.intro (Aside0.mk (Kd.R_drew HO_354000.out)) (And.intro (Aside0.mk (Kd.R_drew HO_354001.out)) (And.intro (Aside0.mk (blk_drew BK302.out)) (And.intro (Aside0.mk (blk_drew BK303.out)) (And.intro (Aside0.mk (blk_drew BK328.out)) (And.intro (Aside0.mk (blk_drew BK353.out)) (Aside0.mk (below_drew1 HB.out)))))))))
           clear HO_329000 HO_329001 HO_354000 HO_354001 BK302 BK303 BK328 BK353 HB
           obtain ⟨HO_329000, HO_329001, HO_354000, HO_354001, BK302, BK303, BK328, BK353, HB⟩ := n_
           refine start_ (n := 15) (S := fun w' => w'.cell? ⟨gb302, 0, none⟩ = some (.slice A0_0 l0_0.length c0_0) ∧ w'.cell? ⟨gb302, 1, none⟩ = some (.slice A0_1 l0_1.length c0_1) ∧ w'.cell? ⟨gb302, 2, none⟩ = some (.int .i64 a0_2) ∧ w'.cell? ⟨gb303, 0, none⟩ = some (.int .i64 a1_0) ∧ w'.cell? ⟨gb303, 1, none⟩ = some (.int .i64 a1_1) ∧ w'.cell? ⟨gb303, 2, none⟩ = some (.int .i64 a1_2) ∧ w'.cell? ⟨gb303, 3, none⟩ = some (.int .i64 a1_3) ∧ w'.cell? ⟨gb303, 4, none⟩ = some (.int .i64 a1_4) ∧ w'.cell? ⟨gb303, 5, none⟩ = some (.int .i64 a1_5) ∧ w'.cell? ⟨gb303, 6, none⟩ = some (.int .i64 a1_6)) (ds := []) #[false, false, false, false, false, false, false, false, false, false, false, false, false, false, false] (by kernel_rfl) rfl rfl (cr3 BK302.out (cl7 BK303.out)) (fun hHeld => ?_); refine with_tabW laws_FnExactApplyWish.tab24 laws_FnExactApplyWish.bits24 (fun HT_ HW_ => ?_)
           generalize w150.drew = w151 at HO_329000 HO_329001 HO_354000 HO_354001 BK302 BK303 BK328 BK353 HB hHeld ⊢
           refine pure_ (i := 4) (N := some 107) (v := ?_) (a' := ?_) #[false, false, false, false, true, false, false, false, false, false, false, false, false, false, false] rfl rfl (any_of HT_.out (by kernel_rfl)) (fun _ _ _ h => h) (Or.inl ⟨by rfl, ?_⟩) ?_ ?_
           rotate_left
           ·intro w'
            go_simp
            with_reducible rfl
           rotate_left
           ·simp only [apn]
            rfl
           refine pure_ (i := 5) (N := some 108) (v := ?_) (a' := ?_) #[false, false, false, false, true, true, false, false, false, false, false, false, false, false, false] rfl rfl (any_of HT_.out (by kernel_rfl)) (fun _ _ _ h => h) (Or.inl ⟨by rfl, ?_⟩) ?_ ?_
           rotate_left
           ·intro w'
            go_simp
            with_reducible rfl
           rotate_left
           ·simp only [apn]
            rfl
           refine take_ (i := 0) (N := some 103) (v := ?_) (a' := ?_) #[true, false, false, false, true, true, false, false, false, false, false, false, false, false, false] rfl rfl (take_ofW HT_.out HW_.out (by kernel_rfl)) (fun _ _ _ h => h) (Or.inl ⟨by rfl, ?_⟩) hHeld ?_ ?_
           rotate_left
           ·rintro w' ⟨s0, s1, s2, s3, s4, s5, s6, s7, s8, s9⟩
            go_simp
            with_reducible rfl
           rotate_left
           ·simp only [apn]
            rfl
           refine take_ (i := 2) (N := some 105) (v := ?_) (a' := ?_) #[true, false, true, false, true, true, false, false, false, false, false, false, false, false, false] rfl rfl (take_ofW HT_.out HW_.out (by kernel_rfl)) (fun _ _ _ h => h) (Or.inl ⟨by rfl, ?_⟩) hHeld ?_ ?_
           rotate_left
           ·rintro w' ⟨s0, s1, s2, s3, s4, s5, s6, s7, s8, s9⟩
            go_simp
            with_reducible rfl
           rotate_left
           ·simp only [apn]
            rfl
           refine join_ (σ := Value × Value × Value × Value × Nat) 3 #[true, true, true, true, true, true, true, true, true, true, true, true, false, false, false] (fun s_ => [(104, .agg #[s_.1, s_.2.1, .int .i64 t377]), (106, .agg #[.int .i64 t378, .int .i64 t379, .int .i64 t380, .int .i64 t381, .int .i64 t382, .int .i64 t383, .int .i64 t384]), (109, .tuple #[.agg #[s_.2.2.1, s_.2.2.2.1, .int .i64 t391], .int .i64 t392, .bool t393]), (20, .pointer (some ⟨s_.2.2.2.2, 0, none⟩)), (102, .tuple #[.agg #[s_.2.2.1, s_.2.2.2.1, .int .i64 t391], .int .i64 t392, .bool t393]), (110, .agg #[s_.2.2.1, s_.2.2.2.1, .int .i64 t391]), (111, .int .i64 t392), (112, .bool t393)]) (fun s_ w' => (w'.cell? ⟨gb302, 0, none⟩ = some (.slice A0_0 l0_0.length c0_0) ∧ w'.cell? ⟨gb302, 1, none⟩ = some (.slice A0_1 l0_1.length c0_1) ∧ w'.cell? ⟨gb302, 2, none⟩ = some (.int .i64 a0_2) ∧ w'.cell? ⟨gb303, 0, none⟩ = some (.int .i64 a1_0) ∧ w'.cell? ⟨gb303, 1, none⟩ = some (.int .i64 a1_1) ∧ w'.cell? ⟨gb303, 2, none⟩ = some (.int .i64 a1_2) ∧ w'.cell? ⟨gb303, 3, none⟩ = some (.int .i64 a1_3) ∧ w'.cell? ⟨gb303, 4, none⟩ = some (.int .i64 a1_4) ∧ w'.cell? ⟨gb303, 5, none⟩ = some (.int .i64 a1_5) ∧ w'.cell? ⟨gb303, 6, none⟩ = some (.int .i64 a1_6)) ∧ (Kd.R (Kd.int .i64) 3 w' w.heap.size (fun k_ => some k_ ≠ (s_.2.1 : Value).ownBlock ∧ some k_ ≠ (s_.2.2.1 : Value).ownBlock ∧ some k_ ≠ (s_.2.2.2.1 : Value).ownBlock ∧ some k_ ≠ (.slice Ao31 t319.length co31 : Value).ownBlock ∧ some k_ ≠ (.slice Ao33 t322.length co33 : Value).ownBlock ∧ some k_ ≠ (.slice Ao52 t344.length co52 : Value).ownBlock ∧ some k_ ≠ (.slice Ao54 t347.length co54 : Value).ownBlock) s_.1 t371) ∧ (Kd.R (Kd.int .i64) 3 w' w.heap.size (fun k_ => some k_ ≠ (s_.1 : Value).ownBlock ∧ some k_ ≠ (s_.2.2.1 : Value).ownBlock ∧ some k_ ≠ (s_.2.2.2.1 : Value).ownBlock ∧ some k_ ≠ (.slice Ao31 t319.length co31 : Value).ownBlock ∧ some k_ ≠ (.slice Ao33 t322.length co33 : Value).ownBlock ∧ some k_ ≠ (.slice Ao52 t344.length co52 : Value).ownBlock ∧ some k_ ≠ (.slice Ao54 t347.length co54 : Value).ownBlock) s_.2.1 t374) ∧ (Kd.R (Kd.int .i64) 3 w' w.heap.size (fun k_ => some k_ ≠ (s_.1 : Value).ownBlock ∧ some k_ ≠ (s_.2.1 : Value).ownBlock ∧ some k_ ≠ (s_.2.2.2.1 : Value).ownBlock ∧ some k_ ≠ (.slice Ao31 t319.length co31 : Value).ownBlock ∧ some k_ ≠ (.slice Ao33 t322.length co33 : Value).ownBlock ∧ some k_ ≠ (.slice Ao52 t344.length co52 : Value).ownBlock ∧ some k_ ≠ (.slice Ao54 t347.length co54 : Value).ownBlock) s_.2.2.1 t385) ∧ (Kd.R (Kd.int .i64) 3 w' w.heap.size (fun k_ => some k_ ≠ (s_.1 : Value).ownBlock ∧ some k_ ≠ (s_.2.1 : Value).ownBlock ∧ some k_ ≠ (s_.2.2.1 : Value).ownBlock ∧ some k_ ≠ (.slice Ao31 t319.length co31 : Value).ownBlock ∧ some k_ ≠ (.slice Ao33 t322.length co33 : Value).ownBlock ∧ some k_ ≠ (.slice Ao52 t344.length co52 : Value).ownBlock ∧ some k_ ≠ (.slice Ao54 t347.length co54 : Value).ownBlock) s_.2.2.2.1 t388) ∧ (Kd.R (Kd.int .i64) 3 w' w.heap.size (fun k_ => some k_ ≠ (s_.1 : Value).ownBlock ∧ some k_ ≠ (s_.2.1 : Value).ownBlock ∧ some k_ ≠ (s_.2.2.1 : Value).ownBlock ∧ some k_ ≠ (s_.2.2.2.1 : Value).ownBlock ∧ some k_ ≠ (.slice Ao33 t322.length co33 : Value).ownBlock ∧ some k_ ≠ (.slice Ao52 t344.length co52 : Value).ownBlock ∧ some k_ ≠ (.slice Ao54 t347.length co54 : Value).ownBlock) (.slice Ao31 t319.length co31) t319) ∧ (Kd.R (Kd.int .i64) 3 w' w.heap.size (fun k_ => some k_ ≠ (s_.1 : Value).ownBlock ∧ some k_ ≠ (s_.2.1 : Value).ownBlock ∧ some k_ ≠ (s_.2.2.1 : Value).ownBlock ∧ some k_ ≠ (s_.2.2.2.1 : Value).ownBlock ∧ some k_ ≠ (.slice Ao31 t319.length co31 : Value).ownBlock ∧ some k_ ≠ (.slice Ao52 t344.length co52 : Value).ownBlock ∧ some k_ ≠ (.slice Ao54 t347.length co54 : Value).ownBlock) (.slice Ao33 t322.length co33) t322) ∧ (Kd.R (Kd.int .i64) 3 w' w.heap.size (fun k_ => some k_ ≠ (s_.1 : Value).ownBlock ∧ some k_ ≠ (s_.2.1 : Value).ownBlock ∧ some k_ ≠ (s_.2.2.1 : Value).ownBlock ∧ some k_ ≠ (s_.2.2.2.1 : Value).ownBlock ∧ some k_ ≠ (.slice Ao31 t319.length co31 : Value).ownBlock ∧ some k_ ≠ (.slice Ao33 t322.length co33 : Value).ownBlock ∧ some k_ ≠ (.slice Ao54 t347.length co54 : Value).ownBlock) (.slice Ao52 t344.length co52) t368) ∧ (Kd.R (Kd.int .i64) 3 w' w.heap.size (fun k_ => some k_ ≠ (s_.1 : Value).ownBlock ∧ some k_ ≠ (s_.2.1 : Value).ownBlock ∧ some k_ ≠ (s_.2.2.1 : Value).ownBlock ∧ some k_ ≠ (s_.2.2.2.1 : Value).ownBlock ∧ some k_ ≠ (.slice Ao31 t319.length co31 : Value).ownBlock ∧ some k_ ≠ (.slice Ao33 t322.length co33 : Value).ownBlock ∧ some k_ ≠ (.slice Ao52 t344.length co52 : Value).ownBlock) (.slice Ao54 t347.length co54) t369) ∧ (w'.heap[gb302]? = some (.cells #[.slice A0_0 l0_0.length c0_0, .slice A0_1 l0_1.length c0_1, .int .i64 a0_2] 24 (0, 0))) ∧ (w'.heap[gb303]? = some (.cells #[.int .i64 a1_0, .int .i64 a1_1, .int .i64 a1_2, .int .i64 a1_3, .int .i64 a1_4, .int .i64 a1_5, .int .i64 a1_6] 26 (0, 0))) ∧ (w'.heap[gb328]? = some (.cells #[.slice Ao31 t319.length co31, .slice Ao33 t322.length co33, .int .i64 t325] 28 (0, 0))) ∧ (w'.heap[gb353]? = some (.cells #[.slice Ao52 t344.length co52, .slice Ao54 t347.length co54, .int .i64 t350] 28 (0, 0))) ∧ (w'.heap[s_.2.2.2.2]? = some (.cells #[.slice none 0 0, .slice none 0 0, .int .i64 0] 28 (0, 0))) ∧ (w.heap.size ≤ s_.2.2.2.2) ∧ (w.heap.size ≤ s_.2.2.2.2) ∧ (gb302 ≠ s_.2.2.2.2) ∧ (s_.2.2.2.2 ≠ gb302) ∧ (gb303 ≠ s_.2.2.2.2) ∧ (s_.2.2.2.2 ≠ gb303) ∧ (gb328 ≠ s_.2.2.2.2) ∧ (s_.2.2.2.2 ≠ gb328) ∧ (gb353 ≠ s_.2.2.2.2) ∧ (s_.2.2.2.2 ≠ gb353) ∧ (Below w.heap.size w w')) ?_ ?_
           rotate_left
           ·intro hCont
            refine two_ (i := 1) (j := 11) (Ni := some 104) (Nj := some 20) #[true, true, true, false, true, true, false, false, false, false, false, false, false, false, false] #[true, false, true, false, true, true, false, false, false, false, false, true, false, false, false] rfl rfl rfl rfl (two_of HT_.out (by kernel_rfl)) (by decide) (by decide) (fun K hK => ?_) (fun K hK => ?_)
            ·skip
             refine goes_ Try.func13 (by kernel_rfl) rfl #[.agg #[.slice A0_0 l0_0.length c0_0, .slice A0_1 l0_1.length c0_1, .int .i64 a0_2]] (by rfl) rfl rfl aq ?_
             with_reducible refine (laws_toState.calls kj94 _ _ l0_0 _ _ l0_1 a0_2 t371 t374 t377 _ ?side1 ?side2 ?side3 ?side4 A140.out).mono ?_
             (case side1 => exact caq (Kd.C_below HR0_0.out HB.out))
             (case side2 => exact HC0_0.out)
             (case side3 => exact caq (Kd.C_below HR0_1.out HB.out))
             (case side4 => exact HC0_1.out)
             rintro e w152 ⟨v372, v375, rfl, ho0, ho1, hb⟩
             refine ⟨_, rfl, ?_⟩
             have n_ := And.intro (Aside0.mk (Kd.R_mono (Kd.R_told (Kd.R_told (Kd.R_old (rq HO_329000.out) hb) (Kd.R_base ho0)) (Kd.R_base ho1)) (fun _ h_ => h_.1))) (And.intro (Aside0.mk (Kd.R_mono (Kd.R_told (Kd.R_told (Kd.R_old (rq HO_329001.out) hb) (Kd.R_base ho0)) (Kd.R_base ho1)) (fun _ h_ => h_.1))) (And.intro (Aside0.mk (Kd.R_mono (Kd.R_told (Kd.R_told (Kd.R_old (rq HO_354000.out) hb) (Kd.R_base ho0)) (Kd.R_base ho1)) (fun _ h_ => h_.1))) (And.intro (Aside0.mk (Kd.R_mono (Kd.R_told (Kd.R_told (Kd.R_old (rq HO_354001.out) hb) (Kd.R_base ho0)) (Kd.R_base ho1)) (fun _ h_ => h_.1))) (And.intro (Aside0.mk (Kd.R_lower (Kd.R_new' (Kd.R_new' (Kd.R_new' (Kd.R_new' ho0 (Kd.R_lt (rq HO_329000.out))) (Kd.R_lt (rq HO_329001.out))) (Kd.R_lt (rq HO_354000.out))) (Kd.R_lt (rq HO_354001.out))) (below_size (bw4 HB.out GE302.out GE303.out GE328.out GE353.out)))) (And.intro (Aside0.mk (Kd.R_lower (Kd.R_new' (Kd.R_new' (Kd.R_new' (Kd.R_new' ho1 (Kd.R_lt (rq HO_329000.out))) (Kd.R_lt (rq HO_329001.out))) (Kd.R_lt (rq HO_354000.out))) (Kd.R_lt (rq HO_354001.out))) (below_size (bw4 HB.out GE302.out GE303.out GE328.out GE353.out)))) (And.intro (Aside0.mk (bbq BK302.out hb)) (And.intro (Aside0.mk (bbq BK303.out hb)) (And.intro (Aside0.mk (bbq BK328.out hb)) (And.intro (Aside0.mk (bbq BK353.out hb)) (Aside0.mk (below_step (bw4 HB.out GE302.out GE303.out GE328.out GE353.out) hb)))))))))))
             clear HO_329000 HO_329001 HO_354000 HO_354001 BK302 BK303 BK328 BK353 HB
             obtain ⟨HO_329000, HO_329001, HO_354000, HO_354001, HO373, HO376, BK302, BK303, BK328, BK353, HB⟩ := n_
             (try clear hb)
             (try clear hb2)
             (try clear hk)
             (try clear hi)
             (try clear ho0)
             (try clear ho1)
             refine hK.out _ _ (cr3 BK302.out (cl7 BK303.out)) (fun hHeld => ?_)
             clear hK K
             refine norm_ (a' := ?_) ?_ ?_
             rotate_left
             ·show Act.put _ (some 104) _ = _
              simp only [apn]
              rfl
             refine two_ (i := 3) (j := 11) (Ni := some 106) (Nj := some 20) #[true, true, true, true, true, true, false, false, false, false, false, false, false, false, false] #[true, true, true, false, true, true, false, false, false, false, false, true, false, false, false] rfl rfl rfl rfl (two_of HT_.out (by kernel_rfl)) (by decide) (by decide) (fun K hK => ?_) (fun K hK => ?_)
             ·skip
              refine goes_ Try.func14 (by kernel_rfl) rfl #[.agg #[.int .i64 a1_0, .int .i64 a1_1, .int .i64 a1_2, .int .i64 a1_3, .int .i64 a1_4, .int .i64 a1_5, .int .i64 a1_6]] (by rfl) rfl rfl aq ?_
              with_reducible refine (laws_toWish.calls a1_0 a1_1 a1_2 a1_3 a1_4 a1_5 a1_6 t378 t379 t380 t381 t382 t383 t384 _ A141.out).mono ?_
              rintro e w153 ⟨rfl, hb⟩
              refine ⟨_, rfl, ?_⟩
              have n_ := And.intro (Aside0.mk (Kd.R_below (rq HO_329000.out) hb)) (And.intro (Aside0.mk (Kd.R_below (rq HO_329001.out) hb)) (And.intro (Aside0.mk (Kd.R_below (rq HO_354000.out) hb)) (And.intro (Aside0.mk (Kd.R_below (rq HO_354001.out) hb)) (And.intro (Aside0.mk (Kd.R_below (rq HO373.out) hb)) (And.intro (Aside0.mk (Kd.R_below (rq HO376.out) hb)) (And.intro (Aside0.mk (bbq BK302.out hb)) (And.intro (Aside0.mk (bbq BK303.out hb)) (And.intro (Aside0.mk (bbq BK328.out hb)) (And.intro (Aside0.mk (bbq BK353.out hb)) (Aside0.mk (below_step (bw4 HB.out GE302.out GE303.out GE328.out GE353.out) hb)))))))))))
              clear HO_329000 HO_329001 HO_354000 HO_354001 HO373 HO376 BK302 BK303 BK328 BK353 HB
              obtain ⟨HO_329000, HO_329001, HO_354000, HO_354001, HO373, HO376, BK302, BK303, BK328, BK353, HB⟩ := n_
              (try clear hb)
              (try clear hb2)
              (try clear hk)
              (try clear hi)
              obtain ⟨Ao154, co154, eo154⟩ := Kd.R_slice HO373.out
              (first | subst eo154 | (injection eo154 with f1_ f2_ f3_; have f4_ := f1_.symm; have f5_ := f3_.symm; clear f1_ f2_ f3_; subst f4_; subst f5_))
              obtain ⟨Ao155, co155, eo155⟩ := Kd.R_slice HO376.out
              (first | subst eo155 | (injection eo155 with f1_ f2_ f3_; have f4_ := f1_.symm; have f5_ := f3_.symm; clear f1_ f2_ f3_; subst f4_; subst f5_))
              refine hK.out _ _ (cr3 BK302.out (cl7 BK303.out)) (fun hHeld => ?_)
              clear hK K
              refine norm_ (a' := ?_) ?_ ?_
              rotate_left
              ·show Act.put _ (some 106) _ = _
               simp only [apn]
               rfl
              refine two_ (i := 6) (j := 11) (Ni := some 109) (Nj := some 20) #[true, true, true, true, true, true, true, false, false, false, false, false, false, false, false] #[true, true, true, true, true, true, false, false, false, false, false, true, false, false, false] rfl rfl rfl rfl (two_of HT_.out (by kernel_rfl)) (by decide) (by decide) (fun K hK => ?_) (fun K hK => ?_)
              ·skip
               refine goes_ Try.func15 (by kernel_rfl) rfl #[.agg #[.slice Ao154 t371.length co154, .slice Ao155 t374.length co155, .int .i64 t377], .agg #[.int .i64 t378, .int .i64 t379, .int .i64 t380, .int .i64 t381, .int .i64 t382, .int .i64 t383, .int .i64 t384], .int .i64 a2, .int .i64 a3] (by rfl) rfl rfl aq ?_
               with_reducible refine (impl_ApplyWish.calls kj94 _ _ t371 _ _ t374 t377 t378 t379 t380 t381 t382 t383 t384 a2 a3 t385 t388 t391 t392 t393 _ ?side1 ?side2 ?side3 ?side4 A142.out).mono ?_
               (case side1 => exact caq (Kd.R_reads' HO373.out).2.2)
               (case side2 => exact (Kd.R_reads' HO373.out).2.1)
               (case side3 => exact caq (Kd.R_reads' HO376.out).2.2)
               (case side4 => exact (Kd.R_reads' HO376.out).2.1)
               rintro e w156 ⟨v386, v389, rfl, ho0, ho1, hb⟩
               refine ⟨_, rfl, ?_⟩
               have n_ := And.intro (Aside0.mk (Kd.R_mono (Kd.R_told (Kd.R_told (Kd.R_old (rq HO_329000.out) hb) (Kd.R_base ho0)) (Kd.R_base ho1)) (fun _ h_ => h_.1))) (And.intro (Aside0.mk (Kd.R_mono (Kd.R_told (Kd.R_told (Kd.R_old (rq HO_329001.out) hb) (Kd.R_base ho0)) (Kd.R_base ho1)) (fun _ h_ => h_.1))) (And.intro (Aside0.mk (Kd.R_mono (Kd.R_told (Kd.R_told (Kd.R_old (rq HO_354000.out) hb) (Kd.R_base ho0)) (Kd.R_base ho1)) (fun _ h_ => h_.1))) (And.intro (Aside0.mk (Kd.R_mono (Kd.R_told (Kd.R_told (Kd.R_old (rq HO_354001.out) hb) (Kd.R_base ho0)) (Kd.R_base ho1)) (fun _ h_ => h_.1))) (And.intro (Aside0.mk (Kd.R_mono (Kd.R_told (Kd.R_told (Kd.R_old (rq HO373.out) hb) (Kd.R_base ho0)) (Kd.R_base ho1)) (fun _ h_ => h_.1))) (And.intro (Aside0.mk (Kd.R_mono (Kd.R_told (Kd.R_told (Kd.R_old (rq HO376.out) hb) (Kd.R_base ho0)) (Kd.R_base ho1)) (fun _ h_ => h_.1))) (And.intro (Aside0.mk (Kd.R_lower (Kd.R_new' (Kd.R_new' (Kd.R_new' (Kd.R_new' (Kd.R_new' (Kd.R_new' ho0 (Kd.R_lt (rq HO_329000.out))) (Kd.R_lt (rq HO_329001.out))) (Kd.R_lt (rq HO_354000.out))) (Kd.R_lt (rq HO_354001.out))) (Kd.R_lt (rq HO373.out))) (Kd.R_lt (rq HO376.out))) (below_size (bw4 HB.out GE302.out GE303.out GE328.out GE353.out)))) (And.intro (Aside0.mk (Kd.R_lower (Kd.R_new' (Kd.R_new' (Kd.R_new' (Kd.R_new' (Kd.R_new' (Kd.R_new' ho1 (Kd.R_lt (rq HO_329000.out))) (Kd.R_lt (rq HO_329001.out))) (Kd.R_lt (rq HO_354000.out))) (Kd.R_lt (rq HO_354001.out))) (Kd.R_lt (rq HO373.out))) (Kd.R_lt (rq HO376.out))) (below_size (bw4 HB.out GE302.out GE303.out GE328.out GE353.out)))) (And.intro (Aside0.mk (bbq BK302.out hb)) (And.intro (Aside0.mk (bbq BK303.out hb)) (And.intro (Aside0.mk (bbq BK328.out hb)) (And.intro (Aside0.mk (bbq BK353.out hb)) (Aside0.mk (below_step (bw4 HB.out GE302.out GE303.out GE328.out GE353.out) hb)))))))))))))
               clear HO_329000 HO_329001 HO_354000 HO_354001 HO373 HO376 BK302 BK303 BK328 BK353 HB
               obtain ⟨HO_329000, HO_329001, HO_354000, HO_354001, HO373, HO376, HO387, HO390, BK302, BK303, BK328, BK353, HB⟩ := n_
               (try clear hb)
               (try clear hb2)
               (try clear hk)
               (try clear hi)
               (try clear ho0)
               (try clear ho1)
               refine hK.out _ _ (cr3 BK302.out (cl7 BK303.out)) (fun hHeld => ?_)
               clear hK K
               refine norm_ (a' := ?_) ?_ ?_
               rotate_left
               ·show Act.put _ (some 109) _ = _
                simp only [apn]
                rfl
               refine pure_ (i := 7) (N := some 102) (v := ?_) (a' := ?_) #[true, true, true, true, true, true, true, true, false, false, false, false, false, false, false] rfl rfl (any_of HT_.out (by kernel_rfl)) (fun _ _ _ h => h) (Or.inl ⟨by rfl, ?_⟩) ?_ ?_
               rotate_left
               ·intro w'
                go_simp
                with_reducible rfl
               rotate_left
               ·simp only [apn]
                rfl
               refine pure_ (i := 8) (N := some 110) (v := ?_) (a' := ?_) #[true, true, true, true, true, true, true, true, true, false, false, false, false, false, false] rfl rfl (any_of HT_.out (by kernel_rfl)) (fun _ _ _ h => h) (Or.inl ⟨by rfl, ?_⟩) ?_ ?_
               rotate_left
               ·intro w'
                go_simp
                with_reducible rfl
               rotate_left
               ·simp only [apn]
                rfl
               refine pure_ (i := 9) (N := some 111) (v := ?_) (a' := ?_) #[true, true, true, true, true, true, true, true, true, true, false, false, false, false, false] rfl rfl (any_of HT_.out (by kernel_rfl)) (fun _ _ _ h => h) (Or.inl ⟨by rfl, ?_⟩) ?_ ?_
               rotate_left
               ·intro w'
                go_simp
                with_reducible rfl
               rotate_left
               ·simp only [apn]
                rfl
               refine pure_ (i := 10) (N := some 112) (v := ?_) (a' := ?_) #[true, true, true, true, true, true, true, true, true, true, true, false, false, false, false] rfl rfl (any_of HT_.out (by kernel_rfl)) (fun _ _ _ h => h) (Or.inl ⟨by rfl, ?_⟩) ?_ ?_
               rotate_left
               ·intro w'
                go_simp
                with_reducible rfl
               rotate_left
               ·simp only [apn]
                rfl
               refine one_ (i := 11) (N := some 20) #[true, true, true, true, true, true, true, true, true, true, true, true, false, false, false] rfl rfl (one_of HT_.out (by kernel_rfl)) (by decide) (fun K hK => ?_)
               refine box_step ?hg (N := 20) ?hd (cs := #[.slice none 0 0, .slice none 0 0, .int .i64 0]) (t := 28) ?hr ?_; (case hd => rfl); (case hg => rfl); (case hr => first | (go_simp; done) | (go_simp; rfl))
               intro gb394 hg w157 hbox hb
               have n_ := And.intro (Aside0.mk (Kd.R_below (rq HO_329000.out) hb)) (And.intro (Aside0.mk (Kd.R_below (rq HO_329001.out) hb)) (And.intro (Aside0.mk (Kd.R_below (rq HO_354000.out) hb)) (And.intro (Aside0.mk (Kd.R_below (rq HO_354001.out) hb)) (And.intro (Aside0.mk (Kd.R_below (rq HO373.out) hb)) (And.intro (Aside0.mk (Kd.R_below (rq HO376.out) hb)) (And.intro (Aside0.mk (Kd.R_below (rq HO387.out) hb)) (And.intro (Aside0.mk (Kd.R_below (rq HO390.out) hb)) (And.intro (Aside0.mk (bbq BK302.out hb)) (And.intro (Aside0.mk (bbq BK303.out hb)) (And.intro (Aside0.mk (bbq BK328.out hb)) (And.intro (Aside0.mk (bbq BK353.out hb)) (And.intro (Aside0.mk (below_step (bw4 HB.out GE302.out GE303.out GE328.out GE353.out) hb)) (And.intro (Aside0.mk (hbox)) (And.intro (Aside0.mk ((by rw [hg]; exact (below_size (bw4 HB.out GE302.out GE303.out GE328.out GE353.out)) : w.heap.size ≤ gb394))) (And.intro (Aside0.mk ((by rw [hg]; exact (below_size (bw4 HB.out GE302.out GE303.out GE328.out GE353.out)) : w.heap.size ≤ gb394))) (And.intro (Aside0.mk ((nlq BK302.out hg))) (And.intro (Aside0.mk ((ngq BK302.out hg))) (And.intro (Aside0.mk ((nlq BK303.out hg))) (And.intro (Aside0.mk ((ngq BK303.out hg))) (And.intro (Aside0.mk ((nlq BK328.out hg))) (And.intro (Aside0.mk ((ngq BK328.out hg))) (And.intro (Aside0.mk ((nlq BK353.out hg))) (Aside0.mk ((ngq BK353.out hg)))))))))))))))))))))))))
               clear HO_329000 HO_329001 HO_354000 HO_354001 HO373 HO376 HO387 HO390 BK302 BK303 BK328 BK353 HB
               obtain ⟨HO_329000, HO_329001, HO_354000, HO_354001, HO373, HO376, HO387, HO390, BK302, BK303, BK328, BK353, HB, BK394, GW394, GE394, NB302_394, NB394_302, NB303_394, NB394_303, NB328_394, NB394_328, NB353_394, NB394_353⟩ := n_
               clear hb hbox hg
               refine hK.out _ _ (cr3 BK302.out (cl7 BK303.out)) (fun hHeld => ?_)
               clear hK K
               refine norm_ (a' := ?_) ?_ ?_
               rotate_left
               ·show Act.put _ (some 20) _ = _
                simp only [apn]
                rfl
               exact norm_ (by simp only [putAll, Act.put, List.setIfInBounds_toArray, List.set_cons_zero, List.set_cons_succ]) (hCont (.slice Ao154 t371.length co154, .slice Ao155 t374.length co155, v386, v389, gb394) _ ⟨hHeld, (rmq HO373.out (fun _ hk => ⟨hk.1.1.1.1.1.1, ⟨hk.1.2, ⟨hk.2, ⟨hk.1.1.1.1.1.2, ⟨hk.1.1.1.1.2, ⟨hk.1.1.1.2, hk.1.1.2⟩⟩⟩⟩⟩⟩)), (rmq HO376.out (fun _ hk => ⟨hk.1.1.1.1.1.1, ⟨hk.1.2, ⟨hk.2, ⟨hk.1.1.1.1.1.2, ⟨hk.1.1.1.1.2, ⟨hk.1.1.1.2, hk.1.1.2⟩⟩⟩⟩⟩⟩)), (rmq HO387.out (fun _ hk => ⟨hk.1.2, ⟨hk.2, ⟨hk.1.1.1.1.1.1, ⟨hk.1.1.1.1.1.2, ⟨hk.1.1.1.1.2, ⟨hk.1.1.1.2, hk.1.1.2⟩⟩⟩⟩⟩⟩)), (rmq HO390.out (fun _ hk => ⟨hk.1.2, ⟨hk.2, ⟨hk.1.1.1.1.1.1, ⟨hk.1.1.1.1.1.2, ⟨hk.1.1.1.1.2, ⟨hk.1.1.1.2, hk.1.1.2⟩⟩⟩⟩⟩⟩)), (rmq HO_329000.out (fun _ hk => ⟨hk.1.1.1.2, ⟨hk.1.1.2, ⟨hk.1.2, ⟨hk.2, ⟨hk.1.1.1.1.1, ⟨hk.1.1.1.1.2.1, hk.1.1.1.1.2.2⟩⟩⟩⟩⟩⟩)), (rmq HO_329001.out (fun _ hk => ⟨hk.1.1.1.2, ⟨hk.1.1.2, ⟨hk.1.2, ⟨hk.2, ⟨hk.1.1.1.1.1, ⟨hk.1.1.1.1.2.1, hk.1.1.1.1.2.2⟩⟩⟩⟩⟩⟩)), (rmq HO_354000.out (fun _ hk => ⟨hk.1.1.1.2, ⟨hk.1.1.2, ⟨hk.1.2, ⟨hk.2, ⟨hk.1.1.1.1.1, ⟨hk.1.1.1.1.2.1, hk.1.1.1.1.2.2⟩⟩⟩⟩⟩⟩)), (rmq HO_354001.out (fun _ hk => ⟨hk.1.1.1.2, ⟨hk.1.1.2, ⟨hk.1.2, ⟨hk.2, ⟨hk.1.1.1.1.1, ⟨hk.1.1.1.1.2.1, hk.1.1.1.1.2.2⟩⟩⟩⟩⟩⟩)), (bq BK302.out), (bq BK303.out), (bq BK328.out), (bq BK353.out), (bq BK394.out), GW394.out, GE394.out, NB302_394.out, NB394_302.out, NB303_394.out, NB394_303.out, NB328_394.out, NB394_328.out, NB353_394.out, NB394_353.out, (bw5 HB.out GE302.out GE303.out GE328.out GE353.out GE394.out)⟩)
              ·skip
               refine box_step ?hg (N := 20) ?hd (cs := #[.slice none 0 0, .slice none 0 0, .int .i64 0]) (t := 28) ?hr ?_; (case hd => rfl); (case hg => rfl); (case hr => first | (go_simp; done) | (go_simp; rfl))
               intro gb394 hg w154 hbox hb
               have n_ := And.intro (Aside0.mk (Kd.R_below (rq HO_329000.out) hb)) (And.intro (Aside0.mk (Kd.R_below (rq HO_329001.out) hb)) (And.intro (Aside0.mk (Kd.R_below (rq HO_354000.out) hb)) (And.intro (Aside0.mk (Kd.R_below (rq HO_354001.out) hb)) (And.intro (Aside0.mk (Kd.R_below (rq HO373.out) hb)) (And.intro (Aside0.mk (Kd.R_below (rq HO376.out) hb)) (And.intro (Aside0.mk (bbq BK302.out hb)) (And.intro (Aside0.mk (bbq BK303.out hb)) (And.intro (Aside0.mk (bbq BK328.out hb)) (And.intro (Aside0.mk (bbq BK353.out hb)) (And.intro (Aside0.mk (below_step (bw4 HB.out GE302.out GE303.out GE328.out GE353.out) hb)) (And.intro (Aside0.mk (hbox)) (And.intro (Aside0.mk ((by rw [hg]; exact (below_size (bw4 HB.out GE302.out GE303.out GE328.out GE353.out)) : w.heap.size ≤ gb394))) (And.intro (Aside0.mk ((by rw [hg]; exact (below_size (bw4 HB.out GE302.out GE303.out GE328.out GE353.out)) : w.heap.size ≤ gb394))) (And.intro (Aside0.mk ((nlq BK302.out hg))) (And.intro (Aside0.mk ((ngq BK302.out hg))) (And.intro (Aside0.mk ((nlq BK303.out hg))) (And.intro (Aside0.mk ((ngq BK303.out hg))) (And.intro (Aside0.mk ((nlq BK328.out hg))) (And.intro (Aside0.mk ((ngq BK328.out hg))) (And.intro (Aside0.mk ((nlq BK353.out hg))) (Aside0.mk ((ngq BK353.out hg)))))))))))))))))))))))
               clear HO_329000 HO_329001 HO_354000 HO_354001 HO373 HO376 BK302 BK303 BK328 BK353 HB
               obtain ⟨HO_329000, HO_329001, HO_354000, HO_354001, HO373, HO376, BK302, BK303, BK328, BK353, HB, BK394, GW394, GE394, NB302_394, NB394_302, NB303_394, NB394_303, NB328_394, NB394_328, NB353_394, NB394_353⟩ := n_
               clear hb hbox hg
               obtain ⟨Ao155, co155, eo155⟩ := Kd.R_slice HO373.out
               (first | subst eo155 | (injection eo155 with f1_ f2_ f3_; have f4_ := f1_.symm; have f5_ := f3_.symm; clear f1_ f2_ f3_; subst f4_; subst f5_))
               obtain ⟨Ao156, co156, eo156⟩ := Kd.R_slice HO376.out
               (first | subst eo156 | (injection eo156 with f1_ f2_ f3_; have f4_ := f1_.symm; have f5_ := f3_.symm; clear f1_ f2_ f3_; subst f4_; subst f5_))
               refine hK.out _ _ (cr3 BK302.out (cl7 BK303.out)) (fun hHeld => ?_)
               clear hK K
               refine norm_ (a' := ?_) ?_ ?_
               rotate_left
               ·show Act.put _ (some 20) _ = _
                simp only [apn]
                rfl
               refine one_ (i := 6) (N := some 109) #[true, true, true, true, true, true, true, false, false, false, false, true, false, false, false] rfl rfl (one_of HT_.out (by kernel_rfl)) (by decide) (fun K hK => ?_)
               refine goes_ Try.func15 (by kernel_rfl) rfl #[.agg #[.slice Ao155 t371.length co155, .slice Ao156 t374.length co156, .int .i64 t377], .agg #[.int .i64 t378, .int .i64 t379, .int .i64 t380, .int .i64 t381, .int .i64 t382, .int .i64 t383, .int .i64 t384], .int .i64 a2, .int .i64 a3] (by rfl) rfl rfl aq ?_
               with_reducible refine (impl_ApplyWish.calls kj94 _ _ t371 _ _ t374 t377 t378 t379 t380 t381 t382 t383 t384 a2 a3 t385 t388 t391 t392 t393 _ ?side1 ?side2 ?side3 ?side4 A142.out).mono ?_
               (case side1 => exact caq (Kd.R_reads' HO373.out).2.2)
               (case side2 => exact (Kd.R_reads' HO373.out).2.1)
               (case side3 => exact caq (Kd.R_reads' HO376.out).2.2)
               (case side4 => exact (Kd.R_reads' HO376.out).2.1)
               rintro e w157 ⟨v386, v389, rfl, ho0, ho1, hb⟩
               refine ⟨_, rfl, ?_⟩
               have n_ := And.intro (Aside0.mk (Kd.R_mono (Kd.R_told (Kd.R_told (Kd.R_old (rq HO_329000.out) hb) (Kd.R_base ho0)) (Kd.R_base ho1)) (fun _ h_ => h_.1))) (And.intro (Aside0.mk (Kd.R_mono (Kd.R_told (Kd.R_told (Kd.R_old (rq HO_329001.out) hb) (Kd.R_base ho0)) (Kd.R_base ho1)) (fun _ h_ => h_.1))) (And.intro (Aside0.mk (Kd.R_mono (Kd.R_told (Kd.R_told (Kd.R_old (rq HO_354000.out) hb) (Kd.R_base ho0)) (Kd.R_base ho1)) (fun _ h_ => h_.1))) (And.intro (Aside0.mk (Kd.R_mono (Kd.R_told (Kd.R_told (Kd.R_old (rq HO_354001.out) hb) (Kd.R_base ho0)) (Kd.R_base ho1)) (fun _ h_ => h_.1))) (And.intro (Aside0.mk (Kd.R_mono (Kd.R_told (Kd.R_told (Kd.R_old (rq HO373.out) hb) (Kd.R_base ho0)) (Kd.R_base ho1)) (fun _ h_ => h_.1))) (And.intro (Aside0.mk (Kd.R_mono (Kd.R_told (Kd.R_told (Kd.R_old (rq HO376.out) hb) (Kd.R_base ho0)) (Kd.R_base ho1)) (fun _ h_ => h_.1))) (And.intro (Aside0.mk (Kd.R_lower (Kd.R_new' (Kd.R_new' (Kd.R_new' (Kd.R_new' (Kd.R_new' (Kd.R_new' ho0 (Kd.R_lt (rq HO_329000.out))) (Kd.R_lt (rq HO_329001.out))) (Kd.R_lt (rq HO_354000.out))) (Kd.R_lt (rq HO_354001.out))) (Kd.R_lt (rq HO373.out))) (Kd.R_lt (rq HO376.out))) (below_size (bw5 HB.out GE302.out GE303.out GE328.out GE353.out GE394.out)))) (And.intro (Aside0.mk (Kd.R_lower (Kd.R_new' (Kd.R_new' (Kd.R_new' (Kd.R_new' (Kd.R_new' (Kd.R_new' ho1 (Kd.R_lt (rq HO_329000.out))) (Kd.R_lt (rq HO_329001.out))) (Kd.R_lt (rq HO_354000.out))) (Kd.R_lt (rq HO_354001.out))) (Kd.R_lt (rq HO373.out))) (Kd.R_lt (rq HO376.out))) (below_size (bw5 HB.out GE302.out GE303.out GE328.out GE353.out GE394.out)))) (And.intro (Aside0.mk (bbq BK302.out hb)) (And.intro (Aside0.mk (bbq BK303.out hb)) (And.intro (Aside0.mk (bbq BK328.out hb)) (And.intro (Aside0.mk (bbq BK353.out hb)) (And.intro (Aside0.mk (bbq BK394.out hb)) (Aside0.mk (below_step (bw5 HB.out GE302.out GE303.out GE328.out GE353.out GE394.out) hb))))))))))))))
               clear HO_329000 HO_329001 HO_354000 HO_354001 HO373 HO376 BK302 BK303 BK328 BK353 BK394 HB
               obtain ⟨HO_329000, HO_329001, HO_354000, HO_354001, HO373, HO376, HO387, HO390, BK302, BK303, BK328, BK353, BK394, HB⟩ := n_
               (try clear hb)
               (try clear hb2)
               (try clear hk)
               (try clear hi)
               (try clear ho0)
               (try clear ho1)
               refine hK.out _ _ (cr3 BK302.out (cl7 BK303.out)) (fun hHeld => ?_)
               clear hK K
               refine norm_ (a' := ?_) ?_ ?_
               rotate_left
               ·show Act.put _ (some 109) _ = _
                simp only [apn]
                rfl
               refine pure_ (i := 7) (N := some 102) (v := ?_) (a' := ?_) #[true, true, true, true, true, true, true, true, false, false, false, true, false, false, false] rfl rfl (any_of HT_.out (by kernel_rfl)) (fun _ _ _ h => h) (Or.inl ⟨by rfl, ?_⟩) ?_ ?_
               rotate_left
               ·intro w'
                go_simp
                with_reducible rfl
               rotate_left
               ·simp only [apn]
                rfl
               refine pure_ (i := 8) (N := some 110) (v := ?_) (a' := ?_) #[true, true, true, true, true, true, true, true, true, false, false, true, false, false, false] rfl rfl (any_of HT_.out (by kernel_rfl)) (fun _ _ _ h => h) (Or.inl ⟨by rfl, ?_⟩) ?_ ?_
               rotate_left
               ·intro w'
                go_simp
                with_reducible rfl
               rotate_left
               ·simp only [apn]
                rfl
               refine pure_ (i := 9) (N := some 111) (v := ?_) (a' := ?_) #[true, true, true, true, true, true, true, true, true, true, false, true, false, false, false] rfl rfl (any_of HT_.out (by kernel_rfl)) (fun _ _ _ h => h) (Or.inl ⟨by rfl, ?_⟩) ?_ ?_
               rotate_left
               ·intro w'
                go_simp
                with_reducible rfl
               rotate_left
               ·simp only [apn]
                rfl
               refine pure_ (i := 10) (N := some 112) (v := ?_) (a' := ?_) #[true, true, true, true, true, true, true, true, true, true, true, true, false, false, false] rfl rfl (any_of HT_.out (by kernel_rfl)) (fun _ _ _ h => h) (Or.inl ⟨by rfl, ?_⟩) ?_ ?_
               rotate_left
               ·intro w'
                go_simp
                with_reducible rfl
               rotate_left
               ·simp only [apn]
                rfl
               exact norm_ (by simp only [putAll, Act.put, List.setIfInBounds_toArray, List.set_cons_zero, List.set_cons_succ]) (hCont (.slice Ao155 t371.length co155, .slice Ao156 t374.length co156, v386, v389, gb394) _ ⟨hHeld, (rmq HO373.out (fun _ hk => ⟨hk.1.1.1.1.1.1, ⟨hk.1.2, ⟨hk.2, ⟨hk.1.1.1.1.1.2, ⟨hk.1.1.1.1.2, ⟨hk.1.1.1.2, hk.1.1.2⟩⟩⟩⟩⟩⟩)), (rmq HO376.out (fun _ hk => ⟨hk.1.1.1.1.1.1, ⟨hk.1.2, ⟨hk.2, ⟨hk.1.1.1.1.1.2, ⟨hk.1.1.1.1.2, ⟨hk.1.1.1.2, hk.1.1.2⟩⟩⟩⟩⟩⟩)), (rmq HO387.out (fun _ hk => ⟨hk.1.2, ⟨hk.2, ⟨hk.1.1.1.1.1.1, ⟨hk.1.1.1.1.1.2, ⟨hk.1.1.1.1.2, ⟨hk.1.1.1.2, hk.1.1.2⟩⟩⟩⟩⟩⟩)), (rmq HO390.out (fun _ hk => ⟨hk.1.2, ⟨hk.2, ⟨hk.1.1.1.1.1.1, ⟨hk.1.1.1.1.1.2, ⟨hk.1.1.1.1.2, ⟨hk.1.1.1.2, hk.1.1.2⟩⟩⟩⟩⟩⟩)), (rmq HO_329000.out (fun _ hk => ⟨hk.1.1.1.2, ⟨hk.1.1.2, ⟨hk.1.2, ⟨hk.2, ⟨hk.1.1.1.1.1, ⟨hk.1.1.1.1.2.1, hk.1.1.1.1.2.2⟩⟩⟩⟩⟩⟩)), (rmq HO_329001.out (fun _ hk => ⟨hk.1.1.1.2, ⟨hk.1.1.2, ⟨hk.1.2, ⟨hk.2, ⟨hk.1.1.1.1.1, ⟨hk.1.1.1.1.2.1, hk.1.1.1.1.2.2⟩⟩⟩⟩⟩⟩)), (rmq HO_354000.out (fun _ hk => ⟨hk.1.1.1.2, ⟨hk.1.1.2, ⟨hk.1.2, ⟨hk.2, ⟨hk.1.1.1.1.1, ⟨hk.1.1.1.1.2.1, hk.1.1.1.1.2.2⟩⟩⟩⟩⟩⟩)), (rmq HO_354001.out (fun _ hk => ⟨hk.1.1.1.2, ⟨hk.1.1.2, ⟨hk.1.2, ⟨hk.2, ⟨hk.1.1.1.1.1, ⟨hk.1.1.1.1.2.1, hk.1.1.1.1.2.2⟩⟩⟩⟩⟩⟩)), (bq BK302.out), (bq BK303.out), (bq BK328.out), (bq BK353.out), (bq BK394.out), GW394.out, GE394.out, NB302_394.out, NB394_302.out, NB303_394.out, NB394_303.out, NB328_394.out, NB394_328.out, NB353_394.out, NB394_353.out, (bw5 HB.out GE302.out GE303.out GE328.out GE353.out GE394.out)⟩)
             ·skip
              refine box_step ?hg (N := 20) ?hd (cs := #[.slice none 0 0, .slice none 0 0, .int .i64 0]) (t := 28) ?hr ?_; (case hd => rfl); (case hg => rfl); (case hr => first | (go_simp; done) | (go_simp; rfl))
              intro gb394 hg w153 hbox hb
              have n_ := And.intro (Aside0.mk (Kd.R_below (rq HO_329000.out) hb)) (And.intro (Aside0.mk (Kd.R_below (rq HO_329001.out) hb)) (And.intro (Aside0.mk (Kd.R_below (rq HO_354000.out) hb)) (And.intro (Aside0.mk (Kd.R_below (rq HO_354001.out) hb)) (And.intro (Aside0.mk (Kd.R_below (rq HO373.out) hb)) (And.intro (Aside0.mk (Kd.R_below (rq HO376.out) hb)) (And.intro (Aside0.mk (bbq BK302.out hb)) (And.intro (Aside0.mk (bbq BK303.out hb)) (And.intro (Aside0.mk (bbq BK328.out hb)) (And.intro (Aside0.mk (bbq BK353.out hb)) (And.intro (Aside0.mk (below_step (bw4 HB.out GE302.out GE303.out GE328.out GE353.out) hb)) (And.intro (Aside0.mk (hbox)) (And.intro (Aside0.mk ((by rw [hg]; exact (below_size (bw4 HB.out GE302.out GE303.out GE328.out GE353.out)) : w.heap.size ≤ gb394))) (And.intro (Aside0.mk ((by rw [hg]; exact (below_size (bw4 HB.out GE302.out GE303.out GE328.out GE353.out)) : w.heap.size ≤ gb394))) (And.intro (Aside0.mk ((nlq BK302.out hg))) (And.intro (Aside0.mk ((ngq BK302.out hg))) (And.intro (Aside0.mk ((nlq BK303.out hg))) (And.intro (Aside0.mk ((ngq BK303.out hg))) (And.intro (Aside0.mk ((nlq BK328.out hg))) (And.intro (Aside0.mk ((ngq BK328.out hg))) (And.intro (Aside0.mk ((nlq BK353.out hg))) (Aside0.mk ((ngq BK353.out hg)))))))))))))))))))))))
              clear HO_329000 HO_329001 HO_354000 HO_354001 HO373 HO376 BK302 BK303 BK328 BK353 HB
              obtain ⟨HO_329000, HO_329001, HO_354000, HO_354001, HO373, HO376, BK302, BK303, BK328, BK353, HB, BK394, GW394, GE394, NB302_394, NB394_302, NB303_394, NB394_303, NB328_394, NB394_328, NB353_394, NB394_353⟩ := n_
              clear hb hbox hg
              refine hK.out _ _ (cr3 BK302.out (cl7 BK303.out)) (fun hHeld => ?_)
              clear hK K
              refine norm_ (a' := ?_) ?_ ?_
              rotate_left
              ·show Act.put _ (some 20) _ = _
               simp only [apn]
               rfl
              refine one_ (i := 3) (N := some 106) #[true, true, true, true, true, true, false, false, false, false, false, true, false, false, false] rfl rfl (one_of HT_.out (by kernel_rfl)) (by decide) (fun K hK => ?_)
              refine goes_ Try.func14 (by kernel_rfl) rfl #[.agg #[.int .i64 a1_0, .int .i64 a1_1, .int .i64 a1_2, .int .i64 a1_3, .int .i64 a1_4, .int .i64 a1_5, .int .i64 a1_6]] (by rfl) rfl rfl aq ?_
              with_reducible refine (laws_toWish.calls a1_0 a1_1 a1_2 a1_3 a1_4 a1_5 a1_6 t378 t379 t380 t381 t382 t383 t384 _ A141.out).mono ?_
              rintro e w154 ⟨rfl, hb⟩
              refine ⟨_, rfl, ?_⟩
              have n_ := And.intro (Aside0.mk (Kd.R_below (rq HO_329000.out) hb)) (And.intro (Aside0.mk (Kd.R_below (rq HO_329001.out) hb)) (And.intro (Aside0.mk (Kd.R_below (rq HO_354000.out) hb)) (And.intro (Aside0.mk (Kd.R_below (rq HO_354001.out) hb)) (And.intro (Aside0.mk (Kd.R_below (rq HO373.out) hb)) (And.intro (Aside0.mk (Kd.R_below (rq HO376.out) hb)) (And.intro (Aside0.mk (bbq BK302.out hb)) (And.intro (Aside0.mk (bbq BK303.out hb)) (And.intro (Aside0.mk (bbq BK328.out hb)) (And.intro (Aside0.mk (bbq BK353.out hb)) (And.intro (Aside0.mk (bbq BK394.out hb)) (Aside0.mk (below_step (bw5 HB.out GE302.out GE303.out GE328.out GE353.out GE394.out) hb))))))))))))
              clear HO_329000 HO_329001 HO_354000 HO_354001 HO373 HO376 BK302 BK303 BK328 BK353 BK394 HB
              obtain ⟨HO_329000, HO_329001, HO_354000, HO_354001, HO373, HO376, BK302, BK303, BK328, BK353, BK394, HB⟩ := n_
              (try clear hb)
              (try clear hb2)
              (try clear hk)
              (try clear hi)
              obtain ⟨Ao155, co155, eo155⟩ := Kd.R_slice HO373.out
              (first | subst eo155 | (injection eo155 with f1_ f2_ f3_; have f4_ := f1_.symm; have f5_ := f3_.symm; clear f1_ f2_ f3_; subst f4_; subst f5_))
              obtain ⟨Ao156, co156, eo156⟩ := Kd.R_slice HO376.out
              (first | subst eo156 | (injection eo156 with f1_ f2_ f3_; have f4_ := f1_.symm; have f5_ := f3_.symm; clear f1_ f2_ f3_; subst f4_; subst f5_))
              refine hK.out _ _ (cr3 BK302.out (cl7 BK303.out)) (fun hHeld => ?_)
              clear hK K
              refine norm_ (a' := ?_) ?_ ?_
              rotate_left
              ·show Act.put _ (some 106) _ = _
               simp only [apn]
               rfl
              refine one_ (i := 6) (N := some 109) #[true, true, true, true, true, true, true, false, false, false, false, true, false, false, false] rfl rfl (one_of HT_.out (by kernel_rfl)) (by decide) (fun K hK => ?_)
              refine goes_ Try.func15 (by kernel_rfl) rfl #[.agg #[.slice Ao155 t371.length co155, .slice Ao156 t374.length co156, .int .i64 t377], .agg #[.int .i64 t378, .int .i64 t379, .int .i64 t380, .int .i64 t381, .int .i64 t382, .int .i64 t383, .int .i64 t384], .int .i64 a2, .int .i64 a3] (by rfl) rfl rfl aq ?_
              with_reducible refine (impl_ApplyWish.calls kj94 _ _ t371 _ _ t374 t377 t378 t379 t380 t381 t382 t383 t384 a2 a3 t385 t388 t391 t392 t393 _ ?side1 ?side2 ?side3 ?side4 A142.out).mono ?_
              (case side1 => exact caq (Kd.R_reads' HO373.out).2.2)
              (case side2 => exact (Kd.R_reads' HO373.out).2.1)
              (case side3 => exact caq (Kd.R_reads' HO376.out).2.2)
              (case side4 => exact (Kd.R_reads' HO376.out).2.1)
              rintro e w157 ⟨v386, v389, rfl, ho0, ho1, hb⟩
              refine ⟨_, rfl, ?_⟩
              have n_ := And.intro (Aside0.mk (Kd.R_mono (Kd.R_told (Kd.R_told (Kd.R_old (rq HO_329000.out) hb) (Kd.R_base ho0)) (Kd.R_base ho1)) (fun _ h_ => h_.1))) (And.intro (Aside0.mk (Kd.R_mono (Kd.R_told (Kd.R_told (Kd.R_old (rq HO_329001.out) hb) (Kd.R_base ho0)) (Kd.R_base ho1)) (fun _ h_ => h_.1))) (And.intro (Aside0.mk (Kd.R_mono (Kd.R_told (Kd.R_told (Kd.R_old (rq HO_354000.out) hb) (Kd.R_base ho0)) (Kd.R_base ho1)) (fun _ h_ => h_.1))) (And.intro (Aside0.mk (Kd.R_mono (Kd.R_told (Kd.R_told (Kd.R_old (rq HO_354001.out) hb) (Kd.R_base ho0)) (Kd.R_base ho1)) (fun _ h_ => h_.1))) (And.intro (Aside0.mk (Kd.R_mono (Kd.R_told (Kd.R_told (Kd.R_old (rq HO373.out) hb) (Kd.R_base ho0)) (Kd.R_base ho1)) (fun _ h_ => h_.1))) (And.intro (Aside0.mk (Kd.R_mono (Kd.R_told (Kd.R_told (Kd.R_old (rq HO376.out) hb) (Kd.R_base ho0)) (Kd.R_base ho1)) (fun _ h_ => h_.1))) (And.intro (Aside0.mk (Kd.R_lower (Kd.R_new' (Kd.R_new' (Kd.R_new' (Kd.R_new' (Kd.R_new' (Kd.R_new' ho0 (Kd.R_lt (rq HO_329000.out))) (Kd.R_lt (rq HO_329001.out))) (Kd.R_lt (rq HO_354000.out))) (Kd.R_lt (rq HO_354001.out))) (Kd.R_lt (rq HO373.out))) (Kd.R_lt (rq HO376.out))) (below_size (bw5 HB.out GE302.out GE303.out GE328.out GE353.out GE394.out)))) (And.intro (Aside0.mk (Kd.R_lower (Kd.R_new' (Kd.R_new' (Kd.R_new' (Kd.R_new' (Kd.R_new' (Kd.R_new' ho1 (Kd.R_lt (rq HO_329000.out))) (Kd.R_lt (rq HO_329001.out))) (Kd.R_lt (rq HO_354000.out))) (Kd.R_lt (rq HO_354001.out))) (Kd.R_lt (rq HO373.out))) (Kd.R_lt (rq HO376.out))) (below_size (bw5 HB.out GE302.out GE303.out GE328.out GE353.out GE394.out)))) (And.intro (Aside0.mk (bbq BK302.out hb)) (And.intro (Aside0.mk (bbq BK303.out hb)) (And.intro (Aside0.mk (bbq BK328.out hb)) (And.intro (Aside0.mk (bbq BK353.out hb)) (And.intro (Aside0.mk (bbq BK394.out hb)) (Aside0.mk (below_step (bw5 HB.out GE302.out GE303.out GE328.out GE353.out GE394.out) hb))))))))))))))
              clear HO_329000 HO_329001 HO_354000 HO_354001 HO373 HO376 BK302 BK303 BK328 BK353 BK394 HB
              obtain ⟨HO_329000, HO_329001, HO_354000, HO_354001, HO373, HO376, HO387, HO390, BK302, BK303, BK328, BK353, BK394, HB⟩ := n_
              (try clear hb)
              (try clear hb2)
              (try clear hk)
              (try clear hi)
              (try clear ho0)
              (try clear ho1)
              refine hK.out _ _ (cr3 BK302.out (cl7 BK303.out)) (fun hHeld => ?_)
              clear hK K
              refine norm_ (a' := ?_) ?_ ?_
              rotate_left
              ·show Act.put _ (some 109) _ = _
               simp only [apn]
               rfl
              refine pure_ (i := 7) (N := some 102) (v := ?_) (a' := ?_) #[true, true, true, true, true, true, true, true, false, false, false, true, false, false, false] rfl rfl (any_of HT_.out (by kernel_rfl)) (fun _ _ _ h => h) (Or.inl ⟨by rfl, ?_⟩) ?_ ?_
              rotate_left
              ·intro w'
               go_simp
               with_reducible rfl
              rotate_left
              ·simp only [apn]
               rfl
              refine pure_ (i := 8) (N := some 110) (v := ?_) (a' := ?_) #[true, true, true, true, true, true, true, true, true, false, false, true, false, false, false] rfl rfl (any_of HT_.out (by kernel_rfl)) (fun _ _ _ h => h) (Or.inl ⟨by rfl, ?_⟩) ?_ ?_
              rotate_left
              ·intro w'
               go_simp
               with_reducible rfl
              rotate_left
              ·simp only [apn]
               rfl
              refine pure_ (i := 9) (N := some 111) (v := ?_) (a' := ?_) #[true, true, true, true, true, true, true, true, true, true, false, true, false, false, false] rfl rfl (any_of HT_.out (by kernel_rfl)) (fun _ _ _ h => h) (Or.inl ⟨by rfl, ?_⟩) ?_ ?_
              rotate_left
              ·intro w'
               go_simp
               with_reducible rfl
              rotate_left
              ·simp only [apn]
               rfl
              refine pure_ (i := 10) (N := some 112) (v := ?_) (a' := ?_) #[true, true, true, true, true, true, true, true, true, true, true, true, false, false, false] rfl rfl (any_of HT_.out (by kernel_rfl)) (fun _ _ _ h => h) (Or.inl ⟨by rfl, ?_⟩) ?_ ?_
              rotate_left
              ·intro w'
               go_simp
               with_reducible rfl
              rotate_left
              ·simp only [apn]
               rfl
              exact norm_ (by simp only [putAll, Act.put, List.setIfInBounds_toArray, List.set_cons_zero, List.set_cons_succ]) (hCont (.slice Ao155 t371.length co155, .slice Ao156 t374.length co156, v386, v389, gb394) _ ⟨hHeld, (rmq HO373.out (fun _ hk => ⟨hk.1.1.1.1.1.1, ⟨hk.1.2, ⟨hk.2, ⟨hk.1.1.1.1.1.2, ⟨hk.1.1.1.1.2, ⟨hk.1.1.1.2, hk.1.1.2⟩⟩⟩⟩⟩⟩)), (rmq HO376.out (fun _ hk => ⟨hk.1.1.1.1.1.1, ⟨hk.1.2, ⟨hk.2, ⟨hk.1.1.1.1.1.2, ⟨hk.1.1.1.1.2, ⟨hk.1.1.1.2, hk.1.1.2⟩⟩⟩⟩⟩⟩)), (rmq HO387.out (fun _ hk => ⟨hk.1.2, ⟨hk.2, ⟨hk.1.1.1.1.1.1, ⟨hk.1.1.1.1.1.2, ⟨hk.1.1.1.1.2, ⟨hk.1.1.1.2, hk.1.1.2⟩⟩⟩⟩⟩⟩)), (rmq HO390.out (fun _ hk => ⟨hk.1.2, ⟨hk.2, ⟨hk.1.1.1.1.1.1, ⟨hk.1.1.1.1.1.2, ⟨hk.1.1.1.1.2, ⟨hk.1.1.1.2, hk.1.1.2⟩⟩⟩⟩⟩⟩)), (rmq HO_329000.out (fun _ hk => ⟨hk.1.1.1.2, ⟨hk.1.1.2, ⟨hk.1.2, ⟨hk.2, ⟨hk.1.1.1.1.1, ⟨hk.1.1.1.1.2.1, hk.1.1.1.1.2.2⟩⟩⟩⟩⟩⟩)), (rmq HO_329001.out (fun _ hk => ⟨hk.1.1.1.2, ⟨hk.1.1.2, ⟨hk.1.2, ⟨hk.2, ⟨hk.1.1.1.1.1, ⟨hk.1.1.1.1.2.1, hk.1.1.1.1.2.2⟩⟩⟩⟩⟩⟩)), (rmq HO_354000.out (fun _ hk => ⟨hk.1.1.1.2, ⟨hk.1.1.2, ⟨hk.1.2, ⟨hk.2, ⟨hk.1.1.1.1.1, ⟨hk.1.1.1.1.2.1, hk.1.1.1.1.2.2⟩⟩⟩⟩⟩⟩)), (rmq HO_354001.out (fun _ hk => ⟨hk.1.1.1.2, ⟨hk.1.1.2, ⟨hk.1.2, ⟨hk.2, ⟨hk.1.1.1.1.1, ⟨hk.1.1.1.1.2.1, hk.1.1.1.1.2.2⟩⟩⟩⟩⟩⟩)), (bq BK302.out), (bq BK303.out), (bq BK328.out), (bq BK353.out), (bq BK394.out), GW394.out, GE394.out, NB302_394.out, NB394_302.out, NB303_394.out, NB394_303.out, NB328_394.out, NB394_328.out, NB353_394.out, NB394_353.out, (bw5 HB.out GE302.out GE303.out GE328.out GE353.out GE394.out)⟩)
            ·skip
             refine box_step ?hg (N := 20) ?hd (cs := #[.slice none 0 0, .slice none 0 0, .int .i64 0]) (t := 28) ?hr ?_; (case hd => rfl); (case hg => rfl); (case hr => first | (go_simp; done) | (go_simp; rfl))
             intro gb394 hg w152 hbox hb
             have n_ := And.intro (Aside0.mk (Kd.R_below (rq HO_329000.out) hb)) (And.intro (Aside0.mk (Kd.R_below (rq HO_329001.out) hb)) (And.intro (Aside0.mk (Kd.R_below (rq HO_354000.out) hb)) (And.intro (Aside0.mk (Kd.R_below (rq HO_354001.out) hb)) (And.intro (Aside0.mk (bbq BK302.out hb)) (And.intro (Aside0.mk (bbq BK303.out hb)) (And.intro (Aside0.mk (bbq BK328.out hb)) (And.intro (Aside0.mk (bbq BK353.out hb)) (And.intro (Aside0.mk (below_step (bw4 HB.out GE302.out GE303.out GE328.out GE353.out) hb)) (And.intro (Aside0.mk (hbox)) (And.intro (Aside0.mk ((by rw [hg]; exact (below_size (bw4 HB.out GE302.out GE303.out GE328.out GE353.out)) : w.heap.size ≤ gb394))) (And.intro (Aside0.mk ((by rw [hg]; exact (below_size (bw4 HB.out GE302.out GE303.out GE328.out GE353.out)) : w.heap.size ≤ gb394))) (And.intro (Aside0.mk ((nlq BK302.out hg))) (And.intro (Aside0.mk ((ngq BK302.out hg))) (And.intro (Aside0.mk ((nlq BK303.out hg))) (And.intro (Aside0.mk ((ngq BK303.out hg))) (And.intro (Aside0.mk ((nlq BK328.out hg))) (And.intro (Aside0.mk ((ngq BK328.out hg))) (And.intro (Aside0.mk ((nlq BK353.out hg))) (Aside0.mk ((ngq BK353.out hg)))))))))))))))))))))
             clear HO_329000 HO_329001 HO_354000 HO_354001 BK302 BK303 BK328 BK353 HB
             obtain ⟨HO_329000, HO_329001, HO_354000, HO_354001, BK302, BK303, BK328, BK353, HB, BK394, GW394, GE394, NB302_394, NB394_302, NB303_394, NB394_303, NB328_394, NB394_328, NB353_394, NB394_353⟩ := n_
             clear hb hbox hg
             refine hK.out _ _ (cr3 BK302.out (cl7 BK303.out)) (fun hHeld => ?_)
             clear hK K
             refine norm_ (a' := ?_) ?_ ?_
             rotate_left
             ·show Act.put _ (some 20) _ = _
              simp only [apn]
              rfl
             refine one_ (i := 1) (N := some 104) #[true, true, true, false, true, true, false, false, false, false, false, true, false, false, false] rfl rfl (one_of HT_.out (by kernel_rfl)) (by decide) (fun K hK => ?_)
             refine goes_ Try.func13 (by kernel_rfl) rfl #[.agg #[.slice A0_0 l0_0.length c0_0, .slice A0_1 l0_1.length c0_1, .int .i64 a0_2]] (by rfl) rfl rfl aq ?_
             with_reducible refine (laws_toState.calls kj94 _ _ l0_0 _ _ l0_1 a0_2 t371 t374 t377 _ ?side1 ?side2 ?side3 ?side4 A140.out).mono ?_
             (case side1 => exact caq (Kd.C_below HR0_0.out HB.out))
             (case side2 => exact HC0_0.out)
             (case side3 => exact caq (Kd.C_below HR0_1.out HB.out))
             (case side4 => exact HC0_1.out)
             rintro e w153 ⟨v372, v375, rfl, ho0, ho1, hb⟩
             refine ⟨_, rfl, ?_⟩
             have n_ := And.intro (Aside0.mk (Kd.R_mono (Kd.R_told (Kd.R_told (Kd.R_old (rq HO_329000.out) hb) (Kd.R_base ho0)) (Kd.R_base ho1)) (fun _ h_ => h_.1))) (And.intro (Aside0.mk (Kd.R_mono (Kd.R_told (Kd.R_told (Kd.R_old (rq HO_329001.out) hb) (Kd.R_base ho0)) (Kd.R_base ho1)) (fun _ h_ => h_.1))) (And.intro (Aside0.mk (Kd.R_mono (Kd.R_told (Kd.R_told (Kd.R_old (rq HO_354000.out) hb) (Kd.R_base ho0)) (Kd.R_base ho1)) (fun _ h_ => h_.1))) (And.intro (Aside0.mk (Kd.R_mono (Kd.R_told (Kd.R_told (Kd.R_old (rq HO_354001.out) hb) (Kd.R_base ho0)) (Kd.R_base ho1)) (fun _ h_ => h_.1))) (And.intro (Aside0.mk (Kd.R_lower (Kd.R_new' (Kd.R_new' (Kd.R_new' (Kd.R_new' ho0 (Kd.R_lt (rq HO_329000.out))) (Kd.R_lt (rq HO_329001.out))) (Kd.R_lt (rq HO_354000.out))) (Kd.R_lt (rq HO_354001.out))) (below_size (bw5 HB.out GE302.out GE303.out GE328.out GE353.out GE394.out)))) (And.intro (Aside0.mk (Kd.R_lower (Kd.R_new' (Kd.R_new' (Kd.R_new' (Kd.R_new' ho1 (Kd.R_lt (rq HO_329000.out))) (Kd.R_lt (rq HO_329001.out))) (Kd.R_lt (rq HO_354000.out))) (Kd.R_lt (rq HO_354001.out))) (below_size (bw5 HB.out GE302.out GE303.out GE328.out GE353.out GE394.out)))) (And.intro (Aside0.mk (bbq BK302.out hb)) (And.intro (Aside0.mk (bbq BK303.out hb)) (And.intro (Aside0.mk (bbq BK328.out hb)) (And.intro (Aside0.mk (bbq BK353.out hb)) (And.intro (Aside0.mk (bbq BK394.out hb)) (Aside0.mk (below_step (bw5 HB.out GE302.out GE303.out GE328.out GE353.out GE394.out) hb))))))))))))
             clear HO_329000 HO_329001 HO_354000 HO_354001 BK302 BK303 BK328 BK353 BK394 HB
             obtain ⟨HO_329000, HO_329001, HO_354000, HO_354001, HO373, HO376, BK302, BK303, BK328, BK353, BK394, HB⟩ := n_
             (try clear hb)
             (try clear hb2)
             (try clear hk)
             (try clear hi)
             (try clear ho0)
             (try clear ho1)
             refine hK.out _ _ (cr3 BK302.out (cl7 BK303.out)) (fun hHeld => ?_)
             clear hK K
             refine norm_ (a' := ?_) ?_ ?_
             rotate_left
             ·show Act.put _ (some 104) _ = _
              simp only [apn]
              rfl
             refine one_ (i := 3) (N := some 106) #[true, true, true, true, true, true, false, false, false, false, false, true, false, false, false] rfl rfl (one_of HT_.out (by kernel_rfl)) (by decide) (fun K hK => ?_)
             refine goes_ Try.func14 (by kernel_rfl) rfl #[.agg #[.int .i64 a1_0, .int .i64 a1_1, .int .i64 a1_2, .int .i64 a1_3, .int .i64 a1_4, .int .i64 a1_5, .int .i64 a1_6]] (by rfl) rfl rfl aq ?_
             with_reducible refine (laws_toWish.calls a1_0 a1_1 a1_2 a1_3 a1_4 a1_5 a1_6 t378 t379 t380 t381 t382 t383 t384 _ A141.out).mono ?_
             rintro e w154 ⟨rfl, hb⟩
             refine ⟨_, rfl, ?_⟩
             have n_ := And.intro (Aside0.mk (Kd.R_below (rq HO_329000.out) hb)) (And.intro (Aside0.mk (Kd.R_below (rq HO_329001.out) hb)) (And.intro (Aside0.mk (Kd.R_below (rq HO_354000.out) hb)) (And.intro (Aside0.mk (Kd.R_below (rq HO_354001.out) hb)) (And.intro (Aside0.mk (Kd.R_below (rq HO373.out) hb)) (And.intro (Aside0.mk (Kd.R_below (rq HO376.out) hb)) (And.intro (Aside0.mk (bbq BK302.out hb)) (And.intro (Aside0.mk (bbq BK303.out hb)) (And.intro (Aside0.mk (bbq BK328.out hb)) (And.intro (Aside0.mk (bbq BK353.out hb)) (And.intro (Aside0.mk (bbq BK394.out hb)) (Aside0.mk (below_step (bw5 HB.out GE302.out GE303.out GE328.out GE353.out GE394.out) hb))))))))))))
             clear HO_329000 HO_329001 HO_354000 HO_354001 HO373 HO376 BK302 BK303 BK328 BK353 BK394 HB
             obtain ⟨HO_329000, HO_329001, HO_354000, HO_354001, HO373, HO376, BK302, BK303, BK328, BK353, BK394, HB⟩ := n_
             (try clear hb)
             (try clear hb2)
             (try clear hk)
             (try clear hi)
             obtain ⟨Ao155, co155, eo155⟩ := Kd.R_slice HO373.out
             (first | subst eo155 | (injection eo155 with f1_ f2_ f3_; have f4_ := f1_.symm; have f5_ := f3_.symm; clear f1_ f2_ f3_; subst f4_; subst f5_))
             obtain ⟨Ao156, co156, eo156⟩ := Kd.R_slice HO376.out
             (first | subst eo156 | (injection eo156 with f1_ f2_ f3_; have f4_ := f1_.symm; have f5_ := f3_.symm; clear f1_ f2_ f3_; subst f4_; subst f5_))
             refine hK.out _ _ (cr3 BK302.out (cl7 BK303.out)) (fun hHeld => ?_)
             clear hK K
             refine norm_ (a' := ?_) ?_ ?_
             rotate_left
             ·show Act.put _ (some 106) _ = _
              simp only [apn]
              rfl
             refine one_ (i := 6) (N := some 109) #[true, true, true, true, true, true, true, false, false, false, false, true, false, false, false] rfl rfl (one_of HT_.out (by kernel_rfl)) (by decide) (fun K hK => ?_)
             refine goes_ Try.func15 (by kernel_rfl) rfl #[.agg #[.slice Ao155 t371.length co155, .slice Ao156 t374.length co156, .int .i64 t377], .agg #[.int .i64 t378, .int .i64 t379, .int .i64 t380, .int .i64 t381, .int .i64 t382, .int .i64 t383, .int .i64 t384], .int .i64 a2, .int .i64 a3] (by rfl) rfl rfl aq ?_
             with_reducible refine (impl_ApplyWish.calls kj94 _ _ t371 _ _ t374 t377 t378 t379 t380 t381 t382 t383 t384 a2 a3 t385 t388 t391 t392 t393 _ ?side1 ?side2 ?side3 ?side4 A142.out).mono ?_
             (case side1 => exact caq (Kd.R_reads' HO373.out).2.2)
             (case side2 => exact (Kd.R_reads' HO373.out).2.1)
             (case side3 => exact caq (Kd.R_reads' HO376.out).2.2)
             (case side4 => exact (Kd.R_reads' HO376.out).2.1)
             rintro e w157 ⟨v386, v389, rfl, ho0, ho1, hb⟩
             refine ⟨_, rfl, ?_⟩
             have n_ := And.intro (Aside0.mk (Kd.R_mono (Kd.R_told (Kd.R_told (Kd.R_old (rq HO_329000.out) hb) (Kd.R_base ho0)) (Kd.R_base ho1)) (fun _ h_ => h_.1))) (And.intro (Aside0.mk (Kd.R_mono (Kd.R_told (Kd.R_told (Kd.R_old (rq HO_329001.out) hb) (Kd.R_base ho0)) (Kd.R_base ho1)) (fun _ h_ => h_.1))) (And.intro (Aside0.mk (Kd.R_mono (Kd.R_told (Kd.R_told (Kd.R_old (rq HO_354000.out) hb) (Kd.R_base ho0)) (Kd.R_base ho1)) (fun _ h_ => h_.1))) (And.intro (Aside0.mk (Kd.R_mono (Kd.R_told (Kd.R_told (Kd.R_old (rq HO_354001.out) hb) (Kd.R_base ho0)) (Kd.R_base ho1)) (fun _ h_ => h_.1))) (And.intro (Aside0.mk (Kd.R_mono (Kd.R_told (Kd.R_told (Kd.R_old (rq HO373.out) hb) (Kd.R_base ho0)) (Kd.R_base ho1)) (fun _ h_ => h_.1))) (And.intro (Aside0.mk (Kd.R_mono (Kd.R_told (Kd.R_told (Kd.R_old (rq HO376.out) hb) (Kd.R_base ho0)) (Kd.R_base ho1)) (fun _ h_ => h_.1))) (And.intro (Aside0.mk (Kd.R_lower (Kd.R_new' (Kd.R_new' (Kd.R_new' (Kd.R_new' (Kd.R_new' (Kd.R_new' ho0 (Kd.R_lt (rq HO_329000.out))) (Kd.R_lt (rq HO_329001.out))) (Kd.R_lt (rq HO_354000.out))) (Kd.R_lt (rq HO_354001.out))) (Kd.R_lt (rq HO373.out))) (Kd.R_lt (rq HO376.out))) (below_size (bw5 HB.out GE302.out GE303.out GE328.out GE353.out GE394.out)))) (And.intro (Aside0.mk (Kd.R_lower (Kd.R_new' (Kd.R_new' (Kd.R_new' (Kd.R_new' (Kd.R_new' (Kd.R_new' ho1 (Kd.R_lt (rq HO_329000.out))) (Kd.R_lt (rq HO_329001.out))) (Kd.R_lt (rq HO_354000.out))) (Kd.R_lt (rq HO_354001.out))) (Kd.R_lt (rq HO373.out))) (Kd.R_lt (rq HO376.out))) (below_size (bw5 HB.out GE302.out GE303.out GE328.out GE353.out GE394.out)))) (And.intro (Aside0.mk (bbq BK302.out hb)) (And.intro (Aside0.mk (bbq BK303.out hb)) (And.intro (Aside0.mk (bbq BK328.out hb)) (And.intro (Aside0.mk (bbq BK353.out hb)) (And.intro (Aside0.mk (bbq BK394.out hb)) (Aside0.mk (below_step (bw5 HB.out GE302.out GE303.out GE328.out GE353.out GE394.out) hb))))))))))))))
             clear HO_329000 HO_329001 HO_354000 HO_354001 HO373 HO376 BK302 BK303 BK328 BK353 BK394 HB
             obtain ⟨HO_329000, HO_329001, HO_354000, HO_354001, HO373, HO376, HO387, HO390, BK302, BK303, BK328, BK353, BK394, HB⟩ := n_
             (try clear hb)
             (try clear hb2)
             (try clear hk)
             (try clear hi)
             (try clear ho0)
             (try clear ho1)
             refine hK.out _ _ (cr3 BK302.out (cl7 BK303.out)) (fun hHeld => ?_)
             clear hK K
             refine norm_ (a' := ?_) ?_ ?_
             rotate_left
             ·show Act.put _ (some 109) _ = _
              simp only [apn]
              rfl
             refine pure_ (i := 7) (N := some 102) (v := ?_) (a' := ?_) #[true, true, true, true, true, true, true, true, false, false, false, true, false, false, false] rfl rfl (any_of HT_.out (by kernel_rfl)) (fun _ _ _ h => h) (Or.inl ⟨by rfl, ?_⟩) ?_ ?_
             rotate_left
             ·intro w'
              go_simp
              with_reducible rfl
             rotate_left
             ·simp only [apn]
              rfl
             refine pure_ (i := 8) (N := some 110) (v := ?_) (a' := ?_) #[true, true, true, true, true, true, true, true, true, false, false, true, false, false, false] rfl rfl (any_of HT_.out (by kernel_rfl)) (fun _ _ _ h => h) (Or.inl ⟨by rfl, ?_⟩) ?_ ?_
             rotate_left
             ·intro w'
              go_simp
              with_reducible rfl
             rotate_left
             ·simp only [apn]
              rfl
             refine pure_ (i := 9) (N := some 111) (v := ?_) (a' := ?_) #[true, true, true, true, true, true, true, true, true, true, false, true, false, false, false] rfl rfl (any_of HT_.out (by kernel_rfl)) (fun _ _ _ h => h) (Or.inl ⟨by rfl, ?_⟩) ?_ ?_
             rotate_left
             ·intro w'
              go_simp
              with_reducible rfl
             rotate_left
             ·simp only [apn]
              rfl
             refine pure_ (i := 10) (N := some 112) (v := ?_) (a' := ?_) #[true, true, true, true, true, true, true, true, true, true, true, true, false, false, false] rfl rfl (any_of HT_.out (by kernel_rfl)) (fun _ _ _ h => h) (Or.inl ⟨by rfl, ?_⟩) ?_ ?_
             rotate_left
             ·intro w'
              go_simp
              with_reducible rfl
             rotate_left
             ·simp only [apn]
              rfl
             exact norm_ (by simp only [putAll, Act.put, List.setIfInBounds_toArray, List.set_cons_zero, List.set_cons_succ]) (hCont (.slice Ao155 t371.length co155, .slice Ao156 t374.length co156, v386, v389, gb394) _ ⟨hHeld, (rmq HO373.out (fun _ hk => ⟨hk.1.1.1.1.1.1, ⟨hk.1.2, ⟨hk.2, ⟨hk.1.1.1.1.1.2, ⟨hk.1.1.1.1.2, ⟨hk.1.1.1.2, hk.1.1.2⟩⟩⟩⟩⟩⟩)), (rmq HO376.out (fun _ hk => ⟨hk.1.1.1.1.1.1, ⟨hk.1.2, ⟨hk.2, ⟨hk.1.1.1.1.1.2, ⟨hk.1.1.1.1.2, ⟨hk.1.1.1.2, hk.1.1.2⟩⟩⟩⟩⟩⟩)), (rmq HO387.out (fun _ hk => ⟨hk.1.2, ⟨hk.2, ⟨hk.1.1.1.1.1.1, ⟨hk.1.1.1.1.1.2, ⟨hk.1.1.1.1.2, ⟨hk.1.1.1.2, hk.1.1.2⟩⟩⟩⟩⟩⟩)), (rmq HO390.out (fun _ hk => ⟨hk.1.2, ⟨hk.2, ⟨hk.1.1.1.1.1.1, ⟨hk.1.1.1.1.1.2, ⟨hk.1.1.1.1.2, ⟨hk.1.1.1.2, hk.1.1.2⟩⟩⟩⟩⟩⟩)), (rmq HO_329000.out (fun _ hk => ⟨hk.1.1.1.2, ⟨hk.1.1.2, ⟨hk.1.2, ⟨hk.2, ⟨hk.1.1.1.1.1, ⟨hk.1.1.1.1.2.1, hk.1.1.1.1.2.2⟩⟩⟩⟩⟩⟩)), (rmq HO_329001.out (fun _ hk => ⟨hk.1.1.1.2, ⟨hk.1.1.2, ⟨hk.1.2, ⟨hk.2, ⟨hk.1.1.1.1.1, ⟨hk.1.1.1.1.2.1, hk.1.1.1.1.2.2⟩⟩⟩⟩⟩⟩)), (rmq HO_354000.out (fun _ hk => ⟨hk.1.1.1.2, ⟨hk.1.1.2, ⟨hk.1.2, ⟨hk.2, ⟨hk.1.1.1.1.1, ⟨hk.1.1.1.1.2.1, hk.1.1.1.1.2.2⟩⟩⟩⟩⟩⟩)), (rmq HO_354001.out (fun _ hk => ⟨hk.1.1.1.2, ⟨hk.1.1.2, ⟨hk.1.2, ⟨hk.2, ⟨hk.1.1.1.1.1, ⟨hk.1.1.1.1.2.1, hk.1.1.1.1.2.2⟩⟩⟩⟩⟩⟩)), (bq BK302.out), (bq BK303.out), (bq BK328.out), (bq BK353.out), (bq BK394.out), GW394.out, GE394.out, NB302_394.out, NB394_302.out, NB303_394.out, NB394_303.out, NB328_394.out, NB394_328.out, NB353_394.out, NB394_353.out, (bw5 HB.out GE302.out GE303.out GE328.out GE353.out GE394.out)⟩)
           rintro ⟨v372, v375, v386, v389, gb394⟩ w158 ⟨hS_, h0_, h1_, h2_, h3_, h4_, h5_, h6_, h7_, h8_, h9_, h10_, h11_, h12_, h13_, h14_, h15_, h16_, h17_, h18_, h19_, h20_, h21_, h22_, h23_⟩
           have n0_ : Aside0 (Kd.R (Kd.int .i64) 3 w158 w.heap.size (fun k_ => some k_ ≠ (v375 : Value).ownBlock ∧ some k_ ≠ (v386 : Value).ownBlock ∧ some k_ ≠ (v389 : Value).ownBlock ∧ some k_ ≠ (.slice Ao31 t319.length co31 : Value).ownBlock ∧ some k_ ≠ (.slice Ao33 t322.length co33 : Value).ownBlock ∧ some k_ ≠ (.slice Ao52 t344.length co52 : Value).ownBlock ∧ some k_ ≠ (.slice Ao54 t347.length co54 : Value).ownBlock) v372 t371) := ⟨h0_⟩
           have n1_ : Aside0 (Kd.R (Kd.int .i64) 3 w158 w.heap.size (fun k_ => some k_ ≠ (v372 : Value).ownBlock ∧ some k_ ≠ (v386 : Value).ownBlock ∧ some k_ ≠ (v389 : Value).ownBlock ∧ some k_ ≠ (.slice Ao31 t319.length co31 : Value).ownBlock ∧ some k_ ≠ (.slice Ao33 t322.length co33 : Value).ownBlock ∧ some k_ ≠ (.slice Ao52 t344.length co52 : Value).ownBlock ∧ some k_ ≠ (.slice Ao54 t347.length co54 : Value).ownBlock) v375 t374) := ⟨h1_⟩
           have n2_ : Aside0 (Kd.R (Kd.int .i64) 3 w158 w.heap.size (fun k_ => some k_ ≠ (v372 : Value).ownBlock ∧ some k_ ≠ (v375 : Value).ownBlock ∧ some k_ ≠ (v389 : Value).ownBlock ∧ some k_ ≠ (.slice Ao31 t319.length co31 : Value).ownBlock ∧ some k_ ≠ (.slice Ao33 t322.length co33 : Value).ownBlock ∧ some k_ ≠ (.slice Ao52 t344.length co52 : Value).ownBlock ∧ some k_ ≠ (.slice Ao54 t347.length co54 : Value).ownBlock) v386 t385) := ⟨h2_⟩
           have n3_ : Aside0 (Kd.R (Kd.int .i64) 3 w158 w.heap.size (fun k_ => some k_ ≠ (v372 : Value).ownBlock ∧ some k_ ≠ (v375 : Value).ownBlock ∧ some k_ ≠ (v386 : Value).ownBlock ∧ some k_ ≠ (.slice Ao31 t319.length co31 : Value).ownBlock ∧ some k_ ≠ (.slice Ao33 t322.length co33 : Value).ownBlock ∧ some k_ ≠ (.slice Ao52 t344.length co52 : Value).ownBlock ∧ some k_ ≠ (.slice Ao54 t347.length co54 : Value).ownBlock) v389 t388) := ⟨h3_⟩
           have n4_ : Aside0 (Kd.R (Kd.int .i64) 3 w158 w.heap.size (fun k_ => some k_ ≠ (v372 : Value).ownBlock ∧ some k_ ≠ (v375 : Value).ownBlock ∧ some k_ ≠ (v386 : Value).ownBlock ∧ some k_ ≠ (v389 : Value).ownBlock ∧ some k_ ≠ (.slice Ao33 t322.length co33 : Value).ownBlock ∧ some k_ ≠ (.slice Ao52 t344.length co52 : Value).ownBlock ∧ some k_ ≠ (.slice Ao54 t347.length co54 : Value).ownBlock) (.slice Ao31 t319.length co31) t319) := ⟨h4_⟩
           have n5_ : Aside0 (Kd.R (Kd.int .i64) 3 w158 w.heap.size (fun k_ => some k_ ≠ (v372 : Value).ownBlock ∧ some k_ ≠ (v375 : Value).ownBlock ∧ some k_ ≠ (v386 : Value).ownBlock ∧ some k_ ≠ (v389 : Value).ownBlock ∧ some k_ ≠ (.slice Ao31 t319.length co31 : Value).ownBlock ∧ some k_ ≠ (.slice Ao52 t344.length co52 : Value).ownBlock ∧ some k_ ≠ (.slice Ao54 t347.length co54 : Value).ownBlock) (.slice Ao33 t322.length co33) t322) := ⟨h5_⟩
           have n6_ : Aside0 (Kd.R (Kd.int .i64) 3 w158 w.heap.size (fun k_ => some k_ ≠ (v372 : Value).ownBlock ∧ some k_ ≠ (v375 : Value).ownBlock ∧ some k_ ≠ (v386 : Value).ownBlock ∧ some k_ ≠ (v389 : Value).ownBlock ∧ some k_ ≠ (.slice Ao31 t319.length co31 : Value).ownBlock ∧ some k_ ≠ (.slice Ao33 t322.length co33 : Value).ownBlock ∧ some k_ ≠ (.slice Ao54 t347.length co54 : Value).ownBlock) (.slice Ao52 t344.length co52) t368) := ⟨h6_⟩
           have n7_ : Aside0 (Kd.R (Kd.int .i64) 3 w158 w.heap.size (fun k_ => some k_ ≠ (v372 : Value).ownBlock ∧ some k_ ≠ (v375 : Value).ownBlock ∧ some k_ ≠ (v386 : Value).ownBlock ∧ some k_ ≠ (v389 : Value).ownBlock ∧ some k_ ≠ (.slice Ao31 t319.length co31 : Value).ownBlock ∧ some k_ ≠ (.slice Ao33 t322.length co33 : Value).ownBlock ∧ some k_ ≠ (.slice Ao52 t344.length co52 : Value).ownBlock) (.slice Ao54 t347.length co54) t369) := ⟨h7_⟩
           have n8_ : Aside0 (w158.heap[gb302]? = some (.cells #[.slice A0_0 l0_0.length c0_0, .slice A0_1 l0_1.length c0_1, .int .i64 a0_2] 24 (0, 0))) := ⟨h8_⟩
           have n9_ : Aside0 (w158.heap[gb303]? = some (.cells #[.int .i64 a1_0, .int .i64 a1_1, .int .i64 a1_2, .int .i64 a1_3, .int .i64 a1_4, .int .i64 a1_5, .int .i64 a1_6] 26 (0, 0))) := ⟨h9_⟩
           have n10_ : Aside0 (w158.heap[gb328]? = some (.cells #[.slice Ao31 t319.length co31, .slice Ao33 t322.length co33, .int .i64 t325] 28 (0, 0))) := ⟨h10_⟩
           have n11_ : Aside0 (w158.heap[gb353]? = some (.cells #[.slice Ao52 t344.length co52, .slice Ao54 t347.length co54, .int .i64 t350] 28 (0, 0))) := ⟨h11_⟩
           have n12_ : Aside0 (w158.heap[gb394]? = some (.cells #[.slice none 0 0, .slice none 0 0, .int .i64 0] 28 (0, 0))) := ⟨h12_⟩
           have n13_ : Aside0 (w.heap.size ≤ gb394) := ⟨h13_⟩
           have n14_ : Aside0 (w.heap.size ≤ gb394) := ⟨h14_⟩
           have n15_ : Aside0 (gb302 ≠ gb394) := ⟨h15_⟩
           have n16_ : Aside0 (gb394 ≠ gb302) := ⟨h16_⟩
           have n17_ : Aside0 (gb303 ≠ gb394) := ⟨h17_⟩
           have n18_ : Aside0 (gb394 ≠ gb303) := ⟨h18_⟩
           have n19_ : Aside0 (gb328 ≠ gb394) := ⟨h19_⟩
           have n20_ : Aside0 (gb394 ≠ gb328) := ⟨h20_⟩
           have n21_ : Aside0 (gb353 ≠ gb394) := ⟨h21_⟩
           have n22_ : Aside0 (gb394 ≠ gb353) := ⟨h22_⟩
           have n23_ : Aside0 (Below w.heap.size w w158) := ⟨h23_⟩
           clear HO_329000
           clear HO_329001
           clear HO_354000
           clear HO_354001
           clear BK302
           clear BK303
           clear BK328
           clear BK353
           clear HB
           clear h0_ h1_ h2_ h3_ h4_ h5_ h6_ h7_ h8_ h9_ h10_ h11_ h12_ h13_ h14_ h15_ h16_ h17_ h18_ h19_ h20_ h21_ h22_ h23_
           have HO373 := n0_
           have HO376 := n1_
           have HO387 := n2_
           have HO390 := n3_
           have HO_329000 := n4_
           have HO_329001 := n5_
           have HO_354000 := n6_
           have HO_354001 := n7_
           have BK302 := n8_
           have BK303 := n9_
           have BK328 := n10_
           have BK353 := n11_
           have BK394 := n12_
           have GW394 := n13_
           have GE394 := n14_
           have NB302_394 := n15_
           have NB394_302 := n16_
           have NB303_394 := n17_
           have NB394_303 := n18_
           have NB328_394 := n19_
           have NB394_328 := n20_
           have NB353_394 := n21_
           have NB394_353 := n22_
           have HB := n23_
           clear n0_ n1_ n2_ n3_ n4_ n5_ n6_ n7_ n8_ n9_ n10_ n11_ n12_ n13_ n14_ n15_ n16_ n17_ n18_ n19_ n20_ n21_ n22_ n23_
           have hHeld : w158.cell? ⟨gb302, 0, none⟩ = some (.slice A0_0 l0_0.length c0_0) ∧ w158.cell? ⟨gb302, 1, none⟩ = some (.slice A0_1 l0_1.length c0_1) ∧ w158.cell? ⟨gb302, 2, none⟩ = some (.int .i64 a0_2) ∧ w158.cell? ⟨gb303, 0, none⟩ = some (.int .i64 a1_0) ∧ w158.cell? ⟨gb303, 1, none⟩ = some (.int .i64 a1_1) ∧ w158.cell? ⟨gb303, 2, none⟩ = some (.int .i64 a1_2) ∧ w158.cell? ⟨gb303, 3, none⟩ = some (.int .i64 a1_3) ∧ w158.cell? ⟨gb303, 4, none⟩ = some (.int .i64 a1_4) ∧ w158.cell? ⟨gb303, 5, none⟩ = some (.int .i64 a1_5) ∧ w158.cell? ⟨gb303, 6, none⟩ = some (.int .i64 a1_6) := hS_
           obtain ⟨Ao159, co159, eo159⟩ := Kd.R_slice HO387.out
           (first | subst eo159 | (injection eo159 with f1_ f2_ f3_; have f4_ := f1_.symm; have f5_ := f3_.symm; clear f1_ f2_ f3_; subst f4_; subst f5_))
           obtain ⟨Ao161, co161, eo161⟩ := Kd.R_slice HO390.out
           (first | subst eo161 | (injection eo161 with f1_ f2_ f3_; have f4_ := f1_.symm; have f5_ := f3_.symm; clear f1_ f2_ f3_; subst f4_; subst f5_))
           refine norm_ (a' := ?_) ?_ ?_
           rotate_left
           ·simp only [putAll, Act.put, List.setIfInBounds_toArray, List.set_cons_zero, List.set_cons_succ]
            rfl
           refine one_ (i := 12) (N := none) #[true, true, true, true, true, true, true, true, true, true, true, true, true, false, false] rfl rfl (one_of HT_.out (by kernel_rfl)) (by decide) (fun K hK => ?_)
           have hs160 : w158.cell? ⟨gb394, 0, none⟩ = some (.slice none 0 0) := (blk_cell BK394.out 0).trans rfl
           have hfs160 := blk_frozen BK394.out 0
           have hns160_0 := NB302_394.out
           have hns160_1 := NB303_394.out
           have hns160_2 := NB328_394.out
           have hns160_3 := NB353_394.out
           have hms160_0 := NB394_302.out
           have hms160_1 := NB394_303.out
           have hms160_2 := NB394_328.out
           have hms160_3 := NB394_353.out
           have hs162 : w158.cell? ⟨gb394, 1, none⟩ = some (.slice none 0 0) := (blk_cell BK394.out 1).trans rfl
           have hfs162 := blk_frozen BK394.out 1
           have hns162_0 := NB302_394.out
           have hns162_1 := NB303_394.out
           have hns162_2 := NB328_394.out
           have hns162_3 := NB353_394.out
           have hms162_0 := NB394_302.out
           have hms162_1 := NB394_303.out
           have hms162_2 := NB394_328.out
           have hms162_3 := NB394_353.out
           have hs163 : w158.cell? ⟨gb394, 2, none⟩ = some (.int .i64 0) := (blk_cell BK394.out 2).trans rfl
           have hfs163 := blk_frozen BK394.out 2
           have hns163_0 := NB302_394.out
           have hns163_1 := NB303_394.out
           have hns163_2 := NB328_394.out
           have hns163_3 := NB353_394.out
           have hms163_0 := NB394_302.out
           have hms163_1 := NB394_303.out
           have hms163_2 := NB394_328.out
           have hms163_3 := NB394_353.out
           refine skip_ (w1 := ?_) (by rfl) rfl ?_ ?_
           rotate_left
           ·go_simp
            rfl
           refine hK.out _ _ ⟨((cell_far (p := ⟨gb394, _, none⟩) NB302_394.out _).trans (((cell_far (p := ⟨gb394, _, none⟩) NB302_394.out _).trans (((cell_far (p := ⟨gb394, _, none⟩) NB302_394.out _).trans (hHeld.1)))))), ((cell_far (p := ⟨gb394, _, none⟩) NB302_394.out _).trans (((cell_far (p := ⟨gb394, _, none⟩) NB302_394.out _).trans (((cell_far (p := ⟨gb394, _, none⟩) NB302_394.out _).trans (hHeld.2.1)))))), ((cell_far (p := ⟨gb394, _, none⟩) NB302_394.out _).trans (((cell_far (p := ⟨gb394, _, none⟩) NB302_394.out _).trans (((cell_far (p := ⟨gb394, _, none⟩) NB302_394.out _).trans (hHeld.2.2.1)))))), ((cell_far (p := ⟨gb394, _, none⟩) NB303_394.out _).trans (((cell_far (p := ⟨gb394, _, none⟩) NB303_394.out _).trans (((cell_far (p := ⟨gb394, _, none⟩) NB303_394.out _).trans (hHeld.2.2.2.1)))))), ((cell_far (p := ⟨gb394, _, none⟩) NB303_394.out _).trans (((cell_far (p := ⟨gb394, _, none⟩) NB303_394.out _).trans (((cell_far (p := ⟨gb394, _, none⟩) NB303_394.out _).trans (hHeld.2.2.2.2.1)))))), ((cell_far (p := ⟨gb394, _, none⟩) NB303_394.out _).trans (((cell_far (p := ⟨gb394, _, none⟩) NB303_394.out _).trans (((cell_far (p := ⟨gb394, _, none⟩) NB303_394.out _).trans (hHeld.2.2.2.2.2.1)))))), ((cell_far (p := ⟨gb394, _, none⟩) NB303_394.out _).trans (((cell_far (p := ⟨gb394, _, none⟩) NB303_394.out _).trans (((cell_far (p := ⟨gb394, _, none⟩) NB303_394.out _).trans (hHeld.2.2.2.2.2.2.1)))))), ((cell_far (p := ⟨gb394, _, none⟩) NB303_394.out _).trans (((cell_far (p := ⟨gb394, _, none⟩) NB303_394.out _).trans (((cell_far (p := ⟨gb394, _, none⟩) NB303_394.out _).trans (hHeld.2.2.2.2.2.2.2.1)))))), ((cell_far (p := ⟨gb394, _, none⟩) NB303_394.out _).trans (((cell_far (p := ⟨gb394, _, none⟩) NB303_394.out _).trans (((cell_far (p := ⟨gb394, _, none⟩) NB303_394.out _).trans (hHeld.2.2.2.2.2.2.2.2.1)))))), ((cell_far (p := ⟨gb394, _, none⟩) NB303_394.out _).trans (((cell_far (p := ⟨gb394, _, none⟩) NB303_394.out _).trans (((cell_far (p := ⟨gb394, _, none⟩) NB303_394.out _).trans (hHeld.2.2.2.2.2.2.2.2.2))))))⟩ (fun hHeld => ?_)
           clear hK K
           refine pure_ (i := 13) (N := some 21) (v := ?_) (a' := ?_) #[true, true, true, true, true, true, true, true, true, true, true, true, true, true, false] rfl rfl (any_of HT_.out (by kernel_rfl)) (fun _ _ _ h => h) (Or.inl ⟨by rfl, ?_⟩) ?_ ?_
           rotate_left
           ·intro w'
            go_simp
            with_reducible rfl
           rotate_left
           ·simp only [apn]
            rfl
           refine pure_ (i := 14) (N := some 22) (v := ?_) (a' := ?_) #[true, true, true, true, true, true, true, true, true, true, true, true, true, true, true] rfl rfl (any_of HT_.out (by kernel_rfl)) (fun _ _ _ h => h) (Or.inl ⟨by rfl, ?_⟩) ?_ ?_
           rotate_left
           ·intro w'
            go_simp
            with_reducible rfl
           rotate_left
           ·simp only [apn]
            rfl
           refine done_ (done_of HT_.out (by kernel_rfl)) ?_
           go_upto_region 25 with (fail)
           go_cut [126] (fun v126 wc => ∃ (kq : Nat) (x126_142 : Bool), v126 = .bool x126_142 ∧ Aside0 (laws_FnExactApplyWish.j2 kq t367 x126_142 t368 t369 t350 = some r) ∧ Aside0 (kq ≤ kj94) ∧ Aside0 (Kd.R (Kd.int .i64) 3 wc w.heap.size (fun k_ => some k_ ≠ ((.slice Ao54 t347.length co54) : Value).ownBlock) (.slice Ao52 t344.length co52) t368) ∧ Aside0 (Kd.R (Kd.int .i64) 3 wc w.heap.size (fun k_ => some k_ ≠ ((.slice Ao52 t344.length co52) : Value).ownBlock) (.slice Ao54 t347.length co54) t369) ∧ Aside0 (wc.heap[gb353]? = some (.cells #[(.slice Ao52 t344.length co52), (.slice Ao54 t347.length co54), .int .i64 t350] 28 (0, 0))) ∧ Aside0 (Below w.heap.size w wc))
           case first =>
            have H := HC143.out
            clear HC143
            replace H := Option.bind_eq_some_iff.mp H
            obtain ⟨t395, A1640, H⟩ := H
            have A164 := Aside0.mk A1640
            clear A1640
            by_cases c165 : t395 = true
            ·subst c165
             rw [if_pos rfl] at H
             by_cases c166 : t392 = t326
             ·rw [if_pos c166] at H
              have c166b0 : (t392 == t326) = true := beq_iff_eq.mpr c166
              have c166b1 : (t392 != t326) = false := bne_eq_false_iff_eq.mpr c166
              clear c166
              (first | rw [c166b0] | (simp only [i64_w, i32_w]; rw [c166b0]) | skip)
              have H' := Aside0.mk H
              clear H
              have hnb167 := NB394_302.out
              have hnc167 := NB302_394.out
              have hnb168 := NB394_303.out
              have hnc168 := NB303_394.out
              have hnb169 := NB394_328.out
              have hnc169 := NB328_394.out
              have hnb170 := NB394_353.out
              have hnc170 := NB353_394.out
              obtain ⟨hcz171_0, hcz171_1, hcz171_2, hfz171_0, hfz171_1, hfz171_2⟩ := cq3 BK394.out
              have hnb172 := NB328_302.out
              have hnc172 := NB302_328.out
              have hnb173 := NB328_303.out
              have hnc173 := NB303_328.out
              have hnb174 := NB328_353.out
              have hnc174 := NB353_328.out
              obtain ⟨hcz175_0, hcz175_1, hcz175_2, hfz175_0, hfz175_1, hfz175_2⟩ := cq3 BK328.out
              go_wp2_with (first | ((with_reducible refine gate_callee (f := 16) rfl ?_); refine goesL_ (some 115) rfl rfl Try.func16 (by kernel_rfl) rfl #[.agg #[.slice Ao159 t385.length co159, .slice Ao161 t388.length co161, .int .i64 t391], .agg #[.slice Ao31 t319.length co31, .slice Ao33 t322.length co33, .int .i64 t325]] rfl aq ?_; (with_reducible refine (laws_eqState.calls kj94 _ _ t385 _ _ t388 t391 _ _ t319 _ _ t322 t325 true _ ?side1 ?side2 ?side3 ?side4 ?side5 ?side6 ?side7 ?side8 A164.out).mono ?_); (case side1 => refine (Kd.R_reads' (e := 3) (base := w.heap.size) (ok := fun k_ => (some k_ ≠ (v372 : Value).ownBlock ∧ (some k_ ≠ (v375 : Value).ownBlock ∧ (some k_ ≠ (.slice Ao161 t388.length co161 : Value).ownBlock ∧ (some k_ ≠ (.slice Ao31 t319.length co31 : Value).ownBlock ∧ (some k_ ≠ (.slice Ao33 t322.length co33 : Value).ownBlock ∧ (some k_ ≠ (.slice Ao52 t344.length co52 : Value).ownBlock ∧ some k_ ≠ (.slice Ao54 t347.length co54 : Value).ownBlock))))))) (n := t385.length) (c := co159) ?_).2.2; exact (by (with_reducible repeat (first | apply Kd.R_alloc | apply Kd.R_drewN | apply Kd.R_drew)); exact (rf3 HO387.out BK394.out))); (case side2 => exact (Kd.R_reads' HO387.out).2.1); (case side3 => refine (Kd.R_reads' (e := 3) (base := w.heap.size) (ok := fun k_ => (some k_ ≠ (v372 : Value).ownBlock ∧ (some k_ ≠ (v375 : Value).ownBlock ∧ (some k_ ≠ (.slice Ao159 t385.length co159 : Value).ownBlock ∧ (some k_ ≠ (.slice Ao31 t319.length co31 : Value).ownBlock ∧ (some k_ ≠ (.slice Ao33 t322.length co33 : Value).ownBlock ∧ (some k_ ≠ (.slice Ao52 t344.length co52 : Value).ownBlock ∧ some k_ ≠ (.slice Ao54 t347.length co54 : Value).ownBlock))))))) (n := t388.length) (c := co161) ?_).2.2; exact (by (with_reducible repeat (first | apply Kd.R_alloc | apply Kd.R_drewN | apply Kd.R_drew)); exact (rf3 HO390.out BK394.out))); (case side4 => exact (Kd.R_reads' HO390.out).2.1); (case side5 => refine (Kd.R_reads' (e := 3) (base := w.heap.size) (ok := fun k_ => (some k_ ≠ (v372 : Value).ownBlock ∧ (some k_ ≠ (v375 : Value).ownBlock ∧ (some k_ ≠ (.slice Ao159 t385.length co159 : Value).ownBlock ∧ (some k_ ≠ (.slice Ao161 t388.length co161 : Value).ownBlock ∧ (some k_ ≠ (.slice Ao33 t322.length co33 : Value).ownBlock ∧ (some k_ ≠ (.slice Ao52 t344.length co52 : Value).ownBlock ∧ some k_ ≠ (.slice Ao54 t347.length co54 : Value).ownBlock))))))) (n := t319.length) (c := co31) ?_).2.2; exact (by (with_reducible repeat (first | apply Kd.R_alloc | apply Kd.R_drewN | apply Kd.R_drew)); exact (rf3 HO_329000.out BK394.out))); (case side6 => exact (Kd.R_reads' HO_329000.out).2.1); (case side7 => refine (Kd.R_reads' (e := 3) (base := w.heap.size) (ok := fun k_ => (some k_ ≠ (v372 : Value).ownBlock ∧ (some k_ ≠ (v375 : Value).ownBlock ∧ (some k_ ≠ (.slice Ao159 t385.length co159 : Value).ownBlock ∧ (some k_ ≠ (.slice Ao161 t388.length co161 : Value).ownBlock ∧ (some k_ ≠ (.slice Ao31 t319.length co31 : Value).ownBlock ∧ (some k_ ≠ (.slice Ao52 t344.length co52 : Value).ownBlock ∧ some k_ ≠ (.slice Ao54 t347.length co54 : Value).ownBlock))))))) (n := t322.length) (c := co33) ?_).2.2; exact (by (with_reducible repeat (first | apply Kd.R_alloc | apply Kd.R_drewN | apply Kd.R_drew)); exact (rf3 HO_329001.out BK394.out))); (case side8 => exact (Kd.R_reads' HO_329001.out).2.1); rintro e w176 ⟨rfl, hb⟩; refine ⟨_, rfl, ?_⟩; have n_ := And.intro (Aside0.mk (Kd.R_below (by (with_reducible repeat (first | apply Kd.R_alloc | apply Kd.R_drewN | apply Kd.R_drew)); exact (rf3 HO_329000.out BK394.out)) hb)) (And.intro (Aside0.mk (Kd.R_below (by (with_reducible repeat (first | apply Kd.R_alloc | apply Kd.R_drewN | apply Kd.R_drew)); exact (rf3 HO_329001.out BK394.out)) hb)) (And.intro (Aside0.mk (Kd.R_below (by (with_reducible repeat (first | apply Kd.R_alloc | apply Kd.R_drewN | apply Kd.R_drew)); exact (rf3 HO_354000.out BK394.out)) hb)) (And.intro (Aside0.mk (Kd.R_below (by (with_reducible repeat (first | apply Kd.R_alloc | apply Kd.R_drewN | apply Kd.R_drew)); exact (rf3 HO_354001.out BK394.out)) hb)) (And.intro (Aside0.mk (Kd.R_below (by (with_reducible repeat (first | apply Kd.R_alloc | apply Kd.R_drewN | apply Kd.R_drew)); exact (rf3 HO373.out BK394.out)) hb)) (And.intro (Aside0.mk (Kd.R_below (by (with_reducible repeat (first | apply Kd.R_alloc | apply Kd.R_drewN | apply Kd.R_drew)); exact (rf3 HO376.out BK394.out)) hb)) (And.intro (Aside0.mk (Kd.R_below (by (with_reducible repeat (first | apply Kd.R_alloc | apply Kd.R_drewN | apply Kd.R_drew)); exact (rf3 HO387.out BK394.out)) hb)) (And.intro (Aside0.mk (Kd.R_below (by (with_reducible repeat (first | apply Kd.R_alloc | apply Kd.R_drewN | apply Kd.R_drew)); exact (rf3 HO390.out BK394.out)) hb)) (And.intro (Aside0.mk (blk_below (bf3 BK302.out NB302_394.out) hb)) (And.intro (Aside0.mk (blk_below (bf3 BK303.out NB303_394.out) hb)) (And.intro (Aside0.mk (blk_below (bf3 BK328.out NB328_394.out) hb)) (And.intro (Aside0.mk (blk_below (bf3 BK353.out NB353_394.out) hb)) (And.intro (Aside0.mk (blk_below (bp3 BK394.out) hb)) (Aside0.mk (below_step (bw5 HB.out GE302.out GE303.out GE328.out GE353.out GE394.out) hb)))))))))))))); clear HO_329000 HO_329001 HO_354000 HO_354001 HO373 HO376 HO387 HO390 BK302 BK303 BK328 BK353 BK394 HB; obtain ⟨HO_329000, HO_329001, HO_354000, HO_354001, HO373, HO376, HO387, HO390, BK302, BK303, BK328, BK353, BK394, HB⟩ := n_; (try clear hb); (try clear hb2); (try clear hk); (try clear hi)))
              go_meet
              case rel => exact ⟨_, ((t393 != t327)), (by first | rfl | (simp; done) | (simp [*]; done)), H', ⟨by have := HJ16.out; have := HJ94.out; first | omega | exact Nat.le_refl _⟩, ⟨by (with_reducible repeat (first | apply Kd.R_alloc | apply Kd.R_drewN | apply Kd.R_drew)); exact Kd.R_mono HO_354000.out (fun _ hk => hk.2.2.2.2.2.2)⟩, ⟨by (with_reducible repeat (first | apply Kd.R_alloc | apply Kd.R_drewN | apply Kd.R_drew)); exact Kd.R_mono HO_354001.out (fun _ hk => hk.2.2.2.2.2.2)⟩, ⟨by (with_reducible repeat (first | refine blk_drewN ?_ _ | refine blk_drew ?_ | refine blk_alloc ?_ _)); exact BK353.out⟩, ⟨by repeat (first | (with_reducible first | exact HB.out | apply below_alloc | apply pw_below_drewN | apply below_drew1 | refine below_set ?_ GE302.out | refine below_set ?_ GE303.out | refine below_set ?_ GE328.out | refine below_set ?_ GE353.out | refine below_set ?_ GE394.out) | exact HB.out)⟩⟩
             ·rw [if_neg c166] at H
              have c166b0 : (t392 == t326) = false := beq_eq_false_iff_ne.mpr c166
              have c166b1 : (t392 != t326) = true := bne_iff_ne.mpr c166
              (first | rw [c166b0] | (simp only [i64_w, i32_w]; rw [c166b0]) | skip)
              have H' := Aside0.mk H
              clear H
              have hnb177 := NB394_302.out
              have hnc177 := NB302_394.out
              have hnb178 := NB394_303.out
              have hnc178 := NB303_394.out
              have hnb179 := NB394_328.out
              have hnc179 := NB328_394.out
              have hnb180 := NB394_353.out
              have hnc180 := NB353_394.out
              obtain ⟨hcz181_0, hcz181_1, hcz181_2, hfz181_0, hfz181_1, hfz181_2⟩ := cq3 BK394.out
              have hnb182 := NB328_302.out
              have hnc182 := NB302_328.out
              have hnb183 := NB328_303.out
              have hnc183 := NB303_328.out
              have hnb184 := NB328_353.out
              have hnc184 := NB353_328.out
              obtain ⟨hcz185_0, hcz185_1, hcz185_2, hfz185_0, hfz185_1, hfz185_2⟩ := cq3 BK328.out
              go_wp2_with (first | ((with_reducible refine gate_callee (f := 16) rfl ?_); refine goesL_ (some 115) rfl rfl Try.func16 (by kernel_rfl) rfl #[.agg #[.slice Ao159 t385.length co159, .slice Ao161 t388.length co161, .int .i64 t391], .agg #[.slice Ao31 t319.length co31, .slice Ao33 t322.length co33, .int .i64 t325]] rfl aq ?_; (with_reducible refine (laws_eqState.calls kj94 _ _ t385 _ _ t388 t391 _ _ t319 _ _ t322 t325 true _ ?side1 ?side2 ?side3 ?side4 ?side5 ?side6 ?side7 ?side8 A164.out).mono ?_); (case side1 => refine (Kd.R_reads' (e := 3) (base := w.heap.size) (ok := fun k_ => (some k_ ≠ (v372 : Value).ownBlock ∧ (some k_ ≠ (v375 : Value).ownBlock ∧ (some k_ ≠ (.slice Ao161 t388.length co161 : Value).ownBlock ∧ (some k_ ≠ (.slice Ao31 t319.length co31 : Value).ownBlock ∧ (some k_ ≠ (.slice Ao33 t322.length co33 : Value).ownBlock ∧ (some k_ ≠ (.slice Ao52 t344.length co52 : Value).ownBlock ∧ some k_ ≠ (.slice Ao54 t347.length co54 : Value).ownBlock))))))) (n := t385.length) (c := co159) ?_).2.2; exact (by (with_reducible repeat (first | apply Kd.R_alloc | apply Kd.R_drewN | apply Kd.R_drew)); exact (rf3 HO387.out BK394.out))); (case side2 => exact (Kd.R_reads' HO387.out).2.1); (case side3 => refine (Kd.R_reads' (e := 3) (base := w.heap.size) (ok := fun k_ => (some k_ ≠ (v372 : Value).ownBlock ∧ (some k_ ≠ (v375 : Value).ownBlock ∧ (some k_ ≠ (.slice Ao159 t385.length co159 : Value).ownBlock ∧ (some k_ ≠ (.slice Ao31 t319.length co31 : Value).ownBlock ∧ (some k_ ≠ (.slice Ao33 t322.length co33 : Value).ownBlock ∧ (some k_ ≠ (.slice Ao52 t344.length co52 : Value).ownBlock ∧ some k_ ≠ (.slice Ao54 t347.length co54 : Value).ownBlock))))))) (n := t388.length) (c := co161) ?_).2.2; exact (by (with_reducible repeat (first | apply Kd.R_alloc | apply Kd.R_drewN | apply Kd.R_drew)); exact (rf3 HO390.out BK394.out))); (case side4 => exact (Kd.R_reads' HO390.out).2.1); (case side5 => refine (Kd.R_reads' (e := 3) (base := w.heap.size) (ok := fun k_ => (some k_ ≠ (v372 : Value).ownBlock ∧ (some k_ ≠ (v375 : Value).ownBlock ∧ (some k_ ≠ (.slice Ao159 t385.length co159 : Value).ownBlock ∧ (some k_ ≠ (.slice Ao161 t388.length co161 : Value).ownBlock ∧ (some k_ ≠ (.slice Ao33 t322.length co33 : Value).ownBlock ∧ (some k_ ≠ (.slice Ao52 t344.length co52 : Value).ownBlock ∧ some k_ ≠ (.slice Ao54 t347.length co54 : Value).ownBlock))))))) (n := t319.length) (c := co31) ?_).2.2; exact (by (with_reducible repeat (first | apply Kd.R_alloc | apply Kd.R_drewN | apply Kd.R_drew)); exact (rf3 HO_329000.out BK394.out))); (case side6 => exact (Kd.R_reads' HO_329000.out).2.1); (case side7 => refine (Kd.R_reads' (e := 3) (base := w.heap.size) (ok := fun k_ => (some k_ ≠ (v372 : Value).ownBlock ∧ (some k_ ≠ (v375 : Value).ownBlock ∧ (some k_ ≠ (.slice Ao159 t385.length co159 : Value).ownBlock ∧ (some k_ ≠ (.slice Ao161 t388.length co161 : Value).ownBlock ∧ (some k_ ≠ (.slice Ao31 t319.length co31 : Value).ownBlock ∧ (some k_ ≠ (.slice Ao52 t344.length co52 : Value).ownBlock ∧ some k_ ≠ (.slice Ao54 t347.length co54 : Value).ownBlock))))))) (n := t322.length) (c := co33) ?_).2.2; exact (by (with_reducible repeat (first | apply Kd.R_alloc | apply Kd.R_drewN | apply Kd.R_drew)); exact (rf3 HO_329001.out BK394.out))); (case side8 => exact (Kd.R_reads' HO_329001.out).2.1); rintro e w186 ⟨rfl, hb⟩; refine ⟨_, rfl, ?_⟩; have n_ := And.intro (Aside0.mk (Kd.R_below (by (with_reducible repeat (first | apply Kd.R_alloc | apply Kd.R_drewN | apply Kd.R_drew)); exact (rf3 HO_329000.out BK394.out)) hb)) (And.intro (Aside0.mk (Kd.R_below (by (with_reducible repeat (first | apply Kd.R_alloc | apply Kd.R_drewN | apply Kd.R_drew)); exact (rf3 HO_329001.out BK394.out)) hb)) (And.intro (Aside0.mk (Kd.R_below (by (with_reducible repeat (first | apply Kd.R_alloc | apply Kd.R_drewN | apply Kd.R_drew)); exact (rf3 HO_354000.out BK394.out)) hb)) (And.intro (Aside0.mk (Kd.R_below (by (with_reducible repeat (first | apply Kd.R_alloc | apply Kd.R_drewN | apply Kd.R_drew)); exact (rf3 HO_354001.out BK394.out)) hb)) (And.intro (Aside0.mk (Kd.R_below (by (with_reducible repeat (first | apply Kd.R_alloc | apply Kd.R_drewN | apply Kd.R_drew)); exact (rf3 HO373.out BK394.out)) hb)) (And.intro (Aside0.mk (Kd.R_below (by (with_reducible repeat (first | apply Kd.R_alloc | apply Kd.R_drewN | apply Kd.R_drew)); exact (rf3 HO376.out BK394.out)) hb)) (And.intro (Aside0.mk (Kd.R_below (by (with_reducible repeat (first | apply Kd.R_alloc | apply Kd.R_drewN | apply Kd.R_drew)); exact (rf3 HO387.out BK394.out)) hb)) (And.intro (Aside0.mk (Kd.R_below (by (with_reducible repeat (first | apply Kd.R_alloc | apply Kd.R_drewN | apply Kd.R_drew)); exact (rf3 HO390.out BK394.out)) hb)) (And.intro (Aside0.mk (blk_below (bf3 BK302.out NB302_394.out) hb)) (And.intro (Aside0.mk (blk_below (bf3 BK303.out NB303_394.out) hb)) (And.intro (Aside0.mk (blk_below (bf3 BK328.out NB328_394.out) hb)) (And.intro (Aside0.mk (blk_below (bf3 BK353.out NB353_394.out) hb)) (And.intro (Aside0.mk (blk_below (bp3 BK394.out) hb)) (Aside0.mk (below_step (bw5 HB.out GE302.out GE303.out GE328.out GE353.out GE394.out) hb)))))))))))))); clear HO_329000 HO_329001 HO_354000 HO_354001 HO373 HO376 HO387 HO390 BK302 BK303 BK328 BK353 BK394 HB; obtain ⟨HO_329000, HO_329001, HO_354000, HO_354001, HO373, HO376, HO387, HO390, BK302, BK303, BK328, BK353, BK394, HB⟩ := n_; (try clear hb); (try clear hb2); (try clear hk); (try clear hi)))
              go_meet
              case rel => exact ⟨_, (true), (by first | rfl | (simp; done) | (simp [*]; done)), H', ⟨by have := HJ16.out; have := HJ94.out; first | omega | exact Nat.le_refl _⟩, ⟨by (with_reducible repeat (first | apply Kd.R_alloc | apply Kd.R_drewN | apply Kd.R_drew)); exact Kd.R_mono HO_354000.out (fun _ hk => hk.2.2.2.2.2.2)⟩, ⟨by (with_reducible repeat (first | apply Kd.R_alloc | apply Kd.R_drewN | apply Kd.R_drew)); exact Kd.R_mono HO_354001.out (fun _ hk => hk.2.2.2.2.2.2)⟩, ⟨by (with_reducible repeat (first | refine blk_drewN ?_ _ | refine blk_drew ?_ | refine blk_alloc ?_ _)); exact BK353.out⟩, ⟨by repeat (first | (with_reducible first | exact HB.out | apply below_alloc | apply pw_below_drewN | apply below_drew1 | refine below_set ?_ GE302.out | refine below_set ?_ GE303.out | refine below_set ?_ GE328.out | refine below_set ?_ GE353.out | refine below_set ?_ GE394.out) | exact HB.out)⟩⟩
            ·replace c165 := Bool.eq_false_iff.mpr c165
             subst c165
             rw [if_neg (show ¬ (false = true) by decide)] at H
             have H' := Aside0.mk H
             clear H
             have hnb187 := NB394_302.out
             have hnc187 := NB302_394.out
             have hnb188 := NB394_303.out
             have hnc188 := NB303_394.out
             have hnb189 := NB394_328.out
             have hnc189 := NB328_394.out
             have hnb190 := NB394_353.out
             have hnc190 := NB353_394.out
             obtain ⟨hcz191_0, hcz191_1, hcz191_2, hfz191_0, hfz191_1, hfz191_2⟩ := cq3 BK394.out
             have hnb192 := NB328_302.out
             have hnc192 := NB302_328.out
             have hnb193 := NB328_303.out
             have hnc193 := NB303_328.out
             have hnb194 := NB328_353.out
             have hnc194 := NB353_328.out
             obtain ⟨hcz195_0, hcz195_1, hcz195_2, hfz195_0, hfz195_1, hfz195_2⟩ := cq3 BK328.out
             go_wp2_with (first | ((with_reducible refine gate_callee (f := 16) rfl ?_); refine goesL_ (some 115) rfl rfl Try.func16 (by kernel_rfl) rfl #[.agg #[.slice Ao159 t385.length co159, .slice Ao161 t388.length co161, .int .i64 t391], .agg #[.slice Ao31 t319.length co31, .slice Ao33 t322.length co33, .int .i64 t325]] rfl aq ?_; (with_reducible refine (laws_eqState.calls kj94 _ _ t385 _ _ t388 t391 _ _ t319 _ _ t322 t325 false _ ?side1 ?side2 ?side3 ?side4 ?side5 ?side6 ?side7 ?side8 A164.out).mono ?_); (case side1 => refine (Kd.R_reads' (e := 3) (base := w.heap.size) (ok := fun k_ => (some k_ ≠ (v372 : Value).ownBlock ∧ (some k_ ≠ (v375 : Value).ownBlock ∧ (some k_ ≠ (.slice Ao161 t388.length co161 : Value).ownBlock ∧ (some k_ ≠ (.slice Ao31 t319.length co31 : Value).ownBlock ∧ (some k_ ≠ (.slice Ao33 t322.length co33 : Value).ownBlock ∧ (some k_ ≠ (.slice Ao52 t344.length co52 : Value).ownBlock ∧ some k_ ≠ (.slice Ao54 t347.length co54 : Value).ownBlock))))))) (n := t385.length) (c := co159) ?_).2.2; exact (by (with_reducible repeat (first | apply Kd.R_alloc | apply Kd.R_drewN | apply Kd.R_drew)); exact (rf3 HO387.out BK394.out))); (case side2 => exact (Kd.R_reads' HO387.out).2.1); (case side3 => refine (Kd.R_reads' (e := 3) (base := w.heap.size) (ok := fun k_ => (some k_ ≠ (v372 : Value).ownBlock ∧ (some k_ ≠ (v375 : Value).ownBlock ∧ (some k_ ≠ (.slice Ao159 t385.length co159 : Value).ownBlock ∧ (some k_ ≠ (.slice Ao31 t319.length co31 : Value).ownBlock ∧ (some k_ ≠ (.slice Ao33 t322.length co33 : Value).ownBlock ∧ (some k_ ≠ (.slice Ao52 t344.length co52 : Value).ownBlock ∧ some k_ ≠ (.slice Ao54 t347.length co54 : Value).ownBlock))))))) (n := t388.length) (c := co161) ?_).2.2; exact (by (with_reducible repeat (first | apply Kd.R_alloc | apply Kd.R_drewN | apply Kd.R_drew)); exact (rf3 HO390.out BK394.out))); (case side4 => exact (Kd.R_reads' HO390.out).2.1); (case side5 => refine (Kd.R_reads' (e := 3) (base := w.heap.size) (ok := fun k_ => (some k_ ≠ (v372 : Value).ownBlock ∧ (some k_ ≠ (v375 : Value).ownBlock ∧ (some k_ ≠ (.slice Ao159 t385.length co159 : Value).ownBlock ∧ (some k_ ≠ (.slice Ao161 t388.length co161 : Value).ownBlock ∧ (some k_ ≠ (.slice Ao33 t322.length co33 : Value).ownBlock ∧ (some k_ ≠ (.slice Ao52 t344.length co52 : Value).ownBlock ∧ some k_ ≠ (.slice Ao54 t347.length co54 : Value).ownBlock))))))) (n := t319.length) (c := co31) ?_).2.2; exact (by (with_reducible repeat (first | apply Kd.R_alloc | apply Kd.R_drewN | apply Kd.R_drew)); exact (rf3 HO_329000.out BK394.out))); (case side6 => exact (Kd.R_reads' HO_329000.out).2.1); (case side7 => refine (Kd.R_reads' (e := 3) (base := w.heap.size) (ok := fun k_ => (some k_ ≠ (v372 : Value).ownBlock ∧ (some k_ ≠ (v375 : Value).ownBlock ∧ (some k_ ≠ (.slice Ao159 t385.length co159 : Value).ownBlock ∧ (some k_ ≠ (.slice Ao161 t388.length co161 : Value).ownBlock ∧ (some k_ ≠ (.slice Ao31 t319.length co31 : Value).ownBlock ∧ (some k_ ≠ (.slice Ao52 t344.length co52 : Value).ownBlock ∧ some k_ ≠ (.slice Ao54 t347.length co54 : Value).ownBlock))))))) (n := t322.length) (c := co33) ?_).2.2; exact (by (with_reducible repeat (first | apply Kd.R_alloc | apply Kd.R_drewN | apply Kd.R_drew)); exact (rf3 HO_329001.out BK394.out))); (case side8 => exact (Kd.R_reads' HO_329001.out).2.1); rintro e w196 ⟨rfl, hb⟩; refine ⟨_, rfl, ?_⟩; have n_ := And.intro (Aside0.mk (Kd.R_below (by (with_reducible repeat (first | apply Kd.R_alloc | apply Kd.R_drewN | apply Kd.R_drew)); exact (rf3 HO_329000.out BK394.out)) hb)) (And.intro (Aside0.mk (Kd.R_below (by (with_reducible repeat (first | apply Kd.R_alloc | apply Kd.R_drewN | apply Kd.R_drew)); exact (rf3 HO_329001.out BK394.out)) hb)) (And.intro (Aside0.mk (Kd.R_below (by (with_reducible repeat (first | apply Kd.R_alloc | apply Kd.R_drewN | apply Kd.R_drew)); exact (rf3 HO_354000.out BK394.out)) hb)) (And.intro (Aside0.mk (Kd.R_below (by (with_reducible repeat (first | apply Kd.R_alloc | apply Kd.R_drewN | apply Kd.R_drew)); exact (rf3 HO_354001.out BK394.out)) hb)) (And.intro (Aside0.mk (Kd.R_below (by (with_reducible repeat (first | apply Kd.R_alloc | apply Kd.R_drewN | apply Kd.R_drew)); exact (rf3 HO373.out BK394.out)) hb)) (And.intro (Aside0.mk (Kd.R_below (by (with_reducible repeat (first | apply Kd.R_alloc | apply Kd.R_drewN | apply Kd.R_drew)); exact (rf3 HO376.out BK394.out)) hb)) (And.intro (Aside0.mk (Kd.R_below (by (with_reducible repeat (first | apply Kd.R_alloc | apply Kd.R_drewN | apply Kd.R_drew)); exact (rf3 HO387.out BK394.out)) hb)) (And.intro (Aside0.mk (Kd.R_below (by (with_reducible repeat (first | apply Kd.R_alloc | apply Kd.R_drewN | apply Kd.R_drew)); exact (rf3 HO390.out BK394.out)) hb)) (And.intro (Aside0.mk (blk_below (bf3 BK302.out NB302_394.out) hb)) (And.intro (Aside0.mk (blk_below (bf3 BK303.out NB303_394.out) hb)) (And.intro (Aside0.mk (blk_below (bf3 BK328.out NB328_394.out) hb)) (And.intro (Aside0.mk (blk_below (bf3 BK353.out NB353_394.out) hb)) (And.intro (Aside0.mk (blk_below (bp3 BK394.out) hb)) (Aside0.mk (below_step (bw5 HB.out GE302.out GE303.out GE328.out GE353.out GE394.out) hb)))))))))))))); clear HO_329000 HO_329001 HO_354000 HO_354001 HO373 HO376 HO387 HO390 BK302 BK303 BK328 BK353 BK394 HB; obtain ⟨HO_329000, HO_329001, HO_354000, HO_354001, HO373, HO376, HO387, HO390, BK302, BK303, BK328, BK353, BK394, HB⟩ := n_; (try clear hb); (try clear hb2); (try clear hk); (try clear hi)))
             go_meet
             case rel => exact ⟨_, (true), (by first | rfl | (simp; done) | (simp [*]; done)), H', ⟨by have := HJ16.out; have := HJ94.out; first | omega | exact Nat.le_refl _⟩, ⟨by (with_reducible repeat (first | apply Kd.R_alloc | apply Kd.R_drewN | apply Kd.R_drew)); exact Kd.R_mono HO_354000.out (fun _ hk => hk.2.2.2.2.2.2)⟩, ⟨by (with_reducible repeat (first | apply Kd.R_alloc | apply Kd.R_drewN | apply Kd.R_drew)); exact Kd.R_mono HO_354001.out (fun _ hk => hk.2.2.2.2.2.2)⟩, ⟨by (with_reducible repeat (first | refine blk_drewN ?_ _ | refine blk_drew ?_ | refine blk_alloc ?_ _)); exact BK353.out⟩, ⟨by repeat (first | (with_reducible first | exact HB.out | apply below_alloc | apply pw_below_drewN | apply below_drew1 | refine below_set ?_ GE302.out | refine below_set ?_ GE303.out | refine below_set ?_ GE328.out | refine below_set ?_ GE353.out | refine below_set ?_ GE394.out) | exact HB.out)⟩⟩
           case rest =>
            clear HC143
            try clear c1
            try clear p2
            try clear c13
            try clear c14
            try clear c15
            try clear c16
            try clear c17
            try clear c18
            try clear c19
            try clear c165
            try clear c166
            try clear c166b0
            try clear c166b1
            try clear c167
            try clear c168
            try clear c169
            try clear c170
            try clear c172
            try clear c173
            try clear c174
            try clear c177
            try clear c178
            try clear c179
            try clear c180
            try clear c182
            try clear c183
            try clear c184
            try clear c187
            try clear c188
            try clear c189
            try clear c190
            try clear c192
            try clear c193
            try clear c194
            obtain ⟨kq, x126_142, rfl, HA, HJ142, HO_354000, HO_354001, BK353, HB⟩ := hcut
            have hl354000_142 := (Kd.R_reads' HO_354000.out).1
            rw [hl354000_142] at HO_354000
            (try simp only [hl354000_142])
            (try simp only [hl354000_142] at BK353)
            (try simp only [hl354000_142] at HO_354001)
            have hl354001_142 := (Kd.R_reads' HO_354001.out).1
            rw [hl354001_142] at HO_354001
            (try simp only [hl354001_142])
            (try simp only [hl354001_142] at BK353)
            (try simp only [hl354001_142] at HO_354000)
            cases kq with
            | zero => exact absurd HA.out (by simp [laws_FnExactApplyWish.j2])
            | succ kj142 =>
             have H := HA.out
             clear HA
             simp only [laws_FnExactApplyWish.j2] at H
             by_cases c197 : x126_142 = true
             ·subst c197
              rw [if_pos rfl] at H
              exact absurd H (by simp)
             ·replace c197 := Bool.eq_false_iff.mpr c197
              subst c197
              rw [if_neg (show ¬ (false = true) by decide)] at H
              replace H := Option.bind_eq_some_iff.mp H
              obtain ⟨t396, A1980, H⟩ := H
              have A198 := Aside0.mk A1980
              clear A1980
              by_cases c199 : t396 < 0
              ·rw [if_pos c199] at H
               exact absurd H (by simp)
              ·rw [if_neg c199] at H
               have c199b0 : decide (t396 < 0) = false := decide_eq_false c199
               clear c199
               by_cases c200 : t396 = t367
               ·rw [if_pos c200] at H
                have c200b0 : (t396 == t367) = true := beq_iff_eq.mpr c200
                have c200b1 : (t396 != t367) = false := bne_eq_false_iff_eq.mpr c200
                clear c200
                obtain rfl := Option.some.inj H
                obtain ⟨hcz201_0, hcz201_1, hcz201_2, hfz201_0, hfz201_1, hfz201_2⟩ := cq3 BK353.out
                go_wp2_with (first | ((with_reducible refine gate_callee (f := 18) rfl ?_); refine goesL_ (some 129) rfl rfl Try.func18 (by kernel_rfl) rfl #[.agg #[.slice Ao52 t368.length co52, .slice Ao54 t369.length co54, .int .i64 t350], .int .i64 1] rfl aq ?_; (with_reducible refine (laws_heldState.calls kj142 _ _ t368 _ _ t369 t350 1 t396 _ ?side1 ?side2 ?side3 ?side4 A198.out).mono ?_); (case side1 => exact caq (Kd.R_reads' HO_354000.out).2.2); (case side2 => exact (Kd.R_reads' HO_354000.out).2.1); (case side3 => exact caq (Kd.R_reads' HO_354001.out).2.2); (case side4 => exact (Kd.R_reads' HO_354001.out).2.1); rintro e w202 ⟨rfl, hb⟩; refine ⟨_, rfl, ?_⟩; have n_ := And.intro (Aside0.mk (Kd.R_below (rq HO_354000.out) hb)) (And.intro (Aside0.mk (Kd.R_below (rq HO_354001.out) hb)) (Aside0.mk (below_step (bw0 HB.out) hb))); clear HO_354000 HO_354001 HB; obtain ⟨HO_354000, HO_354001, HB⟩ := n_; (try clear hb); (try clear hb2); (try clear hk); (try clear hi)))
                go_ret
                exact ⟨by first | rfl | (simp [errW_none, errW_some] <;> rfl) | (simp [*, errW_none, errW_some] <;> rfl), by repeat (first | (with_reducible first | exact HB.out | apply below_alloc | apply pw_below_drewN | apply below_drew1) | exact HB.out)⟩
               ·rw [if_neg c200] at H
                exact absurd H (by simp)
          ·rw [if_neg c139] at H
           exact absurd H (by simp)
     ·replace c93 := Bool.eq_false_iff.mpr c93
      subst c93
      rw [if_neg (show ¬ (false = true) by decide)] at H
      exact absurd H (by simp)

end Go.Proofs.Ytiggokojffejeaa.PFnExactApplyWish
