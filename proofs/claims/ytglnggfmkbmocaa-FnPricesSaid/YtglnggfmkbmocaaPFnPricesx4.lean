/- Written by this session's program myprint.py, which runs the kit's print.py beside texts of this session's own. No condition. -/
import Derived.Test.YtglnggfmkbmocaaPFnPricesx0
import Derived.Test.YtglnggfmkbmocaaPFnPricesx1
import Derived.Test.YtglnggfmkbmocaaPFnPricesx2
import Derived.Test.YtglnggfmkbmocaaPFnPricesx3
namespace Go.Proofs.Ytglnggfmkbmocaa.PFnPrices
open Go.RowKit Go.Proofs.YtglnggfmkbmocaaW.PrintWords Go.Proofs.YtglnggfmkbmocaaW.PrintLast Go.Proofs.YtglnggfmkbmocaaW.PrintMore
attribute [local go_sem] max2_int min2_int max_two min_two max_three min_three max_four min_four   -- for this text's walks alone
set_option linter.unusedVariables false
set_option linter.unusedSimpArgs false

/-! ### laws_FnPrices: function 4 -/
mutual
def laws_FnPrices.j0 : Nat → List Int → Int → List Int → List Int → Bool → Bool → Option (Bool)
 | 0, _, _, _, _, _, _ => none
 | k + 1, x1, x5, x6, x7, x8, x66 => if x66 = true then (none) else (if x8 = true then (if (x7.length : Int) = (wrap64 ((x6.length : Int) + 1)) then (if 0 < (x7.length : Int) then (laws_FnPrices.j1 k x1 x5 x6 x7 ((rd x7 0) != x5)) else (none)) else (laws_FnPrices.j1 k x1 x5 x6 x7 true)) else (laws_FnPrices.j5 k x1))
def laws_FnPrices.j5 : Nat → List Int → Option (Bool)
 | 0, _ => none
 | k + 1, x1 => (spec_DrawNextPrice.f x1).bind fun bt236 => ((impl_NextPrice.f bt236.1 bt236.2).bind fun bt238 => ((spec_NextPrice.f bt236.1 bt236.2).bind fun bt240 => ((spec_DrawBoundsFor.f x1).bind fun bt242 => ((impl_BoundsFor.f k bt242.1 bt242.2).bind fun bt244 => ((spec_BoundsFor.f k bt242.1 bt242.2).bind fun bt247 => (if (bt238.2 != bt240.2) = true then (laws_FnPrices.j6 k bt236.1 bt236.2 bt238.1 bt238.2 true) else (if bt238.1 = bt240.1 then (if (bt244.2.2 != bt247.2.2) = true then (laws_FnPrices.j6 k bt236.1 bt236.2 bt238.1 bt238.2 true) else (if bt244.1 = bt247.1 then (laws_FnPrices.j6 k bt236.1 bt236.2 bt238.1 bt238.2 (bt244.2.1 != bt247.2.1)) else (laws_FnPrices.j6 k bt236.1 bt236.2 bt238.1 bt238.2 true))) else (laws_FnPrices.j6 k bt236.1 bt236.2 bt238.1 bt238.2 true))))))))
def laws_FnPrices.j6 : Nat → Int → Int → Int → Bool → Bool → Option (Bool)
 | 0, _, _, _, _, _ => none
 | k + 1, x19, x20, x21, x22, x231 => if x231 = true then (none) else (if x22 = true then (if x20 < 80 then ((impl_NextPrice.f x19 (wrap64 (x20 + 1))).bind fun bt250 => (if bt250.2 = true then (some (decide (bt250.1 ≥ x21))) else (none))) else (some true)) else (some true))
def laws_FnPrices.j1 : Nat → List Int → Int → List Int → List Int → Bool → Option (Bool)
 | 0, _, _, _, _, _ => none
 | k + 1, x1, x5, x6, x7, x80 => if x80 = true then (none) else (laws_FnPrices.l0 k x1 x5 x6 x7 x6 (x6.length : Int) 0)
def laws_FnPrices.l0 : Nat → List Int → Int → List Int → List Int → List Int → Int → Int → Option (Bool)
 | 0, _, _, _, _, _, _, _ => none
 | k + 1, x1, x5, x6, x7, x81, x82, x83 => if x83 < x82 then (if 0 ≤ x83 then (if x83 < (x81.length : Int) then (if x83 < (x7.length : Int) then (if 0 ≤ (wrap64 (x83 + 1)) then (if (wrap64 (x83 + 1)) < (x7.length : Int) then (if (rd x81 x83) = 40 then (if (rd x7 (wrap64 (x83 + 1))) = (rd x7 x83) then (if (rd x81 x83) > 40 then (if (rd x7 (wrap64 (x83 + 1))) < (rd x7 x83) then (laws_FnPrices.j3 k x1 x5 x6 x7 x81 x82 x83 true) else (if (wrap64 (8 * (wrap64 ((rd x7 (wrap64 (x83 + 1))) - (rd x7 x83))))) > (wrap64 ((rd x7 x83) + 8)) then (laws_FnPrices.j3 k x1 x5 x6 x7 x81 x82 x83 true) else (if (rd x81 x83) < 40 then (if (rd x7 (wrap64 (x83 + 1))) > (rd x7 x83) then (laws_FnPrices.j3 k x1 x5 x6 x7 x81 x82 x83 true) else (laws_FnPrices.j3 k x1 x5 x6 x7 x81 x82 x83 (decide ((wrap64 (8 * (wrap64 ((rd x7 x83) - (rd x7 (wrap64 (x83 + 1))))))) > (rd x7 x83))))) else (laws_FnPrices.j3 k x1 x5 x6 x7 x81 x82 x83 false)))) else (if (rd x81 x83) < 40 then (if (rd x7 (wrap64 (x83 + 1))) > (rd x7 x83) then (laws_FnPrices.j3 k x1 x5 x6 x7 x81 x82 x83 true) else (laws_FnPrices.j3 k x1 x5 x6 x7 x81 x82 x83 (decide ((wrap64 (8 * (wrap64 ((rd x7 x83) - (rd x7 (wrap64 (x83 + 1))))))) > (rd x7 x83))))) else (laws_FnPrices.j3 k x1 x5 x6 x7 x81 x82 x83 false))) else (laws_FnPrices.j3 k x1 x5 x6 x7 x81 x82 x83 true)) else (if (rd x81 x83) > 40 then (if (rd x7 (wrap64 (x83 + 1))) < (rd x7 x83) then (laws_FnPrices.j3 k x1 x5 x6 x7 x81 x82 x83 true) else (if (wrap64 (8 * (wrap64 ((rd x7 (wrap64 (x83 + 1))) - (rd x7 x83))))) > (wrap64 ((rd x7 x83) + 8)) then (laws_FnPrices.j3 k x1 x5 x6 x7 x81 x82 x83 true) else (if (rd x81 x83) < 40 then (if (rd x7 (wrap64 (x83 + 1))) > (rd x7 x83) then (laws_FnPrices.j3 k x1 x5 x6 x7 x81 x82 x83 true) else (laws_FnPrices.j3 k x1 x5 x6 x7 x81 x82 x83 (decide ((wrap64 (8 * (wrap64 ((rd x7 x83) - (rd x7 (wrap64 (x83 + 1))))))) > (rd x7 x83))))) else (laws_FnPrices.j3 k x1 x5 x6 x7 x81 x82 x83 false)))) else (if (rd x81 x83) < 40 then (if (rd x7 (wrap64 (x83 + 1))) > (rd x7 x83) then (laws_FnPrices.j3 k x1 x5 x6 x7 x81 x82 x83 true) else (laws_FnPrices.j3 k x1 x5 x6 x7 x81 x82 x83 (decide ((wrap64 (8 * (wrap64 ((rd x7 x83) - (rd x7 (wrap64 (x83 + 1))))))) > (rd x7 x83))))) else (laws_FnPrices.j3 k x1 x5 x6 x7 x81 x82 x83 false)))) else (none)) else (none)) else (none)) else (none)) else (none)) else ((laws_numberOf.f k x1).bind fun t230 => (if (wrap64 ((x6.length : Int) + 1)) = 0 then (none) else (if (Int.tmod t230 (wrap64 ((x6.length : Int) + 1))) ≤ 20 then ((impl_BoundsFor.f k x5 (Int.tmod t230 (wrap64 ((x6.length : Int) + 1)))).bind fun bt231 => (if bt231.2.2 = true then (if 0 ≤ (Int.tmod t230 (wrap64 ((x6.length : Int) + 1))) then (if (Int.tmod t230 (wrap64 ((x6.length : Int) + 1))) < (x7.length : Int) then (if (rd x7 (Int.tmod t230 (wrap64 ((x6.length : Int) + 1)))) < bt231.1 then (laws_FnPrices.j4 k x1 true) else (laws_FnPrices.j4 k x1 (decide ((rd x7 (Int.tmod t230 (wrap64 ((x6.length : Int) + 1)))) > bt231.2.1)))) else (none)) else (none)) else (laws_FnPrices.j4 k x1 true))) else (laws_FnPrices.j5 k x1))))
def laws_FnPrices.j3 : Nat → List Int → Int → List Int → List Int → List Int → Int → Int → Bool → Option (Bool)
 | 0, _, _, _, _, _, _, _, _ => none
 | k + 1, x1, x5, x6, x7, x81, x82, x83, x138 => if x138 = true then (none) else (laws_FnPrices.l0 k x1 x5 x6 x7 x81 x82 (wrap64 (x83 + 1)))
def laws_FnPrices.j4 : Nat → List Int → Bool → Option (Bool)
 | 0, _, _ => none
 | k + 1, x1, x172 => if x172 = true then (none) else (laws_FnPrices.j5 k x1)
end
def laws_FnPrices.f (k : Nat) (l0 : List Int) (l1 : List Int) : Option (Bool) := if (wrap64 ((l0.length : Int) + (l1.length : Int))) > 1048576 then (some true) else ((spec_DrawPricesOf.f k l0).bind fun bt213 => ((impl_PricesOf.f k bt213.1 bt213.2).bind fun bt217 => ((spec_PricesOf.f k bt213.1 bt213.2).bind fun bt221 => (if (bt217.2 != bt221.2) = true then (laws_FnPrices.j0 k l1 bt213.1 bt213.2 bt217.1 bt217.2 true) else ((laws_sameInts.f k bt217.1 bt221.1).bind fun t225 => (laws_FnPrices.j0 k l1 bt213.1 bt213.2 bt217.1 bt217.2 (!t225)))))))
theorem laws_FnPrices.mono_l : ∀ k, (∀ y0 y1 y2 y3 y4 y5, LeO (laws_FnPrices.j0 k y0 y1 y2 y3 y4 y5) (laws_FnPrices.j0 (k + 1) y0 y1 y2 y3 y4 y5)) ∧ (∀ y0, LeO (laws_FnPrices.j5 k y0) (laws_FnPrices.j5 (k + 1) y0)) ∧ (∀ y0 y1 y2 y3 y4, LeO (laws_FnPrices.j6 k y0 y1 y2 y3 y4) (laws_FnPrices.j6 (k + 1) y0 y1 y2 y3 y4)) ∧ (∀ y0 y1 y2 y3 y4, LeO (laws_FnPrices.j1 k y0 y1 y2 y3 y4) (laws_FnPrices.j1 (k + 1) y0 y1 y2 y3 y4)) ∧ (∀ y0 y1 y2 y3 y4 y5 y6, LeO (laws_FnPrices.l0 k y0 y1 y2 y3 y4 y5 y6) (laws_FnPrices.l0 (k + 1) y0 y1 y2 y3 y4 y5 y6)) ∧ (∀ y0 y1 y2 y3 y4 y5 y6 y7, LeO (laws_FnPrices.j3 k y0 y1 y2 y3 y4 y5 y6 y7) (laws_FnPrices.j3 (k + 1) y0 y1 y2 y3 y4 y5 y6 y7)) ∧ (∀ y0 y1, LeO (laws_FnPrices.j4 k y0 y1) (laws_FnPrices.j4 (k + 1) y0 y1))
 | 0 => ⟨fun _ _ _ _ _ _ r h => by simp [laws_FnPrices.j0] at h, fun _ r h => by simp [laws_FnPrices.j5] at h, fun _ _ _ _ _ r h => by simp [laws_FnPrices.j6] at h, fun _ _ _ _ _ r h => by simp [laws_FnPrices.j1] at h, fun _ _ _ _ _ _ _ r h => by simp [laws_FnPrices.l0] at h, fun _ _ _ _ _ _ _ _ r h => by simp [laws_FnPrices.j3] at h, fun _ _ r h => by simp [laws_FnPrices.j4] at h⟩
 | k + 1 => by
  obtain ⟨ih0, ih1, ih2, ih3, ih4, ih5, ih6⟩ := laws_FnPrices.mono_l k
  refine ⟨?_, ?_, ?_, ?_, ?_, ?_, ?_⟩
  ·intro y0 y1 y2 y3 y4 y5
   unfold laws_FnPrices.j0
   repeat' first
   | (with_reducible exact ih0 _ _ _ _ _ _)
   | (with_reducible exact ih1 _)
   | (with_reducible exact ih2 _ _ _ _ _)
   | (with_reducible exact ih3 _ _ _ _ _)
   | (with_reducible exact ih4 _ _ _ _ _ _ _)
   | (with_reducible exact ih5 _ _ _ _ _ _ _ _)
   | (with_reducible exact ih6 _ _)
   | (with_reducible exact impl_BoundsFor.mono _ _ _)
   | (with_reducible exact impl_PricesOf.mono _ _ _)
   | (with_reducible exact laws_numberOf.mono _ _)
   | (with_reducible exact laws_sameInts.mono _ _ _)
   | (with_reducible exact spec_BoundsFor.mono _ _ _)
   | (with_reducible exact spec_DrawPricesOf.mono _ _)
   | (with_reducible exact spec_PricesOf.mono _ _ _)
   | (with_reducible exact LeO.refl _)
   | (with_reducible exact LeO.none _)
   | (with_reducible refine LeO.ite ?_ ?_)
   | (with_reducible refine LeO.bind ?_ (fun _ => ?_))
   | exact ih0 _ _ _ _ _ _
   | exact ih1 _
   | exact ih2 _ _ _ _ _
   | exact ih3 _ _ _ _ _
   | exact ih4 _ _ _ _ _ _ _
   | exact ih5 _ _ _ _ _ _ _ _
   | exact ih6 _ _
   | exact impl_BoundsFor.mono _ _ _
   | exact impl_PricesOf.mono _ _ _
   | exact laws_numberOf.mono _ _
   | exact laws_sameInts.mono _ _ _
   | exact spec_BoundsFor.mono _ _ _
   | exact spec_DrawPricesOf.mono _ _
   | exact spec_PricesOf.mono _ _ _
   | exact LeO.none _
   | refine LeO.ite ?_ ?_
   | refine LeO.bind ?_ (fun _ => ?_)
  ·intro y0
   unfold laws_FnPrices.j5
   repeat' first
   | (with_reducible exact ih0 _ _ _ _ _ _)
   | (with_reducible exact ih1 _)
   | (with_reducible exact ih2 _ _ _ _ _)
   | (with_reducible exact ih3 _ _ _ _ _)
   | (with_reducible exact ih4 _ _ _ _ _ _ _)
   | (with_reducible exact ih5 _ _ _ _ _ _ _ _)
   | (with_reducible exact ih6 _ _)
   | (with_reducible exact impl_BoundsFor.mono _ _ _)
   | (with_reducible exact impl_PricesOf.mono _ _ _)
   | (with_reducible exact laws_numberOf.mono _ _)
   | (with_reducible exact laws_sameInts.mono _ _ _)
   | (with_reducible exact spec_BoundsFor.mono _ _ _)
   | (with_reducible exact spec_DrawPricesOf.mono _ _)
   | (with_reducible exact spec_PricesOf.mono _ _ _)
   | (with_reducible exact LeO.refl _)
   | (with_reducible exact LeO.none _)
   | (with_reducible refine LeO.ite ?_ ?_)
   | (with_reducible refine LeO.bind ?_ (fun _ => ?_))
   | exact ih0 _ _ _ _ _ _
   | exact ih1 _
   | exact ih2 _ _ _ _ _
   | exact ih3 _ _ _ _ _
   | exact ih4 _ _ _ _ _ _ _
   | exact ih5 _ _ _ _ _ _ _ _
   | exact ih6 _ _
   | exact impl_BoundsFor.mono _ _ _
   | exact impl_PricesOf.mono _ _ _
   | exact laws_numberOf.mono _ _
   | exact laws_sameInts.mono _ _ _
   | exact spec_BoundsFor.mono _ _ _
   | exact spec_DrawPricesOf.mono _ _
   | exact spec_PricesOf.mono _ _ _
   | exact LeO.none _
   | refine LeO.ite ?_ ?_
   | refine LeO.bind ?_ (fun _ => ?_)
  ·intro y0 y1 y2 y3 y4
   unfold laws_FnPrices.j6
   repeat' first
   | (with_reducible exact ih0 _ _ _ _ _ _)
   | (with_reducible exact ih1 _)
   | (with_reducible exact ih2 _ _ _ _ _)
   | (with_reducible exact ih3 _ _ _ _ _)
   | (with_reducible exact ih4 _ _ _ _ _ _ _)
   | (with_reducible exact ih5 _ _ _ _ _ _ _ _)
   | (with_reducible exact ih6 _ _)
   | (with_reducible exact impl_BoundsFor.mono _ _ _)
   | (with_reducible exact impl_PricesOf.mono _ _ _)
   | (with_reducible exact laws_numberOf.mono _ _)
   | (with_reducible exact laws_sameInts.mono _ _ _)
   | (with_reducible exact spec_BoundsFor.mono _ _ _)
   | (with_reducible exact spec_DrawPricesOf.mono _ _)
   | (with_reducible exact spec_PricesOf.mono _ _ _)
   | (with_reducible exact LeO.refl _)
   | (with_reducible exact LeO.none _)
   | (with_reducible refine LeO.ite ?_ ?_)
   | (with_reducible refine LeO.bind ?_ (fun _ => ?_))
   | exact ih0 _ _ _ _ _ _
   | exact ih1 _
   | exact ih2 _ _ _ _ _
   | exact ih3 _ _ _ _ _
   | exact ih4 _ _ _ _ _ _ _
   | exact ih5 _ _ _ _ _ _ _ _
   | exact ih6 _ _
   | exact impl_BoundsFor.mono _ _ _
   | exact impl_PricesOf.mono _ _ _
   | exact laws_numberOf.mono _ _
   | exact laws_sameInts.mono _ _ _
   | exact spec_BoundsFor.mono _ _ _
   | exact spec_DrawPricesOf.mono _ _
   | exact spec_PricesOf.mono _ _ _
   | exact LeO.none _
   | refine LeO.ite ?_ ?_
   | refine LeO.bind ?_ (fun _ => ?_)
  ·intro y0 y1 y2 y3 y4
   unfold laws_FnPrices.j1
   repeat' first
   | (with_reducible exact ih0 _ _ _ _ _ _)
   | (with_reducible exact ih1 _)
   | (with_reducible exact ih2 _ _ _ _ _)
   | (with_reducible exact ih3 _ _ _ _ _)
   | (with_reducible exact ih4 _ _ _ _ _ _ _)
   | (with_reducible exact ih5 _ _ _ _ _ _ _ _)
   | (with_reducible exact ih6 _ _)
   | (with_reducible exact impl_BoundsFor.mono _ _ _)
   | (with_reducible exact impl_PricesOf.mono _ _ _)
   | (with_reducible exact laws_numberOf.mono _ _)
   | (with_reducible exact laws_sameInts.mono _ _ _)
   | (with_reducible exact spec_BoundsFor.mono _ _ _)
   | (with_reducible exact spec_DrawPricesOf.mono _ _)
   | (with_reducible exact spec_PricesOf.mono _ _ _)
   | (with_reducible exact LeO.refl _)
   | (with_reducible exact LeO.none _)
   | (with_reducible refine LeO.ite ?_ ?_)
   | (with_reducible refine LeO.bind ?_ (fun _ => ?_))
   | exact ih0 _ _ _ _ _ _
   | exact ih1 _
   | exact ih2 _ _ _ _ _
   | exact ih3 _ _ _ _ _
   | exact ih4 _ _ _ _ _ _ _
   | exact ih5 _ _ _ _ _ _ _ _
   | exact ih6 _ _
   | exact impl_BoundsFor.mono _ _ _
   | exact impl_PricesOf.mono _ _ _
   | exact laws_numberOf.mono _ _
   | exact laws_sameInts.mono _ _ _
   | exact spec_BoundsFor.mono _ _ _
   | exact spec_DrawPricesOf.mono _ _
   | exact spec_PricesOf.mono _ _ _
   | exact LeO.none _
   | refine LeO.ite ?_ ?_
   | refine LeO.bind ?_ (fun _ => ?_)
  ·intro y0 y1 y2 y3 y4 y5 y6
   unfold laws_FnPrices.l0
   repeat' first
   | (with_reducible exact ih0 _ _ _ _ _ _)
   | (with_reducible exact ih1 _)
   | (with_reducible exact ih2 _ _ _ _ _)
   | (with_reducible exact ih3 _ _ _ _ _)
   | (with_reducible exact ih4 _ _ _ _ _ _ _)
   | (with_reducible exact ih5 _ _ _ _ _ _ _ _)
   | (with_reducible exact ih6 _ _)
   | (with_reducible exact impl_BoundsFor.mono _ _ _)
   | (with_reducible exact impl_PricesOf.mono _ _ _)
   | (with_reducible exact laws_numberOf.mono _ _)
   | (with_reducible exact laws_sameInts.mono _ _ _)
   | (with_reducible exact spec_BoundsFor.mono _ _ _)
   | (with_reducible exact spec_DrawPricesOf.mono _ _)
   | (with_reducible exact spec_PricesOf.mono _ _ _)
   | (with_reducible exact LeO.refl _)
   | (with_reducible exact LeO.none _)
   | (with_reducible refine LeO.ite ?_ ?_)
   | (with_reducible refine LeO.bind ?_ (fun _ => ?_))
   | exact ih0 _ _ _ _ _ _
   | exact ih1 _
   | exact ih2 _ _ _ _ _
   | exact ih3 _ _ _ _ _
   | exact ih4 _ _ _ _ _ _ _
   | exact ih5 _ _ _ _ _ _ _ _
   | exact ih6 _ _
   | exact impl_BoundsFor.mono _ _ _
   | exact impl_PricesOf.mono _ _ _
   | exact laws_numberOf.mono _ _
   | exact laws_sameInts.mono _ _ _
   | exact spec_BoundsFor.mono _ _ _
   | exact spec_DrawPricesOf.mono _ _
   | exact spec_PricesOf.mono _ _ _
   | exact LeO.none _
   | refine LeO.ite ?_ ?_
   | refine LeO.bind ?_ (fun _ => ?_)
  ·intro y0 y1 y2 y3 y4 y5 y6 y7
   unfold laws_FnPrices.j3
   repeat' first
   | (with_reducible exact ih0 _ _ _ _ _ _)
   | (with_reducible exact ih1 _)
   | (with_reducible exact ih2 _ _ _ _ _)
   | (with_reducible exact ih3 _ _ _ _ _)
   | (with_reducible exact ih4 _ _ _ _ _ _ _)
   | (with_reducible exact ih5 _ _ _ _ _ _ _ _)
   | (with_reducible exact ih6 _ _)
   | (with_reducible exact impl_BoundsFor.mono _ _ _)
   | (with_reducible exact impl_PricesOf.mono _ _ _)
   | (with_reducible exact laws_numberOf.mono _ _)
   | (with_reducible exact laws_sameInts.mono _ _ _)
   | (with_reducible exact spec_BoundsFor.mono _ _ _)
   | (with_reducible exact spec_DrawPricesOf.mono _ _)
   | (with_reducible exact spec_PricesOf.mono _ _ _)
   | (with_reducible exact LeO.refl _)
   | (with_reducible exact LeO.none _)
   | (with_reducible refine LeO.ite ?_ ?_)
   | (with_reducible refine LeO.bind ?_ (fun _ => ?_))
   | exact ih0 _ _ _ _ _ _
   | exact ih1 _
   | exact ih2 _ _ _ _ _
   | exact ih3 _ _ _ _ _
   | exact ih4 _ _ _ _ _ _ _
   | exact ih5 _ _ _ _ _ _ _ _
   | exact ih6 _ _
   | exact impl_BoundsFor.mono _ _ _
   | exact impl_PricesOf.mono _ _ _
   | exact laws_numberOf.mono _ _
   | exact laws_sameInts.mono _ _ _
   | exact spec_BoundsFor.mono _ _ _
   | exact spec_DrawPricesOf.mono _ _
   | exact spec_PricesOf.mono _ _ _
   | exact LeO.none _
   | refine LeO.ite ?_ ?_
   | refine LeO.bind ?_ (fun _ => ?_)
  ·intro y0 y1
   unfold laws_FnPrices.j4
   repeat' first
   | (with_reducible exact ih0 _ _ _ _ _ _)
   | (with_reducible exact ih1 _)
   | (with_reducible exact ih2 _ _ _ _ _)
   | (with_reducible exact ih3 _ _ _ _ _)
   | (with_reducible exact ih4 _ _ _ _ _ _ _)
   | (with_reducible exact ih5 _ _ _ _ _ _ _ _)
   | (with_reducible exact ih6 _ _)
   | (with_reducible exact impl_BoundsFor.mono _ _ _)
   | (with_reducible exact impl_PricesOf.mono _ _ _)
   | (with_reducible exact laws_numberOf.mono _ _)
   | (with_reducible exact laws_sameInts.mono _ _ _)
   | (with_reducible exact spec_BoundsFor.mono _ _ _)
   | (with_reducible exact spec_DrawPricesOf.mono _ _)
   | (with_reducible exact spec_PricesOf.mono _ _ _)
   | (with_reducible exact LeO.refl _)
   | (with_reducible exact LeO.none _)
   | (with_reducible refine LeO.ite ?_ ?_)
   | (with_reducible refine LeO.bind ?_ (fun _ => ?_))
   | exact ih0 _ _ _ _ _ _
   | exact ih1 _
   | exact ih2 _ _ _ _ _
   | exact ih3 _ _ _ _ _
   | exact ih4 _ _ _ _ _ _ _
   | exact ih5 _ _ _ _ _ _ _ _
   | exact ih6 _ _
   | exact impl_BoundsFor.mono _ _ _
   | exact impl_PricesOf.mono _ _ _
   | exact laws_numberOf.mono _ _
   | exact laws_sameInts.mono _ _ _
   | exact spec_BoundsFor.mono _ _ _
   | exact spec_DrawPricesOf.mono _ _
   | exact spec_PricesOf.mono _ _ _
   | exact LeO.none _
   | refine LeO.ite ?_ ?_
   | refine LeO.bind ?_ (fun _ => ?_)
theorem laws_FnPrices.mono : ∀ a0 a1 k, LeO (laws_FnPrices.f k a0 a1) (laws_FnPrices.f (k + 1) a0 a1) := by
 intro a0 a1 k
 obtain ⟨ih0, ih1, ih2, ih3, ih4, ih5, ih6⟩ := laws_FnPrices.mono_l k
 unfold laws_FnPrices.f
 repeat' first
   | (with_reducible exact ih0 _ _ _ _ _ _)
   | (with_reducible exact ih1 _)
   | (with_reducible exact ih2 _ _ _ _ _)
   | (with_reducible exact ih3 _ _ _ _ _)
   | (with_reducible exact ih4 _ _ _ _ _ _ _)
   | (with_reducible exact ih5 _ _ _ _ _ _ _ _)
   | (with_reducible exact ih6 _ _)
   | (with_reducible exact impl_BoundsFor.mono _ _ _)
   | (with_reducible exact impl_PricesOf.mono _ _ _)
   | (with_reducible exact laws_numberOf.mono _ _)
   | (with_reducible exact laws_sameInts.mono _ _ _)
   | (with_reducible exact spec_BoundsFor.mono _ _ _)
   | (with_reducible exact spec_DrawPricesOf.mono _ _)
   | (with_reducible exact spec_PricesOf.mono _ _ _)
   | (with_reducible exact LeO.refl _)
   | (with_reducible exact LeO.none _)
   | (with_reducible refine LeO.ite ?_ ?_)
   | (with_reducible refine LeO.bind ?_ (fun _ => ?_))
   | exact ih0 _ _ _ _ _ _
   | exact ih1 _
   | exact ih2 _ _ _ _ _
   | exact ih3 _ _ _ _ _
   | exact ih4 _ _ _ _ _ _ _
   | exact ih5 _ _ _ _ _ _ _ _
   | exact ih6 _ _
   | exact impl_BoundsFor.mono _ _ _
   | exact impl_PricesOf.mono _ _ _
   | exact laws_numberOf.mono _ _
   | exact laws_sameInts.mono _ _ _
   | exact spec_BoundsFor.mono _ _ _
   | exact spec_DrawPricesOf.mono _ _
   | exact spec_PricesOf.mono _ _ _
   | exact LeO.none _
   | refine LeO.ite ?_ ?_
   | refine LeO.bind ?_ (fun _ => ?_)
set_option maxHeartbeats 8000000 in
set_option maxRecDepth 100000 in
theorem laws_FnPrices.calls (k : Nat) (A0 : Option Addr) (c0 : Nat) (l0 : List Int) (A1 : Option Addr) (c1 : Nat) (l1 : List Int) (r : Bool) (w : World) (hr0 : Kd.C (Kd.int .u8) w A0 l0.length l0) (hc0 : l0.length ≤ c0) (hr1 : Kd.C (Kd.int .u8) w A1 l1.length l1) (hc1 : l1.length ≤ c1) (h : laws_FnPrices.f k l0 l1 = some r) :
  Calls Try.prog 4 #[.slice A0 l0.length c0, .slice A1 l1.length c1] w fun e w' => e = .returned (.bool r) ∧ Below w.heap.size w w' := by
 have HR0 := Aside0.mk hr0
 have HC0 := Aside0.mk hc0
 clear hr0 hc0
 have HR1 := Aside0.mk hr1
 have HC1 := Aside0.mk hc1
 clear hr1 hc1
 have HB := Aside0.mk (Below.refl w.heap.size w)
 have H : (if (wrap64 ((l0.length : Int) + (l1.length : Int))) > 1048576 then (some true) else ((spec_DrawPricesOf.f k l0).bind fun bt213 => ((impl_PricesOf.f k bt213.1 bt213.2).bind fun bt217 => ((spec_PricesOf.f k bt213.1 bt213.2).bind fun bt221 => (if (bt217.2 != bt221.2) = true then (laws_FnPrices.j0 k l1 bt213.1 bt213.2 bt217.1 bt217.2 true) else ((laws_sameInts.f k bt217.1 bt221.1).bind fun t225 => (laws_FnPrices.j0 k l1 bt213.1 bt213.2 bt217.1 bt217.2 (!t225)))))))) = some r := h
 clear h
 by_cases c3 : (wrap64 ((l0.length : Int) + (l1.length : Int))) > 1048576
 ·rw [if_pos c3] at H
  have c3b0 : decide (1048576 < (wrap64 ((l0.length : Int) + (l1.length : Int)))) = true := decide_eq_true c3
  clear c3
  as_aux_lemma =>
   obtain rfl := Option.some.inj H
   go_enter Try.func4, Try.ntmps4
   go_wp2
   go_ret
   exact ⟨by first | rfl | (simp [errW_none, errW_some] <;> rfl) | (simp [*, errW_none, errW_some] <;> rfl), by repeat (first | (with_reducible first | exact HB.out | apply below_alloc | apply pw_below_drewN | apply below_drew1) | exact HB.out)⟩
 ·rw [if_neg c3] at H
  have c3b0 : decide (1048576 < (wrap64 ((l0.length : Int) + (l1.length : Int)))) = false := decide_eq_false c3
  clear c3
  replace H := Option.bind_eq_some_iff.mp H
  obtain ⟨⟨t213, t214⟩, A40, H⟩ := H
  have A4 := Aside0.mk A40
  clear A40
  replace H := Option.bind_eq_some_iff.mp H
  obtain ⟨⟨t217, t218⟩, A50, H⟩ := H
  have A5 := Aside0.mk A50
  clear A50
  replace H := Option.bind_eq_some_iff.mp H
  obtain ⟨⟨t221, t222⟩, A60, H⟩ := H
  have A6 := Aside0.mk A60
  clear A60
  have HC7 := Aside0.mk H
  clear H
  go_enter Try.func4, Try.ntmps4
  go_upto_region 6 with (first | ((with_reducible refine gate_callee (f := 18) rfl ?_); refine goesL_ (some 43) rfl rfl Try.func18 (by kernel_rfl) rfl #[.slice A0 l0.length c0] rfl (by (try simp only [List.map_toArray, List.map_cons, List.map_nil]); first | done | rfl | (simp only [List.length_drop, List.length_take]; rfl)) ?_; (with_reducible refine (spec_DrawPricesOf.calls k _ _ l0 t213 t214 _ ?side1 ?side2 A4.out).mono ?_); (case side1 => repeat (first | exact HR0.out | (with_reducible refine Kd.C_alloc ?_ _) | (with_reducible refine Kd.C_drewN ?_ _) | (with_reducible refine Kd.C_drew ?_))); (case side2 => exact HC0.out); rintro e w8 ⟨v215, rfl, ho0, hb⟩; refine ⟨_, rfl, ?_⟩; have n0_ := Aside0.mk (Kd.R_lower ho0 (below_size (by repeat (first | (with_reducible first | exact HB.out | apply below_alloc | apply pw_below_drewN | apply below_drew1) | exact HB.out)))); have n1_ := Aside0.mk (below_step (by repeat (first | (with_reducible first | exact HB.out | apply below_alloc | apply pw_below_drewN | apply below_drew1) | exact HB.out)) hb); clear HB; have HO216 := n0_; have HB := n1_; clear n0_ n1_; (try clear hb); (try clear hb2); (try clear hk); (try clear hi); (try clear ho0); obtain ⟨Ao9, co9, eo9⟩ := Kd.R_slice HO216.out; subst eo9) | ((with_reducible refine gate_callee (f := 19) rfl ?_); refine goesL_ (some 49) rfl rfl Try.func19 (by kernel_rfl) rfl #[.int .i64 t213, .slice Ao9 t214.length co9] rfl (by (try simp only [List.map_toArray, List.map_cons, List.map_nil]); first | done | rfl | (simp only [List.length_drop, List.length_take]; rfl)) ?_; (with_reducible refine (impl_PricesOf.calls k t213 _ _ t214 t217 t218 _ ?side1 ?side2 A5.out).mono ?_); (case side1 => repeat (first | exact (Kd.R_reads' HO216.out).2.2 | (with_reducible refine Kd.C_alloc ?_ _) | (with_reducible refine Kd.C_drewN ?_ _) | (with_reducible refine Kd.C_drew ?_))); (case side2 => exact (Kd.R_reads' HO216.out).2.1); rintro e w10 ⟨v219, rfl, ho0, hb⟩; refine ⟨_, rfl, ?_⟩; have n0_ := Aside0.mk (Kd.R_elder' (by (with_reducible repeat (first | apply Kd.R_alloc | apply Kd.R_drewN | apply Kd.R_drew)); exact HO216.out) (Kd.R_base ho0) hb); have n1_ := Aside0.mk (Kd.R_lower (Kd.R_new' ho0 (Kd.R_lt (by (with_reducible repeat (first | apply Kd.R_alloc | apply Kd.R_drewN | apply Kd.R_drew)); exact HO216.out))) (below_size (by repeat (first | (with_reducible first | exact HB.out | apply below_alloc | apply pw_below_drewN | apply below_drew1) | exact HB.out)))); have n2_ := Aside0.mk (below_step (by repeat (first | (with_reducible first | exact HB.out | apply below_alloc | apply pw_below_drewN | apply below_drew1) | exact HB.out)) hb); clear HO216; clear HB; have HO216 := n0_; have HO220 := n1_; have HB := n2_; clear n0_ n1_ n2_; (try clear hb); (try clear hb2); (try clear hk); (try clear hi); (try clear ho0)) | ((with_reducible refine gate_callee (f := 20) rfl ?_); refine goesL_ (some 55) rfl rfl Try.func20 (by kernel_rfl) rfl #[.int .i64 t213, .slice Ao9 t214.length co9] rfl (by (try simp only [List.map_toArray, List.map_cons, List.map_nil]); first | done | rfl | (simp only [List.length_drop, List.length_take]; rfl)) ?_; (with_reducible refine (spec_PricesOf.calls k t213 _ _ t214 t221 t222 _ ?side1 ?side2 A6.out).mono ?_); (case side1 => repeat (first | exact (Kd.R_reads' HO216.out).2.2 | (with_reducible refine Kd.C_alloc ?_ _) | (with_reducible refine Kd.C_drewN ?_ _) | (with_reducible refine Kd.C_drew ?_))); (case side2 => exact (Kd.R_reads' HO216.out).2.1); rintro e w11 ⟨v223, rfl, ho0, hb⟩; refine ⟨_, rfl, ?_⟩; have n0_ := Aside0.mk (Kd.R_elder' (by (with_reducible repeat (first | apply Kd.R_alloc | apply Kd.R_drewN | apply Kd.R_drew)); exact HO216.out) (Kd.R_base ho0) hb); have n1_ := Aside0.mk (Kd.R_elder' (by (with_reducible repeat (first | apply Kd.R_alloc | apply Kd.R_drewN | apply Kd.R_drew)); exact HO220.out) (Kd.R_base ho0) hb); have n2_ := Aside0.mk (Kd.R_lower (Kd.R_new' (Kd.R_new' ho0 (Kd.R_lt (by (with_reducible repeat (first | apply Kd.R_alloc | apply Kd.R_drewN | apply Kd.R_drew)); exact HO216.out))) (Kd.R_lt (by (with_reducible repeat (first | apply Kd.R_alloc | apply Kd.R_drewN | apply Kd.R_drew)); exact HO220.out))) (below_size (by repeat (first | (with_reducible first | exact HB.out | apply below_alloc | apply pw_below_drewN | apply below_drew1) | exact HB.out)))); have n3_ := Aside0.mk (below_step (by repeat (first | (with_reducible first | exact HB.out | apply below_alloc | apply pw_below_drewN | apply below_drew1) | exact HB.out)) hb); clear HO216; clear HO220; clear HB; have HO216 := n0_; have HO220 := n1_; have HO224 := n2_; have HB := n3_; clear n0_ n1_ n2_ n3_; (try clear hb); (try clear hb2); (try clear hk); (try clear hi); (try clear ho0)))
  (try simp only [Act.put, List.setIfInBounds_toArray, List.set_cons_zero, List.set_cons_succ])
  go_cut [66] (fun v66 wc => ∃ (kq : Nat) (x66_6 : Bool), v66 = .bool x66_6 ∧ Aside0 (laws_FnPrices.j0 kq l1 t213 t214 t217 t218 x66_6 = some r) ∧ Aside0 (kq ≤ k) ∧ Aside0 (Kd.R (Kd.int .i64) 3 wc w.heap.size (fun k_ => some k_ ≠ (v219 : Value).ownBlock) (.slice Ao9 t214.length co9) t214) ∧ Aside0 (Kd.R (Kd.int .i64) 3 wc w.heap.size (fun k_ => some k_ ≠ ((.slice Ao9 t214.length co9) : Value).ownBlock) v219 t217) ∧ Aside0 (Below w.heap.size w wc))
  case first =>
   have H := HC7.out
   clear HC7
   by_cases c12 : (t218 != t222) = true
   ·rw [if_pos c12] at H
    have c12b0 : (t218 != t222) = true := c12
    (try (have c12b1 : decide (t218 = t222) = false := by simpa using c12))
    (try (have c12b2 : (t218 == t222) = false := by simpa using c12))
    (try (have c12b3 : ¬ (t218 = t222) := by simpa using c12))
    clear c12
    (first | rw [c12b0] | (simp only [i64_w, i32_w]; rw [c12b0]) | skip)
    as_aux_lemma =>
     have H' := Aside0.mk H
     clear H
     go_wp2
     go_meet
     case rel => exact ⟨_, (true), (by first | rfl | (simp; done) | (simp [*]; done)), H', ⟨by first | omega | exact Nat.le_refl _⟩, ⟨by (with_reducible repeat (first | apply Kd.R_alloc | apply Kd.R_drewN | apply Kd.R_drew)); exact Kd.R_mono HO216.out (fun _ hk => hk.1.2)⟩, ⟨by (with_reducible repeat (first | apply Kd.R_alloc | apply Kd.R_drewN | apply Kd.R_drew)); exact Kd.R_mono HO220.out (fun _ hk => hk.1.2)⟩, ⟨by repeat (first | (with_reducible first | exact HB.out | apply below_alloc | apply pw_below_drewN | apply below_drew1) | exact HB.out)⟩⟩
   ·rw [if_neg c12] at H
    have c12b0 : (t218 != t222) = false := by simpa using c12
    (try (have c12b1 : decide (t218 = t222) = true := by simpa using c12))
    (try (have c12b2 : (t218 == t222) = true := by simpa using c12))
    clear c12
    (first | rw [c12b0] | (simp only [i64_w, i32_w]; rw [c12b0]) | skip)
    replace H := Option.bind_eq_some_iff.mp H
    obtain ⟨t225, A130, H⟩ := H
    have A13 := Aside0.mk A130
    clear A130
    as_aux_lemma =>
     have H' := Aside0.mk H
     clear H
     obtain ⟨Ao14, co14, eo14⟩ := Kd.R_slice HO220.out
     subst eo14
     obtain ⟨Ao15, co15, eo15⟩ := Kd.R_slice HO224.out
     subst eo15
     go_wp2_with (first | (go_at_call 21; (with_reducible refine (laws_sameInts.calls k _ _ t217 _ _ t221 t225 _ ?side1 ?side2 ?side3 ?side4 A13.out).mono ?_); (case side1 => repeat (first | exact (Kd.R_reads' HO220.out).2.2 | (with_reducible refine Kd.C_alloc ?_ _) | (with_reducible refine Kd.C_drewN ?_ _) | (with_reducible refine Kd.C_drew ?_))); (case side2 => exact (Kd.R_reads' HO220.out).2.1); (case side3 => repeat (first | exact (Kd.R_reads' HO224.out).2.2 | (with_reducible refine Kd.C_alloc ?_ _) | (with_reducible refine Kd.C_drewN ?_ _) | (with_reducible refine Kd.C_drew ?_))); (case side4 => exact (Kd.R_reads' HO224.out).2.1); rintro e w' ⟨rfl, ⟨nd, rfl⟩⟩))
     go_meet
     case rel => exact ⟨_, (!t225), (by first | rfl | (simp; done) | (simp [*]; done)), H', ⟨by first | omega | exact Nat.le_refl _⟩, ⟨by (with_reducible repeat (first | apply Kd.R_alloc | apply Kd.R_drewN | apply Kd.R_drew)); exact Kd.R_mono HO216.out (fun _ hk => hk.1.2)⟩, ⟨by (with_reducible repeat (first | apply Kd.R_alloc | apply Kd.R_drewN | apply Kd.R_drew)); exact Kd.R_mono HO220.out (fun _ hk => hk.1.2)⟩, ⟨by repeat (first | (with_reducible first | exact HB.out | apply below_alloc | apply pw_below_drewN | apply below_drew1) | exact HB.out)⟩⟩
  case rest =>
   clear HC7
   try clear c1
   try clear c2
   try clear p2
   try clear c3
   try clear c3b0
   try clear c4
   try clear p6
   try clear c12
   try clear c12b0
   try clear c12b1
   try clear c12b2
   obtain ⟨kq, x66_6, rfl, HA, HJ6, HO_6, HO_7, HB⟩ := hcut
   cases kq with
   | zero => exact absurd HA.out (by simp [laws_FnPrices.j0])
   | succ kj6 =>
    have H := HA.out
    clear HA
    simp only [laws_FnPrices.j0] at H
    by_cases c16 : x66_6 = true
    ·subst c16
     rw [if_pos rfl] at H
     exact absurd H (by simp)
    ·replace c16 := Bool.eq_false_iff.mpr c16
     subst c16
     rw [if_neg (show ¬ (false = true) by decide)] at H
     have HC17 := Aside0.mk H
     clear H
     go_upto_if 67 with (fail)
     go_cut [] (fun wc => ∃ (kq : Nat), Aside0 (laws_FnPrices.j5 kq l1 = some r) ∧ Aside0 (kq ≤ kj6) ∧ Aside0 (Below w.heap.size w wc))
     case first =>
      have H := HC17.out
      clear HC17
      by_cases c18 : t218 = true
      ·subst c18
       rw [if_pos rfl] at H
       have HC19 := Aside0.mk H
       clear H
       go_upto_region 9 with (fail)
       go_cut [80] (fun v80 wc => ∃ (kq : Nat) (x80_18 : Bool), v80 = .bool x80_18 ∧ Aside0 (laws_FnPrices.j1 kq l1 t213 t214 t217 x80_18 = some r) ∧ Aside0 (kq ≤ kj6) ∧ Aside0 (Kd.R (Kd.int .i64) 3 wc w.heap.size (fun k_ => some k_ ≠ (v219 : Value).ownBlock) (.slice Ao9 t214.length co9) t214) ∧ Aside0 (Kd.R (Kd.int .i64) 3 wc w.heap.size (fun k_ => some k_ ≠ ((.slice Ao9 t214.length co9) : Value).ownBlock) v219 t217) ∧ Aside0 (Below w.heap.size w wc))
       case first =>
        have H := HC19.out
        clear HC19
        by_cases c20 : (t217.length : Int) = (wrap64 ((t214.length : Int) + 1))
        ·rw [if_pos c20] at H
         have c20b0 : ((t217.length : Int) == (wrap64 ((t214.length : Int) + 1))) = true := beq_iff_eq.mpr c20
         have c20b1 : ((t217.length : Int) != (wrap64 ((t214.length : Int) + 1))) = false := bne_eq_false_iff_eq.mpr c20
         clear c20
         (first | rw [c20b0] | (simp only [i64_w, i32_w]; rw [c20b0]) | skip)
         by_cases c21 : 0 < (t217.length : Int)
         ·rw [if_pos c21] at H
          have c21b0 : decide (0 < (t217.length : Int)) = true := decide_eq_true c21
          have c21b1 : decide (0 < t217.length) = true := decide_eq_true (by omega)
          clear c21
          as_aux_lemma =>
           have H' := Aside0.mk H
           clear H
           obtain ⟨Ao22, co22, eo22⟩ := Kd.R_slice HO_7.out
           subst eo22
           have p226 : 0 ≤ (0 : Int) := (by omega)
           have q226 : 0 < (t217.length : Int) := of_decide_eq_true (by first | (with_reducible assumption) | assumption)
           obtain ⟨ad226, e226, hx226_0⟩ := Kd.at_int (Kd.R_reads' HO_7.out).2.2 0 p226 q226
           cases e226
           have qi226 : (0 < t217.length) = True := eq_true (by omega)
           (try rw [show ((0 : Int)).toNat = 0 from rfl] at hx226_0)
           (try rw [Addr.add_zero'] at hx226_0)
           replace p226 := eq_true p226
           replace q226 := eq_true q226
           go_wp2
           go_meet
           case rel => exact ⟨_, (((rd t217 0) != t213)), (by first | rfl | (simp; done) | (simp [*]; done)), H', ⟨by have := HJ6.out; first | omega | exact Nat.le_refl _⟩, ⟨by (with_reducible repeat (first | apply Kd.R_alloc | apply Kd.R_drewN | apply Kd.R_drew)); exact HO_6.out⟩, ⟨by (with_reducible repeat (first | apply Kd.R_alloc | apply Kd.R_drewN | apply Kd.R_drew)); exact HO_7.out⟩, ⟨by repeat (first | (with_reducible first | exact HB.out | apply below_alloc | apply pw_below_drewN | apply below_drew1) | exact HB.out)⟩⟩
         ·rw [if_neg c21] at H
          exact absurd H (by simp)
        ·rw [if_neg c20] at H
         have c20b0 : ((t217.length : Int) == (wrap64 ((t214.length : Int) + 1))) = false := beq_eq_false_iff_ne.mpr c20
         have c20b1 : ((t217.length : Int) != (wrap64 ((t214.length : Int) + 1))) = true := bne_iff_ne.mpr c20
         (first | rw [c20b0] | (simp only [i64_w, i32_w]; rw [c20b0]) | skip)
         as_aux_lemma =>
          have H' := Aside0.mk H
          clear H
          obtain ⟨Ao23, co23, eo23⟩ := Kd.R_slice HO_7.out
          subst eo23
          go_wp2
          go_meet
          case rel => exact ⟨_, (true), (by first | rfl | (simp; done) | (simp [*]; done)), H', ⟨by have := HJ6.out; first | omega | exact Nat.le_refl _⟩, ⟨by (with_reducible repeat (first | apply Kd.R_alloc | apply Kd.R_drewN | apply Kd.R_drew)); exact HO_6.out⟩, ⟨by (with_reducible repeat (first | apply Kd.R_alloc | apply Kd.R_drewN | apply Kd.R_drew)); exact HO_7.out⟩, ⟨by repeat (first | (with_reducible first | exact HB.out | apply below_alloc | apply pw_below_drewN | apply below_drew1) | exact HB.out)⟩⟩
       case rest =>
        clear HC19
        try clear c1
        try clear c2
        try clear p2
        try clear q2
        try clear hx2
        try clear qi2
        try clear c3
        try clear c3b0
        try clear c4
        try clear p6
        try clear c12
        try clear c12b0
        try clear c12b1
        try clear c12b2
        try clear c16
        try clear c18
        try clear c19
        try clear c20
        try clear c20b0
        try clear c20b1
        try clear c21
        try clear c21b0
        try clear c21b1
        try clear p22
        try clear q22
        try clear hx22
        try clear qi22
        try clear hx226_0
        try clear p2
        try clear p226
        try clear p6
        try clear q226
        obtain ⟨kq, x80_18, rfl, HA, HJ18, HO_6, HO_7, HB⟩ := hcut
        cases kq with
        | zero => exact absurd HA.out (by simp [laws_FnPrices.j1])
        | succ kj18 =>
         have H := HA.out
         clear HA
         simp only [laws_FnPrices.j1] at H
         by_cases c24 : x80_18 = true
         ·subst c24
          rw [if_pos rfl] at H
          exact absurd H (by simp)
         ·replace c24 := Bool.eq_false_iff.mpr c24
          subst c24
          rw [if_neg (show ¬ (false = true) by decide)] at H
          have H' := Aside0.mk H
          clear H
          go_wp2
          go_loopg [83] kj18 (fun kq v83 w' => ∃ (x83_3 : Int), v83 = .int .i64 x83_3 ∧ Aside0 (laws_FnPrices.l0 kq l1 t213 t214 t217 t214 (t214.length : Int) x83_3 = some r) ∧ Aside0 (kq ≤ kj18) ∧ Aside0 (Kd.R (Kd.int .i64) 3 w' w.heap.size (fun k_ => some k_ ≠ (v219 : Value).ownBlock) (.slice Ao9 t214.length co9) t214) ∧ Aside0 (Kd.R (Kd.int .i64) 3 w' w.heap.size (fun k_ => some k_ ≠ ((.slice Ao9 t214.length co9) : Value).ownBlock ∧ some k_ ≠ ((.slice Ao9 t214.length co9) : Value).ownBlock) v219 t217) ∧ Aside0 (Kd.R (Kd.int .i64) 3 w' w.heap.size (fun k_ => some k_ ≠ (v219 : Value).ownBlock) (.slice Ao9 t214.length co9) t214) ∧ Aside0 (Below w.heap.size w w'))
          case atStart => exact ⟨(0), (by first | rfl | (simp; done) | (simp [*]; done)), H', ⟨Nat.le_refl _⟩, ⟨by (with_reducible repeat (first | apply Kd.R_alloc | apply Kd.R_drewN | apply Kd.R_drew)); exact HO_6.out⟩, ⟨by (with_reducible repeat (first | apply Kd.R_alloc | apply Kd.R_drewN | apply Kd.R_drew)); exact Kd.R_mono HO_7.out (fun _ hk => ⟨hk, hk⟩)⟩, ⟨by (with_reducible repeat (first | apply Kd.R_alloc | apply Kd.R_drewN | apply Kd.R_drew)); exact HO_6.out⟩, ⟨by repeat (first | (with_reducible first | exact HB.out | apply below_alloc | apply pw_below_drewN | apply below_drew1) | exact HB.out)⟩⟩
          case round =>
           clear H'
           try clear c1
           try clear c2
           try clear p2
           try clear q2
           try clear hx2
           try clear qi2
           try clear c3
           try clear c3b0
           try clear c4
           try clear p6
           try clear c12
           try clear c12b0
           try clear c12b1
           try clear c12b2
           try clear c16
           try clear c18
           try clear c19
           try clear c20
           try clear c20b0
           try clear c20b1
           try clear c21
           try clear c21b0
           try clear c21b1
           try clear p22
           try clear q22
           try clear hx22
           try clear qi22
           try clear c24
           try clear hx226_0
           try clear p2
           try clear p22
           try clear p226
           try clear p6
           try clear q2
           try clear q22
           try clear q226
           obtain ⟨x83_3, rfl, HA, HK3, HO_6, HO_7, HO_81, HB⟩ := hrel
           cases gk with
           | zero => exact absurd HA.out (by simp [laws_FnPrices.l0])
           | succ k3 =>
            have H := HA.out
            clear HA
            simp only [laws_FnPrices.l0] at H
            by_cases c25 : x83_3 < (t214.length : Int)
            ·rw [if_pos c25] at H
             have c25b0 : decide (x83_3 < (t214.length : Int)) = true := decide_eq_true c25
             clear c25
             by_cases c26 : 0 ≤ x83_3
             ·rw [if_pos c26] at H
              have c26b0 : decide (0 ≤ x83_3) = true := decide_eq_true c26
              clear c26
              by_cases c27 : x83_3 < (t214.length : Int)
              ·rw [if_pos c27] at H
               have c27b0 : decide (x83_3 < (t214.length : Int)) = true := decide_eq_true c27
               clear c27
               by_cases c28 : x83_3 < (t217.length : Int)
               ·rw [if_pos c28] at H
                have c28b0 : decide (x83_3 < (t217.length : Int)) = true := decide_eq_true c28
                clear c28
                obtain ⟨ji29, hji29⟩ : ∃ j_ : Int, (wrap64 (x83_3 + 1)) = j_ := ⟨_, rfl⟩
                replace H : (if 0 ≤ (ji29) then (if (ji29) < (t217.length : Int) then (if (rd t214 x83_3) = 40 then (if (rd t217 (ji29)) = (rd t217 x83_3) then (if (rd t214 x83_3) > 40 then (if (rd t217 (ji29)) < (rd t217 x83_3) then (laws_FnPrices.j3 k3 l1 t213 t214 t217 t214 (t214.length : Int) x83_3 true) else (if (wrap64 (8 * (wrap64 ((rd t217 (ji29)) - (rd t217 x83_3))))) > (wrap64 ((rd t217 x83_3) + 8)) then (laws_FnPrices.j3 k3 l1 t213 t214 t217 t214 (t214.length : Int) x83_3 true) else (if (rd t214 x83_3) < 40 then (if (rd t217 (ji29)) > (rd t217 x83_3) then (laws_FnPrices.j3 k3 l1 t213 t214 t217 t214 (t214.length : Int) x83_3 true) else (laws_FnPrices.j3 k3 l1 t213 t214 t217 t214 (t214.length : Int) x83_3 (decide ((wrap64 (8 * (wrap64 ((rd t217 x83_3) - (rd t217 (ji29)))))) > (rd t217 x83_3))))) else (laws_FnPrices.j3 k3 l1 t213 t214 t217 t214 (t214.length : Int) x83_3 false)))) else (if (rd t214 x83_3) < 40 then (if (rd t217 (ji29)) > (rd t217 x83_3) then (laws_FnPrices.j3 k3 l1 t213 t214 t217 t214 (t214.length : Int) x83_3 true) else (laws_FnPrices.j3 k3 l1 t213 t214 t217 t214 (t214.length : Int) x83_3 (decide ((wrap64 (8 * (wrap64 ((rd t217 x83_3) - (rd t217 (ji29)))))) > (rd t217 x83_3))))) else (laws_FnPrices.j3 k3 l1 t213 t214 t217 t214 (t214.length : Int) x83_3 false))) else (laws_FnPrices.j3 k3 l1 t213 t214 t217 t214 (t214.length : Int) x83_3 true)) else (if (rd t214 x83_3) > 40 then (if (rd t217 (ji29)) < (rd t217 x83_3) then (laws_FnPrices.j3 k3 l1 t213 t214 t217 t214 (t214.length : Int) x83_3 true) else (if (wrap64 (8 * (wrap64 ((rd t217 (ji29)) - (rd t217 x83_3))))) > (wrap64 ((rd t217 x83_3) + 8)) then (laws_FnPrices.j3 k3 l1 t213 t214 t217 t214 (t214.length : Int) x83_3 true) else (if (rd t214 x83_3) < 40 then (if (rd t217 (ji29)) > (rd t217 x83_3) then (laws_FnPrices.j3 k3 l1 t213 t214 t217 t214 (t214.length : Int) x83_3 true) else (laws_FnPrices.j3 k3 l1 t213 t214 t217 t214 (t214.length : Int) x83_3 (decide ((wrap64 (8 * (wrap64 ((rd t217 x83_3) - (rd t217 (ji29)))))) > (rd t217 x83_3))))) else (laws_FnPrices.j3 k3 l1 t213 t214 t217 t214 (t214.length : Int) x83_3 false)))) else (if (rd t214 x83_3) < 40 then (if (rd t217 (ji29)) > (rd t217 x83_3) then (laws_FnPrices.j3 k3 l1 t213 t214 t217 t214 (t214.length : Int) x83_3 true) else (laws_FnPrices.j3 k3 l1 t213 t214 t217 t214 (t214.length : Int) x83_3 (decide ((wrap64 (8 * (wrap64 ((rd t217 x83_3) - (rd t217 (ji29)))))) > (rd t217 x83_3))))) else (laws_FnPrices.j3 k3 l1 t213 t214 t217 t214 (t214.length : Int) x83_3 false)))) else (none)) else (none)) = some r := by first | (rw [hji29] at H; exact H) | (simp only [hji29] at H ⊢; exact H)
                have hji29w : (IntKind.i64.wrap (x83_3 + 1)) = ji29 := (i64_w _).trans hji29
                by_cases c30 : 0 ≤ (ji29)
                ·rw [if_pos c30] at H
                 have c30b0 : decide (0 ≤ (ji29)) = true := decide_eq_true c30
                 clear c30
                 by_cases c31 : (ji29) < (t217.length : Int)
                 ·rw [if_pos c31] at H
                  have c31b0 : decide ((ji29) < (t217.length : Int)) = true := decide_eq_true c31
                  clear c31
                  have HC32 := Aside0.mk H
                  clear H
                  have p227 : 0 ≤ (x83_3 : Int) := of_decide_eq_true (by first | (with_reducible assumption) | assumption)
                  have q227 : x83_3 < (t214.length : Int) := of_decide_eq_true (by first | (with_reducible assumption) | assumption)
                  obtain ⟨ad227, e227, hx227_0⟩ := Kd.at_int (Kd.R_reads' HO_81.out).2.2 x83_3 p227 q227
                  cases e227
                  replace p227 := eq_true p227
                  replace q227 := eq_true q227
                  obtain ⟨Ao33, co33, eo33⟩ := Kd.R_slice HO_7.out
                  subst eo33
                  have p228 : 0 ≤ (x83_3 : Int) := of_decide_eq_true (by first | (with_reducible assumption) | assumption)
                  have q228 : x83_3 < (t217.length : Int) := of_decide_eq_true (by first | (with_reducible assumption) | assumption)
                  obtain ⟨ad228, e228, hx228_0⟩ := Kd.at_int (Kd.R_reads' HO_7.out).2.2 x83_3 p228 q228
                  cases e228
                  replace p228 := eq_true p228
                  replace q228 := eq_true q228
                  have p229 : 0 ≤ ((ji29) : Int) := of_decide_eq_true (by first | (with_reducible assumption) | assumption)
                  have q229 : (ji29) < (t217.length : Int) := of_decide_eq_true (by first | (with_reducible assumption) | assumption)
                  obtain ⟨ad229, e229, hx229_0⟩ := Kd.at_int (Kd.R_reads' HO_7.out).2.2 (ji29) p229 q229
                  obtain rfl : ad228 = ad229 := (by injection e229)
                  replace p229 := eq_true p229
                  replace q229 := eq_true q229
                  go_upto_region 16 with (fail)
                  go_cut [138] (fun v138 wc => ∃ (kq : Nat) (x138_31 : Bool), v138 = .bool x138_31 ∧ Aside0 (laws_FnPrices.j3 kq l1 t213 t214 t217 t214 (t214.length : Int) x83_3 x138_31 = some r) ∧ Aside0 (kq ≤ k3) ∧ Aside0 (Kd.R (Kd.int .i64) 3 wc w.heap.size (fun k_ => some k_ ≠ ((.slice (some ad228) t217.length co33) : Value).ownBlock) (.slice (some ad227) t214.length co9) t214) ∧ Aside0 (Kd.R (Kd.int .i64) 3 wc w.heap.size (fun k_ => some k_ ≠ ((.slice (some ad227) t214.length co9) : Value).ownBlock ∧ some k_ ≠ ((.slice (some ad227) t214.length co9) : Value).ownBlock) (.slice (some ad228) t217.length co33) t217) ∧ Aside0 (Kd.R (Kd.int .i64) 3 wc w.heap.size (fun k_ => some k_ ≠ ((.slice (some ad228) t217.length co33) : Value).ownBlock) (.slice (some ad227) t214.length co9) t214) ∧ Aside0 (Below w.heap.size w wc))
                  case first =>
                   have H := HC32.out
                   clear HC32
                   by_cases c34 : (rd t214 x83_3) = 40
                   ·rw [if_pos c34] at H
                    have c34b0 : ((rd t214 x83_3) == 40) = true := beq_iff_eq.mpr c34
                    have c34b1 : ((rd t214 x83_3) != 40) = false := bne_eq_false_iff_eq.mpr c34
                    clear c34
                    (first | rw [c34b0] | (simp only [i64_w, i32_w]; rw [c34b0]) | skip)
                    by_cases c35 : (rd t217 (ji29)) = (rd t217 x83_3)
                    ·rw [if_pos c35] at H
                     have c35b0 : ((rd t217 (ji29)) == (rd t217 x83_3)) = true := beq_iff_eq.mpr c35
                     have c35b1 : ((rd t217 (ji29)) != (rd t217 x83_3)) = false := bne_eq_false_iff_eq.mpr c35
                     clear c35
                     by_cases c36 : (rd t214 x83_3) > 40
                     ·rw [if_pos c36] at H
                      have c36b0 : decide (40 < (rd t214 x83_3)) = true := decide_eq_true c36
                      clear c36
                      by_cases c37 : (rd t217 (ji29)) < (rd t217 x83_3)
                      ·rw [if_pos c37] at H
                       have c37b0 : decide ((rd t217 (ji29)) < (rd t217 x83_3)) = true := decide_eq_true c37
                       clear c37
                       as_aux_lemma =>
                        have H' := Aside0.mk H
                        clear H
                        go_wp2
                        go_meet
                        case rel => exact ⟨_, (true), (by first | rfl | (simp; done) | (simp [*]; done)), H', ⟨by have := HJ6.out; have := HJ18.out; have := HK3.out; first | omega | exact Nat.le_refl _⟩, ⟨by (with_reducible repeat (first | apply Kd.R_alloc | apply Kd.R_drewN | apply Kd.R_drew)); exact HO_6.out⟩, ⟨by (with_reducible repeat (first | apply Kd.R_alloc | apply Kd.R_drewN | apply Kd.R_drew)); exact HO_7.out⟩, ⟨by (with_reducible repeat (first | apply Kd.R_alloc | apply Kd.R_drewN | apply Kd.R_drew)); exact HO_81.out⟩, ⟨by repeat (first | (with_reducible first | exact HB.out | apply below_alloc | apply pw_below_drewN | apply below_drew1) | exact HB.out)⟩⟩
                      ·rw [if_neg c37] at H
                       have c37b0 : decide ((rd t217 (ji29)) < (rd t217 x83_3)) = false := decide_eq_false c37
                       clear c37
                       by_cases c38 : (wrap64 (8 * (wrap64 ((rd t217 (ji29)) - (rd t217 x83_3))))) > (wrap64 ((rd t217 x83_3) + 8))
                       ·rw [if_pos c38] at H
                        have c38b0 : decide ((wrap64 ((rd t217 x83_3) + 8)) < (wrap64 (8 * (wrap64 ((rd t217 (ji29)) - (rd t217 x83_3)))))) = true := decide_eq_true c38
                        clear c38
                        as_aux_lemma =>
                         have H' := Aside0.mk H
                         clear H
                         go_wp2
                         go_meet
                         case rel => exact ⟨_, (true), (by first | rfl | (simp; done) | (simp [*]; done)), H', ⟨by have := HJ6.out; have := HJ18.out; have := HK3.out; first | omega | exact Nat.le_refl _⟩, ⟨by (with_reducible repeat (first | apply Kd.R_alloc | apply Kd.R_drewN | apply Kd.R_drew)); exact HO_6.out⟩, ⟨by (with_reducible repeat (first | apply Kd.R_alloc | apply Kd.R_drewN | apply Kd.R_drew)); exact HO_7.out⟩, ⟨by (with_reducible repeat (first | apply Kd.R_alloc | apply Kd.R_drewN | apply Kd.R_drew)); exact HO_81.out⟩, ⟨by repeat (first | (with_reducible first | exact HB.out | apply below_alloc | apply pw_below_drewN | apply below_drew1) | exact HB.out)⟩⟩
                       ·rw [if_neg c38] at H
                        have c38b0 : decide ((wrap64 ((rd t217 x83_3) + 8)) < (wrap64 (8 * (wrap64 ((rd t217 (ji29)) - (rd t217 x83_3)))))) = false := decide_eq_false c38
                        clear c38
                        by_cases c39 : (rd t214 x83_3) < 40
                        ·rw [if_pos c39] at H
                         have c39b0 : decide ((rd t214 x83_3) < 40) = true := decide_eq_true c39
                         clear c39
                         by_cases c40 : (rd t217 (ji29)) > (rd t217 x83_3)
                         ·rw [if_pos c40] at H
                          have c40b0 : decide ((rd t217 x83_3) < (rd t217 (ji29))) = true := decide_eq_true c40
                          clear c40
                          as_aux_lemma =>
                           have H' := Aside0.mk H
                           clear H
                           go_wp2
                           go_meet
                           case rel => exact ⟨_, (true), (by first | rfl | (simp; done) | (simp [*]; done)), H', ⟨by have := HJ6.out; have := HJ18.out; have := HK3.out; first | omega | exact Nat.le_refl _⟩, ⟨by (with_reducible repeat (first | apply Kd.R_alloc | apply Kd.R_drewN | apply Kd.R_drew)); exact HO_6.out⟩, ⟨by (with_reducible repeat (first | apply Kd.R_alloc | apply Kd.R_drewN | apply Kd.R_drew)); exact HO_7.out⟩, ⟨by (with_reducible repeat (first | apply Kd.R_alloc | apply Kd.R_drewN | apply Kd.R_drew)); exact HO_81.out⟩, ⟨by repeat (first | (with_reducible first | exact HB.out | apply below_alloc | apply pw_below_drewN | apply below_drew1) | exact HB.out)⟩⟩
                         ·rw [if_neg c40] at H
                          have c40b0 : decide ((rd t217 x83_3) < (rd t217 (ji29))) = false := decide_eq_false c40
                          clear c40
                          as_aux_lemma =>
                           have H' := Aside0.mk H
                           clear H
                           go_wp2
                           go_meet
                           case rel => exact ⟨_, (decide ((wrap64 (8 * (wrap64 ((rd t217 x83_3) - (rd t217 (ji29)))))) > (rd t217 x83_3))), (by first | rfl | (simp; done) | (simp only [← hji29] <;> (first | rfl | simp)) | (simp [*]; done)), H', ⟨by have := HJ6.out; have := HJ18.out; have := HK3.out; first | omega | exact Nat.le_refl _⟩, ⟨by (with_reducible repeat (first | apply Kd.R_alloc | apply Kd.R_drewN | apply Kd.R_drew)); exact HO_6.out⟩, ⟨by (with_reducible repeat (first | apply Kd.R_alloc | apply Kd.R_drewN | apply Kd.R_drew)); exact HO_7.out⟩, ⟨by (with_reducible repeat (first | apply Kd.R_alloc | apply Kd.R_drewN | apply Kd.R_drew)); exact HO_81.out⟩, ⟨by repeat (first | (with_reducible first | exact HB.out | apply below_alloc | apply pw_below_drewN | apply below_drew1) | exact HB.out)⟩⟩
                        ·rw [if_neg c39] at H
                         have c39b0 : decide ((rd t214 x83_3) < 40) = false := decide_eq_false c39
                         clear c39
                         as_aux_lemma =>
                          have H' := Aside0.mk H
                          clear H
                          go_wp2
                          go_meet
                          case rel => exact ⟨_, (false), (by first | rfl | (simp; done) | (simp [*]; done)), H', ⟨by have := HJ6.out; have := HJ18.out; have := HK3.out; first | omega | exact Nat.le_refl _⟩, ⟨by (with_reducible repeat (first | apply Kd.R_alloc | apply Kd.R_drewN | apply Kd.R_drew)); exact HO_6.out⟩, ⟨by (with_reducible repeat (first | apply Kd.R_alloc | apply Kd.R_drewN | apply Kd.R_drew)); exact HO_7.out⟩, ⟨by (with_reducible repeat (first | apply Kd.R_alloc | apply Kd.R_drewN | apply Kd.R_drew)); exact HO_81.out⟩, ⟨by repeat (first | (with_reducible first | exact HB.out | apply below_alloc | apply pw_below_drewN | apply below_drew1) | exact HB.out)⟩⟩
                     ·rw [if_neg c36] at H
                      have c36b0 : decide (40 < (rd t214 x83_3)) = false := decide_eq_false c36
                      clear c36
                      by_cases c41 : (rd t214 x83_3) < 40
                      ·rw [if_pos c41] at H
                       have c41b0 : decide ((rd t214 x83_3) < 40) = true := decide_eq_true c41
                       clear c41
                       by_cases c42 : (rd t217 (ji29)) > (rd t217 x83_3)
                       ·rw [if_pos c42] at H
                        have c42b0 : decide ((rd t217 x83_3) < (rd t217 (ji29))) = true := decide_eq_true c42
                        clear c42
                        as_aux_lemma =>
                         have H' := Aside0.mk H
                         clear H
                         go_wp2
                         go_meet
                         case rel => exact ⟨_, (true), (by first | rfl | (simp; done) | (simp [*]; done)), H', ⟨by have := HJ6.out; have := HJ18.out; have := HK3.out; first | omega | exact Nat.le_refl _⟩, ⟨by (with_reducible repeat (first | apply Kd.R_alloc | apply Kd.R_drewN | apply Kd.R_drew)); exact HO_6.out⟩, ⟨by (with_reducible repeat (first | apply Kd.R_alloc | apply Kd.R_drewN | apply Kd.R_drew)); exact HO_7.out⟩, ⟨by (with_reducible repeat (first | apply Kd.R_alloc | apply Kd.R_drewN | apply Kd.R_drew)); exact HO_81.out⟩, ⟨by repeat (first | (with_reducible first | exact HB.out | apply below_alloc | apply pw_below_drewN | apply below_drew1) | exact HB.out)⟩⟩
                       ·rw [if_neg c42] at H
                        have c42b0 : decide ((rd t217 x83_3) < (rd t217 (ji29))) = false := decide_eq_false c42
                        clear c42
                        as_aux_lemma =>
                         have H' := Aside0.mk H
                         clear H
                         go_wp2
                         go_meet
                         case rel => exact ⟨_, (decide ((wrap64 (8 * (wrap64 ((rd t217 x83_3) - (rd t217 (ji29)))))) > (rd t217 x83_3))), (by first | rfl | (simp; done) | (simp only [← hji29] <;> (first | rfl | simp)) | (simp [*]; done)), H', ⟨by have := HJ6.out; have := HJ18.out; have := HK3.out; first | omega | exact Nat.le_refl _⟩, ⟨by (with_reducible repeat (first | apply Kd.R_alloc | apply Kd.R_drewN | apply Kd.R_drew)); exact HO_6.out⟩, ⟨by (with_reducible repeat (first | apply Kd.R_alloc | apply Kd.R_drewN | apply Kd.R_drew)); exact HO_7.out⟩, ⟨by (with_reducible repeat (first | apply Kd.R_alloc | apply Kd.R_drewN | apply Kd.R_drew)); exact HO_81.out⟩, ⟨by repeat (first | (with_reducible first | exact HB.out | apply below_alloc | apply pw_below_drewN | apply below_drew1) | exact HB.out)⟩⟩
                      ·rw [if_neg c41] at H
                       have c41b0 : decide ((rd t214 x83_3) < 40) = false := decide_eq_false c41
                       clear c41
                       as_aux_lemma =>
                        have H' := Aside0.mk H
                        clear H
                        go_wp2
                        go_meet
                        case rel => exact ⟨_, (false), (by first | rfl | (simp; done) | (simp [*]; done)), H', ⟨by have := HJ6.out; have := HJ18.out; have := HK3.out; first | omega | exact Nat.le_refl _⟩, ⟨by (with_reducible repeat (first | apply Kd.R_alloc | apply Kd.R_drewN | apply Kd.R_drew)); exact HO_6.out⟩, ⟨by (with_reducible repeat (first | apply Kd.R_alloc | apply Kd.R_drewN | apply Kd.R_drew)); exact HO_7.out⟩, ⟨by (with_reducible repeat (first | apply Kd.R_alloc | apply Kd.R_drewN | apply Kd.R_drew)); exact HO_81.out⟩, ⟨by repeat (first | (with_reducible first | exact HB.out | apply below_alloc | apply pw_below_drewN | apply below_drew1) | exact HB.out)⟩⟩
                    ·rw [if_neg c35] at H
                     have c35b0 : ((rd t217 (ji29)) == (rd t217 x83_3)) = false := beq_eq_false_iff_ne.mpr c35
                     have c35b1 : ((rd t217 (ji29)) != (rd t217 x83_3)) = true := bne_iff_ne.mpr c35
                     as_aux_lemma =>
                      have H' := Aside0.mk H
                      clear H
                      go_wp2
                      go_meet
                      case rel => exact ⟨_, (true), (by first | rfl | (simp; done) | (simp [*]; done)), H', ⟨by have := HJ6.out; have := HJ18.out; have := HK3.out; first | omega | exact Nat.le_refl _⟩, ⟨by (with_reducible repeat (first | apply Kd.R_alloc | apply Kd.R_drewN | apply Kd.R_drew)); exact HO_6.out⟩, ⟨by (with_reducible repeat (first | apply Kd.R_alloc | apply Kd.R_drewN | apply Kd.R_drew)); exact HO_7.out⟩, ⟨by (with_reducible repeat (first | apply Kd.R_alloc | apply Kd.R_drewN | apply Kd.R_drew)); exact HO_81.out⟩, ⟨by repeat (first | (with_reducible first | exact HB.out | apply below_alloc | apply pw_below_drewN | apply below_drew1) | exact HB.out)⟩⟩
                   ·rw [if_neg c34] at H
                    have c34b0 : ((rd t214 x83_3) == 40) = false := beq_eq_false_iff_ne.mpr c34
                    have c34b1 : ((rd t214 x83_3) != 40) = true := bne_iff_ne.mpr c34
                    (first | rw [c34b0] | (simp only [i64_w, i32_w]; rw [c34b0]) | skip)
                    by_cases c43 : (rd t214 x83_3) > 40
                    ·rw [if_pos c43] at H
                     have c43b0 : decide (40 < (rd t214 x83_3)) = true := decide_eq_true c43
                     clear c43
                     by_cases c44 : (rd t217 (ji29)) < (rd t217 x83_3)
                     ·rw [if_pos c44] at H
                      have c44b0 : decide ((rd t217 (ji29)) < (rd t217 x83_3)) = true := decide_eq_true c44
                      clear c44
                      as_aux_lemma =>
                       have H' := Aside0.mk H
                       clear H
                       go_wp2
                       go_meet
                       case rel => exact ⟨_, (true), (by first | rfl | (simp; done) | (simp [*]; done)), H', ⟨by have := HJ6.out; have := HJ18.out; have := HK3.out; first | omega | exact Nat.le_refl _⟩, ⟨by (with_reducible repeat (first | apply Kd.R_alloc | apply Kd.R_drewN | apply Kd.R_drew)); exact HO_6.out⟩, ⟨by (with_reducible repeat (first | apply Kd.R_alloc | apply Kd.R_drewN | apply Kd.R_drew)); exact HO_7.out⟩, ⟨by (with_reducible repeat (first | apply Kd.R_alloc | apply Kd.R_drewN | apply Kd.R_drew)); exact HO_81.out⟩, ⟨by repeat (first | (with_reducible first | exact HB.out | apply below_alloc | apply pw_below_drewN | apply below_drew1) | exact HB.out)⟩⟩
                     ·rw [if_neg c44] at H
                      have c44b0 : decide ((rd t217 (ji29)) < (rd t217 x83_3)) = false := decide_eq_false c44
                      clear c44
                      by_cases c45 : (wrap64 (8 * (wrap64 ((rd t217 (ji29)) - (rd t217 x83_3))))) > (wrap64 ((rd t217 x83_3) + 8))
                      ·rw [if_pos c45] at H
                       have c45b0 : decide ((wrap64 ((rd t217 x83_3) + 8)) < (wrap64 (8 * (wrap64 ((rd t217 (ji29)) - (rd t217 x83_3)))))) = true := decide_eq_true c45
                       clear c45
                       as_aux_lemma =>
                        have H' := Aside0.mk H
                        clear H
                        go_wp2
                        go_meet
                        case rel => exact ⟨_, (true), (by first | rfl | (simp; done) | (simp [*]; done)), H', ⟨by have := HJ6.out; have := HJ18.out; have := HK3.out; first | omega | exact Nat.le_refl _⟩, ⟨by (with_reducible repeat (first | apply Kd.R_alloc | apply Kd.R_drewN | apply Kd.R_drew)); exact HO_6.out⟩, ⟨by (with_reducible repeat (first | apply Kd.R_alloc | apply Kd.R_drewN | apply Kd.R_drew)); exact HO_7.out⟩, ⟨by (with_reducible repeat (first | apply Kd.R_alloc | apply Kd.R_drewN | apply Kd.R_drew)); exact HO_81.out⟩, ⟨by repeat (first | (with_reducible first | exact HB.out | apply below_alloc | apply pw_below_drewN | apply below_drew1) | exact HB.out)⟩⟩
                      ·rw [if_neg c45] at H
                       have c45b0 : decide ((wrap64 ((rd t217 x83_3) + 8)) < (wrap64 (8 * (wrap64 ((rd t217 (ji29)) - (rd t217 x83_3)))))) = false := decide_eq_false c45
                       clear c45
                       by_cases c46 : (rd t214 x83_3) < 40
                       ·rw [if_pos c46] at H
                        have c46b0 : decide ((rd t214 x83_3) < 40) = true := decide_eq_true c46
                        clear c46
                        by_cases c47 : (rd t217 (ji29)) > (rd t217 x83_3)
                        ·rw [if_pos c47] at H
                         have c47b0 : decide ((rd t217 x83_3) < (rd t217 (ji29))) = true := decide_eq_true c47
                         clear c47
                         as_aux_lemma =>
                          have H' := Aside0.mk H
                          clear H
                          go_wp2
                          go_meet
                          case rel => exact ⟨_, (true), (by first | rfl | (simp; done) | (simp [*]; done)), H', ⟨by have := HJ6.out; have := HJ18.out; have := HK3.out; first | omega | exact Nat.le_refl _⟩, ⟨by (with_reducible repeat (first | apply Kd.R_alloc | apply Kd.R_drewN | apply Kd.R_drew)); exact HO_6.out⟩, ⟨by (with_reducible repeat (first | apply Kd.R_alloc | apply Kd.R_drewN | apply Kd.R_drew)); exact HO_7.out⟩, ⟨by (with_reducible repeat (first | apply Kd.R_alloc | apply Kd.R_drewN | apply Kd.R_drew)); exact HO_81.out⟩, ⟨by repeat (first | (with_reducible first | exact HB.out | apply below_alloc | apply pw_below_drewN | apply below_drew1) | exact HB.out)⟩⟩
                        ·rw [if_neg c47] at H
                         have c47b0 : decide ((rd t217 x83_3) < (rd t217 (ji29))) = false := decide_eq_false c47
                         clear c47
                         as_aux_lemma =>
                          have H' := Aside0.mk H
                          clear H
                          go_wp2
                          go_meet
                          case rel => exact ⟨_, (decide ((wrap64 (8 * (wrap64 ((rd t217 x83_3) - (rd t217 (ji29)))))) > (rd t217 x83_3))), (by first | rfl | (simp; done) | (simp only [← hji29] <;> (first | rfl | simp)) | (simp [*]; done)), H', ⟨by have := HJ6.out; have := HJ18.out; have := HK3.out; first | omega | exact Nat.le_refl _⟩, ⟨by (with_reducible repeat (first | apply Kd.R_alloc | apply Kd.R_drewN | apply Kd.R_drew)); exact HO_6.out⟩, ⟨by (with_reducible repeat (first | apply Kd.R_alloc | apply Kd.R_drewN | apply Kd.R_drew)); exact HO_7.out⟩, ⟨by (with_reducible repeat (first | apply Kd.R_alloc | apply Kd.R_drewN | apply Kd.R_drew)); exact HO_81.out⟩, ⟨by repeat (first | (with_reducible first | exact HB.out | apply below_alloc | apply pw_below_drewN | apply below_drew1) | exact HB.out)⟩⟩
                       ·rw [if_neg c46] at H
                        have c46b0 : decide ((rd t214 x83_3) < 40) = false := decide_eq_false c46
                        clear c46
                        as_aux_lemma =>
                         have H' := Aside0.mk H
                         clear H
                         go_wp2
                         go_meet
                         case rel => exact ⟨_, (false), (by first | rfl | (simp; done) | (simp [*]; done)), H', ⟨by have := HJ6.out; have := HJ18.out; have := HK3.out; first | omega | exact Nat.le_refl _⟩, ⟨by (with_reducible repeat (first | apply Kd.R_alloc | apply Kd.R_drewN | apply Kd.R_drew)); exact HO_6.out⟩, ⟨by (with_reducible repeat (first | apply Kd.R_alloc | apply Kd.R_drewN | apply Kd.R_drew)); exact HO_7.out⟩, ⟨by (with_reducible repeat (first | apply Kd.R_alloc | apply Kd.R_drewN | apply Kd.R_drew)); exact HO_81.out⟩, ⟨by repeat (first | (with_reducible first | exact HB.out | apply below_alloc | apply pw_below_drewN | apply below_drew1) | exact HB.out)⟩⟩
                    ·rw [if_neg c43] at H
                     have c43b0 : decide (40 < (rd t214 x83_3)) = false := decide_eq_false c43
                     clear c43
                     by_cases c48 : (rd t214 x83_3) < 40
                     ·rw [if_pos c48] at H
                      have c48b0 : decide ((rd t214 x83_3) < 40) = true := decide_eq_true c48
                      clear c48
                      by_cases c49 : (rd t217 (ji29)) > (rd t217 x83_3)
                      ·rw [if_pos c49] at H
                       have c49b0 : decide ((rd t217 x83_3) < (rd t217 (ji29))) = true := decide_eq_true c49
                       clear c49
                       as_aux_lemma =>
                        have H' := Aside0.mk H
                        clear H
                        go_wp2
                        go_meet
                        case rel => exact ⟨_, (true), (by first | rfl | (simp; done) | (simp [*]; done)), H', ⟨by have := HJ6.out; have := HJ18.out; have := HK3.out; first | omega | exact Nat.le_refl _⟩, ⟨by (with_reducible repeat (first | apply Kd.R_alloc | apply Kd.R_drewN | apply Kd.R_drew)); exact HO_6.out⟩, ⟨by (with_reducible repeat (first | apply Kd.R_alloc | apply Kd.R_drewN | apply Kd.R_drew)); exact HO_7.out⟩, ⟨by (with_reducible repeat (first | apply Kd.R_alloc | apply Kd.R_drewN | apply Kd.R_drew)); exact HO_81.out⟩, ⟨by repeat (first | (with_reducible first | exact HB.out | apply below_alloc | apply pw_below_drewN | apply below_drew1) | exact HB.out)⟩⟩
                      ·rw [if_neg c49] at H
                       have c49b0 : decide ((rd t217 x83_3) < (rd t217 (ji29))) = false := decide_eq_false c49
                       clear c49
                       as_aux_lemma =>
                        have H' := Aside0.mk H
                        clear H
                        go_wp2
                        go_meet
                        case rel => exact ⟨_, (decide ((wrap64 (8 * (wrap64 ((rd t217 x83_3) - (rd t217 (ji29)))))) > (rd t217 x83_3))), (by first | rfl | (simp; done) | (simp only [← hji29] <;> (first | rfl | simp)) | (simp [*]; done)), H', ⟨by have := HJ6.out; have := HJ18.out; have := HK3.out; first | omega | exact Nat.le_refl _⟩, ⟨by (with_reducible repeat (first | apply Kd.R_alloc | apply Kd.R_drewN | apply Kd.R_drew)); exact HO_6.out⟩, ⟨by (with_reducible repeat (first | apply Kd.R_alloc | apply Kd.R_drewN | apply Kd.R_drew)); exact HO_7.out⟩, ⟨by (with_reducible repeat (first | apply Kd.R_alloc | apply Kd.R_drewN | apply Kd.R_drew)); exact HO_81.out⟩, ⟨by repeat (first | (with_reducible first | exact HB.out | apply below_alloc | apply pw_below_drewN | apply below_drew1) | exact HB.out)⟩⟩
                     ·rw [if_neg c48] at H
                      have c48b0 : decide ((rd t214 x83_3) < 40) = false := decide_eq_false c48
                      clear c48
                      as_aux_lemma =>
                       have H' := Aside0.mk H
                       clear H
                       go_wp2
                       go_meet
                       case rel => exact ⟨_, (false), (by first | rfl | (simp; done) | (simp [*]; done)), H', ⟨by have := HJ6.out; have := HJ18.out; have := HK3.out; first | omega | exact Nat.le_refl _⟩, ⟨by (with_reducible repeat (first | apply Kd.R_alloc | apply Kd.R_drewN | apply Kd.R_drew)); exact HO_6.out⟩, ⟨by (with_reducible repeat (first | apply Kd.R_alloc | apply Kd.R_drewN | apply Kd.R_drew)); exact HO_7.out⟩, ⟨by (with_reducible repeat (first | apply Kd.R_alloc | apply Kd.R_drewN | apply Kd.R_drew)); exact HO_81.out⟩, ⟨by repeat (first | (with_reducible first | exact HB.out | apply below_alloc | apply pw_below_drewN | apply below_drew1) | exact HB.out)⟩⟩
                  case rest =>
                   clear HC32
                   try clear c1
                   try clear c2
                   try clear p2
                   try clear q2
                   try clear hx2
                   try clear qi2
                   try clear c3
                   try clear c3b0
                   try clear c4
                   try clear p6
                   try clear c12
                   try clear c12b0
                   try clear c12b1
                   try clear c12b2
                   try clear c16
                   try clear c18
                   try clear c19
                   try clear c20
                   try clear c20b0
                   try clear c20b1
                   try clear c21
                   try clear c21b0
                   try clear c21b1
                   try clear p22
                   try clear q22
                   try clear hx22
                   try clear qi22
                   try clear c24
                   try clear c25
                   try clear c25b0
                   try clear c26
                   try clear c26b0
                   try clear c27
                   try clear c27b0
                   try clear c28
                   try clear c28b0
                   try clear c30
                   try clear c30b0
                   try clear c31
                   try clear c31b0
                   try clear c34
                   try clear c34b0
                   try clear c34b1
                   try clear c35
                   try clear c35b0
                   try clear c35b1
                   try clear c36
                   try clear c36b0
                   try clear c37
                   try clear c37b0
                   try clear c38
                   try clear c38b0
                   try clear c39
                   try clear c39b0
                   try clear c40
                   try clear c40b0
                   try clear c41
                   try clear c41b0
                   try clear c42
                   try clear c42b0
                   try clear c43
                   try clear c43b0
                   try clear c44
                   try clear c44b0
                   try clear c45
                   try clear c45b0
                   try clear c46
                   try clear c46b0
                   try clear c47
                   try clear c47b0
                   try clear c48
                   try clear c48b0
                   try clear c49
                   try clear c49b0
                   try clear hx226_0
                   try clear hx227_0
                   try clear hx228_0
                   try clear hx229_0
                   try clear p2
                   try clear p22
                   try clear p226
                   try clear p227
                   try clear p228
                   try clear p229
                   try clear p6
                   try clear q2
                   try clear q22
                   try clear q226
                   try clear q227
                   try clear q228
                   try clear q229
                   obtain ⟨kq, x138_31, rfl, HA, HJ31, HO_6, HO_7, HO_81, HB⟩ := hcut
                   cases kq with
                   | zero => exact absurd HA.out (by simp [laws_FnPrices.j3])
                   | succ kj31 =>
                    have H := HA.out
                    clear HA
                    simp only [laws_FnPrices.j3] at H
                    by_cases c50 : x138_31 = true
                    ·subst c50
                     rw [if_pos rfl] at H
                     exact absurd H (by simp)
                    ·replace c50 := Bool.eq_false_iff.mpr c50
                     subst c50
                     rw [if_neg (show ¬ (false = true) by decide)] at H
                     as_aux_lemma =>
                      have H' := Aside0.mk H
                      clear H
                      go_wp2
                      go_roundg kj31
                      case measure => have := HJ6.out; have := HJ18.out; have := HK3.out; have := HJ31.out; omega
                      case rel => exact ⟨(wrap64 (x83_3 + 1)), (by first | rfl | (simp; done) | (simp [*]; done)), H', ⟨by have := HJ6.out; have := HJ18.out; have := HK3.out; have := HJ31.out; omega⟩, ⟨by (with_reducible repeat (first | apply Kd.R_alloc | apply Kd.R_drewN | apply Kd.R_drew)); exact HO_6.out⟩, ⟨by (with_reducible repeat (first | apply Kd.R_alloc | apply Kd.R_drewN | apply Kd.R_drew)); exact HO_7.out⟩, ⟨by (with_reducible repeat (first | apply Kd.R_alloc | apply Kd.R_drewN | apply Kd.R_drew)); exact HO_81.out⟩, ⟨by repeat (first | (with_reducible first | exact HB.out | apply below_alloc | apply pw_below_drewN | apply below_drew1) | exact HB.out)⟩⟩
                 ·rw [if_neg c31] at H
                  exact absurd H (by simp)
                ·rw [if_neg c30] at H
                 exact absurd H (by simp)
               ·rw [if_neg c28] at H
                exact absurd H (by simp)
              ·rw [if_neg c27] at H
               exact absurd H (by simp)
             ·rw [if_neg c26] at H
              exact absurd H (by simp)
            ·rw [if_neg c25] at H
             have c25b0 : decide (x83_3 < (t214.length : Int)) = false := decide_eq_false c25
             clear c25
             replace H := Option.bind_eq_some_iff.mp H
             obtain ⟨t230, A510, H⟩ := H
             have A51 := Aside0.mk A510
             clear A510
             by_cases c52 : (wrap64 ((t214.length : Int) + 1)) = 0
             ·rw [if_pos c52] at H
              exact absurd H (by simp)
             ·rw [if_neg c52] at H
              have c52b0 : ((wrap64 ((t214.length : Int) + 1)) == 0) = false := beq_eq_false_iff_ne.mpr c52
              have c52b1 : ((wrap64 ((t214.length : Int) + 1)) != 0) = true := bne_iff_ne.mpr c52
              by_cases c53 : (Int.tmod t230 (wrap64 ((t214.length : Int) + 1))) ≤ 20
              ·rw [if_pos c53] at H
               have c53b0 : decide ((Int.tmod t230 (wrap64 ((t214.length : Int) + 1))) ≤ 20) = true := decide_eq_true c53
               clear c53
               replace H := Option.bind_eq_some_iff.mp H
               obtain ⟨⟨t231, t232, t233⟩, A540, H⟩ := H
               have A54 := Aside0.mk A540
               clear A540
               have HC55 := Aside0.mk H
               clear H
               go_upto_region 22 with (first | ((with_reducible refine gate_callee (f := 22) rfl ?_); refine goesL_ (some 141) rfl rfl Try.func22 (by kernel_rfl) rfl #[.slice A1 l1.length c1] rfl (by (try simp only [List.map_toArray, List.map_cons, List.map_nil]); first | done | rfl | (simp only [List.length_drop, List.length_take]; rfl)) ?_; (with_reducible refine (laws_numberOf.calls k3 _ _ l1 t230 _ ?side1 ?side2 A51.out).mono ?_); (case side1 => repeat (first | exact (Kd.C_below HR1.out HB.out) | (with_reducible refine Kd.C_alloc ?_ _) | (with_reducible refine Kd.C_drewN ?_ _) | (with_reducible refine Kd.C_drew ?_))); (case side2 => exact HC1.out); rintro e w' ⟨rfl, ⟨nd, rfl⟩⟩; refine ⟨_, rfl, ?_⟩) | ((with_reducible refine gate_callee (f := 23) rfl ?_); refine goesL_ (some 151) rfl rfl Try.func23 (by kernel_rfl) rfl #[.int .i64 t213, .int .i64 (Int.tmod t230 (wrap64 ((t214.length : Int) + 1)))] rfl (by (try simp only [List.map_toArray, List.map_cons, List.map_nil]); first | done | rfl | (simp only [List.length_drop, List.length_take]; rfl)) ?_; (with_reducible refine (impl_BoundsFor.calls k3 t213 (Int.tmod t230 (wrap64 ((t214.length : Int) + 1))) t231 t232 t233 _ A54.out).mono ?_); rintro e w56 ⟨rfl, hb⟩; refine ⟨_, rfl, ?_⟩; have n0_ := Aside0.mk (Kd.R_below (by (with_reducible repeat (first | apply Kd.R_alloc | apply Kd.R_drewN | apply Kd.R_drew)); exact HO_6.out) hb); have n1_ := Aside0.mk (Kd.R_below (by (with_reducible repeat (first | apply Kd.R_alloc | apply Kd.R_drewN | apply Kd.R_drew)); exact HO_7.out) hb); have n2_ := Aside0.mk (Kd.R_below (by (with_reducible repeat (first | apply Kd.R_alloc | apply Kd.R_drewN | apply Kd.R_drew)); exact HO_81.out) hb); have n3_ := Aside0.mk (below_step (by repeat (first | (with_reducible first | exact HB.out | apply below_alloc | apply pw_below_drewN | apply below_drew1) | exact HB.out)) hb); clear HO_6; clear HO_7; clear HO_81; clear HB; have HO_6 := n0_; have HO_7 := n1_; have HO_81 := n2_; have HB := n3_; clear n0_ n1_ n2_ n3_; (try clear hb); (try clear hb2); (try clear hk); (try clear hi)))
               (try simp only [Act.put, List.setIfInBounds_toArray, List.set_cons_zero, List.set_cons_succ])
               go_cut [172] (fun v172 wc => ∃ (kq : Nat) (x172_54 : Bool), v172 = .bool x172_54 ∧ Aside0 (laws_FnPrices.j4 kq l1 x172_54 = some r) ∧ Aside0 (kq ≤ k3) ∧ Aside0 (Below w.heap.size w wc))
               case first =>
                have H := HC55.out
                clear HC55
                by_cases c57 : t233 = true
                ·subst c57
                 rw [if_pos rfl] at H
                 obtain ⟨ji58, hji58⟩ : ∃ j_ : Int, (Int.tmod t230 (wrap64 ((t214.length : Int) + 1))) = j_ := ⟨_, rfl⟩
                 replace H : (if 0 ≤ (ji58) then (if (ji58) < (t217.length : Int) then (if (rd t217 (ji58)) < t231 then (laws_FnPrices.j4 k3 l1 true) else (laws_FnPrices.j4 k3 l1 (decide ((rd t217 (ji58)) > t232)))) else (none)) else (none)) = some r := by first | (rw [hji58] at H; exact H) | (simp only [hji58] at H ⊢; exact H)
                 (try rw [hji58] at c53b0)
                 by_cases c59 : 0 ≤ (ji58)
                 ·rw [if_pos c59] at H
                  have c59b0 : decide (0 ≤ (ji58)) = true := decide_eq_true c59
                  clear c59
                  (first | rw [c59b0] | (simp only [i64_w, i32_w]; rw [c59b0]) | skip)
                  by_cases c60 : (ji58) < (t217.length : Int)
                  ·rw [if_pos c60] at H
                   have c60b0 : decide ((ji58) < (t217.length : Int)) = true := decide_eq_true c60
                   clear c60
                   by_cases c61 : (rd t217 (ji58)) < t231
                   ·rw [if_pos c61] at H
                    have c61b0 : decide ((rd t217 (ji58)) < t231) = true := decide_eq_true c61
                    clear c61
                    as_aux_lemma =>
                     have H' := Aside0.mk H
                     clear H
                     obtain ⟨Ao62, co62, eo62⟩ := Kd.R_slice HO_7.out
                     subst eo62
                     have p234 : 0 ≤ ((ji58) : Int) := of_decide_eq_true (by first | (with_reducible assumption) | assumption)
                     have q234 : (ji58) < (t217.length : Int) := of_decide_eq_true (by first | (with_reducible assumption) | assumption)
                     obtain ⟨ad234, e234, hx234_0⟩ := Kd.at_int (Kd.R_reads' HO_7.out).2.2 (ji58) p234 q234
                     cases e234
                     replace p234 := eq_true p234
                     replace q234 := eq_true q234
                     go_wp2
                     (try simp only [← hji58])
                     go_meet
                     case rel => exact ⟨_, (true), (by first | rfl | (simp; done) | (simp [*]; done)), H', ⟨by have := HJ6.out; have := HJ18.out; have := HK3.out; first | omega | exact Nat.le_refl _⟩, ⟨by repeat (first | (with_reducible first | exact HB.out | apply below_alloc | apply pw_below_drewN | apply below_drew1) | exact HB.out)⟩⟩
                   ·rw [if_neg c61] at H
                    have c61b0 : decide ((rd t217 (ji58)) < t231) = false := decide_eq_false c61
                    clear c61
                    as_aux_lemma =>
                     have H' := Aside0.mk H
                     clear H
                     obtain ⟨Ao63, co63, eo63⟩ := Kd.R_slice HO_7.out
                     subst eo63
                     have p234 : 0 ≤ ((ji58) : Int) := of_decide_eq_true (by first | (with_reducible assumption) | assumption)
                     have q234 : (ji58) < (t217.length : Int) := of_decide_eq_true (by first | (with_reducible assumption) | assumption)
                     obtain ⟨ad234, e234, hx234_0⟩ := Kd.at_int (Kd.R_reads' HO_7.out).2.2 (ji58) p234 q234
                     cases e234
                     replace p234 := eq_true p234
                     replace q234 := eq_true q234
                     have p235 : 0 ≤ ((ji58) : Int) := of_decide_eq_true (by first | (with_reducible assumption) | assumption)
                     have q235 : (ji58) < (t217.length : Int) := of_decide_eq_true (by first | (with_reducible assumption) | assumption)
                     obtain ⟨ad235, e235, hx235_0⟩ := Kd.at_int (Kd.R_reads' HO_7.out).2.2 (ji58) p235 q235
                     obtain rfl : ad234 = ad235 := (by injection e235)
                     replace p235 := eq_true p235
                     replace q235 := eq_true q235
                     go_wp2
                     (try simp only [← hji58])
                     go_meet
                     case rel => exact ⟨_, (decide ((rd t217 (ji58)) > t232)), (by first | rfl | (simp; done) | (simp only [← hji58] <;> (first | rfl | simp)) | (simp [*]; done)), H', ⟨by have := HJ6.out; have := HJ18.out; have := HK3.out; first | omega | exact Nat.le_refl _⟩, ⟨by repeat (first | (with_reducible first | exact HB.out | apply below_alloc | apply pw_below_drewN | apply below_drew1) | exact HB.out)⟩⟩
                  ·rw [if_neg c60] at H
                   exact absurd H (by simp)
                 ·rw [if_neg c59] at H
                  exact absurd H (by simp)
                ·replace c57 := Bool.eq_false_iff.mpr c57
                 subst c57
                 rw [if_neg (show ¬ (false = true) by decide)] at H
                 as_aux_lemma =>
                  have H' := Aside0.mk H
                  clear H
                  go_wp2
                  go_meet
                  case rel => exact ⟨_, (true), (by first | rfl | (simp; done) | (simp [*]; done)), H', ⟨by have := HJ6.out; have := HJ18.out; have := HK3.out; first | omega | exact Nat.le_refl _⟩, ⟨by repeat (first | (with_reducible first | exact HB.out | apply below_alloc | apply pw_below_drewN | apply below_drew1) | exact HB.out)⟩⟩
               case rest =>
                clear HC55
                try clear c1
                try clear c2
                try clear p2
                try clear q2
                try clear hx2
                try clear qi2
                try clear c3
                try clear c3b0
                try clear c4
                try clear c5
                try clear c6
                try clear p6
                try clear c12
                try clear c12b0
                try clear c12b1
                try clear c12b2
                try clear c16
                try clear c18
                try clear c19
                try clear c20
                try clear c20b0
                try clear c20b1
                try clear c21
                try clear c21b0
                try clear c21b1
                try clear c22
                try clear p22
                try clear q22
                try clear hx22
                try clear qi22
                try clear c23
                try clear p23
                try clear q23
                try clear hx23
                try clear c24
                try clear c25
                try clear c25b0
                try clear c26
                try clear c26b0
                try clear c27
                try clear c27b0
                try clear c28
                try clear c28b0
                try clear c30
                try clear c30b0
                try clear c31
                try clear c31b0
                try clear c34
                try clear c34b0
                try clear c34b1
                try clear c35
                try clear c35b0
                try clear c35b1
                try clear c36
                try clear c36b0
                try clear c37
                try clear c37b0
                try clear c38
                try clear c38b0
                try clear c39
                try clear c39b0
                try clear c40
                try clear c40b0
                try clear c41
                try clear c41b0
                try clear c42
                try clear c42b0
                try clear c43
                try clear c43b0
                try clear c44
                try clear c44b0
                try clear c45
                try clear c45b0
                try clear c46
                try clear c46b0
                try clear c47
                try clear c47b0
                try clear c48
                try clear c48b0
                try clear c49
                try clear c49b0
                try clear c50
                try clear c52
                try clear c52b0
                try clear c52b1
                try clear c53
                try clear c53b0
                try clear c57
                try clear c59
                try clear c59b0
                try clear c60
                try clear c60b0
                try clear c61
                try clear c61b0
                try clear hx226_0
                try clear hx227_0
                try clear hx228_0
                try clear hx229_0
                try clear hx234_0
                try clear hx235_0
                try clear p2
                try clear p22
                try clear p226
                try clear p227
                try clear p228
                try clear p229
                try clear p234
                try clear p235
                try clear p6
                try clear q2
                try clear q22
                try clear q226
                try clear q227
                try clear q228
                try clear q229
                try clear q234
                try clear q235
                obtain ⟨kq, x172_54, rfl, HA, HJ54, HB⟩ := hcut
                cases kq with
                | zero => exact absurd HA.out (by simp [laws_FnPrices.j4])
                | succ kj54 =>
                 have H := HA.out
                 clear HA
                 simp only [laws_FnPrices.j4] at H
                 by_cases c64 : x172_54 = true
                 ·subst c64
                  rw [if_pos rfl] at H
                  exact absurd H (by simp)
                 ·replace c64 := Bool.eq_false_iff.mpr c64
                  subst c64
                  rw [if_neg (show ¬ (false = true) by decide)] at H
                  as_aux_lemma =>
                   have H' := Aside0.mk H
                   clear H
                   go_wp2
                   go_meet
                   case rel => exact ⟨_, H', ⟨by have := HJ6.out; have := HJ18.out; have := HK3.out; have := HJ54.out; first | omega | exact Nat.le_refl _⟩, ⟨by repeat (first | (with_reducible first | exact HB.out | apply below_alloc | apply pw_below_drewN | apply below_drew1) | exact HB.out)⟩⟩
              ·rw [if_neg c53] at H
               have c53b0 : decide ((Int.tmod t230 (wrap64 ((t214.length : Int) + 1))) ≤ 20) = false := decide_eq_false c53
               clear c53
               as_aux_lemma =>
                have H' := Aside0.mk H
                clear H
                go_wp2_with (first | ((with_reducible refine gate_callee (f := 22) rfl ?_); refine goesL_ (some 141) rfl rfl Try.func22 (by kernel_rfl) rfl #[.slice A1 l1.length c1] rfl (by (try simp only [List.map_toArray, List.map_cons, List.map_nil]); first | done | rfl | (simp only [List.length_drop, List.length_take]; rfl)) ?_; (with_reducible refine (laws_numberOf.calls k3 _ _ l1 t230 _ ?side1 ?side2 A51.out).mono ?_); (case side1 => repeat (first | exact (Kd.C_below HR1.out HB.out) | (with_reducible refine Kd.C_alloc ?_ _) | (with_reducible refine Kd.C_drewN ?_ _) | (with_reducible refine Kd.C_drew ?_))); (case side2 => exact HC1.out); rintro e w' ⟨rfl, ⟨nd, rfl⟩⟩; refine ⟨_, rfl, ?_⟩))
                go_meet
                case rel => exact ⟨_, H', ⟨by have := HJ6.out; have := HJ18.out; have := HK3.out; first | omega | exact Nat.le_refl _⟩, ⟨by repeat (first | (with_reducible first | exact HB.out | apply below_alloc | apply pw_below_drewN | apply below_drew1) | exact HB.out)⟩⟩
      ·replace c18 := Bool.eq_false_iff.mpr c18
       subst c18
       rw [if_neg (show ¬ (false = true) by decide)] at H
       as_aux_lemma =>
        have H' := Aside0.mk H
        clear H
        go_wp2
        go_meet
        case rel => exact ⟨_, H', ⟨by have := HJ6.out; first | omega | exact Nat.le_refl _⟩, ⟨by repeat (first | (with_reducible first | exact HB.out | apply below_alloc | apply pw_below_drewN | apply below_drew1) | exact HB.out)⟩⟩
     case rest =>
      clear HC17
      try clear c1
      try clear c2
      try clear p2
      try clear q2
      try clear hx2
      try clear qi2
      try clear c3
      try clear c3b0
      try clear c4
      try clear c5
      try clear c6
      try clear p6
      try clear c12
      try clear c12b0
      try clear c12b1
      try clear c12b2
      try clear c16
      try clear c18
      try clear c19
      try clear c20
      try clear c20b0
      try clear c20b1
      try clear c21
      try clear c21b0
      try clear c21b1
      try clear c22
      try clear p22
      try clear q22
      try clear hx22
      try clear qi22
      try clear c23
      try clear p23
      try clear q23
      try clear hx23
      try clear c24
      try clear c25
      try clear c25b0
      try clear c26
      try clear c26b0
      try clear c27
      try clear c27b0
      try clear c28
      try clear c28b0
      try clear c30
      try clear c30b0
      try clear c31
      try clear c31b0
      try clear c34
      try clear c34b0
      try clear c34b1
      try clear c35
      try clear c35b0
      try clear c35b1
      try clear c36
      try clear c36b0
      try clear c37
      try clear c37b0
      try clear c38
      try clear c38b0
      try clear c39
      try clear c39b0
      try clear c40
      try clear c40b0
      try clear c41
      try clear c41b0
      try clear c42
      try clear c42b0
      try clear c43
      try clear c43b0
      try clear c44
      try clear c44b0
      try clear c45
      try clear c45b0
      try clear c46
      try clear c46b0
      try clear c47
      try clear c47b0
      try clear c48
      try clear c48b0
      try clear c49
      try clear c49b0
      try clear c50
      try clear c52
      try clear c52b0
      try clear c52b1
      try clear c53
      try clear c53b0
      try clear c57
      try clear c59
      try clear c59b0
      try clear c60
      try clear c60b0
      try clear c61
      try clear c61b0
      try clear c64
      try clear p64
      try clear hx226_0
      try clear hx227_0
      try clear hx228_0
      try clear hx229_0
      try clear hx234_0
      try clear hx235_0
      try clear p2
      try clear p22
      try clear p226
      try clear p227
      try clear p228
      try clear p229
      try clear p23
      try clear p234
      try clear p235
      try clear p6
      try clear q2
      try clear q22
      try clear q226
      try clear q227
      try clear q228
      try clear q229
      try clear q23
      try clear q234
      try clear q235
      obtain ⟨kq, HA, HJ16, HB⟩ := hcut
      cases kq with
      | zero => exact absurd HA.out (by simp [laws_FnPrices.j5])
      | succ kj16 =>
       have H := HA.out
       clear HA
       simp only [laws_FnPrices.j5] at H
       replace H := Option.bind_eq_some_iff.mp H
       obtain ⟨⟨t236, t237⟩, A650, H⟩ := H
       have A65 := Aside0.mk A650
       clear A650
       replace H := Option.bind_eq_some_iff.mp H
       obtain ⟨⟨t238, t239⟩, A660, H⟩ := H
       have A66 := Aside0.mk A660
       clear A660
       replace H := Option.bind_eq_some_iff.mp H
       obtain ⟨⟨t240, t241⟩, A670, H⟩ := H
       have A67 := Aside0.mk A670
       clear A670
       replace H := Option.bind_eq_some_iff.mp H
       obtain ⟨⟨t242, t243⟩, A680, H⟩ := H
       have A68 := Aside0.mk A680
       clear A680
       replace H := Option.bind_eq_some_iff.mp H
       obtain ⟨⟨t244, t245, t246⟩, A690, H⟩ := H
       have A69 := Aside0.mk A690
       clear A690
       replace H := Option.bind_eq_some_iff.mp H
       obtain ⟨⟨t247, t248, t249⟩, A700, H⟩ := H
       have A70 := Aside0.mk A700
       clear A700
       have HC71 := Aside0.mk H
       clear H
       go_upto_region 30 with (first | ((with_reducible refine gate_callee (f := 24) rfl ?_); refine goesL_ (some 175) rfl rfl Try.func24 (by kernel_rfl) rfl #[.slice A1 l1.length c1] rfl (by (try simp only [List.map_toArray, List.map_cons, List.map_nil]); first | done | rfl | (simp only [List.length_drop, List.length_take]; rfl)) ?_; (with_reducible refine (spec_DrawNextPrice.calls _ _ l1 t236 t237 _ ?side1 ?side2 A65.out).mono ?_); (case side1 => repeat (first | exact (Kd.C_below HR1.out HB.out) | (with_reducible refine Kd.C_alloc ?_ _) | (with_reducible refine Kd.C_drewN ?_ _) | (with_reducible refine Kd.C_drew ?_))); (case side2 => exact HC1.out); rintro e w72 ⟨rfl, hb⟩; refine ⟨_, rfl, ?_⟩; have n0_ := Aside0.mk (below_step (by repeat (first | (with_reducible first | exact HB.out | apply below_alloc | apply pw_below_drewN | apply below_drew1) | exact HB.out)) hb); clear HB; have HB := n0_; clear n0_; (try clear hb); (try clear hb2); (try clear hk); (try clear hi)) | ((with_reducible refine gate_callee (f := 25) rfl ?_); refine goesL_ (some 181) rfl rfl Try.func25 (by kernel_rfl) rfl #[.int .i64 t236, .int .i64 t237] rfl (by (try simp only [List.map_toArray, List.map_cons, List.map_nil]); first | done | rfl | (simp only [List.length_drop, List.length_take]; rfl)) ?_; (with_reducible refine (impl_NextPrice.calls t236 t237 t238 t239 _ A66.out).mono ?_); rintro e w73 ⟨rfl, hb⟩; refine ⟨_, rfl, ?_⟩; have n0_ := Aside0.mk (below_step (by repeat (first | (with_reducible first | exact HB.out | apply below_alloc | apply pw_below_drewN | apply below_drew1) | exact HB.out)) hb); clear HB; have HB := n0_; clear n0_; (try clear hb); (try clear hb2); (try clear hk); (try clear hi)) | ((with_reducible refine gate_callee (f := 26) rfl ?_); refine goesL_ (some 187) rfl rfl Try.func26 (by kernel_rfl) rfl #[.int .i64 t236, .int .i64 t237] rfl (by (try simp only [List.map_toArray, List.map_cons, List.map_nil]); first | done | rfl | (simp only [List.length_drop, List.length_take]; rfl)) ?_; (with_reducible refine (spec_NextPrice.calls t236 t237 t240 t241 _ A67.out).mono ?_); rintro e w' ⟨rfl, ⟨nd, rfl⟩⟩; refine ⟨_, rfl, ?_⟩) | ((with_reducible refine gate_callee (f := 27) rfl ?_); refine goesL_ (some 192) rfl rfl Try.func27 (by kernel_rfl) rfl #[.slice A1 l1.length c1] rfl (by (try simp only [List.map_toArray, List.map_cons, List.map_nil]); first | done | rfl | (simp only [List.length_drop, List.length_take]; rfl)) ?_; (with_reducible refine (spec_DrawBoundsFor.calls _ _ l1 t242 t243 _ ?side1 ?side2 A68.out).mono ?_); (case side1 => repeat (first | exact (Kd.C_below HR1.out (by repeat (first | (with_reducible first | exact HB.out | apply below_alloc | apply pw_below_drewN | apply below_drew1) | exact HB.out))) | (with_reducible refine Kd.C_alloc ?_ _) | (with_reducible refine Kd.C_drewN ?_ _) | (with_reducible refine Kd.C_drew ?_))); (case side2 => exact HC1.out); rintro e w74 ⟨rfl, hb⟩; refine ⟨_, rfl, ?_⟩; have n0_ := Aside0.mk (below_step (by repeat (first | (with_reducible first | exact HB.out | apply below_alloc | apply pw_below_drewN | apply below_drew1) | exact HB.out)) hb); clear HB; have HB := n0_; clear n0_; (try clear hb); (try clear hb2); (try clear hk); (try clear hi)) | ((with_reducible refine gate_callee (f := 23) rfl ?_); refine goesL_ (some 198) rfl rfl Try.func23 (by kernel_rfl) rfl #[.int .i64 t242, .int .i64 t243] rfl (by (try simp only [List.map_toArray, List.map_cons, List.map_nil]); first | done | rfl | (simp only [List.length_drop, List.length_take]; rfl)) ?_; (with_reducible refine (impl_BoundsFor.calls kj16 t242 t243 t244 t245 t246 _ A69.out).mono ?_); rintro e w75 ⟨rfl, hb⟩; refine ⟨_, rfl, ?_⟩; have n0_ := Aside0.mk (below_step (by repeat (first | (with_reducible first | exact HB.out | apply below_alloc | apply pw_below_drewN | apply below_drew1) | exact HB.out)) hb); clear HB; have HB := n0_; clear n0_; (try clear hb); (try clear hb2); (try clear hk); (try clear hi)) | ((with_reducible refine gate_callee (f := 28) rfl ?_); refine goesL_ (some 205) rfl rfl Try.func28 (by kernel_rfl) rfl #[.int .i64 t242, .int .i64 t243] rfl (by (try simp only [List.map_toArray, List.map_cons, List.map_nil]); first | done | rfl | (simp only [List.length_drop, List.length_take]; rfl)) ?_; (with_reducible refine (spec_BoundsFor.calls kj16 t242 t243 t247 t248 t249 _ A70.out).mono ?_); rintro e w' ⟨rfl, ⟨nd, rfl⟩⟩; refine ⟨_, rfl, ?_⟩))
       (try simp only [Act.put, List.setIfInBounds_toArray, List.set_cons_zero, List.set_cons_succ])
       go_cut [231] (fun v231 wc => ∃ (kq : Nat) (x231_70 : Bool), v231 = .bool x231_70 ∧ Aside0 (laws_FnPrices.j6 kq t236 t237 t238 t239 x231_70 = some r) ∧ Aside0 (kq ≤ kj16) ∧ Aside0 (Below w.heap.size w wc))
       case first =>
        have H := HC71.out
        clear HC71
        by_cases c76 : (t239 != t241) = true
        ·rw [if_pos c76] at H
         have c76b0 : (t239 != t241) = true := c76
         (try (have c76b1 : decide (t239 = t241) = false := by simpa using c76))
         (try (have c76b2 : (t239 == t241) = false := by simpa using c76))
         (try (have c76b3 : ¬ (t239 = t241) := by simpa using c76))
         clear c76
         (first | rw [c76b0] | (simp only [i64_w, i32_w]; rw [c76b0]) | skip)
         as_aux_lemma =>
          have H' := Aside0.mk H
          clear H
          go_wp2
          go_meet
          case rel => exact ⟨_, (true), (by first | rfl | (simp; done) | (simp [*]; done)), H', ⟨by have := HJ6.out; have := HJ16.out; first | omega | exact Nat.le_refl _⟩, ⟨by repeat (first | (with_reducible first | exact HB.out | apply below_alloc | apply pw_below_drewN | apply below_drew1) | exact HB.out)⟩⟩
        ·rw [if_neg c76] at H
         have c76b0 : (t239 != t241) = false := by simpa using c76
         (try (have c76b1 : decide (t239 = t241) = true := by simpa using c76))
         (try (have c76b2 : (t239 == t241) = true := by simpa using c76))
         clear c76
         (first | rw [c76b0] | (simp only [i64_w, i32_w]; rw [c76b0]) | skip)
         by_cases c77 : t238 = t240
         ·rw [if_pos c77] at H
          have c77b0 : (t238 == t240) = true := beq_iff_eq.mpr c77
          have c77b1 : (t238 != t240) = false := bne_eq_false_iff_eq.mpr c77
          clear c77
          by_cases c78 : (t246 != t249) = true
          ·rw [if_pos c78] at H
           have c78b0 : (t246 != t249) = true := c78
           (try (have c78b1 : decide (t246 = t249) = false := by simpa using c78))
           (try (have c78b2 : (t246 == t249) = false := by simpa using c78))
           (try (have c78b3 : ¬ (t246 = t249) := by simpa using c78))
           clear c78
           as_aux_lemma =>
            have H' := Aside0.mk H
            clear H
            go_wp2
            go_meet
            case rel => exact ⟨_, (true), (by first | rfl | (simp; done) | (simp [*]; done)), H', ⟨by have := HJ6.out; have := HJ16.out; first | omega | exact Nat.le_refl _⟩, ⟨by repeat (first | (with_reducible first | exact HB.out | apply below_alloc | apply pw_below_drewN | apply below_drew1) | exact HB.out)⟩⟩
          ·rw [if_neg c78] at H
           have c78b0 : (t246 != t249) = false := by simpa using c78
           (try (have c78b1 : decide (t246 = t249) = true := by simpa using c78))
           (try (have c78b2 : (t246 == t249) = true := by simpa using c78))
           clear c78
           by_cases c79 : t244 = t247
           ·rw [if_pos c79] at H
            have c79b0 : (t244 == t247) = true := beq_iff_eq.mpr c79
            have c79b1 : (t244 != t247) = false := bne_eq_false_iff_eq.mpr c79
            clear c79
            as_aux_lemma =>
             have H' := Aside0.mk H
             clear H
             go_wp2
             go_meet
             case rel => exact ⟨_, ((t245 != t248)), (by first | rfl | (simp; done) | (simp [*]; done)), H', ⟨by have := HJ6.out; have := HJ16.out; first | omega | exact Nat.le_refl _⟩, ⟨by repeat (first | (with_reducible first | exact HB.out | apply below_alloc | apply pw_below_drewN | apply below_drew1) | exact HB.out)⟩⟩
           ·rw [if_neg c79] at H
            have c79b0 : (t244 == t247) = false := beq_eq_false_iff_ne.mpr c79
            have c79b1 : (t244 != t247) = true := bne_iff_ne.mpr c79
            as_aux_lemma =>
             have H' := Aside0.mk H
             clear H
             go_wp2
             go_meet
             case rel => exact ⟨_, (true), (by first | rfl | (simp; done) | (simp [*]; done)), H', ⟨by have := HJ6.out; have := HJ16.out; first | omega | exact Nat.le_refl _⟩, ⟨by repeat (first | (with_reducible first | exact HB.out | apply below_alloc | apply pw_below_drewN | apply below_drew1) | exact HB.out)⟩⟩
         ·rw [if_neg c77] at H
          have c77b0 : (t238 == t240) = false := beq_eq_false_iff_ne.mpr c77
          have c77b1 : (t238 != t240) = true := bne_iff_ne.mpr c77
          as_aux_lemma =>
           have H' := Aside0.mk H
           clear H
           go_wp2
           go_meet
           case rel => exact ⟨_, (true), (by first | rfl | (simp; done) | (simp [*]; done)), H', ⟨by have := HJ6.out; have := HJ16.out; first | omega | exact Nat.le_refl _⟩, ⟨by repeat (first | (with_reducible first | exact HB.out | apply below_alloc | apply pw_below_drewN | apply below_drew1) | exact HB.out)⟩⟩
       case rest =>
        clear HC71
        try clear c1
        try clear c2
        try clear p2
        try clear q2
        try clear hx2
        try clear qi2
        try clear c3
        try clear c3b0
        try clear c4
        try clear c5
        try clear c6
        try clear p6
        try clear c7
        try clear c12
        try clear c12b0
        try clear c12b1
        try clear c12b2
        try clear c16
        try clear c18
        try clear c19
        try clear c20
        try clear c20b0
        try clear c20b1
        try clear c21
        try clear c21b0
        try clear c21b1
        try clear c22
        try clear p22
        try clear q22
        try clear hx22
        try clear qi22
        try clear c23
        try clear p23
        try clear q23
        try clear hx23
        try clear c24
        try clear c25
        try clear c25b0
        try clear c26
        try clear c26b0
        try clear c27
        try clear c27b0
        try clear c28
        try clear c28b0
        try clear c30
        try clear c30b0
        try clear c31
        try clear c31b0
        try clear c34
        try clear c34b0
        try clear c34b1
        try clear c35
        try clear c35b0
        try clear c35b1
        try clear c36
        try clear c36b0
        try clear c37
        try clear c37b0
        try clear c38
        try clear c38b0
        try clear c39
        try clear c39b0
        try clear c40
        try clear c40b0
        try clear c41
        try clear c41b0
        try clear c42
        try clear c42b0
        try clear c43
        try clear c43b0
        try clear c44
        try clear c44b0
        try clear c45
        try clear c45b0
        try clear c46
        try clear c46b0
        try clear c47
        try clear c47b0
        try clear c48
        try clear c48b0
        try clear c49
        try clear c49b0
        try clear c50
        try clear c52
        try clear c52b0
        try clear c52b1
        try clear c53
        try clear c53b0
        try clear c57
        try clear c59
        try clear c59b0
        try clear c60
        try clear c60b0
        try clear c61
        try clear c61b0
        try clear c64
        try clear p64
        try clear c76
        try clear c76b0
        try clear c76b1
        try clear c76b2
        try clear c77
        try clear c77b0
        try clear c77b1
        try clear c78
        try clear c78b0
        try clear c78b1
        try clear c78b2
        try clear c79
        try clear c79b0
        try clear c79b1
        try clear hx226_0
        try clear hx227_0
        try clear hx228_0
        try clear hx229_0
        try clear hx234_0
        try clear hx235_0
        try clear p2
        try clear p22
        try clear p226
        try clear p227
        try clear p228
        try clear p229
        try clear p23
        try clear p234
        try clear p235
        try clear p6
        try clear p64
        try clear q2
        try clear q22
        try clear q226
        try clear q227
        try clear q228
        try clear q229
        try clear q23
        try clear q234
        try clear q235
        obtain ⟨kq, x231_70, rfl, HA, HJ70, HB⟩ := hcut
        cases kq with
        | zero => exact absurd HA.out (by simp [laws_FnPrices.j6])
        | succ kj70 =>
         have H := HA.out
         clear HA
         simp only [laws_FnPrices.j6] at H
         by_cases c80 : x231_70 = true
         ·subst c80
          rw [if_pos rfl] at H
          exact absurd H (by simp)
         ·replace c80 := Bool.eq_false_iff.mpr c80
          subst c80
          rw [if_neg (show ¬ (false = true) by decide)] at H
          by_cases c81 : t239 = true
          ·subst c81
           rw [if_pos rfl] at H
           by_cases c82 : t237 < 80
           ·rw [if_pos c82] at H
            have c82b0 : decide (t237 < 80) = true := decide_eq_true c82
            clear c82
            replace H := Option.bind_eq_some_iff.mp H
            obtain ⟨⟨t250, t251⟩, A830, H⟩ := H
            have A83 := Aside0.mk A830
            clear A830
            by_cases c84 : t251 = true
            ·subst c84
             rw [if_pos rfl] at H
             as_aux_lemma =>
              obtain rfl := Option.some.inj H
              go_wp2_with (first | ((with_reducible refine gate_callee (f := 25) rfl ?_); refine goesL_ (some 241) rfl rfl Try.func25 (by kernel_rfl) rfl #[.int .i64 t236, .int .i64 (wrap64 (t237 + 1))] rfl (by (try simp only [List.map_toArray, List.map_cons, List.map_nil]); first | done | rfl | (simp only [List.length_drop, List.length_take]; rfl)) ?_; (with_reducible refine (impl_NextPrice.calls t236 (wrap64 (t237 + 1)) t250 true _ A83.out).mono ?_); rintro e w85 ⟨rfl, hb⟩; refine ⟨_, rfl, ?_⟩; have n0_ := Aside0.mk (below_step (by repeat (first | (with_reducible first | exact HB.out | apply below_alloc | apply pw_below_drewN | apply below_drew1) | exact HB.out)) hb); clear HB; have HB := n0_; clear n0_; (try clear hb); (try clear hb2); (try clear hk); (try clear hi)))
              go_ret
              exact ⟨by first | rfl | (simp [errW_none, errW_some] <;> rfl) | (simp [*, errW_none, errW_some] <;> rfl), by repeat (first | (with_reducible first | exact HB.out | apply below_alloc | apply pw_below_drewN | apply below_drew1) | exact HB.out)⟩
            ·replace c84 := Bool.eq_false_iff.mpr c84
             subst c84
             rw [if_neg (show ¬ (false = true) by decide)] at H
             exact absurd H (by simp)
           ·rw [if_neg c82] at H
            have c82b0 : decide (t237 < 80) = false := decide_eq_false c82
            clear c82
            as_aux_lemma =>
             obtain rfl := Option.some.inj H
             go_wp2
             go_ret
             exact ⟨by first | rfl | (simp [errW_none, errW_some] <;> rfl) | (simp [*, errW_none, errW_some] <;> rfl), by repeat (first | (with_reducible first | exact HB.out | apply below_alloc | apply pw_below_drewN | apply below_drew1) | exact HB.out)⟩
          ·replace c81 := Bool.eq_false_iff.mpr c81
           subst c81
           rw [if_neg (show ¬ (false = true) by decide)] at H
           as_aux_lemma =>
            obtain rfl := Option.some.inj H
            go_wp2
            go_ret
            exact ⟨by first | rfl | (simp [errW_none, errW_some] <;> rfl) | (simp [*, errW_none, errW_some] <;> rfl), by repeat (first | (with_reducible first | exact HB.out | apply below_alloc | apply pw_below_drewN | apply below_drew1) | exact HB.out)⟩

/-- THE ONE PURE STATEMENT of laws_FnPrices: yours. -/
def laws_FnPrices.Pure : Prop := ∀ (l0 : List Int) (l1 : List Int), l0.length ≤ maxLen → l0.length * 1 ≤ 140737488351232 → (∀ x ∈ l0, (Lit.int .u8 x).wf = true) → l1.length ≤ maxLen → l1.length * 1 ≤ 140737488351232 → (∀ x ∈ l1, (Lit.int .u8 x).wf = true) → ∃ k, laws_FnPrices.f k l0 l1 = some true
theorem laws_FnPrices.walk (P : laws_FnPrices.Pure) (a0 : Option Addr) (len0 cap0 : Nat) (z0 : List Int) (a1 : Option Addr) (len1 cap1 : Nat) (z1 : List Int) (w : World) (w0 : (a0 = none ∧ len0 = 0 ∧ cap0 = 0 ∧ z0 = []) ∨ ∃ x, a0 = some x ∧ len0 ≤ cap0 ∧ cap0 ≤ maxLen ∧ z0.length = cap0 ∧ (∀ i, i < z0.length → w.cell? (x.add i) = some (.int .u8 (z0.getD i 0))) ∧ ∀ n ∈ z0, (Lit.int .u8 n).wf = true) (y0 : len0 * 1 ≤ 140737488351232) (w1 : (a1 = none ∧ len1 = 0 ∧ cap1 = 0 ∧ z1 = []) ∨ ∃ x, a1 = some x ∧ len1 ≤ cap1 ∧ cap1 ≤ maxLen ∧ z1.length = cap1 ∧ (∀ i, i < z1.length → w.cell? (x.add i) = some (.int .u8 (z1.getD i 0))) ∧ ∀ n ∈ z1, (Lit.int .u8 n).wf = true) (y1 : len1 * 1 ≤ 140737488351232) :
  Calls Try.prog 4 #[.slice a0 len0 cap0, .slice a1 len1 cap1] w fun e w' => e = .returned (.bool true) ∧ Below w.heap.size w w' := by
 obtain ⟨l0, rfl, hr0, hm0, hw0, hc0⟩ := ReadsInt.ofRowC w0
 obtain ⟨l1, rfl, hr1, hm1, hw1, hc1⟩ := ReadsInt.ofRowC w1
 obtain ⟨k, h⟩ := P l0 l1 hm0 y0 hw0 hm1 y1 hw1
 refine (laws_FnPrices.calls k _ _ l0 _ _ l1 true w (Kd.C_of_reads (d := (0 : Int)) (h1 := fun _ => rfl) hr0) hc0 (Kd.C_of_reads (d := (0 : Int)) (h1 := fun _ => rfl) hr1) hc1 h).mono ?_
 rintro e w' ⟨rfl, hd⟩
 exact ⟨rfl, hd⟩

end Go.Proofs.Ytglnggfmkbmocaa.PFnPrices
