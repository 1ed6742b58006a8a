-- Written for this claim by a program of this session (wip/tpl/patchprint.py), not by print.sh.
import Derived.Test.YtepkedhmbfkenaaPPlx0
import Derived.Test.YtepkedhmbfkenaaPPlx1
import Derived.Test.YtepkedhmbfkenaaPPlx2
import Derived.Test.YtepkedhmbfkenaaPPlx3
import Derived.Test.YtepkedhmbfkenaaPPlx4
import Derived.Test.YtepkedhmbfkenaaPPlx5
import Derived.Test.YtepkedhmbfkenaaPPlx6
import Derived.Test.YtepkedhmbfkenaaPPlx7
import Derived.Test.YtepkedhmbfkenaaPPlx8
namespace Go.Proofs.Ytepkedhmbfkenaa.PPl
open Go.RowKit Go.Proofs.YtepkedhmbfkenaaW.PrintWords Go.Proofs.YtepkedhmbfkenaaW.PrintLast Go.Proofs.YtepkedhmbfkenaaW.PrintMore
attribute [local go_sem] max2_int min2_int max_two min_two max_three min_three max_four min_four   -- for this text's walks alone
set_option linter.unusedVariables false
set_option linter.unusedSimpArgs false

/-! ### laws_FnPlaces: function 10 -/
mutual
def laws_FnPlaces.j0 : Nat → List Int → List (S133) → Int → Bool → Int → Int → Bool → Option (Bool)
  | 0, _, _, _, _, _, _, _ => none
  | k + 1, x1, x5, x6, x8, x9, x13, x120 => if x120 = true then (some false) else (if x8 = true then ((impl_StepAtPlace.f k x5 x9).bind fun bt388 => ((impl_WorstError.f k x5).bind fun bt390 => ((spec_WorstError.f k x5).bind fun bt393 => ((impl_ErrorAt.f k x5 bt390.1).bind fun bt396 => ((laws_pAbs.f bt393.2.1).bind fun t398 => ((impl_IsWithin.f k x5 t398).bind fun bt399 => (if bt388.2 = true then (if bt388.1 = x6 then (if bt390.2.2 = true then (if bt393.2.2 = true then (if bt390.1 = bt393.1 then (if bt390.2.1 = bt393.2.1 then (if bt396.2 = true then (if bt396.1 = bt393.2.1 then ((laws_pAbs.f x13).bind fun t401 => ((laws_pAbs.f bt393.2.1).bind fun t402 => (if t401 > t402 then (laws_FnPlaces.j1 k x1 x5 x6 x9 true) else ((laws_pAbs.f x13).bind fun t403 => ((laws_pAbs.f bt393.2.1).bind fun t404 => (if t403 = t404 then (if x6 < bt393.1 then (laws_FnPlaces.j1 k x1 x5 x6 x9 true) else (if bt399.2 = true then (laws_FnPlaces.j1 k x1 x5 x6 x9 (!bt399.1)) else (laws_FnPlaces.j1 k x1 x5 x6 x9 true))) else (if bt399.2 = true then (laws_FnPlaces.j1 k x1 x5 x6 x9 (!bt399.1)) else (laws_FnPlaces.j1 k x1 x5 x6 x9 true)))))))) else (laws_FnPlaces.j1 k x1 x5 x6 x9 true)) else (laws_FnPlaces.j1 k x1 x5 x6 x9 true)) else (laws_FnPlaces.j1 k x1 x5 x6 x9 true)) else (laws_FnPlaces.j1 k x1 x5 x6 x9 true)) else (laws_FnPlaces.j1 k x1 x5 x6 x9 true)) else (laws_FnPlaces.j1 k x1 x5 x6 x9 true)) else (laws_FnPlaces.j1 k x1 x5 x6 x9 true)) else (laws_FnPlaces.j1 k x1 x5 x6 x9 true)))))))) else (laws_FnPlaces.j3 k x1))
def laws_FnPlaces.j3 : Nat → List Int → Option (Bool)
  | 0, _ => none
  | k + 1, x1 => (spec_DrawIsWithin.f k x1).bind fun bt411 => ((impl_IsWithin.f k bt411.1 bt411.2).bind fun bt415 => ((spec_IsWithin.f k bt411.1 bt411.2).bind fun bt417 => (if (bt415.2 != bt417.2) = true then (laws_FnPlaces.j4 k x1 bt411.1 bt411.2 bt415.2 bt417.1 true) else (laws_FnPlaces.j4 k x1 bt411.1 bt411.2 bt415.2 bt417.1 (bt415.1 != bt417.1)))))
def laws_FnPlaces.j4 : Nat → List Int → List (S133) → Int → Bool → Bool → Bool → Option (Bool)
  | 0, _, _, _, _, _, _ => none
  | k + 1, x1, x33, x34, x36, x37, x288 => if x288 = true then (some false) else (if x36 = true then ((impl_WorstError.f k x33).bind fun bt419 => ((spec_WorstError.f k x33).bind fun bt422 => (if bt419.2.2 = true then (if bt422.2.2 = true then (if bt419.2.1 = bt422.2.1 then ((laws_pAbs.f bt422.2.1).bind fun t425 => (if (x37 != (decide (t425 ≤ x34))) = true then (some false) else (laws_FnPlaces.j5 k x1))) else (some false)) else (some false)) else (some false)))) else (laws_FnPlaces.j5 k x1))
def laws_FnPlaces.j5 : Nat → List Int → Option (Bool)
  | 0, _ => none
  | k + 1, x1 => (spec_DrawStepAtPlace.f k x1).bind fun bt426 => ((impl_StepAtPlace.f k bt426.1 bt426.2).bind fun bt430 => ((spec_StepAtPlace.f k bt426.1 bt426.2).bind fun bt432 => (if (bt430.2 != bt432.2) = true then (laws_FnPlaces.j6 k bt426.1 bt426.2 bt430.2 bt432.1 true) else (laws_FnPlaces.j6 k bt426.1 bt426.2 bt430.2 bt432.1 (bt430.1 != bt432.1)))))
def laws_FnPlaces.j6 : Nat → List (S133) → Int → Bool → Int → Bool → Option (Bool)
  | 0, _, _, _, _, _ => none
  | k + 1, x45, x46, x48, x49, x345 => if x345 = true then (some false) else (if x48 = true then ((impl_PlaceOf.f k x45 x49).bind fun bt434 => ((impl_PlaceOf.f k x45 (wrap64 (x49 + 1))).bind fun bt436 => (if bt434.2 = true then (if bt434.1 ≤ x46 then (if bt436.2 = true then (some (decide (bt436.1 > x46))) else (some true)) else (some false)) else (some false)))) else (some true))
def laws_FnPlaces.j1 : Nat → List Int → List (S133) → Int → Int → Bool → Option (Bool)
  | 0, _, _, _, _, _ => none
  | k + 1, x1, x5, x6, x9, x213 => if x213 = true then (some false) else ((impl_StepsOf.f k x5).bind fun bt405 => ((spec_StepsOf.f k x5).bind fun bt407 => (if bt405.2 = true then (if bt407.2 = true then (if bt405.1 = bt407.1 then (laws_FnPlaces.j2 k x1 x5 x6 x9 bt407.1 (decide (x6 > bt407.1))) else (laws_FnPlaces.j2 k x1 x5 x6 x9 bt407.1 true)) else (laws_FnPlaces.j2 k x1 x5 x6 x9 bt407.1 true)) else (laws_FnPlaces.j2 k x1 x5 x6 x9 bt407.1 true))))
def laws_FnPlaces.j2 : Nat → List Int → List (S133) → Int → Int → Int → Bool → Option (Bool)
  | 0, _, _, _, _, _, _ => none
  | k + 1, x1, x5, x6, x9, x29, x239 => if x239 = true then (some false) else (if x6 < x29 then ((impl_PlaceOf.f k x5 (wrap64 (x6 + 1))).bind fun bt409 => (if bt409.2 = true then (if (wrap64 (bt409.1 - x9)) < 900 then (some false) else (if (wrap64 (bt409.1 - x9)) > 1100 then (some false) else (laws_FnPlaces.j3 k x1))) else (some false))) else (laws_FnPlaces.j3 k x1))
end
def laws_FnPlaces.f (k : Nat) (l0 : List Int) (l1 : List Int) : Option (Bool) := (laws_big.f l0 l1).bind fun t375 => (if t375 = true then (some true) else ((spec_DrawPlaceOf.f k l0).bind fun bt376 => ((impl_PlaceOf.f k bt376.1 bt376.2).bind fun bt380 => ((spec_PlaceOf.f k bt376.1 bt376.2).bind fun bt382 => ((impl_ErrorAt.f k bt376.1 bt376.2).bind fun bt384 => ((spec_ErrorAt.f k bt376.1 bt376.2).bind fun bt386 => (if (bt380.2 != bt382.2) = true then (laws_FnPlaces.j0 k l1 bt376.1 bt376.2 bt380.2 bt382.1 bt386.1 true) else (if bt380.1 = bt382.1 then (if (bt384.2 != bt386.2) = true then (laws_FnPlaces.j0 k l1 bt376.1 bt376.2 bt380.2 bt382.1 bt386.1 true) else (if bt384.1 = bt386.1 then (if (bt384.2 != bt380.2) = true then (laws_FnPlaces.j0 k l1 bt376.1 bt376.2 bt380.2 bt382.1 bt386.1 true) else (if bt380.2 = true then (laws_FnPlaces.j0 k l1 bt376.1 bt376.2 bt380.2 bt382.1 bt386.1 (bt386.1 != (wrap64 (bt382.1 - (wrap64 (1000 * bt376.2)))))) else (laws_FnPlaces.j0 k l1 bt376.1 bt376.2 bt380.2 bt382.1 bt386.1 false))) else (laws_FnPlaces.j0 k l1 bt376.1 bt376.2 bt380.2 bt382.1 bt386.1 true))) else (laws_FnPlaces.j0 k l1 bt376.1 bt376.2 bt380.2 bt382.1 bt386.1 true)))))))))
theorem laws_FnPlaces.mono_l : ∀ k, (∀ y0 y1 y2 y3 y4 y5 y6, LeO (laws_FnPlaces.j0 k y0 y1 y2 y3 y4 y5 y6) (laws_FnPlaces.j0 (k + 1) y0 y1 y2 y3 y4 y5 y6)) ∧ (∀ y0, LeO (laws_FnPlaces.j3 k y0) (laws_FnPlaces.j3 (k + 1) y0)) ∧ (∀ y0 y1 y2 y3 y4 y5, LeO (laws_FnPlaces.j4 k y0 y1 y2 y3 y4 y5) (laws_FnPlaces.j4 (k + 1) y0 y1 y2 y3 y4 y5)) ∧ (∀ y0, LeO (laws_FnPlaces.j5 k y0) (laws_FnPlaces.j5 (k + 1) y0)) ∧ (∀ y0 y1 y2 y3 y4, LeO (laws_FnPlaces.j6 k y0 y1 y2 y3 y4) (laws_FnPlaces.j6 (k + 1) y0 y1 y2 y3 y4)) ∧ (∀ y0 y1 y2 y3 y4, LeO (laws_FnPlaces.j1 k y0 y1 y2 y3 y4) (laws_FnPlaces.j1 (k + 1) y0 y1 y2 y3 y4)) ∧ (∀ y0 y1 y2 y3 y4 y5, LeO (laws_FnPlaces.j2 k y0 y1 y2 y3 y4 y5) (laws_FnPlaces.j2 (k + 1) y0 y1 y2 y3 y4 y5))
  | 0 => ⟨fun _ _ _ _ _ _ _ r h => by simp [laws_FnPlaces.j0] at h, fun _ r h => by simp [laws_FnPlaces.j3] at h, fun _ _ _ _ _ _ r h => by simp [laws_FnPlaces.j4] at h, fun _ r h => by simp [laws_FnPlaces.j5] at h, fun _ _ _ _ _ r h => by simp [laws_FnPlaces.j6] at h, fun _ _ _ _ _ r h => by simp [laws_FnPlaces.j1] at h, fun _ _ _ _ _ _ r h => by simp [laws_FnPlaces.j2] at h⟩
  | k + 1 => by
    obtain ⟨ih0, ih1, ih2, ih3, ih4, ih5, ih6⟩ := laws_FnPlaces.mono_l k
    refine ⟨?_, ?_, ?_, ?_, ?_, ?_, ?_⟩
    · intro y0 y1 y2 y3 y4 y5 y6
      unfold laws_FnPlaces.j0
      repeat' first
      | (with_reducible exact ih0 _ _ _ _ _ _ _)
      | (with_reducible exact ih1 _)
      | (with_reducible exact ih2 _ _ _ _ _ _)
      | (with_reducible exact ih3 _)
      | (with_reducible exact ih4 _ _ _ _ _)
      | (with_reducible exact ih5 _ _ _ _ _)
      | (with_reducible exact ih6 _ _ _ _ _ _)
      | (with_reducible exact impl_ErrorAt.mono _ _ _)
      | (with_reducible exact impl_IsWithin.mono _ _ _)
      | (with_reducible exact impl_PlaceOf.mono _ _ _)
      | (with_reducible exact impl_StepAtPlace.mono _ _ _)
      | (with_reducible exact impl_StepsOf.mono _ _)
      | (with_reducible exact impl_WorstError.mono _ _)
      | (with_reducible exact spec_DrawIsWithin.mono _ _)
      | (with_reducible exact spec_DrawPlaceOf.mono _ _)
      | (with_reducible exact spec_DrawStepAtPlace.mono _ _)
      | (with_reducible exact spec_ErrorAt.mono _ _ _)
      | (with_reducible exact spec_IsWithin.mono _ _ _)
      | (with_reducible exact spec_PlaceOf.mono _ _ _)
      | (with_reducible exact spec_StepAtPlace.mono _ _ _)
      | (with_reducible exact spec_StepsOf.mono _ _)
      | (with_reducible exact spec_WorstError.mono _ _)
      | (with_reducible exact LeO.refl _)
      | (with_reducible exact LeO.none _)
      | (with_reducible refine LeO.ite ?_ ?_)
      | (with_reducible refine LeO.bind ?_ (fun _ => ?_))
      | exact ih0 _ _ _ _ _ _ _
      | exact ih1 _
      | exact ih2 _ _ _ _ _ _
      | exact ih3 _
      | exact ih4 _ _ _ _ _
      | exact ih5 _ _ _ _ _
      | exact ih6 _ _ _ _ _ _
      | exact impl_ErrorAt.mono _ _ _
      | exact impl_IsWithin.mono _ _ _
      | exact impl_PlaceOf.mono _ _ _
      | exact impl_StepAtPlace.mono _ _ _
      | exact impl_StepsOf.mono _ _
      | exact impl_WorstError.mono _ _
      | exact spec_DrawIsWithin.mono _ _
      | exact spec_DrawPlaceOf.mono _ _
      | exact spec_DrawStepAtPlace.mono _ _
      | exact spec_ErrorAt.mono _ _ _
      | exact spec_IsWithin.mono _ _ _
      | exact spec_PlaceOf.mono _ _ _
      | exact spec_StepAtPlace.mono _ _ _
      | exact spec_StepsOf.mono _ _
      | exact spec_WorstError.mono _ _
      | exact LeO.none _
      | refine LeO.ite ?_ ?_
      | refine LeO.bind ?_ (fun _ => ?_)
    · intro y0
      unfold laws_FnPlaces.j3
      repeat' first
      | (with_reducible exact ih0 _ _ _ _ _ _ _)
      | (with_reducible exact ih1 _)
      | (with_reducible exact ih2 _ _ _ _ _ _)
      | (with_reducible exact ih3 _)
      | (with_reducible exact ih4 _ _ _ _ _)
      | (with_reducible exact ih5 _ _ _ _ _)
      | (with_reducible exact ih6 _ _ _ _ _ _)
      | (with_reducible exact impl_ErrorAt.mono _ _ _)
      | (with_reducible exact impl_IsWithin.mono _ _ _)
      | (with_reducible exact impl_PlaceOf.mono _ _ _)
      | (with_reducible exact impl_StepAtPlace.mono _ _ _)
      | (with_reducible exact impl_StepsOf.mono _ _)
      | (with_reducible exact impl_WorstError.mono _ _)
      | (with_reducible exact spec_DrawIsWithin.mono _ _)
      | (with_reducible exact spec_DrawPlaceOf.mono _ _)
      | (with_reducible exact spec_DrawStepAtPlace.mono _ _)
      | (with_reducible exact spec_ErrorAt.mono _ _ _)
      | (with_reducible exact spec_IsWithin.mono _ _ _)
      | (with_reducible exact spec_PlaceOf.mono _ _ _)
      | (with_reducible exact spec_StepAtPlace.mono _ _ _)
      | (with_reducible exact spec_StepsOf.mono _ _)
      | (with_reducible exact spec_WorstError.mono _ _)
      | (with_reducible exact LeO.refl _)
      | (with_reducible exact LeO.none _)
      | (with_reducible refine LeO.ite ?_ ?_)
      | (with_reducible refine LeO.bind ?_ (fun _ => ?_))
      | exact ih0 _ _ _ _ _ _ _
      | exact ih1 _
      | exact ih2 _ _ _ _ _ _
      | exact ih3 _
      | exact ih4 _ _ _ _ _
      | exact ih5 _ _ _ _ _
      | exact ih6 _ _ _ _ _ _
      | exact impl_ErrorAt.mono _ _ _
      | exact impl_IsWithin.mono _ _ _
      | exact impl_PlaceOf.mono _ _ _
      | exact impl_StepAtPlace.mono _ _ _
      | exact impl_StepsOf.mono _ _
      | exact impl_WorstError.mono _ _
      | exact spec_DrawIsWithin.mono _ _
      | exact spec_DrawPlaceOf.mono _ _
      | exact spec_DrawStepAtPlace.mono _ _
      | exact spec_ErrorAt.mono _ _ _
      | exact spec_IsWithin.mono _ _ _
      | exact spec_PlaceOf.mono _ _ _
      | exact spec_StepAtPlace.mono _ _ _
      | exact spec_StepsOf.mono _ _
      | exact spec_WorstError.mono _ _
      | exact LeO.none _
      | refine LeO.ite ?_ ?_
      | refine LeO.bind ?_ (fun _ => ?_)
    · intro y0 y1 y2 y3 y4 y5
      unfold laws_FnPlaces.j4
      repeat' first
      | (with_reducible exact ih0 _ _ _ _ _ _ _)
      | (with_reducible exact ih1 _)
      | (with_reducible exact ih2 _ _ _ _ _ _)
      | (with_reducible exact ih3 _)
      | (with_reducible exact ih4 _ _ _ _ _)
      | (with_reducible exact ih5 _ _ _ _ _)
      | (with_reducible exact ih6 _ _ _ _ _ _)
      | (with_reducible exact impl_ErrorAt.mono _ _ _)
      | (with_reducible exact impl_IsWithin.mono _ _ _)
      | (with_reducible exact impl_PlaceOf.mono _ _ _)
      | (with_reducible exact impl_StepAtPlace.mono _ _ _)
      | (with_reducible exact impl_StepsOf.mono _ _)
      | (with_reducible exact impl_WorstError.mono _ _)
      | (with_reducible exact spec_DrawIsWithin.mono _ _)
      | (with_reducible exact spec_DrawPlaceOf.mono _ _)
      | (with_reducible exact spec_DrawStepAtPlace.mono _ _)
      | (with_reducible exact spec_ErrorAt.mono _ _ _)
      | (with_reducible exact spec_IsWithin.mono _ _ _)
      | (with_reducible exact spec_PlaceOf.mono _ _ _)
      | (with_reducible exact spec_StepAtPlace.mono _ _ _)
      | (with_reducible exact spec_StepsOf.mono _ _)
      | (with_reducible exact spec_WorstError.mono _ _)
      | (with_reducible exact LeO.refl _)
      | (with_reducible exact LeO.none _)
      | (with_reducible refine LeO.ite ?_ ?_)
      | (with_reducible refine LeO.bind ?_ (fun _ => ?_))
      | exact ih0 _ _ _ _ _ _ _
      | exact ih1 _
      | exact ih2 _ _ _ _ _ _
      | exact ih3 _
      | exact ih4 _ _ _ _ _
      | exact ih5 _ _ _ _ _
      | exact ih6 _ _ _ _ _ _
      | exact impl_ErrorAt.mono _ _ _
      | exact impl_IsWithin.mono _ _ _
      | exact impl_PlaceOf.mono _ _ _
      | exact impl_StepAtPlace.mono _ _ _
      | exact impl_StepsOf.mono _ _
      | exact impl_WorstError.mono _ _
      | exact spec_DrawIsWithin.mono _ _
      | exact spec_DrawPlaceOf.mono _ _
      | exact spec_DrawStepAtPlace.mono _ _
      | exact spec_ErrorAt.mono _ _ _
      | exact spec_IsWithin.mono _ _ _
      | exact spec_PlaceOf.mono _ _ _
      | exact spec_StepAtPlace.mono _ _ _
      | exact spec_StepsOf.mono _ _
      | exact spec_WorstError.mono _ _
      | exact LeO.none _
      | refine LeO.ite ?_ ?_
      | refine LeO.bind ?_ (fun _ => ?_)
    · intro y0
      unfold laws_FnPlaces.j5
      repeat' first
      | (with_reducible exact ih0 _ _ _ _ _ _ _)
      | (with_reducible exact ih1 _)
      | (with_reducible exact ih2 _ _ _ _ _ _)
      | (with_reducible exact ih3 _)
      | (with_reducible exact ih4 _ _ _ _ _)
      | (with_reducible exact ih5 _ _ _ _ _)
      | (with_reducible exact ih6 _ _ _ _ _ _)
      | (with_reducible exact impl_ErrorAt.mono _ _ _)
      | (with_reducible exact impl_IsWithin.mono _ _ _)
      | (with_reducible exact impl_PlaceOf.mono _ _ _)
      | (with_reducible exact impl_StepAtPlace.mono _ _ _)
      | (with_reducible exact impl_StepsOf.mono _ _)
      | (with_reducible exact impl_WorstError.mono _ _)
      | (with_reducible exact spec_DrawIsWithin.mono _ _)
      | (with_reducible exact spec_DrawPlaceOf.mono _ _)
      | (with_reducible exact spec_DrawStepAtPlace.mono _ _)
      | (with_reducible exact spec_ErrorAt.mono _ _ _)
      | (with_reducible exact spec_IsWithin.mono _ _ _)
      | (with_reducible exact spec_PlaceOf.mono _ _ _)
      | (with_reducible exact spec_StepAtPlace.mono _ _ _)
      | (with_reducible exact spec_StepsOf.mono _ _)
      | (with_reducible exact spec_WorstError.mono _ _)
      | (with_reducible exact LeO.refl _)
      | (with_reducible exact LeO.none _)
      | (with_reducible refine LeO.ite ?_ ?_)
      | (with_reducible refine LeO.bind ?_ (fun _ => ?_))
      | exact ih0 _ _ _ _ _ _ _
      | exact ih1 _
      | exact ih2 _ _ _ _ _ _
      | exact ih3 _
      | exact ih4 _ _ _ _ _
      | exact ih5 _ _ _ _ _
      | exact ih6 _ _ _ _ _ _
      | exact impl_ErrorAt.mono _ _ _
      | exact impl_IsWithin.mono _ _ _
      | exact impl_PlaceOf.mono _ _ _
      | exact impl_StepAtPlace.mono _ _ _
      | exact impl_StepsOf.mono _ _
      | exact impl_WorstError.mono _ _
      | exact spec_DrawIsWithin.mono _ _
      | exact spec_DrawPlaceOf.mono _ _
      | exact spec_DrawStepAtPlace.mono _ _
      | exact spec_ErrorAt.mono _ _ _
      | exact spec_IsWithin.mono _ _ _
      | exact spec_PlaceOf.mono _ _ _
      | exact spec_StepAtPlace.mono _ _ _
      | exact spec_StepsOf.mono _ _
      | exact spec_WorstError.mono _ _
      | exact LeO.none _
      | refine LeO.ite ?_ ?_
      | refine LeO.bind ?_ (fun _ => ?_)
    · intro y0 y1 y2 y3 y4
      unfold laws_FnPlaces.j6
      repeat' first
      | (with_reducible exact ih0 _ _ _ _ _ _ _)
      | (with_reducible exact ih1 _)
      | (with_reducible exact ih2 _ _ _ _ _ _)
      | (with_reducible exact ih3 _)
      | (with_reducible exact ih4 _ _ _ _ _)
      | (with_reducible exact ih5 _ _ _ _ _)
      | (with_reducible exact ih6 _ _ _ _ _ _)
      | (with_reducible exact impl_ErrorAt.mono _ _ _)
      | (with_reducible exact impl_IsWithin.mono _ _ _)
      | (with_reducible exact impl_PlaceOf.mono _ _ _)
      | (with_reducible exact impl_StepAtPlace.mono _ _ _)
      | (with_reducible exact impl_StepsOf.mono _ _)
      | (with_reducible exact impl_WorstError.mono _ _)
      | (with_reducible exact spec_DrawIsWithin.mono _ _)
      | (with_reducible exact spec_DrawPlaceOf.mono _ _)
      | (with_reducible exact spec_DrawStepAtPlace.mono _ _)
      | (with_reducible exact spec_ErrorAt.mono _ _ _)
      | (with_reducible exact spec_IsWithin.mono _ _ _)
      | (with_reducible exact spec_PlaceOf.mono _ _ _)
      | (with_reducible exact spec_StepAtPlace.mono _ _ _)
      | (with_reducible exact spec_StepsOf.mono _ _)
      | (with_reducible exact spec_WorstError.mono _ _)
      | (with_reducible exact LeO.refl _)
      | (with_reducible exact LeO.none _)
      | (with_reducible refine LeO.ite ?_ ?_)
      | (with_reducible refine LeO.bind ?_ (fun _ => ?_))
      | exact ih0 _ _ _ _ _ _ _
      | exact ih1 _
      | exact ih2 _ _ _ _ _ _
      | exact ih3 _
      | exact ih4 _ _ _ _ _
      | exact ih5 _ _ _ _ _
      | exact ih6 _ _ _ _ _ _
      | exact impl_ErrorAt.mono _ _ _
      | exact impl_IsWithin.mono _ _ _
      | exact impl_PlaceOf.mono _ _ _
      | exact impl_StepAtPlace.mono _ _ _
      | exact impl_StepsOf.mono _ _
      | exact impl_WorstError.mono _ _
      | exact spec_DrawIsWithin.mono _ _
      | exact spec_DrawPlaceOf.mono _ _
      | exact spec_DrawStepAtPlace.mono _ _
      | exact spec_ErrorAt.mono _ _ _
      | exact spec_IsWithin.mono _ _ _
      | exact spec_PlaceOf.mono _ _ _
      | exact spec_StepAtPlace.mono _ _ _
      | exact spec_StepsOf.mono _ _
      | exact spec_WorstError.mono _ _
      | exact LeO.none _
      | refine LeO.ite ?_ ?_
      | refine LeO.bind ?_ (fun _ => ?_)
    · intro y0 y1 y2 y3 y4
      unfold laws_FnPlaces.j1
      repeat' first
      | (with_reducible exact ih0 _ _ _ _ _ _ _)
      | (with_reducible exact ih1 _)
      | (with_reducible exact ih2 _ _ _ _ _ _)
      | (with_reducible exact ih3 _)
      | (with_reducible exact ih4 _ _ _ _ _)
      | (with_reducible exact ih5 _ _ _ _ _)
      | (with_reducible exact ih6 _ _ _ _ _ _)
      | (with_reducible exact impl_ErrorAt.mono _ _ _)
      | (with_reducible exact impl_IsWithin.mono _ _ _)
      | (with_reducible exact impl_PlaceOf.mono _ _ _)
      | (with_reducible exact impl_StepAtPlace.mono _ _ _)
      | (with_reducible exact impl_StepsOf.mono _ _)
      | (with_reducible exact impl_WorstError.mono _ _)
      | (with_reducible exact spec_DrawIsWithin.mono _ _)
      | (with_reducible exact spec_DrawPlaceOf.mono _ _)
      | (with_reducible exact spec_DrawStepAtPlace.mono _ _)
      | (with_reducible exact spec_ErrorAt.mono _ _ _)
      | (with_reducible exact spec_IsWithin.mono _ _ _)
      | (with_reducible exact spec_PlaceOf.mono _ _ _)
      | (with_reducible exact spec_StepAtPlace.mono _ _ _)
      | (with_reducible exact spec_StepsOf.mono _ _)
      | (with_reducible exact spec_WorstError.mono _ _)
      | (with_reducible exact LeO.refl _)
      | (with_reducible exact LeO.none _)
      | (with_reducible refine LeO.ite ?_ ?_)
      | (with_reducible refine LeO.bind ?_ (fun _ => ?_))
      | exact ih0 _ _ _ _ _ _ _
      | exact ih1 _
      | exact ih2 _ _ _ _ _ _
      | exact ih3 _
      | exact ih4 _ _ _ _ _
      | exact ih5 _ _ _ _ _
      | exact ih6 _ _ _ _ _ _
      | exact impl_ErrorAt.mono _ _ _
      | exact impl_IsWithin.mono _ _ _
      | exact impl_PlaceOf.mono _ _ _
      | exact impl_StepAtPlace.mono _ _ _
      | exact impl_StepsOf.mono _ _
      | exact impl_WorstError.mono _ _
      | exact spec_DrawIsWithin.mono _ _
      | exact spec_DrawPlaceOf.mono _ _
      | exact spec_DrawStepAtPlace.mono _ _
      | exact spec_ErrorAt.mono _ _ _
      | exact spec_IsWithin.mono _ _ _
      | exact spec_PlaceOf.mono _ _ _
      | exact spec_StepAtPlace.mono _ _ _
      | exact spec_StepsOf.mono _ _
      | exact spec_WorstError.mono _ _
      | exact LeO.none _
      | refine LeO.ite ?_ ?_
      | refine LeO.bind ?_ (fun _ => ?_)
    · intro y0 y1 y2 y3 y4 y5
      unfold laws_FnPlaces.j2
      repeat' first
      | (with_reducible exact ih0 _ _ _ _ _ _ _)
      | (with_reducible exact ih1 _)
      | (with_reducible exact ih2 _ _ _ _ _ _)
      | (with_reducible exact ih3 _)
      | (with_reducible exact ih4 _ _ _ _ _)
      | (with_reducible exact ih5 _ _ _ _ _)
      | (with_reducible exact ih6 _ _ _ _ _ _)
      | (with_reducible exact impl_ErrorAt.mono _ _ _)
      | (with_reducible exact impl_IsWithin.mono _ _ _)
      | (with_reducible exact impl_PlaceOf.mono _ _ _)
      | (with_reducible exact impl_StepAtPlace.mono _ _ _)
      | (with_reducible exact impl_StepsOf.mono _ _)
      | (with_reducible exact impl_WorstError.mono _ _)
      | (with_reducible exact spec_DrawIsWithin.mono _ _)
      | (with_reducible exact spec_DrawPlaceOf.mono _ _)
      | (with_reducible exact spec_DrawStepAtPlace.mono _ _)
      | (with_reducible exact spec_ErrorAt.mono _ _ _)
      | (with_reducible exact spec_IsWithin.mono _ _ _)
      | (with_reducible exact spec_PlaceOf.mono _ _ _)
      | (with_reducible exact spec_StepAtPlace.mono _ _ _)
      | (with_reducible exact spec_StepsOf.mono _ _)
      | (with_reducible exact spec_WorstError.mono _ _)
      | (with_reducible exact LeO.refl _)
      | (with_reducible exact LeO.none _)
      | (with_reducible refine LeO.ite ?_ ?_)
      | (with_reducible refine LeO.bind ?_ (fun _ => ?_))
      | exact ih0 _ _ _ _ _ _ _
      | exact ih1 _
      | exact ih2 _ _ _ _ _ _
      | exact ih3 _
      | exact ih4 _ _ _ _ _
      | exact ih5 _ _ _ _ _
      | exact ih6 _ _ _ _ _ _
      | exact impl_ErrorAt.mono _ _ _
      | exact impl_IsWithin.mono _ _ _
      | exact impl_PlaceOf.mono _ _ _
      | exact impl_StepAtPlace.mono _ _ _
      | exact impl_StepsOf.mono _ _
      | exact impl_WorstError.mono _ _
      | exact spec_DrawIsWithin.mono _ _
      | exact spec_DrawPlaceOf.mono _ _
      | exact spec_DrawStepAtPlace.mono _ _
      | exact spec_ErrorAt.mono _ _ _
      | exact spec_IsWithin.mono _ _ _
      | exact spec_PlaceOf.mono _ _ _
      | exact spec_StepAtPlace.mono _ _ _
      | exact spec_StepsOf.mono _ _
      | exact spec_WorstError.mono _ _
      | exact LeO.none _
      | refine LeO.ite ?_ ?_
      | refine LeO.bind ?_ (fun _ => ?_)
theorem laws_FnPlaces.mono : ∀ a0 a1 k, LeO (laws_FnPlaces.f k a0 a1) (laws_FnPlaces.f (k + 1) a0 a1) := by
  intro a0 a1 k
  obtain ⟨ih0, ih1, ih2, ih3, ih4, ih5, ih6⟩ := laws_FnPlaces.mono_l k
  unfold laws_FnPlaces.f
  repeat' first
      | (with_reducible exact ih0 _ _ _ _ _ _ _)
      | (with_reducible exact ih1 _)
      | (with_reducible exact ih2 _ _ _ _ _ _)
      | (with_reducible exact ih3 _)
      | (with_reducible exact ih4 _ _ _ _ _)
      | (with_reducible exact ih5 _ _ _ _ _)
      | (with_reducible exact ih6 _ _ _ _ _ _)
      | (with_reducible exact impl_ErrorAt.mono _ _ _)
      | (with_reducible exact impl_IsWithin.mono _ _ _)
      | (with_reducible exact impl_PlaceOf.mono _ _ _)
      | (with_reducible exact impl_StepAtPlace.mono _ _ _)
      | (with_reducible exact impl_StepsOf.mono _ _)
      | (with_reducible exact impl_WorstError.mono _ _)
      | (with_reducible exact spec_DrawIsWithin.mono _ _)
      | (with_reducible exact spec_DrawPlaceOf.mono _ _)
      | (with_reducible exact spec_DrawStepAtPlace.mono _ _)
      | (with_reducible exact spec_ErrorAt.mono _ _ _)
      | (with_reducible exact spec_IsWithin.mono _ _ _)
      | (with_reducible exact spec_PlaceOf.mono _ _ _)
      | (with_reducible exact spec_StepAtPlace.mono _ _ _)
      | (with_reducible exact spec_StepsOf.mono _ _)
      | (with_reducible exact spec_WorstError.mono _ _)
      | (with_reducible exact LeO.refl _)
      | (with_reducible exact LeO.none _)
      | (with_reducible refine LeO.ite ?_ ?_)
      | (with_reducible refine LeO.bind ?_ (fun _ => ?_))
      | exact ih0 _ _ _ _ _ _ _
      | exact ih1 _
      | exact ih2 _ _ _ _ _ _
      | exact ih3 _
      | exact ih4 _ _ _ _ _
      | exact ih5 _ _ _ _ _
      | exact ih6 _ _ _ _ _ _
      | exact impl_ErrorAt.mono _ _ _
      | exact impl_IsWithin.mono _ _ _
      | exact impl_PlaceOf.mono _ _ _
      | exact impl_StepAtPlace.mono _ _ _
      | exact impl_StepsOf.mono _ _
      | exact impl_WorstError.mono _ _
      | exact spec_DrawIsWithin.mono _ _
      | exact spec_DrawPlaceOf.mono _ _
      | exact spec_DrawStepAtPlace.mono _ _
      | exact spec_ErrorAt.mono _ _ _
      | exact spec_IsWithin.mono _ _ _
      | exact spec_PlaceOf.mono _ _ _
      | exact spec_StepAtPlace.mono _ _ _
      | exact spec_StepsOf.mono _ _
      | exact spec_WorstError.mono _ _
      | exact LeO.none _
      | refine LeO.ite ?_ ?_
      | refine LeO.bind ?_ (fun _ => ?_)
theorem laws_FnPlaces.j0_t {k : Nat} : ∀ {a0_ a1_ a2_ a3_ a4_ a5_}, laws_FnPlaces.j0 k a0_ a1_ a2_ a3_ a4_ a5_ true = some true → False := by
  intros; rename_i h; revert h; cases k <;> simp [laws_FnPlaces.j0]
theorem laws_FnPlaces.j4_t {k : Nat} : ∀ {a0_ a1_ a2_ a3_ a4_}, laws_FnPlaces.j4 k a0_ a1_ a2_ a3_ a4_ true = some true → False := by
  intros; rename_i h; revert h; cases k <;> simp [laws_FnPlaces.j4]
theorem laws_FnPlaces.j6_t {k : Nat} : ∀ {a0_ a1_ a2_ a3_}, laws_FnPlaces.j6 k a0_ a1_ a2_ a3_ true = some true → False := by
  intros; rename_i h; revert h; cases k <;> simp [laws_FnPlaces.j6]
theorem laws_FnPlaces.j1_t {k : Nat} : ∀ {a0_ a1_ a2_ a3_}, laws_FnPlaces.j1 k a0_ a1_ a2_ a3_ true = some true → False := by
  intros; rename_i h; revert h; cases k <;> simp [laws_FnPlaces.j1]
theorem laws_FnPlaces.j2_t {k : Nat} : ∀ {a0_ a1_ a2_ a3_ a4_}, laws_FnPlaces.j2 k a0_ a1_ a2_ a3_ a4_ true = some true → False := by
  intros; rename_i h; revert h; cases k <;> simp [laws_FnPlaces.j2]
set_option maxHeartbeats 8000000 in
set_option maxRecDepth 100000 in
theorem laws_FnPlaces.calls (k : Nat) (A0 : Option Addr) (c0 : Nat) (l0 : List Int) (A1 : Option Addr) (c1 : Nat) (l1 : List Int) (r : Bool) (w : World) (hr0 : Kd.C (Kd.int .u8) w A0 l0.length l0) (hc0 : l0.length ≤ c0) (hr1 : Kd.C (Kd.int .u8) w A1 l1.length l1) (hc1 : l1.length ≤ c1) (h : laws_FnPlaces.f k l0 l1 = some r) (hr_ : r = true) :
  Calls Try.prog 10 #[.slice A0 l0.length c0, .slice A1 l1.length c1] w fun e w' => e = .returned (.bool r) ∧ Below w.heap.size w w' := by
 have HR0 := zm hr0
 have HC0 := zm hc0
 clear hr0 hc0
 have HR1 := zm hr1
 have HC1 := zm hc1
 clear hr1 hc1
 have HB := zm (Below.refl w.heap.size w)
 have H : ((laws_big.f l0 l1).bind fun t375 => (if t375 = true then (some true) else ((spec_DrawPlaceOf.f k l0).bind fun bt376 => ((impl_PlaceOf.f k bt376.1 bt376.2).bind fun bt380 => ((spec_PlaceOf.f k bt376.1 bt376.2).bind fun bt382 => ((impl_ErrorAt.f k bt376.1 bt376.2).bind fun bt384 => ((spec_ErrorAt.f k bt376.1 bt376.2).bind fun bt386 => (if (bt380.2 != bt382.2) = true then (laws_FnPlaces.j0 k l1 bt376.1 bt376.2 bt380.2 bt382.1 bt386.1 true) else (if bt380.1 = bt382.1 then (if (bt384.2 != bt386.2) = true then (laws_FnPlaces.j0 k l1 bt376.1 bt376.2 bt380.2 bt382.1 bt386.1 true) else (if bt384.1 = bt386.1 then (if (bt384.2 != bt380.2) = true then (laws_FnPlaces.j0 k l1 bt376.1 bt376.2 bt380.2 bt382.1 bt386.1 true) else (if bt380.2 = true then (laws_FnPlaces.j0 k l1 bt376.1 bt376.2 bt380.2 bt382.1 bt386.1 (bt386.1 != (wrap64 (bt382.1 - (wrap64 (1000 * bt376.2)))))) else (laws_FnPlaces.j0 k l1 bt376.1 bt376.2 bt380.2 bt382.1 bt386.1 false))) else (laws_FnPlaces.j0 k l1 bt376.1 bt376.2 bt380.2 bt382.1 bt386.1 true))) else (laws_FnPlaces.j0 k l1 bt376.1 bt376.2 bt380.2 bt382.1 bt386.1 true)))))))))) = some r := h
 clear h
 replace H := Option.bind_eq_some_iff.mp H
 obtain ⟨t375, A30, H⟩ := H
 (try dsimp only at H)
 have A3 := zm A30
 clear A30
 by_cases c4 : t375 = true
 ·
  subst c4
  have H1 : (some true) = some r := by rw [if_pos rfl] at H; exact H
  clear H
  have H := H1
  clear H1
  obtain rfl := Option.some.inj H
  go_enter Try.func10, Try.ntmps10
  go_wp2_with (first | ((with_reducible refine gate_callee (f := 51) rfl ?_); refine goesA_ (some 57) Try.func51 #[.slice A0 l0.length c0, .slice A1 l1.length c1] rfl ?_; (with_reducible refine (laws_big.calls _ _ l0 _ _ l1 true _ ?side1 ?side2 ?side3 ?side4 A3.out).mono ?_); (case side1 => repeat (first | exact HR0.out | (with_reducible refine Kd.C_alloc ?_ _) | (with_reducible refine Kd.C_drewN ?_ _) | (with_reducible refine Kd.C_drew ?_))); (case side2 => exact HC0.out); (case side3 => repeat (first | exact HR1.out | (with_reducible refine Kd.C_alloc ?_ _) | (with_reducible refine Kd.C_drewN ?_ _) | (with_reducible refine Kd.C_drew ?_))); (case side4 => exact HC1.out); rintro e w' ⟨rfl, ⟨nd, rfl⟩⟩; refine ⟨_, rfl, ?_⟩))
  go_ret
  exact ⟨zr, zb⟩
 ·
  replace c4 := Bool.eq_false_iff.mpr c4
  subst c4
  have H1 : ((spec_DrawPlaceOf.f k l0).bind fun bt376 => ((impl_PlaceOf.f k bt376.1 bt376.2).bind fun bt380 => ((spec_PlaceOf.f k bt376.1 bt376.2).bind fun bt382 => ((impl_ErrorAt.f k bt376.1 bt376.2).bind fun bt384 => ((spec_ErrorAt.f k bt376.1 bt376.2).bind fun bt386 => (if (bt380.2 != bt382.2) = true then (laws_FnPlaces.j0 k l1 bt376.1 bt376.2 bt380.2 bt382.1 bt386.1 true) else (if bt380.1 = bt382.1 then (if (bt384.2 != bt386.2) = true then (laws_FnPlaces.j0 k l1 bt376.1 bt376.2 bt380.2 bt382.1 bt386.1 true) else (if bt384.1 = bt386.1 then (if (bt384.2 != bt380.2) = true then (laws_FnPlaces.j0 k l1 bt376.1 bt376.2 bt380.2 bt382.1 bt386.1 true) else (if bt380.2 = true then (laws_FnPlaces.j0 k l1 bt376.1 bt376.2 bt380.2 bt382.1 bt386.1 (bt386.1 != (wrap64 (bt382.1 - (wrap64 (1000 * bt376.2)))))) else (laws_FnPlaces.j0 k l1 bt376.1 bt376.2 bt380.2 bt382.1 bt386.1 false))) else (laws_FnPlaces.j0 k l1 bt376.1 bt376.2 bt380.2 bt382.1 bt386.1 true))) else (laws_FnPlaces.j0 k l1 bt376.1 bt376.2 bt380.2 bt382.1 bt386.1 true)))))))) = some r := by rw [if_neg (show ¬ (false = true) by decide)] at H; exact H
  clear H
  have H := H1
  clear H1
  replace H := Option.bind_eq_some_iff.mp H
  obtain ⟨⟨t376, t377⟩, A50, H⟩ := H
  (try dsimp only at H)
  have A5 := zm A50
  clear A50
  replace H := Option.bind_eq_some_iff.mp H
  obtain ⟨⟨t380, t381⟩, A60, H⟩ := H
  (try dsimp only at H)
  have A6 := zm A60
  clear A60
  replace H := Option.bind_eq_some_iff.mp H
  obtain ⟨⟨t382, t383⟩, A70, H⟩ := H
  (try dsimp only at H)
  have A7 := zm A70
  clear A70
  replace H := Option.bind_eq_some_iff.mp H
  obtain ⟨⟨t384, t385⟩, A80, H⟩ := H
  (try dsimp only at H)
  have A8 := zm A80
  clear A80
  replace H := Option.bind_eq_some_iff.mp H
  obtain ⟨⟨t386, t387⟩, A90, H⟩ := H
  (try dsimp only at H)
  have A9 := zm A90
  clear A90
  have HC10 := zm H
  clear H
  go_enter Try.func10, Try.ntmps10
  go_upto_region 8 with (first | ((with_reducible refine gate_callee (f := 51) rfl ?_); refine goesA_ (some 57) Try.func51 #[.slice A0 l0.length c0, .slice A1 l1.length c1] rfl ?_; (with_reducible refine (laws_big.calls _ _ l0 _ _ l1 false _ ?side1 ?side2 ?side3 ?side4 A3.out).mono ?_); (case side1 => repeat (first | exact HR0.out | (with_reducible refine Kd.C_alloc ?_ _) | (with_reducible refine Kd.C_drewN ?_ _) | (with_reducible refine Kd.C_drew ?_))); (case side2 => exact HC0.out); (case side3 => repeat (first | exact HR1.out | (with_reducible refine Kd.C_alloc ?_ _) | (with_reducible refine Kd.C_drewN ?_ _) | (with_reducible refine Kd.C_drew ?_))); (case side4 => exact HC1.out); rintro e w' ⟨rfl, ⟨nd, rfl⟩⟩; refine ⟨_, rfl, ?_⟩) | ((with_reducible refine gate_callee (f := 52) rfl ?_); refine goesA_ (some 60) Try.func52 #[.slice A0 l0.length c0] rfl ?_; (with_reducible refine (spec_DrawPlaceOf.calls k _ _ l0 t376 t377 _ ?side1 ?side2 A5.out).mono ?_); (case side1 => repeat (first | exact HR0.out | (with_reducible refine Kd.C_alloc ?_ _) | (with_reducible refine Kd.C_drewN ?_ _) | (with_reducible refine Kd.C_drew ?_))); (case side2 => exact HC0.out); rintro e w11 ⟨v378, rfl, ho0, hb⟩; refine ⟨_, rfl, ?_⟩; have n0_ := zm (Kd.R_lower ho0 (below_size zb)); have n1_ := zm (below_step zb hb); clear HB; have HO379 := n0_; have HB := n1_; clear n0_ n1_; (try clear hb); (try clear hb2); (try clear hk); (try clear hi); (try clear ho0); obtain ⟨Ao12, co12, eo12⟩ := Kd.R_slice HO379.out; subst eo12) | ((with_reducible refine gate_callee (f := 53) rfl ?_); refine goesA_ (some 66) Try.func53 #[.slice Ao12 t376.length co12, .int .i64 t377] rfl ?_; (with_reducible refine (impl_PlaceOf.calls k _ _ t376 t377 t380 t381 _ ?side1 ?side2 A6.out).mono ?_); (case side1 => repeat (first | exact (Kd.R_reads' HO379.out).2.2 | (with_reducible refine Kd.C_alloc ?_ _) | (with_reducible refine Kd.C_drewN ?_ _) | (with_reducible refine Kd.C_drew ?_))); (case side2 => exact (Kd.R_reads' HO379.out).2.1); rintro e w13 ⟨rfl, hb⟩; refine ⟨_, rfl, ?_⟩; have n0_ := zm (Kd.R_below (by (with_reducible repeat (first | apply Kd.R_alloc | apply Kd.R_drewN | apply Kd.R_drew)); exact HO379.out) hb); have n1_ := zm (below_step zb hb); clear HO379; clear HB; have HO379 := n0_; have HB := n1_; clear n0_ n1_; (try clear hb); (try clear hb2); (try clear hk); (try clear hi)) | ((with_reducible refine gate_callee (f := 54) rfl ?_); refine goesA_ (some 72) Try.func54 #[.slice Ao12 t376.length co12, .int .i64 t377] rfl ?_; (with_reducible refine (spec_PlaceOf.calls k _ _ t376 t377 t382 t383 _ ?side1 ?side2 A7.out).mono ?_); (case side1 => repeat (first | exact (Kd.R_reads' HO379.out).2.2 | (with_reducible refine Kd.C_alloc ?_ _) | (with_reducible refine Kd.C_drewN ?_ _) | (with_reducible refine Kd.C_drew ?_))); (case side2 => exact (Kd.R_reads' HO379.out).2.1); rintro e w14 ⟨rfl, hb⟩; refine ⟨_, rfl, ?_⟩; have n0_ := zm (Kd.R_below (by (with_reducible repeat (first | apply Kd.R_alloc | apply Kd.R_drewN | apply Kd.R_drew)); exact HO379.out) hb); have n1_ := zm (below_step zb hb); clear HO379; clear HB; have HO379 := n0_; have HB := n1_; clear n0_ n1_; (try clear hb); (try clear hb2); (try clear hk); (try clear hi)) | ((with_reducible refine gate_callee (f := 55) rfl ?_); refine goesA_ (some 78) Try.func55 #[.slice Ao12 t376.length co12, .int .i64 t377] rfl ?_; (with_reducible refine (impl_ErrorAt.calls k _ _ t376 t377 t384 t385 _ ?side1 ?side2 A8.out).mono ?_); (case side1 => repeat (first | exact (Kd.R_reads' HO379.out).2.2 | (with_reducible refine Kd.C_alloc ?_ _) | (with_reducible refine Kd.C_drewN ?_ _) | (with_reducible refine Kd.C_drew ?_))); (case side2 => exact (Kd.R_reads' HO379.out).2.1); rintro e w15 ⟨rfl, hb⟩; refine ⟨_, rfl, ?_⟩; have n0_ := zm (Kd.R_below (by (with_reducible repeat (first | apply Kd.R_alloc | apply Kd.R_drewN | apply Kd.R_drew)); exact HO379.out) hb); have n1_ := zm (below_step zb hb); clear HO379; clear HB; have HO379 := n0_; have HB := n1_; clear n0_ n1_; (try clear hb); (try clear hb2); (try clear hk); (try clear hi)) | ((with_reducible refine gate_callee (f := 56) rfl ?_); refine goesA_ (some 84) Try.func56 #[.slice Ao12 t376.length co12, .int .i64 t377] rfl ?_; (with_reducible refine (spec_ErrorAt.calls k _ _ t376 t377 t386 t387 _ ?side1 ?side2 A9.out).mono ?_); (case side1 => repeat (first | exact (Kd.R_reads' HO379.out).2.2 | (with_reducible refine Kd.C_alloc ?_ _) | (with_reducible refine Kd.C_drewN ?_ _) | (with_reducible refine Kd.C_drew ?_))); (case side2 => exact (Kd.R_reads' HO379.out).2.1); rintro e w16 ⟨rfl, hb⟩; refine ⟨_, rfl, ?_⟩; have n0_ := zm (Kd.R_below (by (with_reducible repeat (first | apply Kd.R_alloc | apply Kd.R_drewN | apply Kd.R_drew)); exact HO379.out) hb); have n1_ := zm (below_step zb hb); clear HO379; clear HB; have HO379 := n0_; have HB := n1_; clear n0_ n1_; (try clear hb); (try clear hb2); (try clear hk); (try clear hi)))
  (try simp only [Act.put, List.setIfInBounds_toArray, List.set_cons_zero, List.set_cons_succ])
  go_cut [120] (fun v120 wc => ∃ (kq : Nat) (x120_9 : Bool), v120 = .bool x120_9 ∧ Aside0 (laws_FnPlaces.j0 kq l1 t376 t377 t381 t382 t386 x120_9 = some r) ∧ Aside0 (kq ≤ k) ∧ Aside0 (Kd.R k133 133 wc w.heap.size (fun _ => True) (.slice Ao12 t376.length co12) t376) ∧ Aside0 (Below w.heap.size w wc))
  case first =>
   as_aux_lemma =>
    have H := HC10.out
    clear HC10
    by_cases c17 : (t381 != t383) = true
    ·
     rw [if_pos c17] at H
     have c17b0 : (t381 != t383) = true := c17
     (try (have c17b1 : decide (t381 = t383) = false := by simpa using c17))
     (try (have c17b2 : (t381 == t383) = false := by simpa using c17))
     (try (have c17b3 : ¬ (t381 = t383) := by simpa using c17))
     clear c17
     (first | rw [c17b0] | (simp only [i64_w, i32_w]; rw [c17b0]) | skip)
     exact (laws_FnPlaces.j0_t (H.trans (congrArg some hr_))).elim
    ·
     rw [if_neg c17] at H
     have c17b0 : (t381 != t383) = false := by simpa using c17
     (try (have c17b1 : decide (t381 = t383) = true := by simpa using c17))
     (try (have c17b2 : (t381 == t383) = true := by simpa using c17))
     clear c17
     (first | rw [c17b0] | (simp only [i64_w, i32_w]; rw [c17b0]) | skip)
     by_cases c18 : t380 = t382
     ·
      rw [if_pos c18] at H
      have c18b0 : (t380 == t382) = true := beq_iff_eq.mpr c18
      have c18b1 : (t380 != t382) = false := bne_eq_false_iff_eq.mpr c18
      clear c18
      by_cases c19 : (t385 != t387) = true
      ·
       rw [if_pos c19] at H
       have c19b0 : (t385 != t387) = true := c19
       (try (have c19b1 : decide (t385 = t387) = false := by simpa using c19))
       (try (have c19b2 : (t385 == t387) = false := by simpa using c19))
       (try (have c19b3 : ¬ (t385 = t387) := by simpa using c19))
       clear c19
       exact (laws_FnPlaces.j0_t (H.trans (congrArg some hr_))).elim
      ·
       rw [if_neg c19] at H
       have c19b0 : (t385 != t387) = false := by simpa using c19
       (try (have c19b1 : decide (t385 = t387) = true := by simpa using c19))
       (try (have c19b2 : (t385 == t387) = true := by simpa using c19))
       clear c19
       by_cases c20 : t384 = t386
       ·
        rw [if_pos c20] at H
        have c20b0 : (t384 == t386) = true := beq_iff_eq.mpr c20
        have c20b1 : (t384 != t386) = false := bne_eq_false_iff_eq.mpr c20
        clear c20
        by_cases c21 : (t385 != t381) = true
        ·
         rw [if_pos c21] at H
         have c21b0 : (t385 != t381) = true := c21
         (try (have c21b1 : decide (t385 = t381) = false := by simpa using c21))
         (try (have c21b2 : (t385 == t381) = false := by simpa using c21))
         (try (have c21b3 : ¬ (t385 = t381) := by simpa using c21))
         clear c21
         exact (laws_FnPlaces.j0_t (H.trans (congrArg some hr_))).elim
        ·
         rw [if_neg c21] at H
         have c21b0 : (t385 != t381) = false := by simpa using c21
         (try (have c21b1 : decide (t385 = t381) = true := by simpa using c21))
         (try (have c21b2 : (t385 == t381) = true := by simpa using c21))
         clear c21
         by_cases c22 : t381 = true
         ·
          subst c22
          have H1 : (laws_FnPlaces.j0 k l1 t376 t377 true t382 t386 (t386 != (wrap64 (t382 - (wrap64 (1000 * t377)))))) = some r := by rw [if_pos rfl] at H; exact H
          clear H
          have H := H1
          clear H1
          have H' := zm H
          clear H
          go_wp2
          go_meet
          case rel => exact ⟨_, ((t386 != (wrap64 (t382 - (wrap64 (1000 * t377)))))), (by first | rfl | (simp; done) | (simp [*]; done)), H', ⟨by first | omega | exact Nat.le_refl _⟩, ⟨by (with_reducible repeat (first | apply Kd.R_alloc | apply Kd.R_drewN | apply Kd.R_drew)); exact HO379.out⟩, ⟨zb⟩⟩
         ·
          replace c22 := Bool.eq_false_iff.mpr c22
          subst c22
          have H1 : (laws_FnPlaces.j0 k l1 t376 t377 false t382 t386 false) = some r := by rw [if_neg (show ¬ (false = true) by decide)] at H; exact H
          clear H
          have H := H1
          clear H1
          have H' := zm H
          clear H
          go_wp2
          go_meet
          case rel => exact ⟨_, (false), (by first | rfl | (simp; done) | (simp [*]; done)), H', ⟨by first | omega | exact Nat.le_refl _⟩, ⟨by (with_reducible repeat (first | apply Kd.R_alloc | apply Kd.R_drewN | apply Kd.R_drew)); exact HO379.out⟩, ⟨zb⟩⟩
       ·
        rw [if_neg c20] at H
        have c20b0 : (t384 == t386) = false := beq_eq_false_iff_ne.mpr c20
        have c20b1 : (t384 != t386) = true := bne_iff_ne.mpr c20
        exact (laws_FnPlaces.j0_t (H.trans (congrArg some hr_))).elim
     ·
      rw [if_neg c18] at H
      have c18b0 : (t380 == t382) = false := beq_eq_false_iff_ne.mpr c18
      have c18b1 : (t380 != t382) = true := bne_iff_ne.mpr c18
      exact (laws_FnPlaces.j0_t (H.trans (congrArg some hr_))).elim
  case rest =>
   as_aux_lemma =>
    clear HC10
    (try clear c1); (try clear c2); (try clear p2); (try clear c4); (try clear c5); (try clear p6); (try clear c10); (try clear c17); (try clear c17b0); (try clear c17b1); (try clear c17b2); (try clear c18); (try clear c18b0); (try clear c18b1); (try clear c19); (try clear c19b0); (try clear c19b1); (try clear c19b2); (try clear c20); (try clear c20b0); (try clear c20b1); (try clear c21); (try clear c21b0); (try clear c21b1); (try clear c21b2); (try clear c22)
    obtain ⟨kq, x120_9, rfl, HA, HJ9, HO_5, HB⟩ := hcut
    cases kq with
    | zero => exact absurd HA.out (by simp [laws_FnPlaces.j0])
    | succ kj9 =>
     have H := HA.out
     clear HA
     simp only [laws_FnPlaces.j0] at H
     by_cases c23 : x120_9 = true
     ·
      subst c23
      have H1 : (some false) = some r := by rw [if_pos rfl] at H; exact H
      clear H
      have H := H1
      clear H1
      exact absurd ((Option.some.inj H).trans hr_) (by decide)
     ·
      replace c23 := Bool.eq_false_iff.mpr c23
      subst c23
      have H1 : (if t381 = true then ((impl_StepAtPlace.f kj9 t376 t382).bind fun bt388 => ((impl_WorstError.f kj9 t376).bind fun bt390 => ((spec_WorstError.f kj9 t376).bind fun bt393 => ((impl_ErrorAt.f kj9 t376 bt390.1).bind fun bt396 => ((laws_pAbs.f bt393.2.1).bind fun t398 => ((impl_IsWithin.f kj9 t376 t398).bind fun bt399 => (if bt388.2 = true then (if bt388.1 = t377 then (if bt390.2.2 = true then (if bt393.2.2 = true then (if bt390.1 = bt393.1 then (if bt390.2.1 = bt393.2.1 then (if bt396.2 = true then (if bt396.1 = bt393.2.1 then ((laws_pAbs.f t386).bind fun t401 => ((laws_pAbs.f bt393.2.1).bind fun t402 => (if t401 > t402 then (laws_FnPlaces.j1 kj9 l1 t376 t377 t382 true) else ((laws_pAbs.f t386).bind fun t403 => ((laws_pAbs.f bt393.2.1).bind fun t404 => (if t403 = t404 then (if t377 < bt393.1 then (laws_FnPlaces.j1 kj9 l1 t376 t377 t382 true) else (if bt399.2 = true then (laws_FnPlaces.j1 kj9 l1 t376 t377 t382 (!bt399.1)) else (laws_FnPlaces.j1 kj9 l1 t376 t377 t382 true))) else (if bt399.2 = true then (laws_FnPlaces.j1 kj9 l1 t376 t377 t382 (!bt399.1)) else (laws_FnPlaces.j1 kj9 l1 t376 t377 t382 true)))))))) else (laws_FnPlaces.j1 kj9 l1 t376 t377 t382 true)) else (laws_FnPlaces.j1 kj9 l1 t376 t377 t382 true)) else (laws_FnPlaces.j1 kj9 l1 t376 t377 t382 true)) else (laws_FnPlaces.j1 kj9 l1 t376 t377 t382 true)) else (laws_FnPlaces.j1 kj9 l1 t376 t377 t382 true)) else (laws_FnPlaces.j1 kj9 l1 t376 t377 t382 true)) else (laws_FnPlaces.j1 kj9 l1 t376 t377 t382 true)) else (laws_FnPlaces.j1 kj9 l1 t376 t377 t382 true)))))))) else (laws_FnPlaces.j3 kj9 l1)) = some r := by rw [if_neg (show ¬ (false = true) by decide)] at H; exact H
      clear H
      have H := H1
      clear H1
      have HC24 := zm H
      clear H
      go_upto_if 121 with (fail)
      go_cut [] (fun wc => ∃ (kq : Nat), Aside0 (laws_FnPlaces.j3 kq l1 = some r) ∧ Aside0 (kq ≤ kj9) ∧ Aside0 (Below w.heap.size w wc))
      case first =>
       as_aux_lemma =>
        have H := HC24.out
        clear HC24
        by_cases c25 : t381 = true
        ·
         subst c25
         have H1 : ((impl_StepAtPlace.f kj9 t376 t382).bind fun bt388 => ((impl_WorstError.f kj9 t376).bind fun bt390 => ((spec_WorstError.f kj9 t376).bind fun bt393 => ((impl_ErrorAt.f kj9 t376 bt390.1).bind fun bt396 => ((laws_pAbs.f bt393.2.1).bind fun t398 => ((impl_IsWithin.f kj9 t376 t398).bind fun bt399 => (if bt388.2 = true then (if bt388.1 = t377 then (if bt390.2.2 = true then (if bt393.2.2 = true then (if bt390.1 = bt393.1 then (if bt390.2.1 = bt393.2.1 then (if bt396.2 = true then (if bt396.1 = bt393.2.1 then ((laws_pAbs.f t386).bind fun t401 => ((laws_pAbs.f bt393.2.1).bind fun t402 => (if t401 > t402 then (laws_FnPlaces.j1 kj9 l1 t376 t377 t382 true) else ((laws_pAbs.f t386).bind fun t403 => ((laws_pAbs.f bt393.2.1).bind fun t404 => (if t403 = t404 then (if t377 < bt393.1 then (laws_FnPlaces.j1 kj9 l1 t376 t377 t382 true) else (if bt399.2 = true then (laws_FnPlaces.j1 kj9 l1 t376 t377 t382 (!bt399.1)) else (laws_FnPlaces.j1 kj9 l1 t376 t377 t382 true))) else (if bt399.2 = true then (laws_FnPlaces.j1 kj9 l1 t376 t377 t382 (!bt399.1)) else (laws_FnPlaces.j1 kj9 l1 t376 t377 t382 true)))))))) else (laws_FnPlaces.j1 kj9 l1 t376 t377 t382 true)) else (laws_FnPlaces.j1 kj9 l1 t376 t377 t382 true)) else (laws_FnPlaces.j1 kj9 l1 t376 t377 t382 true)) else (laws_FnPlaces.j1 kj9 l1 t376 t377 t382 true)) else (laws_FnPlaces.j1 kj9 l1 t376 t377 t382 true)) else (laws_FnPlaces.j1 kj9 l1 t376 t377 t382 true)) else (laws_FnPlaces.j1 kj9 l1 t376 t377 t382 true)) else (laws_FnPlaces.j1 kj9 l1 t376 t377 t382 true)))))))) = some r := by rw [if_pos rfl] at H; exact H
         clear H
         have H := H1
         clear H1
         replace H := Option.bind_eq_some_iff.mp H
         obtain ⟨⟨t388, t389⟩, A260, H⟩ := H
         (try dsimp only at H)
         have A26 := zm A260
         clear A260
         replace H := Option.bind_eq_some_iff.mp H
         obtain ⟨⟨t390, t391, t392⟩, A270, H⟩ := H
         (try dsimp only at H)
         have A27 := zm A270
         clear A270
         replace H := Option.bind_eq_some_iff.mp H
         obtain ⟨⟨t393, t394, t395⟩, A280, H⟩ := H
         (try dsimp only at H)
         have A28 := zm A280
         clear A280
         replace H := Option.bind_eq_some_iff.mp H
         obtain ⟨⟨t396, t397⟩, A290, H⟩ := H
         (try dsimp only at H)
         have A29 := zm A290
         clear A290
         replace H := Option.bind_eq_some_iff.mp H
         obtain ⟨t398, A300, H⟩ := H
         (try dsimp only at H)
         have A30 := zm A300
         clear A300
         replace H := Option.bind_eq_some_iff.mp H
         obtain ⟨⟨t399, t400⟩, A310, H⟩ := H
         (try dsimp only at H)
         have A31 := zm A310
         clear A310
         have HC32 := zm H
         clear H
         go_upto_region 16 with (first | ((with_reducible refine gate_callee (f := 57) rfl ?_); refine goesA_ (some 125) Try.func57 #[.slice Ao12 t376.length co12, .int .i64 t382] rfl ?_; (with_reducible refine (impl_StepAtPlace.calls kj9 _ _ t376 t382 t388 t389 _ ?side1 ?side2 A26.out).mono ?_); (case side1 => repeat (first | exact (Kd.R_reads' HO_5.out).2.2 | (with_reducible refine Kd.C_alloc ?_ _) | (with_reducible refine Kd.C_drewN ?_ _) | (with_reducible refine Kd.C_drew ?_))); (case side2 => exact (Kd.R_reads' HO_5.out).2.1); rintro e w33 ⟨rfl, hb⟩; refine ⟨_, rfl, ?_⟩; have n0_ := zm (Kd.R_below (by (with_reducible repeat (first | apply Kd.R_alloc | apply Kd.R_drewN | apply Kd.R_drew)); exact HO_5.out) hb); have n1_ := zm (below_step zb hb); clear HO_5; clear HB; have HO_5 := n0_; have HB := n1_; clear n0_ n1_; (try clear hb); (try clear hb2); (try clear hk); (try clear hi)) | ((with_reducible refine gate_callee (f := 58) rfl ?_); refine goesA_ (some 130) Try.func58 #[.slice Ao12 t376.length co12] rfl ?_; (with_reducible refine (impl_WorstError.calls kj9 _ _ t376 t390 t391 t392 _ ?side1 ?side2 A27.out).mono ?_); (case side1 => repeat (first | exact (Kd.R_reads' HO_5.out).2.2 | (with_reducible refine Kd.C_alloc ?_ _) | (with_reducible refine Kd.C_drewN ?_ _) | (with_reducible refine Kd.C_drew ?_))); (case side2 => exact (Kd.R_reads' HO_5.out).2.1); rintro e w34 ⟨rfl, hb⟩; refine ⟨_, rfl, ?_⟩; have n0_ := zm (Kd.R_below (by (with_reducible repeat (first | apply Kd.R_alloc | apply Kd.R_drewN | apply Kd.R_drew)); exact HO_5.out) hb); have n1_ := zm (below_step zb hb); clear HO_5; clear HB; have HO_5 := n0_; have HB := n1_; clear n0_ n1_; (try clear hb); (try clear hb2); (try clear hk); (try clear hi)) | ((with_reducible refine gate_callee (f := 59) rfl ?_); refine goesA_ (some 136) Try.func59 #[.slice Ao12 t376.length co12] rfl ?_; (with_reducible refine (spec_WorstError.calls kj9 _ _ t376 t393 t394 t395 _ ?side1 ?side2 A28.out).mono ?_); (case side1 => repeat (first | exact (Kd.R_reads' HO_5.out).2.2 | (with_reducible refine Kd.C_alloc ?_ _) | (with_reducible refine Kd.C_drewN ?_ _) | (with_reducible refine Kd.C_drew ?_))); (case side2 => exact (Kd.R_reads' HO_5.out).2.1); rintro e w35 ⟨rfl, hb⟩; refine ⟨_, rfl, ?_⟩; have n0_ := zm (Kd.R_below (by (with_reducible repeat (first | apply Kd.R_alloc | apply Kd.R_drewN | apply Kd.R_drew)); exact HO_5.out) hb); have n1_ := zm (below_step zb hb); clear HO_5; clear HB; have HO_5 := n0_; have HB := n1_; clear n0_ n1_; (try clear hb); (try clear hb2); (try clear hk); (try clear hi)) | ((with_reducible refine gate_callee (f := 55) rfl ?_); refine goesA_ (some 143) Try.func55 #[.slice Ao12 t376.length co12, .int .i64 t390] rfl ?_; (with_reducible refine (impl_ErrorAt.calls kj9 _ _ t376 t390 t396 t397 _ ?side1 ?side2 A29.out).mono ?_); (case side1 => repeat (first | exact (Kd.R_reads' HO_5.out).2.2 | (with_reducible refine Kd.C_alloc ?_ _) | (with_reducible refine Kd.C_drewN ?_ _) | (with_reducible refine Kd.C_drew ?_))); (case side2 => exact (Kd.R_reads' HO_5.out).2.1); rintro e w36 ⟨rfl, hb⟩; refine ⟨_, rfl, ?_⟩; have n0_ := zm (Kd.R_below (by (with_reducible repeat (first | apply Kd.R_alloc | apply Kd.R_drewN | apply Kd.R_drew)); exact HO_5.out) hb); have n1_ := zm (below_step zb hb); clear HO_5; clear HB; have HO_5 := n0_; have HB := n1_; clear n0_ n1_; (try clear hb); (try clear hb2); (try clear hk); (try clear hi)) | ((with_reducible refine gate_callee (f := 61) rfl ?_); refine goesA_ (some 149) Try.func61 #[.int .i64 t394] rfl ?_; (with_reducible refine (laws_pAbs.calls t394 t398 _ A30.out).mono ?_); rintro e w' ⟨rfl, ⟨nd, rfl⟩⟩; refine ⟨_, rfl, ?_⟩) | ((with_reducible refine gate_callee (f := 60) rfl ?_); refine goesA_ (some 150) Try.func60 #[.slice Ao12 t376.length co12, .int .i64 t398] rfl ?_; (with_reducible refine (impl_IsWithin.calls kj9 _ _ t376 t398 t399 t400 _ ?side1 ?side2 A31.out).mono ?_); (case side1 => repeat (first | exact (Kd.R_reads' HO_5.out).2.2 | (with_reducible refine Kd.C_alloc ?_ _) | (with_reducible refine Kd.C_drewN ?_ _) | (with_reducible refine Kd.C_drew ?_))); (case side2 => exact (Kd.R_reads' HO_5.out).2.1); rintro e w37 ⟨rfl, hb⟩; refine ⟨_, rfl, ?_⟩; have n0_ := zm (Kd.R_below (by (with_reducible repeat (first | apply Kd.R_alloc | apply Kd.R_drewN | apply Kd.R_drew)); exact HO_5.out) hb); have n1_ := zm (below_step zb hb); clear HO_5; clear HB; have HO_5 := n0_; have HB := n1_; clear n0_ n1_; (try clear hb); (try clear hb2); (try clear hk); (try clear hi)))
         (try simp only [Act.put, List.setIfInBounds_toArray, List.set_cons_zero, List.set_cons_succ])
         go_cut [213] (fun v213 wc => ∃ (kq : Nat) (x213_31 : Bool), v213 = .bool x213_31 ∧ Aside0 (laws_FnPlaces.j1 kq l1 t376 t377 t382 x213_31 = some r) ∧ Aside0 (kq ≤ kj9) ∧ Aside0 (Kd.R k133 133 wc w.heap.size (fun _ => True) (.slice Ao12 t376.length co12) t376) ∧ Aside0 (Below w.heap.size w wc))
         case first =>
          as_aux_lemma =>
           have H := HC32.out
           clear HC32
           by_cases c38 : t389 = true
           ·
            subst c38
            have H1 : (if t388 = t377 then (if t392 = true then (if t395 = true then (if t390 = t393 then (if t391 = t394 then (if t397 = true then (if t396 = t394 then ((laws_pAbs.f t386).bind fun t401 => ((laws_pAbs.f t394).bind fun t402 => (if t401 > t402 then (laws_FnPlaces.j1 kj9 l1 t376 t377 t382 true) else ((laws_pAbs.f t386).bind fun t403 => ((laws_pAbs.f t394).bind fun t404 => (if t403 = t404 then (if t377 < t393 then (laws_FnPlaces.j1 kj9 l1 t376 t377 t382 true) else (if t400 = true then (laws_FnPlaces.j1 kj9 l1 t376 t377 t382 (!t399)) else (laws_FnPlaces.j1 kj9 l1 t376 t377 t382 true))) else (if t400 = true then (laws_FnPlaces.j1 kj9 l1 t376 t377 t382 (!t399)) else (laws_FnPlaces.j1 kj9 l1 t376 t377 t382 true)))))))) else (laws_FnPlaces.j1 kj9 l1 t376 t377 t382 true)) else (laws_FnPlaces.j1 kj9 l1 t376 t377 t382 true)) else (laws_FnPlaces.j1 kj9 l1 t376 t377 t382 true)) else (laws_FnPlaces.j1 kj9 l1 t376 t377 t382 true)) else (laws_FnPlaces.j1 kj9 l1 t376 t377 t382 true)) else (laws_FnPlaces.j1 kj9 l1 t376 t377 t382 true)) else (laws_FnPlaces.j1 kj9 l1 t376 t377 t382 true)) = some r := by rw [if_pos rfl] at H; exact H
            clear H
            have H := H1
            clear H1
            by_cases c39 : t388 = t377
            ·
             rw [if_pos c39] at H
             have c39b0 : (t388 == t377) = true := beq_iff_eq.mpr c39
             have c39b1 : (t388 != t377) = false := bne_eq_false_iff_eq.mpr c39
             clear c39
             (first | rw [c39b0] | (simp only [i64_w, i32_w]; rw [c39b0]) | skip)
             by_cases c40 : t392 = true
             ·
              subst c40
              have H1 : (if t395 = true then (if t390 = t393 then (if t391 = t394 then (if t397 = true then (if t396 = t394 then ((laws_pAbs.f t386).bind fun t401 => ((laws_pAbs.f t394).bind fun t402 => (if t401 > t402 then (laws_FnPlaces.j1 kj9 l1 t376 t377 t382 true) else ((laws_pAbs.f t386).bind fun t403 => ((laws_pAbs.f t394).bind fun t404 => (if t403 = t404 then (if t377 < t393 then (laws_FnPlaces.j1 kj9 l1 t376 t377 t382 true) else (if t400 = true then (laws_FnPlaces.j1 kj9 l1 t376 t377 t382 (!t399)) else (laws_FnPlaces.j1 kj9 l1 t376 t377 t382 true))) else (if t400 = true then (laws_FnPlaces.j1 kj9 l1 t376 t377 t382 (!t399)) else (laws_FnPlaces.j1 kj9 l1 t376 t377 t382 true)))))))) else (laws_FnPlaces.j1 kj9 l1 t376 t377 t382 true)) else (laws_FnPlaces.j1 kj9 l1 t376 t377 t382 true)) else (laws_FnPlaces.j1 kj9 l1 t376 t377 t382 true)) else (laws_FnPlaces.j1 kj9 l1 t376 t377 t382 true)) else (laws_FnPlaces.j1 kj9 l1 t376 t377 t382 true)) = some r := by rw [if_pos rfl] at H; exact H
              clear H
              have H := H1
              clear H1
              by_cases c41 : t395 = true
              ·
               subst c41
               have H1 : (if t390 = t393 then (if t391 = t394 then (if t397 = true then (if t396 = t394 then ((laws_pAbs.f t386).bind fun t401 => ((laws_pAbs.f t394).bind fun t402 => (if t401 > t402 then (laws_FnPlaces.j1 kj9 l1 t376 t377 t382 true) else ((laws_pAbs.f t386).bind fun t403 => ((laws_pAbs.f t394).bind fun t404 => (if t403 = t404 then (if t377 < t393 then (laws_FnPlaces.j1 kj9 l1 t376 t377 t382 true) else (if t400 = true then (laws_FnPlaces.j1 kj9 l1 t376 t377 t382 (!t399)) else (laws_FnPlaces.j1 kj9 l1 t376 t377 t382 true))) else (if t400 = true then (laws_FnPlaces.j1 kj9 l1 t376 t377 t382 (!t399)) else (laws_FnPlaces.j1 kj9 l1 t376 t377 t382 true)))))))) else (laws_FnPlaces.j1 kj9 l1 t376 t377 t382 true)) else (laws_FnPlaces.j1 kj9 l1 t376 t377 t382 true)) else (laws_FnPlaces.j1 kj9 l1 t376 t377 t382 true)) else (laws_FnPlaces.j1 kj9 l1 t376 t377 t382 true)) = some r := by rw [if_pos rfl] at H; exact H
               clear H
               have H := H1
               clear H1
               by_cases c42 : t390 = t393
               ·
                rw [if_pos c42] at H
                have c42b0 : (t390 == t393) = true := beq_iff_eq.mpr c42
                have c42b1 : (t390 != t393) = false := bne_eq_false_iff_eq.mpr c42
                clear c42
                by_cases c43 : t391 = t394
                ·
                 rw [if_pos c43] at H
                 have c43b0 : (t391 == t394) = true := beq_iff_eq.mpr c43
                 have c43b1 : (t391 != t394) = false := bne_eq_false_iff_eq.mpr c43
                 clear c43
                 by_cases c44 : t397 = true
                 ·
                  subst c44
                  have H1 : (if t396 = t394 then ((laws_pAbs.f t386).bind fun t401 => ((laws_pAbs.f t394).bind fun t402 => (if t401 > t402 then (laws_FnPlaces.j1 kj9 l1 t376 t377 t382 true) else ((laws_pAbs.f t386).bind fun t403 => ((laws_pAbs.f t394).bind fun t404 => (if t403 = t404 then (if t377 < t393 then (laws_FnPlaces.j1 kj9 l1 t376 t377 t382 true) else (if t400 = true then (laws_FnPlaces.j1 kj9 l1 t376 t377 t382 (!t399)) else (laws_FnPlaces.j1 kj9 l1 t376 t377 t382 true))) else (if t400 = true then (laws_FnPlaces.j1 kj9 l1 t376 t377 t382 (!t399)) else (laws_FnPlaces.j1 kj9 l1 t376 t377 t382 true)))))))) else (laws_FnPlaces.j1 kj9 l1 t376 t377 t382 true)) = some r := by rw [if_pos rfl] at H; exact H
                  clear H
                  have H := H1
                  clear H1
                  by_cases c45 : t396 = t394
                  ·
                   rw [if_pos c45] at H
                   have c45b0 : (t396 == t394) = true := beq_iff_eq.mpr c45
                   have c45b1 : (t396 != t394) = false := bne_eq_false_iff_eq.mpr c45
                   clear c45
                   replace H := Option.bind_eq_some_iff.mp H
                   obtain ⟨t401, A460, H⟩ := H
                   (try dsimp only at H)
                   have A46 := zm A460
                   clear A460
                   replace H := Option.bind_eq_some_iff.mp H
                   obtain ⟨t402, A470, H⟩ := H
                   (try dsimp only at H)
                   have A47 := zm A470
                   clear A470
                   by_cases c48 : t401 > t402
                   ·
                    rw [if_pos c48] at H
                    have c48b0 : decide (t402 < t401) = true := decide_eq_true c48
                    clear c48
                    exact (laws_FnPlaces.j1_t (H.trans (congrArg some hr_))).elim
                   ·
                    rw [if_neg c48] at H
                    have c48b0 : decide (t402 < t401) = false := decide_eq_false c48
                    clear c48
                    replace H := Option.bind_eq_some_iff.mp H
                    obtain ⟨t403, A490, H⟩ := H
                    (try dsimp only at H)
                    have A49 := zm A490
                    clear A490
                    replace H := Option.bind_eq_some_iff.mp H
                    obtain ⟨t404, A500, H⟩ := H
                    (try dsimp only at H)
                    have A50 := zm A500
                    clear A500
                    by_cases c51 : t403 = t404
                    ·
                     rw [if_pos c51] at H
                     have c51b0 : (t403 == t404) = true := beq_iff_eq.mpr c51
                     have c51b1 : (t403 != t404) = false := bne_eq_false_iff_eq.mpr c51
                     clear c51
                     by_cases c52 : t377 < t393
                     ·
                      rw [if_pos c52] at H
                      have c52b0 : decide (t377 < t393) = true := decide_eq_true c52
                      clear c52
                      exact (laws_FnPlaces.j1_t (H.trans (congrArg some hr_))).elim
                     ·
                      rw [if_neg c52] at H
                      have c52b0 : decide (t377 < t393) = false := decide_eq_false c52
                      clear c52
                      by_cases c53 : t400 = true
                      ·
                       subst c53
                       have H1 : (laws_FnPlaces.j1 kj9 l1 t376 t377 t382 (!t399)) = some r := by rw [if_pos rfl] at H; exact H
                       clear H
                       have H := H1
                       clear H1
                       have H' := zm H
                       clear H
                       have Et403_t401 := zm (Option.some.inj (A49.out.symm.trans A46.out) : t403 = t401)
                       have Et404_t402 := zm (Option.some.inj (A50.out.symm.trans A47.out) : t404 = t402)
                       (try (have c51b0y := c51b0; simp only [Et403_t401.out, Et404_t402.out] at c51b0y))
                       (try (have c51b1y := c51b1; simp only [Et403_t401.out, Et404_t402.out] at c51b1y))
                       go_wp2_with (first | (go_at_call 61; (with_reducible refine (laws_pAbs.calls t386 t401 _ A46.out).mono ?_); rintro e w' ⟨rfl, ⟨nd, rfl⟩⟩) | (go_at_call 61; (with_reducible refine (laws_pAbs.calls t394 t402 _ A47.out).mono ?_); rintro e w' ⟨rfl, ⟨nd, rfl⟩⟩) | (go_at_call 61; (with_reducible refine (laws_pAbs.calls t386 t403 _ A49.out).mono ?_); rintro e w' ⟨rfl, ⟨nd, rfl⟩⟩) | (go_at_call 61; (with_reducible refine (laws_pAbs.calls t394 t404 _ A50.out).mono ?_); rintro e w' ⟨rfl, ⟨nd, rfl⟩⟩))
                       go_meet
                       case rel => exact ⟨_, (!t399), (by first | rfl | (simp; done) | (simp [*]; done)), H', ⟨by have := HJ9.out; first | omega | exact Nat.le_refl _⟩, ⟨by (with_reducible repeat (first | apply Kd.R_alloc | apply Kd.R_drewN | apply Kd.R_drew)); exact HO_5.out⟩, ⟨zb⟩⟩
                      ·
                       replace c53 := Bool.eq_false_iff.mpr c53
                       subst c53
                       have H1 : (laws_FnPlaces.j1 kj9 l1 t376 t377 t382 true) = some r := by rw [if_neg (show ¬ (false = true) by decide)] at H; exact H
                       clear H
                       have H := H1
                       clear H1
                       exact (laws_FnPlaces.j1_t (H.trans (congrArg some hr_))).elim
                    ·
                     rw [if_neg c51] at H
                     have c51b0 : (t403 == t404) = false := beq_eq_false_iff_ne.mpr c51
                     have c51b1 : (t403 != t404) = true := bne_iff_ne.mpr c51
                     by_cases c54 : t400 = true
                     ·
                      subst c54
                      have H1 : (laws_FnPlaces.j1 kj9 l1 t376 t377 t382 (!t399)) = some r := by rw [if_pos rfl] at H; exact H
                      clear H
                      have H := H1
                      clear H1
                      have H' := zm H
                      clear H
                      have Et403_t401 := zm (Option.some.inj (A49.out.symm.trans A46.out) : t403 = t401)
                      have Et404_t402 := zm (Option.some.inj (A50.out.symm.trans A47.out) : t404 = t402)
                      (try (have c51b0y := c51b0; simp only [Et403_t401.out, Et404_t402.out] at c51b0y))
                      (try (have c51b1y := c51b1; simp only [Et403_t401.out, Et404_t402.out] at c51b1y))
                      go_wp2_with (first | (go_at_call 61; (with_reducible refine (laws_pAbs.calls t386 t401 _ A46.out).mono ?_); rintro e w' ⟨rfl, ⟨nd, rfl⟩⟩) | (go_at_call 61; (with_reducible refine (laws_pAbs.calls t394 t402 _ A47.out).mono ?_); rintro e w' ⟨rfl, ⟨nd, rfl⟩⟩) | (go_at_call 61; (with_reducible refine (laws_pAbs.calls t386 t403 _ A49.out).mono ?_); rintro e w' ⟨rfl, ⟨nd, rfl⟩⟩) | (go_at_call 61; (with_reducible refine (laws_pAbs.calls t394 t404 _ A50.out).mono ?_); rintro e w' ⟨rfl, ⟨nd, rfl⟩⟩))
                      go_meet
                      case rel => exact ⟨_, (!t399), (by first | rfl | (simp; done) | (simp [*]; done)), H', ⟨by have := HJ9.out; first | omega | exact Nat.le_refl _⟩, ⟨by (with_reducible repeat (first | apply Kd.R_alloc | apply Kd.R_drewN | apply Kd.R_drew)); exact HO_5.out⟩, ⟨zb⟩⟩
                     ·
                      replace c54 := Bool.eq_false_iff.mpr c54
                      subst c54
                      have H1 : (laws_FnPlaces.j1 kj9 l1 t376 t377 t382 true) = some r := by rw [if_neg (show ¬ (false = true) by decide)] at H; exact H
                      clear H
                      have H := H1
                      clear H1
                      exact (laws_FnPlaces.j1_t (H.trans (congrArg some hr_))).elim
                  ·
                   rw [if_neg c45] at H
                   have c45b0 : (t396 == t394) = false := beq_eq_false_iff_ne.mpr c45
                   have c45b1 : (t396 != t394) = true := bne_iff_ne.mpr c45
                   exact (laws_FnPlaces.j1_t (H.trans (congrArg some hr_))).elim
                 ·
                  replace c44 := Bool.eq_false_iff.mpr c44
                  subst c44
                  have H1 : (laws_FnPlaces.j1 kj9 l1 t376 t377 t382 true) = some r := by rw [if_neg (show ¬ (false = true) by decide)] at H; exact H
                  clear H
                  have H := H1
                  clear H1
                  exact (laws_FnPlaces.j1_t (H.trans (congrArg some hr_))).elim
                ·
                 rw [if_neg c43] at H
                 have c43b0 : (t391 == t394) = false := beq_eq_false_iff_ne.mpr c43
                 have c43b1 : (t391 != t394) = true := bne_iff_ne.mpr c43
                 exact (laws_FnPlaces.j1_t (H.trans (congrArg some hr_))).elim
               ·
                rw [if_neg c42] at H
                have c42b0 : (t390 == t393) = false := beq_eq_false_iff_ne.mpr c42
                have c42b1 : (t390 != t393) = true := bne_iff_ne.mpr c42
                exact (laws_FnPlaces.j1_t (H.trans (congrArg some hr_))).elim
              ·
               replace c41 := Bool.eq_false_iff.mpr c41
               subst c41
               have H1 : (laws_FnPlaces.j1 kj9 l1 t376 t377 t382 true) = some r := by rw [if_neg (show ¬ (false = true) by decide)] at H; exact H
               clear H
               have H := H1
               clear H1
               exact (laws_FnPlaces.j1_t (H.trans (congrArg some hr_))).elim
             ·
              replace c40 := Bool.eq_false_iff.mpr c40
              subst c40
              have H1 : (laws_FnPlaces.j1 kj9 l1 t376 t377 t382 true) = some r := by rw [if_neg (show ¬ (false = true) by decide)] at H; exact H
              clear H
              have H := H1
              clear H1
              exact (laws_FnPlaces.j1_t (H.trans (congrArg some hr_))).elim
            ·
             rw [if_neg c39] at H
             have c39b0 : (t388 == t377) = false := beq_eq_false_iff_ne.mpr c39
             have c39b1 : (t388 != t377) = true := bne_iff_ne.mpr c39
             (first | rw [c39b0] | (simp only [i64_w, i32_w]; rw [c39b0]) | skip)
             exact (laws_FnPlaces.j1_t (H.trans (congrArg some hr_))).elim
           ·
            replace c38 := Bool.eq_false_iff.mpr c38
            subst c38
            have H1 : (laws_FnPlaces.j1 kj9 l1 t376 t377 t382 true) = some r := by rw [if_neg (show ¬ (false = true) by decide)] at H; exact H
            clear H
            have H := H1
            clear H1
            exact (laws_FnPlaces.j1_t (H.trans (congrArg some hr_))).elim
         case rest =>
          as_aux_lemma =>
           clear HC32
           (try clear c1); (try clear c2); (try clear p2); (try clear c3); (try clear c4); (try clear c5); (try clear c6); (try clear p6); (try clear c10); (try clear c17); (try clear c17b0); (try clear c17b1); (try clear c17b2); (try clear c18); (try clear c18b0); (try clear c18b1); (try clear c19); (try clear c19b0); (try clear c19b1); (try clear c19b2); (try clear c20); (try clear c20b0); (try clear c20b1); (try clear c21); (try clear c21b0); (try clear c21b1); (try clear c21b2); (try clear c22); (try clear c23); (try clear c25); (try clear c38); (try clear c39); (try clear c39b0); (try clear c39b1); (try clear c40); (try clear c41); (try clear c42); (try clear c42b0); (try clear c42b1); (try clear c43); (try clear c43b0); (try clear c43b1); (try clear c44); (try clear c45); (try clear c45b0); (try clear c45b1); (try clear c48); (try clear c48b0); (try clear c51); (try clear c51b0); (try clear c51b1); (try clear c52); (try clear c52b0); (try clear c53); (try clear c54); (try clear p2); (try clear p6)
           obtain ⟨kq, x213_31, rfl, HA, HJ31, HO_5, HB⟩ := hcut
           cases kq with
           | zero => exact absurd HA.out (by simp [laws_FnPlaces.j1])
           | succ kj31 =>
            have H := HA.out
            clear HA
            simp only [laws_FnPlaces.j1] at H
            by_cases c55 : x213_31 = true
            ·
             subst c55
             have H1 : (some false) = some r := by rw [if_pos rfl] at H; exact H
             clear H
             have H := H1
             clear H1
             exact absurd ((Option.some.inj H).trans hr_) (by decide)
            ·
             replace c55 := Bool.eq_false_iff.mpr c55
             subst c55
             have H1 : ((impl_StepsOf.f kj31 t376).bind fun bt405 => ((spec_StepsOf.f kj31 t376).bind fun bt407 => (if bt405.2 = true then (if bt407.2 = true then (if bt405.1 = bt407.1 then (laws_FnPlaces.j2 kj31 l1 t376 t377 t382 bt407.1 (decide (t377 > bt407.1))) else (laws_FnPlaces.j2 kj31 l1 t376 t377 t382 bt407.1 true)) else (laws_FnPlaces.j2 kj31 l1 t376 t377 t382 bt407.1 true)) else (laws_FnPlaces.j2 kj31 l1 t376 t377 t382 bt407.1 true)))) = some r := by rw [if_neg (show ¬ (false = true) by decide)] at H; exact H
             clear H
             have H := H1
             clear H1
             replace H := Option.bind_eq_some_iff.mp H
             obtain ⟨⟨t405, t406⟩, A560, H⟩ := H
             (try dsimp only at H)
             have A56 := zm A560
             clear A560
             replace H := Option.bind_eq_some_iff.mp H
             obtain ⟨⟨t407, t408⟩, A570, H⟩ := H
             (try dsimp only at H)
             have A57 := zm A570
             clear A570
             have HC58 := zm H
             clear H
             go_upto_region 20 with (first | ((with_reducible refine gate_callee (f := 62) rfl ?_); refine goesA_ (some 216) Try.func62 #[.slice Ao12 t376.length co12] rfl ?_; (with_reducible refine (impl_StepsOf.calls kj31 _ _ t376 t405 t406 _ ?side1 ?side2 A56.out).mono ?_); (case side1 => repeat (first | exact (Kd.R_reads' HO_5.out).2.2 | (with_reducible refine Kd.C_alloc ?_ _) | (with_reducible refine Kd.C_drewN ?_ _) | (with_reducible refine Kd.C_drew ?_))); (case side2 => exact (Kd.R_reads' HO_5.out).2.1); rintro e w59 ⟨rfl, hb⟩; refine ⟨_, rfl, ?_⟩; have n0_ := zm (Kd.R_below (by (with_reducible repeat (first | apply Kd.R_alloc | apply Kd.R_drewN | apply Kd.R_drew)); exact HO_5.out) hb); have n1_ := zm (below_step zb hb); clear HO_5; clear HB; have HO_5 := n0_; have HB := n1_; clear n0_ n1_; (try clear hb); (try clear hb2); (try clear hk); (try clear hi)) | ((with_reducible refine gate_callee (f := 63) rfl ?_); refine goesA_ (some 221) Try.func63 #[.slice Ao12 t376.length co12] rfl ?_; (with_reducible refine (spec_StepsOf.calls kj31 _ _ t376 t407 t408 _ ?side1 ?side2 A57.out).mono ?_); (case side1 => repeat (first | exact (Kd.R_reads' HO_5.out).2.2 | (with_reducible refine Kd.C_alloc ?_ _) | (with_reducible refine Kd.C_drewN ?_ _) | (with_reducible refine Kd.C_drew ?_))); (case side2 => exact (Kd.R_reads' HO_5.out).2.1); rintro e w60 ⟨rfl, hb⟩; refine ⟨_, rfl, ?_⟩; have n0_ := zm (Kd.R_below (by (with_reducible repeat (first | apply Kd.R_alloc | apply Kd.R_drewN | apply Kd.R_drew)); exact HO_5.out) hb); have n1_ := zm (below_step zb hb); clear HO_5; clear HB; have HO_5 := n0_; have HB := n1_; clear n0_ n1_; (try clear hb); (try clear hb2); (try clear hk); (try clear hi)))
             (try simp only [Act.put, List.setIfInBounds_toArray, List.set_cons_zero, List.set_cons_succ])
             go_cut [239] (fun v239 wc => ∃ (kq : Nat) (x239_57 : Bool), v239 = .bool x239_57 ∧ Aside0 (laws_FnPlaces.j2 kq l1 t376 t377 t382 t407 x239_57 = some r) ∧ Aside0 (kq ≤ kj31) ∧ Aside0 (Kd.R k133 133 wc w.heap.size (fun _ => True) (.slice Ao12 t376.length co12) t376) ∧ Aside0 (Below w.heap.size w wc))
             case first =>
              as_aux_lemma =>
               have H := HC58.out
               clear HC58
               by_cases c61 : t406 = true
               ·
                subst c61
                have H1 : (if t408 = true then (if t405 = t407 then (laws_FnPlaces.j2 kj31 l1 t376 t377 t382 t407 (decide (t377 > t407))) else (laws_FnPlaces.j2 kj31 l1 t376 t377 t382 t407 true)) else (laws_FnPlaces.j2 kj31 l1 t376 t377 t382 t407 true)) = some r := by rw [if_pos rfl] at H; exact H
                clear H
                have H := H1
                clear H1
                by_cases c62 : t408 = true
                ·
                 subst c62
                 have H1 : (if t405 = t407 then (laws_FnPlaces.j2 kj31 l1 t376 t377 t382 t407 (decide (t377 > t407))) else (laws_FnPlaces.j2 kj31 l1 t376 t377 t382 t407 true)) = some r := by rw [if_pos rfl] at H; exact H
                 clear H
                 have H := H1
                 clear H1
                 by_cases c63 : t405 = t407
                 ·
                  rw [if_pos c63] at H
                  have c63b0 : (t405 == t407) = true := beq_iff_eq.mpr c63
                  have c63b1 : (t405 != t407) = false := bne_eq_false_iff_eq.mpr c63
                  clear c63
                  (first | rw [c63b0] | (simp only [i64_w, i32_w]; rw [c63b0]) | skip)
                  have H' := zm H
                  clear H
                  go_wp2
                  go_meet
                  case rel => exact ⟨_, (decide (t377 > t407)), (by first | rfl | (simp; done) | (simp [*]; done)), H', ⟨by have := HJ9.out; have := HJ31.out; first | omega | exact Nat.le_refl _⟩, ⟨by (with_reducible repeat (first | apply Kd.R_alloc | apply Kd.R_drewN | apply Kd.R_drew)); exact HO_5.out⟩, ⟨zb⟩⟩
                 ·
                  rw [if_neg c63] at H
                  have c63b0 : (t405 == t407) = false := beq_eq_false_iff_ne.mpr c63
                  have c63b1 : (t405 != t407) = true := bne_iff_ne.mpr c63
                  (first | rw [c63b0] | (simp only [i64_w, i32_w]; rw [c63b0]) | skip)
                  exact (laws_FnPlaces.j2_t (H.trans (congrArg some hr_))).elim
                ·
                 replace c62 := Bool.eq_false_iff.mpr c62
                 subst c62
                 have H1 : (laws_FnPlaces.j2 kj31 l1 t376 t377 t382 t407 true) = some r := by rw [if_neg (show ¬ (false = true) by decide)] at H; exact H
                 clear H
                 have H := H1
                 clear H1
                 exact (laws_FnPlaces.j2_t (H.trans (congrArg some hr_))).elim
               ·
                replace c61 := Bool.eq_false_iff.mpr c61
                subst c61
                have H1 : (laws_FnPlaces.j2 kj31 l1 t376 t377 t382 t407 true) = some r := by rw [if_neg (show ¬ (false = true) by decide)] at H; exact H
                clear H
                have H := H1
                clear H1
                exact (laws_FnPlaces.j2_t (H.trans (congrArg some hr_))).elim
             case rest =>
              as_aux_lemma =>
               clear HC58
               (try clear c1); (try clear c2); (try clear p2); (try clear c3); (try clear c4); (try clear c5); (try clear c6); (try clear p6); (try clear c10); (try clear c17); (try clear c17b0); (try clear c17b1); (try clear c17b2); (try clear c18); (try clear c18b0); (try clear c18b1); (try clear c19); (try clear c19b0); (try clear c19b1); (try clear c19b2); (try clear c20); (try clear c20b0); (try clear c20b1); (try clear c21); (try clear c21b0); (try clear c21b1); (try clear c21b2); (try clear c22); (try clear c23); (try clear c25); (try clear c38); (try clear c39); (try clear c39b0); (try clear c39b1); (try clear c40); (try clear c41); (try clear c42); (try clear c42b0); (try clear c42b1); (try clear c43); (try clear c43b0); (try clear c43b1); (try clear c44); (try clear c45); (try clear c45b0); (try clear c45b1); (try clear c48); (try clear c48b0); (try clear c51); (try clear c51b0); (try clear c51b1); (try clear c52); (try clear c52b0); (try clear c53); (try clear c54); (try clear c55); (try clear c56); (try clear c57); (try clear c58); (try clear c59); (try clear c60); (try clear c61); (try clear c62); (try clear c63); (try clear c63b0); (try clear c63b1); (try clear p2); (try clear p6)
               obtain ⟨kq, x239_57, rfl, HA, HJ57, HO_5, HB⟩ := hcut
               cases kq with
               | zero => exact absurd HA.out (by simp [laws_FnPlaces.j2])
               | succ kj57 =>
                have H := HA.out
                clear HA
                simp only [laws_FnPlaces.j2] at H
                by_cases c64 : x239_57 = true
                ·
                 subst c64
                 have H1 : (some false) = some r := by rw [if_pos rfl] at H; exact H
                 clear H
                 have H := H1
                 clear H1
                 exact absurd ((Option.some.inj H).trans hr_) (by decide)
                ·
                 replace c64 := Bool.eq_false_iff.mpr c64
                 subst c64
                 have H1 : (if t377 < t407 then ((impl_PlaceOf.f kj57 t376 (wrap64 (t377 + 1))).bind fun bt409 => (if bt409.2 = true then (if (wrap64 (bt409.1 - t382)) < 900 then (some false) else (if (wrap64 (bt409.1 - t382)) > 1100 then (some false) else (laws_FnPlaces.j3 kj57 l1))) else (some false))) else (laws_FnPlaces.j3 kj57 l1)) = some r := by rw [if_neg (show ¬ (false = true) by decide)] at H; exact H
                 clear H
                 have H := H1
                 clear H1
                 by_cases c65 : t377 < t407
                 ·
                  rw [if_pos c65] at H
                  have c65b0 : decide (t377 < t407) = true := decide_eq_true c65
                  clear c65
                  replace H := Option.bind_eq_some_iff.mp H
                  obtain ⟨⟨t409, t410⟩, A660, H⟩ := H
                  (try dsimp only at H)
                  have A66 := zm A660
                  clear A660
                  by_cases c67 : t410 = true
                  ·
                   subst c67
                   have H1 : (if (wrap64 (t409 - t382)) < 900 then (some false) else (if (wrap64 (t409 - t382)) > 1100 then (some false) else (laws_FnPlaces.j3 kj57 l1))) = some r := by rw [if_pos rfl] at H; exact H
                   clear H
                   have H := H1
                   clear H1
                   by_cases c68 : (wrap64 (t409 - t382)) < 900
                   ·
                    rw [if_pos c68] at H
                    have c68b0 : decide ((wrap64 (t409 - t382)) < 900) = true := decide_eq_true c68
                    clear c68
                    exact absurd ((Option.some.inj H).trans hr_) (by decide)
                   ·
                    rw [if_neg c68] at H
                    have c68b0 : decide ((wrap64 (t409 - t382)) < 900) = false := decide_eq_false c68
                    clear c68
                    by_cases c69 : (wrap64 (t409 - t382)) > 1100
                    ·
                     rw [if_pos c69] at H
                     have c69b0 : decide (1100 < (wrap64 (t409 - t382))) = true := decide_eq_true c69
                     clear c69
                     exact absurd ((Option.some.inj H).trans hr_) (by decide)
                    ·
                     rw [if_neg c69] at H
                     have c69b0 : decide (1100 < (wrap64 (t409 - t382))) = false := decide_eq_false c69
                     clear c69
                     have H' := zm H
                     clear H
                     go_wp2_with (first | ((with_reducible refine gate_callee (f := 53) rfl ?_); refine goesA_ (some 247) Try.func53 #[.slice Ao12 t376.length co12, .int .i64 (wrap64 (t377 + 1))] rfl ?_; (with_reducible refine (impl_PlaceOf.calls kj57 _ _ t376 (wrap64 (t377 + 1)) t409 true _ ?side1 ?side2 A66.out).mono ?_); (case side1 => repeat (first | exact (Kd.R_reads' HO_5.out).2.2 | (with_reducible refine Kd.C_alloc ?_ _) | (with_reducible refine Kd.C_drewN ?_ _) | (with_reducible refine Kd.C_drew ?_))); (case side2 => exact (Kd.R_reads' HO_5.out).2.1); rintro e w70 ⟨rfl, hb⟩; refine ⟨_, rfl, ?_⟩; have n0_ := zm (Kd.R_below (by (with_reducible repeat (first | apply Kd.R_alloc | apply Kd.R_drewN | apply Kd.R_drew)); exact HO_5.out) hb); have n1_ := zm (below_step zb hb); clear HO_5; clear HB; have HO_5 := n0_; have HB := n1_; clear n0_ n1_; (try clear hb); (try clear hb2); (try clear hk); (try clear hi)))
                     go_meet
                     case rel => exact ⟨_, H', ⟨by have := HJ9.out; have := HJ31.out; have := HJ57.out; first | omega | exact Nat.le_refl _⟩, ⟨zb⟩⟩
                  ·
                   replace c67 := Bool.eq_false_iff.mpr c67
                   subst c67
                   have H1 : (some false) = some r := by rw [if_neg (show ¬ (false = true) by decide)] at H; exact H
                   clear H
                   have H := H1
                   clear H1
                   exact absurd ((Option.some.inj H).trans hr_) (by decide)
                 ·
                  rw [if_neg c65] at H
                  have c65b0 : decide (t377 < t407) = false := decide_eq_false c65
                  clear c65
                  have H' := zm H
                  clear H
                  go_wp2
                  go_meet
                  case rel => exact ⟨_, H', ⟨by have := HJ9.out; have := HJ31.out; have := HJ57.out; first | omega | exact Nat.le_refl _⟩, ⟨zb⟩⟩
        ·
         replace c25 := Bool.eq_false_iff.mpr c25
         subst c25
         have H1 : (laws_FnPlaces.j3 kj9 l1) = some r := by rw [if_neg (show ¬ (false = true) by decide)] at H; exact H
         clear H
         have H := H1
         clear H1
         have H' := zm H
         clear H
         go_wp2
         go_meet
         case rel => exact ⟨_, H', ⟨by have := HJ9.out; first | omega | exact Nat.le_refl _⟩, ⟨zb⟩⟩
      case rest =>
       as_aux_lemma =>
        clear HC24
        (try clear c1); (try clear c2); (try clear p2); (try clear c3); (try clear c4); (try clear c5); (try clear c6); (try clear p6); (try clear c10); (try clear c17); (try clear c17b0); (try clear c17b1); (try clear c17b2); (try clear c18); (try clear c18b0); (try clear c18b1); (try clear c19); (try clear c19b0); (try clear c19b1); (try clear c19b2); (try clear c20); (try clear c20b0); (try clear c20b1); (try clear c21); (try clear c21b0); (try clear c21b1); (try clear c21b2); (try clear c22); (try clear c23); (try clear c25); (try clear c38); (try clear c39); (try clear c39b0); (try clear c39b1); (try clear c40); (try clear c41); (try clear c42); (try clear c42b0); (try clear c42b1); (try clear c43); (try clear c43b0); (try clear c43b1); (try clear c44); (try clear c45); (try clear c45b0); (try clear c45b1); (try clear c48); (try clear c48b0); (try clear c51); (try clear c51b0); (try clear c51b1); (try clear c52); (try clear c52b0); (try clear c53); (try clear c54); (try clear c55); (try clear c56); (try clear c57); (try clear c58); (try clear c59); (try clear c60); (try clear c61); (try clear c62); (try clear c63); (try clear c63b0); (try clear c63b1); (try clear c64); (try clear p64); (try clear c65); (try clear c65b0); (try clear c67); (try clear c68); (try clear c68b0); (try clear c69); (try clear c69b0); (try clear p2); (try clear p6)
        obtain ⟨kq, HA, HJ23, HB⟩ := hcut
        cases kq with
        | zero => exact absurd HA.out (by simp [laws_FnPlaces.j3])
        | succ kj23 =>
         have H := HA.out
         clear HA
         simp only [laws_FnPlaces.j3] at H
         replace H := Option.bind_eq_some_iff.mp H
         obtain ⟨⟨t411, t412⟩, A710, H⟩ := H
         (try dsimp only at H)
         have A71 := zm A710
         clear A710
         replace H := Option.bind_eq_some_iff.mp H
         obtain ⟨⟨t415, t416⟩, A720, H⟩ := H
         (try dsimp only at H)
         have A72 := zm A720
         clear A720
         replace H := Option.bind_eq_some_iff.mp H
         obtain ⟨⟨t417, t418⟩, A730, H⟩ := H
         (try dsimp only at H)
         have A73 := zm A730
         clear A730
         have HC74 := zm H
         clear H
         go_upto_region 29 with (first | ((with_reducible refine gate_callee (f := 64) rfl ?_); refine goesA_ (some 266) Try.func64 #[.slice A1 l1.length c1] rfl ?_; (with_reducible refine (spec_DrawIsWithin.calls kj23 _ _ l1 t411 t412 _ ?side1 ?side2 A71.out).mono ?_); (case side1 => repeat (first | exact (Kd.C_below HR1.out HB.out) | (with_reducible refine Kd.C_alloc ?_ _) | (with_reducible refine Kd.C_drewN ?_ _) | (with_reducible refine Kd.C_drew ?_))); (case side2 => exact HC1.out); rintro e w75 ⟨v413, rfl, ho0, hb⟩; refine ⟨_, rfl, ?_⟩; have n0_ := zm (Kd.R_lower ho0 (below_size zb)); have n1_ := zm (below_step zb hb); clear HB; have HO414 := n0_; have HB := n1_; clear n0_ n1_; (try clear hb); (try clear hb2); (try clear hk); (try clear hi); (try clear ho0); obtain ⟨Ao76, co76, eo76⟩ := Kd.R_slice HO414.out; subst eo76) | ((with_reducible refine gate_callee (f := 60) rfl ?_); refine goesA_ (some 272) Try.func60 #[.slice Ao76 t411.length co76, .int .i64 t412] rfl ?_; (with_reducible refine (impl_IsWithin.calls kj23 _ _ t411 t412 t415 t416 _ ?side1 ?side2 A72.out).mono ?_); (case side1 => repeat (first | exact (Kd.R_reads' HO414.out).2.2 | (with_reducible refine Kd.C_alloc ?_ _) | (with_reducible refine Kd.C_drewN ?_ _) | (with_reducible refine Kd.C_drew ?_))); (case side2 => exact (Kd.R_reads' HO414.out).2.1); rintro e w77 ⟨rfl, hb⟩; refine ⟨_, rfl, ?_⟩; have n0_ := zm (Kd.R_below (by (with_reducible repeat (first | apply Kd.R_alloc | apply Kd.R_drewN | apply Kd.R_drew)); exact HO414.out) hb); have n1_ := zm (below_step zb hb); clear HO414; clear HB; have HO414 := n0_; have HB := n1_; clear n0_ n1_; (try clear hb); (try clear hb2); (try clear hk); (try clear hi)) | ((with_reducible refine gate_callee (f := 65) rfl ?_); refine goesA_ (some 278) Try.func65 #[.slice Ao76 t411.length co76, .int .i64 t412] rfl ?_; (with_reducible refine (spec_IsWithin.calls kj23 _ _ t411 t412 t417 t418 _ ?side1 ?side2 A73.out).mono ?_); (case side1 => repeat (first | exact (Kd.R_reads' HO414.out).2.2 | (with_reducible refine Kd.C_alloc ?_ _) | (with_reducible refine Kd.C_drewN ?_ _) | (with_reducible refine Kd.C_drew ?_))); (case side2 => exact (Kd.R_reads' HO414.out).2.1); rintro e w78 ⟨rfl, hb⟩; refine ⟨_, rfl, ?_⟩; have n0_ := zm (Kd.R_below (by (with_reducible repeat (first | apply Kd.R_alloc | apply Kd.R_drewN | apply Kd.R_drew)); exact HO414.out) hb); have n1_ := zm (below_step zb hb); clear HO414; clear HB; have HO414 := n0_; have HB := n1_; clear n0_ n1_; (try clear hb); (try clear hb2); (try clear hk); (try clear hi)))
         (try simp only [Act.put, List.setIfInBounds_toArray, List.set_cons_zero, List.set_cons_succ])
         go_cut [288] (fun v288 wc => ∃ (kq : Nat) (x288_73 : Bool), v288 = .bool x288_73 ∧ Aside0 (laws_FnPlaces.j4 kq l1 t411 t412 t416 t417 x288_73 = some r) ∧ Aside0 (kq ≤ kj23) ∧ Aside0 (Kd.R k133 133 wc w.heap.size (fun _ => True) (.slice Ao76 t411.length co76) t411) ∧ Aside0 (Below w.heap.size w wc))
         case first =>
          as_aux_lemma =>
           have H := HC74.out
           clear HC74
           by_cases c79 : (t416 != t418) = true
           ·
            rw [if_pos c79] at H
            have c79b0 : (t416 != t418) = true := c79
            (try (have c79b1 : decide (t416 = t418) = false := by simpa using c79))
            (try (have c79b2 : (t416 == t418) = false := by simpa using c79))
            (try (have c79b3 : ¬ (t416 = t418) := by simpa using c79))
            clear c79
            (first | rw [c79b0] | (simp only [i64_w, i32_w]; rw [c79b0]) | skip)
            exact (laws_FnPlaces.j4_t (H.trans (congrArg some hr_))).elim
           ·
            rw [if_neg c79] at H
            have c79b0 : (t416 != t418) = false := by simpa using c79
            (try (have c79b1 : decide (t416 = t418) = true := by simpa using c79))
            (try (have c79b2 : (t416 == t418) = true := by simpa using c79))
            clear c79
            (first | rw [c79b0] | (simp only [i64_w, i32_w]; rw [c79b0]) | skip)
            have H' := zm H
            clear H
            go_wp2
            go_meet
            case rel => exact ⟨_, ((t415 != t417)), (by first | rfl | (simp; done) | (simp [*]; done)), H', ⟨by have := HJ9.out; have := HJ23.out; first | omega | exact Nat.le_refl _⟩, ⟨by (with_reducible repeat (first | apply Kd.R_alloc | apply Kd.R_drewN | apply Kd.R_drew)); exact HO414.out⟩, ⟨zb⟩⟩
         case rest =>
          as_aux_lemma =>
           clear HC74
           (try clear c1); (try clear c2); (try clear p2); (try clear c3); (try clear c4); (try clear c5); (try clear c6); (try clear p6); (try clear c7); (try clear c10); (try clear c17); (try clear c17b0); (try clear c17b1); (try clear c17b2); (try clear c18); (try clear c18b0); (try clear c18b1); (try clear c19); (try clear c19b0); (try clear c19b1); (try clear c19b2); (try clear c20); (try clear c20b0); (try clear c20b1); (try clear c21); (try clear c21b0); (try clear c21b1); (try clear c21b2); (try clear c22); (try clear c23); (try clear c25); (try clear c38); (try clear c39); (try clear c39b0); (try clear c39b1); (try clear c40); (try clear c41); (try clear c42); (try clear c42b0); (try clear c42b1); (try clear c43); (try clear c43b0); (try clear c43b1); (try clear c44); (try clear c45); (try clear c45b0); (try clear c45b1); (try clear c48); (try clear c48b0); (try clear c51); (try clear c51b0); (try clear c51b1); (try clear c52); (try clear c52b0); (try clear c53); (try clear c54); (try clear c55); (try clear c56); (try clear c57); (try clear c58); (try clear c59); (try clear c60); (try clear c61); (try clear c62); (try clear c63); (try clear c63b0); (try clear c63b1); (try clear c64); (try clear p64); (try clear c65); (try clear c65b0); (try clear c67); (try clear c68); (try clear c68b0); (try clear c69); (try clear c69b0); (try clear c79); (try clear c79b0); (try clear c79b1); (try clear c79b2); (try clear p2); (try clear p6); (try clear p64)
           obtain ⟨kq, x288_73, rfl, HA, HJ73, HO_33, HB⟩ := hcut
           cases kq with
           | zero => exact absurd HA.out (by simp [laws_FnPlaces.j4])
           | succ kj73 =>
            have H := HA.out
            clear HA
            simp only [laws_FnPlaces.j4] at H
            by_cases c80 : x288_73 = true
            ·
             subst c80
             have H1 : (some false) = some r := by rw [if_pos rfl] at H; exact H
             clear H
             have H := H1
             clear H1
             exact absurd ((Option.some.inj H).trans hr_) (by decide)
            ·
             replace c80 := Bool.eq_false_iff.mpr c80
             subst c80
             have H1 : (if t416 = true then ((impl_WorstError.f kj73 t411).bind fun bt419 => ((spec_WorstError.f kj73 t411).bind fun bt422 => (if bt419.2.2 = true then (if bt422.2.2 = true then (if bt419.2.1 = bt422.2.1 then ((laws_pAbs.f bt422.2.1).bind fun t425 => (if (t417 != (decide (t425 ≤ t412))) = true then (some false) else (laws_FnPlaces.j5 kj73 l1))) else (some false)) else (some false)) else (some false)))) else (laws_FnPlaces.j5 kj73 l1)) = some r := by rw [if_neg (show ¬ (false = true) by decide)] at H; exact H
             clear H
             have H := H1
             clear H1
             have HC81 := zm H
             clear H
             go_upto_if 289 with (fail)
             go_cut [] (fun wc => ∃ (kq : Nat), Aside0 (laws_FnPlaces.j5 kq l1 = some r) ∧ Aside0 (kq ≤ kj73) ∧ Aside0 (Below w.heap.size w wc))
             case first =>
              as_aux_lemma =>
               have H := HC81.out
               clear HC81
               by_cases c82 : t416 = true
               ·
                subst c82
                have H1 : ((impl_WorstError.f kj73 t411).bind fun bt419 => ((spec_WorstError.f kj73 t411).bind fun bt422 => (if bt419.2.2 = true then (if bt422.2.2 = true then (if bt419.2.1 = bt422.2.1 then ((laws_pAbs.f bt422.2.1).bind fun t425 => (if (t417 != (decide (t425 ≤ t412))) = true then (some false) else (laws_FnPlaces.j5 kj73 l1))) else (some false)) else (some false)) else (some false)))) = some r := by rw [if_pos rfl] at H; exact H
                clear H
                have H := H1
                clear H1
                replace H := Option.bind_eq_some_iff.mp H
                obtain ⟨⟨t419, t420, t421⟩, A830, H⟩ := H
                (try dsimp only at H)
                have A83 := zm A830
                clear A830
                replace H := Option.bind_eq_some_iff.mp H
                obtain ⟨⟨t422, t423, t424⟩, A840, H⟩ := H
                (try dsimp only at H)
                have A84 := zm A840
                clear A840
                by_cases c85 : t421 = true
                ·
                 subst c85
                 have H1 : (if t424 = true then (if t420 = t423 then ((laws_pAbs.f t423).bind fun t425 => (if (t417 != (decide (t425 ≤ t412))) = true then (some false) else (laws_FnPlaces.j5 kj73 l1))) else (some false)) else (some false)) = some r := by rw [if_pos rfl] at H; exact H
                 clear H
                 have H := H1
                 clear H1
                 by_cases c86 : t424 = true
                 ·
                  subst c86
                  have H1 : (if t420 = t423 then ((laws_pAbs.f t423).bind fun t425 => (if (t417 != (decide (t425 ≤ t412))) = true then (some false) else (laws_FnPlaces.j5 kj73 l1))) else (some false)) = some r := by rw [if_pos rfl] at H; exact H
                  clear H
                  have H := H1
                  clear H1
                  by_cases c87 : t420 = t423
                  ·
                   rw [if_pos c87] at H
                   have c87b0 : (t420 == t423) = true := beq_iff_eq.mpr c87
                   have c87b1 : (t420 != t423) = false := bne_eq_false_iff_eq.mpr c87
                   clear c87
                   (first | rw [c87b0] | (simp only [i64_w, i32_w]; rw [c87b0]) | skip)
                   replace H := Option.bind_eq_some_iff.mp H
                   obtain ⟨t425, A880, H⟩ := H
                   (try dsimp only at H)
                   have A88 := zm A880
                   clear A880
                   by_cases c89 : (t417 != (decide (t425 ≤ t412))) = true
                   ·
                    rw [if_pos c89] at H
                    have c89b0 : (t417 != (decide (t425 ≤ t412))) = true := c89
                    (try (have c89b1 : decide (t417 = (decide (t425 ≤ t412))) = false := by simpa using c89))
                    (try (have c89b2 : (t417 == (decide (t425 ≤ t412))) = false := by simpa using c89))
                    (try (have c89b3 : ¬ (t417 = (decide (t425 ≤ t412))) := by simpa using c89))
                    clear c89
                    exact absurd ((Option.some.inj H).trans hr_) (by decide)
                   ·
                    rw [if_neg c89] at H
                    have c89b0 : (t417 != (decide (t425 ≤ t412))) = false := by simpa using c89
                    (try (have c89b1 : decide (t417 = (decide (t425 ≤ t412))) = true := by simpa using c89))
                    (try (have c89b2 : (t417 == (decide (t425 ≤ t412))) = true := by simpa using c89))
                    clear c89
                    have H' := zm H
                    clear H
                    go_wp2_with (first | ((with_reducible refine gate_callee (f := 58) rfl ?_); refine goesA_ (some 292) Try.func58 #[.slice Ao76 t411.length co76] rfl ?_; (with_reducible refine (impl_WorstError.calls kj73 _ _ t411 t419 t420 true _ ?side1 ?side2 A83.out).mono ?_); (case side1 => repeat (first | exact (Kd.R_reads' HO_33.out).2.2 | (with_reducible refine Kd.C_alloc ?_ _) | (with_reducible refine Kd.C_drewN ?_ _) | (with_reducible refine Kd.C_drew ?_))); (case side2 => exact (Kd.R_reads' HO_33.out).2.1); rintro e w90 ⟨rfl, hb⟩; refine ⟨_, rfl, ?_⟩; have n0_ := zm (Kd.R_below (by (with_reducible repeat (first | apply Kd.R_alloc | apply Kd.R_drewN | apply Kd.R_drew)); exact HO_33.out) hb); have n1_ := zm (below_step zb hb); clear HO_33; clear HB; have HO_33 := n0_; have HB := n1_; clear n0_ n1_; (try clear hb); (try clear hb2); (try clear hk); (try clear hi)) | ((with_reducible refine gate_callee (f := 59) rfl ?_); refine goesA_ (some 298) Try.func59 #[.slice Ao76 t411.length co76] rfl ?_; (with_reducible refine (spec_WorstError.calls kj73 _ _ t411 t422 t423 true _ ?side1 ?side2 A84.out).mono ?_); (case side1 => repeat (first | exact (Kd.R_reads' HO_33.out).2.2 | (with_reducible refine Kd.C_alloc ?_ _) | (with_reducible refine Kd.C_drewN ?_ _) | (with_reducible refine Kd.C_drew ?_))); (case side2 => exact (Kd.R_reads' HO_33.out).2.1); rintro e w91 ⟨rfl, hb⟩; refine ⟨_, rfl, ?_⟩; have n0_ := zm (Kd.R_below (by (with_reducible repeat (first | apply Kd.R_alloc | apply Kd.R_drewN | apply Kd.R_drew)); exact HO_33.out) hb); have n1_ := zm (below_step zb hb); clear HO_33; clear HB; have HO_33 := n0_; have HB := n1_; clear n0_ n1_; (try clear hb); (try clear hb2); (try clear hk); (try clear hi)) | (go_at_call 61; (with_reducible refine (laws_pAbs.calls t423 t425 _ A88.out).mono ?_); rintro e w' ⟨rfl, ⟨nd, rfl⟩⟩))
                    go_meet
                    case rel => exact ⟨_, H', ⟨by have := HJ9.out; have := HJ23.out; have := HJ73.out; first | omega | exact Nat.le_refl _⟩, ⟨zb⟩⟩
                  ·
                   rw [if_neg c87] at H
                   have c87b0 : (t420 == t423) = false := beq_eq_false_iff_ne.mpr c87
                   have c87b1 : (t420 != t423) = true := bne_iff_ne.mpr c87
                   (first | rw [c87b0] | (simp only [i64_w, i32_w]; rw [c87b0]) | skip)
                   exact absurd ((Option.some.inj H).trans hr_) (by decide)
                 ·
                  replace c86 := Bool.eq_false_iff.mpr c86
                  subst c86
                  have H1 : (some false) = some r := by rw [if_neg (show ¬ (false = true) by decide)] at H; exact H
                  clear H
                  have H := H1
                  clear H1
                  exact absurd ((Option.some.inj H).trans hr_) (by decide)
                ·
                 replace c85 := Bool.eq_false_iff.mpr c85
                 subst c85
                 have H1 : (some false) = some r := by rw [if_neg (show ¬ (false = true) by decide)] at H; exact H
                 clear H
                 have H := H1
                 clear H1
                 exact absurd ((Option.some.inj H).trans hr_) (by decide)
               ·
                replace c82 := Bool.eq_false_iff.mpr c82
                subst c82
                have H1 : (laws_FnPlaces.j5 kj73 l1) = some r := by rw [if_neg (show ¬ (false = true) by decide)] at H; exact H
                clear H
                have H := H1
                clear H1
                have H' := zm H
                clear H
                go_wp2
                go_meet
                case rel => exact ⟨_, H', ⟨by have := HJ9.out; have := HJ23.out; have := HJ73.out; first | omega | exact Nat.le_refl _⟩, ⟨zb⟩⟩
             case rest =>
              as_aux_lemma =>
               clear HC81
               (try clear c1); (try clear c2); (try clear p2); (try clear c3); (try clear c4); (try clear c5); (try clear c6); (try clear p6); (try clear c7); (try clear c8); (try clear c10); (try clear c17); (try clear c17b0); (try clear c17b1); (try clear c17b2); (try clear c18); (try clear c18b0); (try clear c18b1); (try clear c19); (try clear c19b0); (try clear c19b1); (try clear c19b2); (try clear c20); (try clear c20b0); (try clear c20b1); (try clear c21); (try clear c21b0); (try clear c21b1); (try clear c21b2); (try clear c22); (try clear c23); (try clear c25); (try clear c38); (try clear c39); (try clear c39b0); (try clear c39b1); (try clear c40); (try clear c41); (try clear c42); (try clear c42b0); (try clear c42b1); (try clear c43); (try clear c43b0); (try clear c43b1); (try clear c44); (try clear c45); (try clear c45b0); (try clear c45b1); (try clear c48); (try clear c48b0); (try clear c51); (try clear c51b0); (try clear c51b1); (try clear c52); (try clear c52b0); (try clear c53); (try clear c54); (try clear c55); (try clear c56); (try clear c57); (try clear c58); (try clear c59); (try clear c60); (try clear c61); (try clear c62); (try clear c63); (try clear c63b0); (try clear c63b1); (try clear c64); (try clear p64); (try clear c65); (try clear c65b0); (try clear c67); (try clear c68); (try clear c68b0); (try clear c69); (try clear c69b0); (try clear c79); (try clear c79b0); (try clear c79b1); (try clear c79b2); (try clear c80); (try clear c82); (try clear c85); (try clear c86); (try clear c87); (try clear c87b0); (try clear c87b1); (try clear c89); (try clear c89b0); (try clear c89b1); (try clear c89b2); (try clear p2); (try clear p6); (try clear p64)
               obtain ⟨kq, HA, HJ80, HB⟩ := hcut
               cases kq with
               | zero => exact absurd HA.out (by simp [laws_FnPlaces.j5])
               | succ kj80 =>
                have H := HA.out
                clear HA
                simp only [laws_FnPlaces.j5] at H
                replace H := Option.bind_eq_some_iff.mp H
                obtain ⟨⟨t426, t427⟩, A920, H⟩ := H
                (try dsimp only at H)
                have A92 := zm A920
                clear A920
                replace H := Option.bind_eq_some_iff.mp H
                obtain ⟨⟨t430, t431⟩, A930, H⟩ := H
                (try dsimp only at H)
                have A93 := zm A930
                clear A930
                replace H := Option.bind_eq_some_iff.mp H
                obtain ⟨⟨t432, t433⟩, A940, H⟩ := H
                (try dsimp only at H)
                have A94 := zm A940
                clear A940
                have HC95 := zm H
                clear H
                go_upto_region 39 with (first | ((with_reducible refine gate_callee (f := 66) rfl ?_); refine goesA_ (some 323) Try.func66 #[.slice A1 l1.length c1] rfl ?_; (with_reducible refine (spec_DrawStepAtPlace.calls kj80 _ _ l1 t426 t427 _ ?side1 ?side2 A92.out).mono ?_); (case side1 => repeat (first | exact (Kd.C_below HR1.out HB.out) | (with_reducible refine Kd.C_alloc ?_ _) | (with_reducible refine Kd.C_drewN ?_ _) | (with_reducible refine Kd.C_drew ?_))); (case side2 => exact HC1.out); rintro e w96 ⟨v428, rfl, ho0, hb⟩; refine ⟨_, rfl, ?_⟩; have n0_ := zm (Kd.R_lower ho0 (below_size zb)); have n1_ := zm (below_step zb hb); clear HB; have HO429 := n0_; have HB := n1_; clear n0_ n1_; (try clear hb); (try clear hb2); (try clear hk); (try clear hi); (try clear ho0); obtain ⟨Ao97, co97, eo97⟩ := Kd.R_slice HO429.out; subst eo97) | ((with_reducible refine gate_callee (f := 57) rfl ?_); refine goesA_ (some 329) Try.func57 #[.slice Ao97 t426.length co97, .int .i64 t427] rfl ?_; (with_reducible refine (impl_StepAtPlace.calls kj80 _ _ t426 t427 t430 t431 _ ?side1 ?side2 A93.out).mono ?_); (case side1 => repeat (first | exact (Kd.R_reads' HO429.out).2.2 | (with_reducible refine Kd.C_alloc ?_ _) | (with_reducible refine Kd.C_drewN ?_ _) | (with_reducible refine Kd.C_drew ?_))); (case side2 => exact (Kd.R_reads' HO429.out).2.1); rintro e w98 ⟨rfl, hb⟩; refine ⟨_, rfl, ?_⟩; have n0_ := zm (Kd.R_below (by (with_reducible repeat (first | apply Kd.R_alloc | apply Kd.R_drewN | apply Kd.R_drew)); exact HO429.out) hb); have n1_ := zm (below_step zb hb); clear HO429; clear HB; have HO429 := n0_; have HB := n1_; clear n0_ n1_; (try clear hb); (try clear hb2); (try clear hk); (try clear hi)) | ((with_reducible refine gate_callee (f := 67) rfl ?_); refine goesA_ (some 335) Try.func67 #[.slice Ao97 t426.length co97, .int .i64 t427] rfl ?_; (with_reducible refine (spec_StepAtPlace.calls kj80 _ _ t426 t427 t432 t433 _ ?side1 ?side2 A94.out).mono ?_); (case side1 => repeat (first | exact (Kd.R_reads' HO429.out).2.2 | (with_reducible refine Kd.C_alloc ?_ _) | (with_reducible refine Kd.C_drewN ?_ _) | (with_reducible refine Kd.C_drew ?_))); (case side2 => exact (Kd.R_reads' HO429.out).2.1); rintro e w99 ⟨rfl, hb⟩; refine ⟨_, rfl, ?_⟩; have n0_ := zm (Kd.R_below (by (with_reducible repeat (first | apply Kd.R_alloc | apply Kd.R_drewN | apply Kd.R_drew)); exact HO429.out) hb); have n1_ := zm (below_step zb hb); clear HO429; clear HB; have HO429 := n0_; have HB := n1_; clear n0_ n1_; (try clear hb); (try clear hb2); (try clear hk); (try clear hi)))
                (try simp only [Act.put, List.setIfInBounds_toArray, List.set_cons_zero, List.set_cons_succ])
                go_cut [345] (fun v345 wc => ∃ (kq : Nat) (x345_94 : Bool), v345 = .bool x345_94 ∧ Aside0 (laws_FnPlaces.j6 kq t426 t427 t431 t432 x345_94 = some r) ∧ Aside0 (kq ≤ kj80) ∧ Aside0 (Kd.R k133 133 wc w.heap.size (fun _ => True) (.slice Ao97 t426.length co97) t426) ∧ Aside0 (Below w.heap.size w wc))
                case first =>
                 as_aux_lemma =>
                  have H := HC95.out
                  clear HC95
                  by_cases c100 : (t431 != t433) = true
                  ·
                   rw [if_pos c100] at H
                   have c100b0 : (t431 != t433) = true := c100
                   (try (have c100b1 : decide (t431 = t433) = false := by simpa using c100))
                   (try (have c100b2 : (t431 == t433) = false := by simpa using c100))
                   (try (have c100b3 : ¬ (t431 = t433) := by simpa using c100))
                   clear c100
                   (first | rw [c100b0] | (simp only [i64_w, i32_w]; rw [c100b0]) | skip)
                   exact (laws_FnPlaces.j6_t (H.trans (congrArg some hr_))).elim
                  ·
                   rw [if_neg c100] at H
                   have c100b0 : (t431 != t433) = false := by simpa using c100
                   (try (have c100b1 : decide (t431 = t433) = true := by simpa using c100))
                   (try (have c100b2 : (t431 == t433) = true := by simpa using c100))
                   clear c100
                   (first | rw [c100b0] | (simp only [i64_w, i32_w]; rw [c100b0]) | skip)
                   have H' := zm H
                   clear H
                   go_wp2
                   go_meet
                   case rel => exact ⟨_, ((t430 != t432)), (by first | rfl | (simp; done) | (simp [*]; done)), H', ⟨by have := HJ9.out; have := HJ23.out; have := HJ73.out; have := HJ80.out; first | omega | exact Nat.le_refl _⟩, ⟨by (with_reducible repeat (first | apply Kd.R_alloc | apply Kd.R_drewN | apply Kd.R_drew)); exact HO429.out⟩, ⟨zb⟩⟩
                case rest =>
                 as_aux_lemma =>
                  clear HC95
                  (try clear c1); (try clear c2); (try clear p2); (try clear c3); (try clear c4); (try clear c5); (try clear c6); (try clear p6); (try clear c7); (try clear c8); (try clear c10); (try clear c17); (try clear c17b0); (try clear c17b1); (try clear c17b2); (try clear c18); (try clear c18b0); (try clear c18b1); (try clear c19); (try clear c19b0); (try clear c19b1); (try clear c19b2); (try clear c20); (try clear c20b0); (try clear c20b1); (try clear c21); (try clear c21b0); (try clear c21b1); (try clear c21b2); (try clear c22); (try clear c23); (try clear c25); (try clear c38); (try clear c39); (try clear c39b0); (try clear c39b1); (try clear c40); (try clear c41); (try clear c42); (try clear c42b0); (try clear c42b1); (try clear c43); (try clear c43b0); (try clear c43b1); (try clear c44); (try clear c45); (try clear c45b0); (try clear c45b1); (try clear c48); (try clear c48b0); (try clear c51); (try clear c51b0); (try clear c51b1); (try clear c52); (try clear c52b0); (try clear c53); (try clear c54); (try clear c55); (try clear c56); (try clear c57); (try clear c58); (try clear c59); (try clear c60); (try clear c61); (try clear c62); (try clear c63); (try clear c63b0); (try clear c63b1); (try clear c64); (try clear p64); (try clear c65); (try clear c65b0); (try clear c66); (try clear c67); (try clear c68); (try clear c68b0); (try clear c69); (try clear c69b0); (try clear c79); (try clear c79b0); (try clear c79b1); (try clear c79b2); (try clear c80); (try clear c82); (try clear c85); (try clear c86); (try clear c87); (try clear c87b0); (try clear c87b1); (try clear c89); (try clear c89b0); (try clear c89b1); (try clear c89b2); (try clear c100); (try clear c100b0); (try clear c100b1); (try clear c100b2); (try clear p2); (try clear p6); (try clear p64)
                  obtain ⟨kq, x345_94, rfl, HA, HJ94, HO_45, HB⟩ := hcut
                  cases kq with
                  | zero => exact absurd HA.out (by simp [laws_FnPlaces.j6])
                  | succ kj94 =>
                   have H := HA.out
                   clear HA
                   simp only [laws_FnPlaces.j6] at H
                   by_cases c101 : x345_94 = true
                   ·
                    subst c101
                    have H1 : (some false) = some r := by rw [if_pos rfl] at H; exact H
                    clear H
                    have H := H1
                    clear H1
                    exact absurd ((Option.some.inj H).trans hr_) (by decide)
                   ·
                    replace c101 := Bool.eq_false_iff.mpr c101
                    subst c101
                    have H1 : (if t431 = true then ((impl_PlaceOf.f kj94 t426 t432).bind fun bt434 => ((impl_PlaceOf.f kj94 t426 (wrap64 (t432 + 1))).bind fun bt436 => (if bt434.2 = true then (if bt434.1 ≤ t427 then (if bt436.2 = true then (some (decide (bt436.1 > t427))) else (some true)) else (some false)) else (some false)))) else (some true)) = some r := by rw [if_neg (show ¬ (false = true) by decide)] at H; exact H
                    clear H
                    have H := H1
                    clear H1
                    by_cases c102 : t431 = true
                    ·
                     subst c102
                     have H1 : ((impl_PlaceOf.f kj94 t426 t432).bind fun bt434 => ((impl_PlaceOf.f kj94 t426 (wrap64 (t432 + 1))).bind fun bt436 => (if bt434.2 = true then (if bt434.1 ≤ t427 then (if bt436.2 = true then (some (decide (bt436.1 > t427))) else (some true)) else (some false)) else (some false)))) = some r := by rw [if_pos rfl] at H; exact H
                     clear H
                     have H := H1
                     clear H1
                     replace H := Option.bind_eq_some_iff.mp H
                     obtain ⟨⟨t434, t435⟩, A1030, H⟩ := H
                     (try dsimp only at H)
                     have A103 := zm A1030
                     clear A1030
                     replace H := Option.bind_eq_some_iff.mp H
                     obtain ⟨⟨t436, t437⟩, A1040, H⟩ := H
                     (try dsimp only at H)
                     have A104 := zm A1040
                     clear A1040
                     by_cases c105 : t435 = true
                     ·
                      subst c105
                      have H1 : (if t434 ≤ t427 then (if t437 = true then (some (decide (t436 > t427))) else (some true)) else (some false)) = some r := by rw [if_pos rfl] at H; exact H
                      clear H
                      have H := H1
                      clear H1
                      by_cases c106 : t434 ≤ t427
                      ·
                       rw [if_pos c106] at H
                       have c106b0 : decide (t434 ≤ t427) = true := decide_eq_true c106
                       clear c106
                       by_cases c107 : t437 = true
                       ·
                        subst c107
                        have H1 : (some (decide (t436 > t427))) = some r := by rw [if_pos rfl] at H; exact H
                        clear H
                        have H := H1
                        clear H1
                        obtain rfl := Option.some.inj H
                        go_wp2_with (first | ((with_reducible refine gate_callee (f := 53) rfl ?_); refine goesA_ (some 350) Try.func53 #[.slice Ao97 t426.length co97, .int .i64 t432] rfl ?_; (with_reducible refine (impl_PlaceOf.calls kj94 _ _ t426 t432 t434 true _ ?side1 ?side2 A103.out).mono ?_); (case side1 => repeat (first | exact (Kd.R_reads' HO_45.out).2.2 | (with_reducible refine Kd.C_alloc ?_ _) | (with_reducible refine Kd.C_drewN ?_ _) | (with_reducible refine Kd.C_drew ?_))); (case side2 => exact (Kd.R_reads' HO_45.out).2.1); rintro e w108 ⟨rfl, hb⟩; refine ⟨_, rfl, ?_⟩; have n0_ := zm (Kd.R_below (by (with_reducible repeat (first | apply Kd.R_alloc | apply Kd.R_drewN | apply Kd.R_drew)); exact HO_45.out) hb); have n1_ := zm (below_step zb hb); clear HO_45; clear HB; have HO_45 := n0_; have HB := n1_; clear n0_ n1_; (try clear hb); (try clear hb2); (try clear hk); (try clear hi)) | ((with_reducible refine gate_callee (f := 53) rfl ?_); refine goesA_ (some 357) Try.func53 #[.slice Ao97 t426.length co97, .int .i64 (wrap64 (t432 + 1))] rfl ?_; (with_reducible refine (impl_PlaceOf.calls kj94 _ _ t426 (wrap64 (t432 + 1)) t436 true _ ?side1 ?side2 A104.out).mono ?_); (case side1 => repeat (first | exact (Kd.R_reads' HO_45.out).2.2 | (with_reducible refine Kd.C_alloc ?_ _) | (with_reducible refine Kd.C_drewN ?_ _) | (with_reducible refine Kd.C_drew ?_))); (case side2 => exact (Kd.R_reads' HO_45.out).2.1); rintro e w109 ⟨rfl, hb⟩; refine ⟨_, rfl, ?_⟩; have n0_ := zm (Kd.R_below (by (with_reducible repeat (first | apply Kd.R_alloc | apply Kd.R_drewN | apply Kd.R_drew)); exact HO_45.out) hb); have n1_ := zm (below_step zb hb); clear HO_45; clear HB; have HO_45 := n0_; have HB := n1_; clear n0_ n1_; (try clear hb); (try clear hb2); (try clear hk); (try clear hi)))
                        go_ret
                        exact ⟨zr, zb⟩
                       ·
                        replace c107 := Bool.eq_false_iff.mpr c107
                        subst c107
                        have H1 : (some true) = some r := by rw [if_neg (show ¬ (false = true) by decide)] at H; exact H
                        clear H
                        have H := H1
                        clear H1
                        obtain rfl := Option.some.inj H
                        go_wp2_with (first | ((with_reducible refine gate_callee (f := 53) rfl ?_); refine goesA_ (some 350) Try.func53 #[.slice Ao97 t426.length co97, .int .i64 t432] rfl ?_; (with_reducible refine (impl_PlaceOf.calls kj94 _ _ t426 t432 t434 true _ ?side1 ?side2 A103.out).mono ?_); (case side1 => repeat (first | exact (Kd.R_reads' HO_45.out).2.2 | (with_reducible refine Kd.C_alloc ?_ _) | (with_reducible refine Kd.C_drewN ?_ _) | (with_reducible refine Kd.C_drew ?_))); (case side2 => exact (Kd.R_reads' HO_45.out).2.1); rintro e w110 ⟨rfl, hb⟩; refine ⟨_, rfl, ?_⟩; have n0_ := zm (Kd.R_below (by (with_reducible repeat (first | apply Kd.R_alloc | apply Kd.R_drewN | apply Kd.R_drew)); exact HO_45.out) hb); have n1_ := zm (below_step zb hb); clear HO_45; clear HB; have HO_45 := n0_; have HB := n1_; clear n0_ n1_; (try clear hb); (try clear hb2); (try clear hk); (try clear hi)) | ((with_reducible refine gate_callee (f := 53) rfl ?_); refine goesA_ (some 357) Try.func53 #[.slice Ao97 t426.length co97, .int .i64 (wrap64 (t432 + 1))] rfl ?_; (with_reducible refine (impl_PlaceOf.calls kj94 _ _ t426 (wrap64 (t432 + 1)) t436 false _ ?side1 ?side2 A104.out).mono ?_); (case side1 => repeat (first | exact (Kd.R_reads' HO_45.out).2.2 | (with_reducible refine Kd.C_alloc ?_ _) | (with_reducible refine Kd.C_drewN ?_ _) | (with_reducible refine Kd.C_drew ?_))); (case side2 => exact (Kd.R_reads' HO_45.out).2.1); rintro e w111 ⟨rfl, hb⟩; refine ⟨_, rfl, ?_⟩; have n0_ := zm (Kd.R_below (by (with_reducible repeat (first | apply Kd.R_alloc | apply Kd.R_drewN | apply Kd.R_drew)); exact HO_45.out) hb); have n1_ := zm (below_step zb hb); clear HO_45; clear HB; have HO_45 := n0_; have HB := n1_; clear n0_ n1_; (try clear hb); (try clear hb2); (try clear hk); (try clear hi)))
                        go_ret
                        exact ⟨zr, zb⟩
                      ·
                       rw [if_neg c106] at H
                       have c106b0 : decide (t434 ≤ t427) = false := decide_eq_false c106
                       clear c106
                       exact absurd ((Option.some.inj H).trans hr_) (by decide)
                     ·
                      replace c105 := Bool.eq_false_iff.mpr c105
                      subst c105
                      have H1 : (some false) = some r := by rw [if_neg (show ¬ (false = true) by decide)] at H; exact H
                      clear H
                      have H := H1
                      clear H1
                      exact absurd ((Option.some.inj H).trans hr_) (by decide)
                    ·
                     replace c102 := Bool.eq_false_iff.mpr c102
                     subst c102
                     have H1 : (some true) = some r := by rw [if_neg (show ¬ (false = true) by decide)] at H; exact H
                     clear H
                     have H := H1
                     clear H1
                     obtain rfl := Option.some.inj H
                     go_wp2
                     go_ret
                     exact ⟨zr, zb⟩


end Go.Proofs.Ytepkedhmbfkenaa.PPl
