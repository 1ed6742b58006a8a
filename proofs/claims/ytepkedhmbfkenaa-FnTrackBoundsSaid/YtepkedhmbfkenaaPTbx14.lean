-- Written for this claim by a program of this session (wip/tpl/patchprint.py), not by print.sh.
import Derived.Test.YtepkedhmbfkenaaPTbx0
import Derived.Test.YtepkedhmbfkenaaPTbx3
import Derived.Test.YtepkedhmbfkenaaPTbx4
import Derived.Test.YtepkedhmbfkenaaPTbx5
import Derived.Test.YtepkedhmbfkenaaPTbx7
import Derived.Test.YtepkedhmbfkenaaPTbx8
import Derived.Test.YtepkedhmbfkenaaPTbx9
import Derived.Test.YtepkedhmbfkenaaPTbx10
import Derived.Test.YtepkedhmbfkenaaPTbx11
import Derived.Test.YtepkedhmbfkenaaPTbx12
import Derived.Test.YtepkedhmbfkenaaPTbx13
namespace Go.Proofs.Ytepkedhmbfkenaa.PTb
open Go.RowKit Go.Proofs.YtepkedhmbfkenaaW.PrintWords Go.Proofs.YtepkedhmbfkenaaW.PrintLast Go.Proofs.YtepkedhmbfkenaaW.PrintMore
attribute [local go_sem] max2_int min2_int max_two min_two max_three min_three max_four min_four   -- for this text's walks alone
set_option linter.unusedVariables false
set_option linter.unusedSimpArgs false

/-! ### laws_FnTrackBounds: function 11 -/
mutual
def laws_FnTrackBounds.j0 : Nat → Int → Bool → Int → Int → Int → Int → List Int → Int → Bool → Int → Int → Int → List Int → Bool → List Int → Bool → Int → Int → Int → Int → Option (Bool)
  | 0, _, _, _, _, _, _, _, _, _, _, _, _, _, _, _, _, _, _, _, _ => none
  | k + 1, x6, x8, x9, x13, x15, x16, x17, x18, x20, x21, x24, x25, x26, x27, x28, x179, x598000, x598001, x621000, x621001 => if x179 = true then (some false) else (if x8 = true then (if x13 > x9 then (laws_FnTrackBounds.j1 k x6 x13 x15 x16 x17 x18 x20 x21 x24 x25 x26 x27 x28 true x598000 x598001 x621000 x621001) else (laws_FnTrackBounds.j1 k x6 x13 x15 x16 x17 x18 x20 x21 x24 x25 x26 x27 x28 (decide (x9 < x598000)) x598000 x598001 x621000 x621001)) else (laws_FnTrackBounds.j2 k x15 x16 x17 x18 x20 x21 x24 x25 x26 x27 x28 x621000 x621001))
def laws_FnTrackBounds.j2 : Nat → Int → Int → List Int → Int → Bool → Int → Int → Int → List Int → Bool → List Int → Int → Int → Option (Bool)
  | 0, _, _, _, _, _, _, _, _, _, _, _, _, _ => none
  | k + 1, x15, x16, x17, x18, x20, x21, x24, x25, x26, x27, x28, x621000, x621001 => if x20 = true then ((impl_WorstOffset.f k x15 x21 x16 x17).bind fun bt639 => (if bt639.2 = true then (laws_FnTrackBounds.j3 k x15 x16 x17 x18 x21 x24 x25 x26 x27 x28 (decide (bt639.1 > x18)) x621000 x621001) else (laws_FnTrackBounds.j3 k x15 x16 x17 x18 x21 x24 x25 x26 x27 x28 true x621000 x621001))) else (laws_FnTrackBounds.j4 k x24 x25 x26 x27 x28 x621000 x621001)
def laws_FnTrackBounds.j4 : Nat → Int → Int → List Int → Bool → List Int → Int → Int → Option (Bool)
  | 0, _, _, _, _, _, _, _ => none
  | k + 1, x24, x25, x26, x27, x28, x621000, x621001 => if x27 = true then ((impl_TrackRun.f k x621000 x621001 0 x26).bind fun bt645 => ((spec_TrackRun.f k x621000 x621001 0 x28).bind fun bt649 => (if bt645.2 = true then (if bt649.2 = true then ((laws_qInts.f k bt645.1 bt649.1).bind fun t653 => (if t653 = true then (if (bt649.1.length : Int) = 0 then (laws_FnTrackBounds.j5 k x24 x25 x28 bt649.1 true x621000 x621001) else (laws_FnTrackBounds.j5 k x24 x25 x28 bt649.1 (decide ((bt649.1.length : Int) > 20)) x621000 x621001)) else (laws_FnTrackBounds.j5 k x24 x25 x28 bt649.1 true x621000 x621001))) else (laws_FnTrackBounds.j5 k x24 x25 x28 bt649.1 true x621000 x621001)) else (laws_FnTrackBounds.j5 k x24 x25 x28 bt649.1 true x621000 x621001)))) else (some true)
def laws_FnTrackBounds.j5 : Nat → Int → Int → List Int → List Int → Bool → Int → Int → Option (Bool)
  | 0, _, _, _, _, _, _, _ => none
  | k + 1, x24, x25, x28, x41, x287, x621000, x621001 => if x287 = true then (some false) else (laws_FnTrackBounds.l0 k x24 x25 x28 x41 x41 (x41.length : Int) 0 x621000 x621001)
def laws_FnTrackBounds.l0 : Nat → Int → Int → List Int → List Int → List Int → Int → Int → Int → Int → Option (Bool)
  | 0, _, _, _, _, _, _, _, _, _ => none
  | k + 1, x24, x25, x28, x41, x288, x289, x290, x621000, x621001 => if x290 < x289 then (if 0 ≤ x290 then (if x290 < (x288.length : Int) then ((laws_qAbs.f (rd x288 x290)).bind fun t659 => (if ((decide (t659 > x25)) != ((wrap64 (x290 + 1)) == (x41.length : Int))) = true then (some false) else (if x290 < (x28.length : Int) then ((laws_qAbs.f (rd x28 x290)).bind fun t661 => (if t661 = x24 then (laws_FnTrackBounds.l0 k x24 x25 x28 x41 x288 x289 (wrap64 (x290 + 1)) x621000 x621001) else (if (rd x28 x290) = 0 then (laws_FnTrackBounds.l0 k x24 x25 x28 x41 x288 x289 (wrap64 (x290 + 1)) x621000 x621001) else (some false)))) else (none)))) else (none)) else (none)) else ((impl_SafeBound.f x621000 x621001 x24).bind fun bt654 => ((spec_SafeBound.f x621000 x621001 x24).bind fun bt656 => (if (bt654.2 == bt656.2) = true then (if bt654.1 = bt656.1 then (if bt656.2 = true then (some (decide (x25 < bt656.1))) else (some true)) else (some false)) else (some false))))
def laws_FnTrackBounds.j3 : Nat → Int → Int → List Int → Int → Int → Int → Int → List Int → Bool → List Int → Bool → Int → Int → Option (Bool)
  | 0, _, _, _, _, _, _, _, _, _, _, _, _, _ => none
  | k + 1, x15, x16, x17, x18, x21, x24, x25, x26, x27, x28, x214, x621000, x621001 => if x214 = true then (some false) else (if x21 > 1 then ((impl_WorstOffset.f k x15 (wrap64 (x21 - 1)) x16 x17).bind fun bt641 => ((spec_WorstOffset.f k x15 (wrap64 (x21 - 1)) x16 x17).bind fun bt643 => (if (bt641.2 != bt643.2) = true then (some false) else (if bt641.1 = bt643.1 then (if bt643.2 = true then (if bt643.1 ≤ x18 then (some false) else (laws_FnTrackBounds.j4 k x24 x25 x26 x27 x28 x621000 x621001)) else (laws_FnTrackBounds.j4 k x24 x25 x26 x27 x28 x621000 x621001)) else (some false))))) else (laws_FnTrackBounds.j4 k x24 x25 x26 x27 x28 x621000 x621001))
def laws_FnTrackBounds.j1 : Nat → Int → Int → Int → Int → List Int → Int → Bool → Int → Int → Int → List Int → Bool → List Int → Bool → Int → Int → Int → Int → Option (Bool)
  | 0, _, _, _, _, _, _, _, _, _, _, _, _, _, _, _, _, _, _ => none
  | k + 1, x6, x13, x15, x16, x17, x18, x20, x21, x24, x25, x26, x27, x28, x189, x598000, x598001, x621000, x621001 => if x189 = true then (some false) else ((impl_DrivenOut.f k x598000 x598001 x6 x13).bind fun bt635 => (if bt635.2 = true then (some false) else (laws_FnTrackBounds.j2 k x15 x16 x17 x18 x20 x21 x24 x25 x26 x27 x28 x621000 x621001)))
end
def laws_FnTrackBounds.f (k : Nat) (l0 : List Int) (l1 : List Int) : Option (Bool) := if (wrap64 ((l0.length : Int) + (l1.length : Int))) > 1048576 then (some true) else ((spec_DrawSafeBound.f l0).bind fun bt594 => ((impl_SafeBound.f bt594.1 bt594.2.1 bt594.2.2).bind fun bt598 => ((spec_SafeBound.f bt594.1 bt594.2.1 bt594.2.2).bind fun bt600 => ((impl_ReachedOffset.f k bt594.1 bt594.2.1 bt594.2.2).bind fun bt602 => ((spec_ReachedOffset.f k bt594.1 bt594.2.1 bt594.2.2).bind fun bt604 => ((spec_DrawLeastGain.f k l1).bind fun bt606 => ((impl_LeastGain.f k bt606.1 bt606.2.1 bt606.2.2.1 bt606.2.2.2).bind fun bt612 => ((spec_LeastGain.f k bt606.1 bt606.2.1 bt606.2.2.1 bt606.2.2.2).bind fun bt614 => ((spec_DrawDrivenOut.f l1).bind fun bt616 => ((impl_DrivenOut.f k bt616.1 bt616.2.1 bt616.2.2.1 bt616.2.2.2).bind fun bt621 => ((spec_DrivenOut.f k bt616.1 bt616.2.1 bt616.2.2.1 bt616.2.2.2).bind fun bt625 => ((spec_DrawIsController.f l1).bind fun bt629 => (if (bt598.2 != bt600.2) = true then (laws_FnTrackBounds.j0 k bt594.2.2 bt598.2 bt600.1 bt604.1 bt606.1 bt606.2.1 bt606.2.2.1 bt606.2.2.2 bt612.2 bt614.1 bt616.2.2.1 bt616.2.2.2 bt621.1 bt621.2 bt625.1 true bt594.1 bt594.2.1 bt616.1 bt616.2.1) else (if bt598.1 = bt600.1 then (if (bt602.2 != bt604.2) = true then (laws_FnTrackBounds.j0 k bt594.2.2 bt598.2 bt600.1 bt604.1 bt606.1 bt606.2.1 bt606.2.2.1 bt606.2.2.2 bt612.2 bt614.1 bt616.2.2.1 bt616.2.2.2 bt621.1 bt621.2 bt625.1 true bt594.1 bt594.2.1 bt616.1 bt616.2.1) else (if bt602.1 = bt604.1 then (if (bt612.2 != bt614.2) = true then (laws_FnTrackBounds.j0 k bt594.2.2 bt598.2 bt600.1 bt604.1 bt606.1 bt606.2.1 bt606.2.2.1 bt606.2.2.2 bt612.2 bt614.1 bt616.2.2.1 bt616.2.2.2 bt621.1 bt621.2 bt625.1 true bt594.1 bt594.2.1 bt616.1 bt616.2.1) else (if bt612.1 = bt614.1 then (if (bt621.2 != bt625.2) = true then (laws_FnTrackBounds.j0 k bt594.2.2 bt598.2 bt600.1 bt604.1 bt606.1 bt606.2.1 bt606.2.2.1 bt606.2.2.2 bt612.2 bt614.1 bt616.2.2.1 bt616.2.2.2 bt621.1 bt621.2 bt625.1 true bt594.1 bt594.2.1 bt616.1 bt616.2.1) else ((laws_qInts.f k bt621.1 bt625.1).bind fun t632 => (if t632 = true then (if (bt602.2 != bt598.2) = true then (laws_FnTrackBounds.j0 k bt594.2.2 bt598.2 bt600.1 bt604.1 bt606.1 bt606.2.1 bt606.2.2.1 bt606.2.2.2 bt612.2 bt614.1 bt616.2.2.1 bt616.2.2.2 bt621.1 bt621.2 bt625.1 true bt594.1 bt594.2.1 bt616.1 bt616.2.1) else ((impl_IsController.f bt629.1 bt629.2).bind fun t633 => ((spec_IsController.f bt629.1 bt629.2).bind fun t634 => (laws_FnTrackBounds.j0 k bt594.2.2 bt598.2 bt600.1 bt604.1 bt606.1 bt606.2.1 bt606.2.2.1 bt606.2.2.2 bt612.2 bt614.1 bt616.2.2.1 bt616.2.2.2 bt621.1 bt621.2 bt625.1 (t633 != t634) bt594.1 bt594.2.1 bt616.1 bt616.2.1)))) else (laws_FnTrackBounds.j0 k bt594.2.2 bt598.2 bt600.1 bt604.1 bt606.1 bt606.2.1 bt606.2.2.1 bt606.2.2.2 bt612.2 bt614.1 bt616.2.2.1 bt616.2.2.2 bt621.1 bt621.2 bt625.1 true bt594.1 bt594.2.1 bt616.1 bt616.2.1)))) else (laws_FnTrackBounds.j0 k bt594.2.2 bt598.2 bt600.1 bt604.1 bt606.1 bt606.2.1 bt606.2.2.1 bt606.2.2.2 bt612.2 bt614.1 bt616.2.2.1 bt616.2.2.2 bt621.1 bt621.2 bt625.1 true bt594.1 bt594.2.1 bt616.1 bt616.2.1))) else (laws_FnTrackBounds.j0 k bt594.2.2 bt598.2 bt600.1 bt604.1 bt606.1 bt606.2.1 bt606.2.2.1 bt606.2.2.2 bt612.2 bt614.1 bt616.2.2.1 bt616.2.2.2 bt621.1 bt621.2 bt625.1 true bt594.1 bt594.2.1 bt616.1 bt616.2.1))) else (laws_FnTrackBounds.j0 k bt594.2.2 bt598.2 bt600.1 bt604.1 bt606.1 bt606.2.1 bt606.2.2.1 bt606.2.2.2 bt612.2 bt614.1 bt616.2.2.1 bt616.2.2.2 bt621.1 bt621.2 bt625.1 true bt594.1 bt594.2.1 bt616.1 bt616.2.1)))))))))))))))
theorem laws_FnTrackBounds.mono_l : ∀ k, (∀ y0 y1 y2 y3 y4 y5 y6 y7 y8 y9 y10 y11 y12 y13 y14 y15 y16 y17 y18 y19, LeO (laws_FnTrackBounds.j0 k y0 y1 y2 y3 y4 y5 y6 y7 y8 y9 y10 y11 y12 y13 y14 y15 y16 y17 y18 y19) (laws_FnTrackBounds.j0 (k + 1) y0 y1 y2 y3 y4 y5 y6 y7 y8 y9 y10 y11 y12 y13 y14 y15 y16 y17 y18 y19)) ∧ (∀ y0 y1 y2 y3 y4 y5 y6 y7 y8 y9 y10 y11 y12, LeO (laws_FnTrackBounds.j2 k y0 y1 y2 y3 y4 y5 y6 y7 y8 y9 y10 y11 y12) (laws_FnTrackBounds.j2 (k + 1) y0 y1 y2 y3 y4 y5 y6 y7 y8 y9 y10 y11 y12)) ∧ (∀ y0 y1 y2 y3 y4 y5 y6, LeO (laws_FnTrackBounds.j4 k y0 y1 y2 y3 y4 y5 y6) (laws_FnTrackBounds.j4 (k + 1) y0 y1 y2 y3 y4 y5 y6)) ∧ (∀ y0 y1 y2 y3 y4 y5 y6, LeO (laws_FnTrackBounds.j5 k y0 y1 y2 y3 y4 y5 y6) (laws_FnTrackBounds.j5 (k + 1) y0 y1 y2 y3 y4 y5 y6)) ∧ (∀ y0 y1 y2 y3 y4 y5 y6 y7 y8, LeO (laws_FnTrackBounds.l0 k y0 y1 y2 y3 y4 y5 y6 y7 y8) (laws_FnTrackBounds.l0 (k + 1) y0 y1 y2 y3 y4 y5 y6 y7 y8)) ∧ (∀ y0 y1 y2 y3 y4 y5 y6 y7 y8 y9 y10 y11 y12, LeO (laws_FnTrackBounds.j3 k y0 y1 y2 y3 y4 y5 y6 y7 y8 y9 y10 y11 y12) (laws_FnTrackBounds.j3 (k + 1) y0 y1 y2 y3 y4 y5 y6 y7 y8 y9 y10 y11 y12)) ∧ (∀ y0 y1 y2 y3 y4 y5 y6 y7 y8 y9 y10 y11 y12 y13 y14 y15 y16 y17, LeO (laws_FnTrackBounds.j1 k y0 y1 y2 y3 y4 y5 y6 y7 y8 y9 y10 y11 y12 y13 y14 y15 y16 y17) (laws_FnTrackBounds.j1 (k + 1) y0 y1 y2 y3 y4 y5 y6 y7 y8 y9 y10 y11 y12 y13 y14 y15 y16 y17))
  | 0 => ⟨fun _ _ _ _ _ _ _ _ _ _ _ _ _ _ _ _ _ _ _ _ r h => by simp [laws_FnTrackBounds.j0] at h, fun _ _ _ _ _ _ _ _ _ _ _ _ _ r h => by simp [laws_FnTrackBounds.j2] at h, fun _ _ _ _ _ _ _ r h => by simp [laws_FnTrackBounds.j4] at h, fun _ _ _ _ _ _ _ r h => by simp [laws_FnTrackBounds.j5] at h, fun _ _ _ _ _ _ _ _ _ r h => by simp [laws_FnTrackBounds.l0] at h, fun _ _ _ _ _ _ _ _ _ _ _ _ _ r h => by simp [laws_FnTrackBounds.j3] at h, fun _ _ _ _ _ _ _ _ _ _ _ _ _ _ _ _ _ _ r h => by simp [laws_FnTrackBounds.j1] at h⟩
  | k + 1 => by
    obtain ⟨ih0, ih1, ih2, ih3, ih4, ih5, ih6⟩ := laws_FnTrackBounds.mono_l k
    refine ⟨?_, ?_, ?_, ?_, ?_, ?_, ?_⟩
    · intro y0 y1 y2 y3 y4 y5 y6 y7 y8 y9 y10 y11 y12 y13 y14 y15 y16 y17 y18 y19
      unfold laws_FnTrackBounds.j0
      repeat' first
      | (with_reducible exact ih0 _ _ _ _ _ _ _ _ _ _ _ _ _ _ _ _ _ _ _ _)
      | (with_reducible exact ih1 _ _ _ _ _ _ _ _ _ _ _ _ _)
      | (with_reducible exact ih2 _ _ _ _ _ _ _)
      | (with_reducible exact ih3 _ _ _ _ _ _ _)
      | (with_reducible exact ih4 _ _ _ _ _ _ _ _ _)
      | (with_reducible exact ih5 _ _ _ _ _ _ _ _ _ _ _ _ _)
      | (with_reducible exact ih6 _ _ _ _ _ _ _ _ _ _ _ _ _ _ _ _ _ _)
      | (with_reducible exact impl_DrivenOut.mono _ _ _ _ _)
      | (with_reducible exact impl_LeastGain.mono _ _ _ _ _)
      | (with_reducible exact impl_ReachedOffset.mono _ _ _ _)
      | (with_reducible exact impl_TrackRun.mono _ _ _ _ _)
      | (with_reducible exact impl_WorstOffset.mono _ _ _ _ _)
      | (with_reducible exact laws_qInts.mono _ _ _)
      | (with_reducible exact spec_DrawLeastGain.mono _ _)
      | (with_reducible exact spec_DrivenOut.mono _ _ _ _ _)
      | (with_reducible exact spec_LeastGain.mono _ _ _ _ _)
      | (with_reducible exact spec_ReachedOffset.mono _ _ _ _)
      | (with_reducible exact spec_TrackRun.mono _ _ _ _ _)
      | (with_reducible exact spec_WorstOffset.mono _ _ _ _ _)
      | (with_reducible exact LeO.refl _)
      | (with_reducible exact LeO.none _)
      | (with_reducible refine LeO.ite ?_ ?_)
      | (with_reducible refine LeO.bind ?_ (fun _ => ?_))
      | exact ih0 _ _ _ _ _ _ _ _ _ _ _ _ _ _ _ _ _ _ _ _
      | exact ih1 _ _ _ _ _ _ _ _ _ _ _ _ _
      | exact ih2 _ _ _ _ _ _ _
      | exact ih3 _ _ _ _ _ _ _
      | exact ih4 _ _ _ _ _ _ _ _ _
      | exact ih5 _ _ _ _ _ _ _ _ _ _ _ _ _
      | exact ih6 _ _ _ _ _ _ _ _ _ _ _ _ _ _ _ _ _ _
      | exact impl_DrivenOut.mono _ _ _ _ _
      | exact impl_LeastGain.mono _ _ _ _ _
      | exact impl_ReachedOffset.mono _ _ _ _
      | exact impl_TrackRun.mono _ _ _ _ _
      | exact impl_WorstOffset.mono _ _ _ _ _
      | exact laws_qInts.mono _ _ _
      | exact spec_DrawLeastGain.mono _ _
      | exact spec_DrivenOut.mono _ _ _ _ _
      | exact spec_LeastGain.mono _ _ _ _ _
      | exact spec_ReachedOffset.mono _ _ _ _
      | exact spec_TrackRun.mono _ _ _ _ _
      | exact spec_WorstOffset.mono _ _ _ _ _
      | exact LeO.none _
      | refine LeO.ite ?_ ?_
      | refine LeO.bind ?_ (fun _ => ?_)
    · intro y0 y1 y2 y3 y4 y5 y6 y7 y8 y9 y10 y11 y12
      unfold laws_FnTrackBounds.j2
      repeat' first
      | (with_reducible exact ih0 _ _ _ _ _ _ _ _ _ _ _ _ _ _ _ _ _ _ _ _)
      | (with_reducible exact ih1 _ _ _ _ _ _ _ _ _ _ _ _ _)
      | (with_reducible exact ih2 _ _ _ _ _ _ _)
      | (with_reducible exact ih3 _ _ _ _ _ _ _)
      | (with_reducible exact ih4 _ _ _ _ _ _ _ _ _)
      | (with_reducible exact ih5 _ _ _ _ _ _ _ _ _ _ _ _ _)
      | (with_reducible exact ih6 _ _ _ _ _ _ _ _ _ _ _ _ _ _ _ _ _ _)
      | (with_reducible exact impl_DrivenOut.mono _ _ _ _ _)
      | (with_reducible exact impl_LeastGain.mono _ _ _ _ _)
      | (with_reducible exact impl_ReachedOffset.mono _ _ _ _)
      | (with_reducible exact impl_TrackRun.mono _ _ _ _ _)
      | (with_reducible exact impl_WorstOffset.mono _ _ _ _ _)
      | (with_reducible exact laws_qInts.mono _ _ _)
      | (with_reducible exact spec_DrawLeastGain.mono _ _)
      | (with_reducible exact spec_DrivenOut.mono _ _ _ _ _)
      | (with_reducible exact spec_LeastGain.mono _ _ _ _ _)
      | (with_reducible exact spec_ReachedOffset.mono _ _ _ _)
      | (with_reducible exact spec_TrackRun.mono _ _ _ _ _)
      | (with_reducible exact spec_WorstOffset.mono _ _ _ _ _)
      | (with_reducible exact LeO.refl _)
      | (with_reducible exact LeO.none _)
      | (with_reducible refine LeO.ite ?_ ?_)
      | (with_reducible refine LeO.bind ?_ (fun _ => ?_))
      | exact ih0 _ _ _ _ _ _ _ _ _ _ _ _ _ _ _ _ _ _ _ _
      | exact ih1 _ _ _ _ _ _ _ _ _ _ _ _ _
      | exact ih2 _ _ _ _ _ _ _
      | exact ih3 _ _ _ _ _ _ _
      | exact ih4 _ _ _ _ _ _ _ _ _
      | exact ih5 _ _ _ _ _ _ _ _ _ _ _ _ _
      | exact ih6 _ _ _ _ _ _ _ _ _ _ _ _ _ _ _ _ _ _
      | exact impl_DrivenOut.mono _ _ _ _ _
      | exact impl_LeastGain.mono _ _ _ _ _
      | exact impl_ReachedOffset.mono _ _ _ _
      | exact impl_TrackRun.mono _ _ _ _ _
      | exact impl_WorstOffset.mono _ _ _ _ _
      | exact laws_qInts.mono _ _ _
      | exact spec_DrawLeastGain.mono _ _
      | exact spec_DrivenOut.mono _ _ _ _ _
      | exact spec_LeastGain.mono _ _ _ _ _
      | exact spec_ReachedOffset.mono _ _ _ _
      | exact spec_TrackRun.mono _ _ _ _ _
      | exact spec_WorstOffset.mono _ _ _ _ _
      | exact LeO.none _
      | refine LeO.ite ?_ ?_
      | refine LeO.bind ?_ (fun _ => ?_)
    · intro y0 y1 y2 y3 y4 y5 y6
      unfold laws_FnTrackBounds.j4
      repeat' first
      | (with_reducible exact ih0 _ _ _ _ _ _ _ _ _ _ _ _ _ _ _ _ _ _ _ _)
      | (with_reducible exact ih1 _ _ _ _ _ _ _ _ _ _ _ _ _)
      | (with_reducible exact ih2 _ _ _ _ _ _ _)
      | (with_reducible exact ih3 _ _ _ _ _ _ _)
      | (with_reducible exact ih4 _ _ _ _ _ _ _ _ _)
      | (with_reducible exact ih5 _ _ _ _ _ _ _ _ _ _ _ _ _)
      | (with_reducible exact ih6 _ _ _ _ _ _ _ _ _ _ _ _ _ _ _ _ _ _)
      | (with_reducible exact impl_DrivenOut.mono _ _ _ _ _)
      | (with_reducible exact impl_LeastGain.mono _ _ _ _ _)
      | (with_reducible exact impl_ReachedOffset.mono _ _ _ _)
      | (with_reducible exact impl_TrackRun.mono _ _ _ _ _)
      | (with_reducible exact impl_WorstOffset.mono _ _ _ _ _)
      | (with_reducible exact laws_qInts.mono _ _ _)
      | (with_reducible exact spec_DrawLeastGain.mono _ _)
      | (with_reducible exact spec_DrivenOut.mono _ _ _ _ _)
      | (with_reducible exact spec_LeastGain.mono _ _ _ _ _)
      | (with_reducible exact spec_ReachedOffset.mono _ _ _ _)
      | (with_reducible exact spec_TrackRun.mono _ _ _ _ _)
      | (with_reducible exact spec_WorstOffset.mono _ _ _ _ _)
      | (with_reducible exact LeO.refl _)
      | (with_reducible exact LeO.none _)
      | (with_reducible refine LeO.ite ?_ ?_)
      | (with_reducible refine LeO.bind ?_ (fun _ => ?_))
      | exact ih0 _ _ _ _ _ _ _ _ _ _ _ _ _ _ _ _ _ _ _ _
      | exact ih1 _ _ _ _ _ _ _ _ _ _ _ _ _
      | exact ih2 _ _ _ _ _ _ _
      | exact ih3 _ _ _ _ _ _ _
      | exact ih4 _ _ _ _ _ _ _ _ _
      | exact ih5 _ _ _ _ _ _ _ _ _ _ _ _ _
      | exact ih6 _ _ _ _ _ _ _ _ _ _ _ _ _ _ _ _ _ _
      | exact impl_DrivenOut.mono _ _ _ _ _
      | exact impl_LeastGain.mono _ _ _ _ _
      | exact impl_ReachedOffset.mono _ _ _ _
      | exact impl_TrackRun.mono _ _ _ _ _
      | exact impl_WorstOffset.mono _ _ _ _ _
      | exact laws_qInts.mono _ _ _
      | exact spec_DrawLeastGain.mono _ _
      | exact spec_DrivenOut.mono _ _ _ _ _
      | exact spec_LeastGain.mono _ _ _ _ _
      | exact spec_ReachedOffset.mono _ _ _ _
      | exact spec_TrackRun.mono _ _ _ _ _
      | exact spec_WorstOffset.mono _ _ _ _ _
      | exact LeO.none _
      | refine LeO.ite ?_ ?_
      | refine LeO.bind ?_ (fun _ => ?_)
    · intro y0 y1 y2 y3 y4 y5 y6
      unfold laws_FnTrackBounds.j5
      repeat' first
      | (with_reducible exact ih0 _ _ _ _ _ _ _ _ _ _ _ _ _ _ _ _ _ _ _ _)
      | (with_reducible exact ih1 _ _ _ _ _ _ _ _ _ _ _ _ _)
      | (with_reducible exact ih2 _ _ _ _ _ _ _)
      | (with_reducible exact ih3 _ _ _ _ _ _ _)
      | (with_reducible exact ih4 _ _ _ _ _ _ _ _ _)
      | (with_reducible exact ih5 _ _ _ _ _ _ _ _ _ _ _ _ _)
      | (with_reducible exact ih6 _ _ _ _ _ _ _ _ _ _ _ _ _ _ _ _ _ _)
      | (with_reducible exact impl_DrivenOut.mono _ _ _ _ _)
      | (with_reducible exact impl_LeastGain.mono _ _ _ _ _)
      | (with_reducible exact impl_ReachedOffset.mono _ _ _ _)
      | (with_reducible exact impl_TrackRun.mono _ _ _ _ _)
      | (with_reducible exact impl_WorstOffset.mono _ _ _ _ _)
      | (with_reducible exact laws_qInts.mono _ _ _)
      | (with_reducible exact spec_DrawLeastGain.mono _ _)
      | (with_reducible exact spec_DrivenOut.mono _ _ _ _ _)
      | (with_reducible exact spec_LeastGain.mono _ _ _ _ _)
      | (with_reducible exact spec_ReachedOffset.mono _ _ _ _)
      | (with_reducible exact spec_TrackRun.mono _ _ _ _ _)
      | (with_reducible exact spec_WorstOffset.mono _ _ _ _ _)
      | (with_reducible exact LeO.refl _)
      | (with_reducible exact LeO.none _)
      | (with_reducible refine LeO.ite ?_ ?_)
      | (with_reducible refine LeO.bind ?_ (fun _ => ?_))
      | exact ih0 _ _ _ _ _ _ _ _ _ _ _ _ _ _ _ _ _ _ _ _
      | exact ih1 _ _ _ _ _ _ _ _ _ _ _ _ _
      | exact ih2 _ _ _ _ _ _ _
      | exact ih3 _ _ _ _ _ _ _
      | exact ih4 _ _ _ _ _ _ _ _ _
      | exact ih5 _ _ _ _ _ _ _ _ _ _ _ _ _
      | exact ih6 _ _ _ _ _ _ _ _ _ _ _ _ _ _ _ _ _ _
      | exact impl_DrivenOut.mono _ _ _ _ _
      | exact impl_LeastGain.mono _ _ _ _ _
      | exact impl_ReachedOffset.mono _ _ _ _
      | exact impl_TrackRun.mono _ _ _ _ _
      | exact impl_WorstOffset.mono _ _ _ _ _
      | exact laws_qInts.mono _ _ _
      | exact spec_DrawLeastGain.mono _ _
      | exact spec_DrivenOut.mono _ _ _ _ _
      | exact spec_LeastGain.mono _ _ _ _ _
      | exact spec_ReachedOffset.mono _ _ _ _
      | exact spec_TrackRun.mono _ _ _ _ _
      | exact spec_WorstOffset.mono _ _ _ _ _
      | exact LeO.none _
      | refine LeO.ite ?_ ?_
      | refine LeO.bind ?_ (fun _ => ?_)
    · intro y0 y1 y2 y3 y4 y5 y6 y7 y8
      unfold laws_FnTrackBounds.l0
      repeat' first
      | (with_reducible exact ih0 _ _ _ _ _ _ _ _ _ _ _ _ _ _ _ _ _ _ _ _)
      | (with_reducible exact ih1 _ _ _ _ _ _ _ _ _ _ _ _ _)
      | (with_reducible exact ih2 _ _ _ _ _ _ _)
      | (with_reducible exact ih3 _ _ _ _ _ _ _)
      | (with_reducible exact ih4 _ _ _ _ _ _ _ _ _)
      | (with_reducible exact ih5 _ _ _ _ _ _ _ _ _ _ _ _ _)
      | (with_reducible exact ih6 _ _ _ _ _ _ _ _ _ _ _ _ _ _ _ _ _ _)
      | (with_reducible exact impl_DrivenOut.mono _ _ _ _ _)
      | (with_reducible exact impl_LeastGain.mono _ _ _ _ _)
      | (with_reducible exact impl_ReachedOffset.mono _ _ _ _)
      | (with_reducible exact impl_TrackRun.mono _ _ _ _ _)
      | (with_reducible exact impl_WorstOffset.mono _ _ _ _ _)
      | (with_reducible exact laws_qInts.mono _ _ _)
      | (with_reducible exact spec_DrawLeastGain.mono _ _)
      | (with_reducible exact spec_DrivenOut.mono _ _ _ _ _)
      | (with_reducible exact spec_LeastGain.mono _ _ _ _ _)
      | (with_reducible exact spec_ReachedOffset.mono _ _ _ _)
      | (with_reducible exact spec_TrackRun.mono _ _ _ _ _)
      | (with_reducible exact spec_WorstOffset.mono _ _ _ _ _)
      | (with_reducible exact LeO.refl _)
      | (with_reducible exact LeO.none _)
      | (with_reducible refine LeO.ite ?_ ?_)
      | (with_reducible refine LeO.bind ?_ (fun _ => ?_))
      | exact ih0 _ _ _ _ _ _ _ _ _ _ _ _ _ _ _ _ _ _ _ _
      | exact ih1 _ _ _ _ _ _ _ _ _ _ _ _ _
      | exact ih2 _ _ _ _ _ _ _
      | exact ih3 _ _ _ _ _ _ _
      | exact ih4 _ _ _ _ _ _ _ _ _
      | exact ih5 _ _ _ _ _ _ _ _ _ _ _ _ _
      | exact ih6 _ _ _ _ _ _ _ _ _ _ _ _ _ _ _ _ _ _
      | exact impl_DrivenOut.mono _ _ _ _ _
      | exact impl_LeastGain.mono _ _ _ _ _
      | exact impl_ReachedOffset.mono _ _ _ _
      | exact impl_TrackRun.mono _ _ _ _ _
      | exact impl_WorstOffset.mono _ _ _ _ _
      | exact laws_qInts.mono _ _ _
      | exact spec_DrawLeastGain.mono _ _
      | exact spec_DrivenOut.mono _ _ _ _ _
      | exact spec_LeastGain.mono _ _ _ _ _
      | exact spec_ReachedOffset.mono _ _ _ _
      | exact spec_TrackRun.mono _ _ _ _ _
      | exact spec_WorstOffset.mono _ _ _ _ _
      | exact LeO.none _
      | refine LeO.ite ?_ ?_
      | refine LeO.bind ?_ (fun _ => ?_)
    · intro y0 y1 y2 y3 y4 y5 y6 y7 y8 y9 y10 y11 y12
      unfold laws_FnTrackBounds.j3
      repeat' first
      | (with_reducible exact ih0 _ _ _ _ _ _ _ _ _ _ _ _ _ _ _ _ _ _ _ _)
      | (with_reducible exact ih1 _ _ _ _ _ _ _ _ _ _ _ _ _)
      | (with_reducible exact ih2 _ _ _ _ _ _ _)
      | (with_reducible exact ih3 _ _ _ _ _ _ _)
      | (with_reducible exact ih4 _ _ _ _ _ _ _ _ _)
      | (with_reducible exact ih5 _ _ _ _ _ _ _ _ _ _ _ _ _)
      | (with_reducible exact ih6 _ _ _ _ _ _ _ _ _ _ _ _ _ _ _ _ _ _)
      | (with_reducible exact impl_DrivenOut.mono _ _ _ _ _)
      | (with_reducible exact impl_LeastGain.mono _ _ _ _ _)
      | (with_reducible exact impl_ReachedOffset.mono _ _ _ _)
      | (with_reducible exact impl_TrackRun.mono _ _ _ _ _)
      | (with_reducible exact impl_WorstOffset.mono _ _ _ _ _)
      | (with_reducible exact laws_qInts.mono _ _ _)
      | (with_reducible exact spec_DrawLeastGain.mono _ _)
      | (with_reducible exact spec_DrivenOut.mono _ _ _ _ _)
      | (with_reducible exact spec_LeastGain.mono _ _ _ _ _)
      | (with_reducible exact spec_ReachedOffset.mono _ _ _ _)
      | (with_reducible exact spec_TrackRun.mono _ _ _ _ _)
      | (with_reducible exact spec_WorstOffset.mono _ _ _ _ _)
      | (with_reducible exact LeO.refl _)
      | (with_reducible exact LeO.none _)
      | (with_reducible refine LeO.ite ?_ ?_)
      | (with_reducible refine LeO.bind ?_ (fun _ => ?_))
      | exact ih0 _ _ _ _ _ _ _ _ _ _ _ _ _ _ _ _ _ _ _ _
      | exact ih1 _ _ _ _ _ _ _ _ _ _ _ _ _
      | exact ih2 _ _ _ _ _ _ _
      | exact ih3 _ _ _ _ _ _ _
      | exact ih4 _ _ _ _ _ _ _ _ _
      | exact ih5 _ _ _ _ _ _ _ _ _ _ _ _ _
      | exact ih6 _ _ _ _ _ _ _ _ _ _ _ _ _ _ _ _ _ _
      | exact impl_DrivenOut.mono _ _ _ _ _
      | exact impl_LeastGain.mono _ _ _ _ _
      | exact impl_ReachedOffset.mono _ _ _ _
      | exact impl_TrackRun.mono _ _ _ _ _
      | exact impl_WorstOffset.mono _ _ _ _ _
      | exact laws_qInts.mono _ _ _
      | exact spec_DrawLeastGain.mono _ _
      | exact spec_DrivenOut.mono _ _ _ _ _
      | exact spec_LeastGain.mono _ _ _ _ _
      | exact spec_ReachedOffset.mono _ _ _ _
      | exact spec_TrackRun.mono _ _ _ _ _
      | exact spec_WorstOffset.mono _ _ _ _ _
      | exact LeO.none _
      | refine LeO.ite ?_ ?_
      | refine LeO.bind ?_ (fun _ => ?_)
    · intro y0 y1 y2 y3 y4 y5 y6 y7 y8 y9 y10 y11 y12 y13 y14 y15 y16 y17
      unfold laws_FnTrackBounds.j1
      repeat' first
      | (with_reducible exact ih0 _ _ _ _ _ _ _ _ _ _ _ _ _ _ _ _ _ _ _ _)
      | (with_reducible exact ih1 _ _ _ _ _ _ _ _ _ _ _ _ _)
      | (with_reducible exact ih2 _ _ _ _ _ _ _)
      | (with_reducible exact ih3 _ _ _ _ _ _ _)
      | (with_reducible exact ih4 _ _ _ _ _ _ _ _ _)
      | (with_reducible exact ih5 _ _ _ _ _ _ _ _ _ _ _ _ _)
      | (with_reducible exact ih6 _ _ _ _ _ _ _ _ _ _ _ _ _ _ _ _ _ _)
      | (with_reducible exact impl_DrivenOut.mono _ _ _ _ _)
      | (with_reducible exact impl_LeastGain.mono _ _ _ _ _)
      | (with_reducible exact impl_ReachedOffset.mono _ _ _ _)
      | (with_reducible exact impl_TrackRun.mono _ _ _ _ _)
      | (with_reducible exact impl_WorstOffset.mono _ _ _ _ _)
      | (with_reducible exact laws_qInts.mono _ _ _)
      | (with_reducible exact spec_DrawLeastGain.mono _ _)
      | (with_reducible exact spec_DrivenOut.mono _ _ _ _ _)
      | (with_reducible exact spec_LeastGain.mono _ _ _ _ _)
      | (with_reducible exact spec_ReachedOffset.mono _ _ _ _)
      | (with_reducible exact spec_TrackRun.mono _ _ _ _ _)
      | (with_reducible exact spec_WorstOffset.mono _ _ _ _ _)
      | (with_reducible exact LeO.refl _)
      | (with_reducible exact LeO.none _)
      | (with_reducible refine LeO.ite ?_ ?_)
      | (with_reducible refine LeO.bind ?_ (fun _ => ?_))
      | exact ih0 _ _ _ _ _ _ _ _ _ _ _ _ _ _ _ _ _ _ _ _
      | exact ih1 _ _ _ _ _ _ _ _ _ _ _ _ _
      | exact ih2 _ _ _ _ _ _ _
      | exact ih3 _ _ _ _ _ _ _
      | exact ih4 _ _ _ _ _ _ _ _ _
      | exact ih5 _ _ _ _ _ _ _ _ _ _ _ _ _
      | exact ih6 _ _ _ _ _ _ _ _ _ _ _ _ _ _ _ _ _ _
      | exact impl_DrivenOut.mono _ _ _ _ _
      | exact impl_LeastGain.mono _ _ _ _ _
      | exact impl_ReachedOffset.mono _ _ _ _
      | exact impl_TrackRun.mono _ _ _ _ _
      | exact impl_WorstOffset.mono _ _ _ _ _
      | exact laws_qInts.mono _ _ _
      | exact spec_DrawLeastGain.mono _ _
      | exact spec_DrivenOut.mono _ _ _ _ _
      | exact spec_LeastGain.mono _ _ _ _ _
      | exact spec_ReachedOffset.mono _ _ _ _
      | exact spec_TrackRun.mono _ _ _ _ _
      | exact spec_WorstOffset.mono _ _ _ _ _
      | exact LeO.none _
      | refine LeO.ite ?_ ?_
      | refine LeO.bind ?_ (fun _ => ?_)
theorem laws_FnTrackBounds.mono : ∀ a0 a1 k, LeO (laws_FnTrackBounds.f k a0 a1) (laws_FnTrackBounds.f (k + 1) a0 a1) := by
  intro a0 a1 k
  obtain ⟨ih0, ih1, ih2, ih3, ih4, ih5, ih6⟩ := laws_FnTrackBounds.mono_l k
  unfold laws_FnTrackBounds.f
  repeat' first
      | (with_reducible exact ih0 _ _ _ _ _ _ _ _ _ _ _ _ _ _ _ _ _ _ _ _)
      | (with_reducible exact ih1 _ _ _ _ _ _ _ _ _ _ _ _ _)
      | (with_reducible exact ih2 _ _ _ _ _ _ _)
      | (with_reducible exact ih3 _ _ _ _ _ _ _)
      | (with_reducible exact ih4 _ _ _ _ _ _ _ _ _)
      | (with_reducible exact ih5 _ _ _ _ _ _ _ _ _ _ _ _ _)
      | (with_reducible exact ih6 _ _ _ _ _ _ _ _ _ _ _ _ _ _ _ _ _ _)
      | (with_reducible exact impl_DrivenOut.mono _ _ _ _ _)
      | (with_reducible exact impl_LeastGain.mono _ _ _ _ _)
      | (with_reducible exact impl_ReachedOffset.mono _ _ _ _)
      | (with_reducible exact impl_TrackRun.mono _ _ _ _ _)
      | (with_reducible exact impl_WorstOffset.mono _ _ _ _ _)
      | (with_reducible exact laws_qInts.mono _ _ _)
      | (with_reducible exact spec_DrawLeastGain.mono _ _)
      | (with_reducible exact spec_DrivenOut.mono _ _ _ _ _)
      | (with_reducible exact spec_LeastGain.mono _ _ _ _ _)
      | (with_reducible exact spec_ReachedOffset.mono _ _ _ _)
      | (with_reducible exact spec_TrackRun.mono _ _ _ _ _)
      | (with_reducible exact spec_WorstOffset.mono _ _ _ _ _)
      | (with_reducible exact LeO.refl _)
      | (with_reducible exact LeO.none _)
      | (with_reducible refine LeO.ite ?_ ?_)
      | (with_reducible refine LeO.bind ?_ (fun _ => ?_))
      | exact ih0 _ _ _ _ _ _ _ _ _ _ _ _ _ _ _ _ _ _ _ _
      | exact ih1 _ _ _ _ _ _ _ _ _ _ _ _ _
      | exact ih2 _ _ _ _ _ _ _
      | exact ih3 _ _ _ _ _ _ _
      | exact ih4 _ _ _ _ _ _ _ _ _
      | exact ih5 _ _ _ _ _ _ _ _ _ _ _ _ _
      | exact ih6 _ _ _ _ _ _ _ _ _ _ _ _ _ _ _ _ _ _
      | exact impl_DrivenOut.mono _ _ _ _ _
      | exact impl_LeastGain.mono _ _ _ _ _
      | exact impl_ReachedOffset.mono _ _ _ _
      | exact impl_TrackRun.mono _ _ _ _ _
      | exact impl_WorstOffset.mono _ _ _ _ _
      | exact laws_qInts.mono _ _ _
      | exact spec_DrawLeastGain.mono _ _
      | exact spec_DrivenOut.mono _ _ _ _ _
      | exact spec_LeastGain.mono _ _ _ _ _
      | exact spec_ReachedOffset.mono _ _ _ _
      | exact spec_TrackRun.mono _ _ _ _ _
      | exact spec_WorstOffset.mono _ _ _ _ _
      | exact LeO.none _
      | refine LeO.ite ?_ ?_
      | refine LeO.bind ?_ (fun _ => ?_)
def laws_FnTrackBounds.T15 : Bool × List (List Nat × List Nat) := (true, [([], []), ([], []), ([0, 1], [0, 1]), ([2], [2]), ([3], [3]), ([3], [3]), ([4, 5, 3], [3, 4, 5]), ([3, 6], [3, 6]), ([7, 3], [7]), ([8], [8]), ([8], [8]), ([9, 10, 8], [8, 9, 10]), ([8, 11], [8, 11]), ([12, 8], [12]), ([13], [13]), ([13], [13]), ([14, 15, 13], [13, 14, 15]), ([13, 16], [13, 16]), ([17, 13], [17]), ([18], [18]), ([18], [18]), ([19, 20, 18], [18, 19, 20]), ([18, 21], [18, 21]), ([22, 18], [22]), ([23], [23]), ([23], [23]), ([24, 25, 23], [23, 24, 25]), ([23, 26], [23, 26]), ([27, 23], [27]), ([28], [28]), ([28], [28]), ([29, 30, 28], [28, 29, 30]), ([28, 31], [28, 31]), ([32, 28], [32]), ([33], [33]), ([33], [33]), ([34, 35, 33, 33], [33, 34, 35]), ([36, 33], [33, 36]), ([33, 37], [33, 37]), ([38, 36], [38]), ([39], [39]), ([39], [39]), ([40, 41, 39], [39, 40, 41]), ([39, 42], [39, 42]), ([43, 39], [43]), ([44], [44]), ([45, 44, 44], [44, 45]), ([44], [44]), ([47, 46, 44], [44, 47]), ([46, 48, 44], [44, 46, 48]), ([44, 49], [44, 49])])
def laws_FnTrackBounds.B15 : List Nat := [0, 0, 3, 7, 15, 15, 63, 127, 255, 511, 511, 2047, 4095, 8191, 16383, 16383, 65535, 131071, 262143, 524287, 524287, 2097151, 4194303, 8388607, 16777215, 16777215, 67108863, 134217727, 268435455, 536870911, 536870911, 2147483647, 4294967295, 8589934591, 17179869183, 17179869183, 68719476735, 137438953471, 274877906943, 549755813887, 1099511627775, 1099511627775, 4398046511103, 8796093022207, 17592186044415, 35184372088831, 70368744177663, 35184372088831, 281474976710655, 562949953421311, 1125899906842623]
theorem laws_FnTrackBounds.tab15 : rtab .any (opsOf Try.f11 15) = laws_FnTrackBounds.T15 := by kernel_rfl
theorem laws_FnTrackBounds.bits15 : waitsOk laws_FnTrackBounds.T15.2 laws_FnTrackBounds.B15 = true := by kernel_rfl
theorem laws_FnTrackBounds.j0_t {k : Nat} : ∀ {a0_ a1_ a2_ a3_ a4_ a5_ a6_ a7_ a8_ a9_ a10_ a11_ a12_ a13_ a14_ a16_ a17_ a18_ a19_}, laws_FnTrackBounds.j0 k a0_ a1_ a2_ a3_ a4_ a5_ a6_ a7_ a8_ a9_ a10_ a11_ a12_ a13_ a14_ true a16_ a17_ a18_ a19_ = some true → False := by
  intros; rename_i h; revert h; cases k <;> simp [laws_FnTrackBounds.j0]
theorem laws_FnTrackBounds.j5_t {k : Nat} : ∀ {a0_ a1_ a2_ a3_ a5_ a6_}, laws_FnTrackBounds.j5 k a0_ a1_ a2_ a3_ true a5_ a6_ = some true → False := by
  intros; rename_i h; revert h; cases k <;> simp [laws_FnTrackBounds.j5]
theorem laws_FnTrackBounds.j3_t {k : Nat} : ∀ {a0_ a1_ a2_ a3_ a4_ a5_ a6_ a7_ a8_ a9_ a11_ a12_}, laws_FnTrackBounds.j3 k a0_ a1_ a2_ a3_ a4_ a5_ a6_ a7_ a8_ a9_ true a11_ a12_ = some true → False := by
  intros; rename_i h; revert h; cases k <;> simp [laws_FnTrackBounds.j3]
theorem laws_FnTrackBounds.j1_t {k : Nat} : ∀ {a0_ a1_ a2_ a3_ a4_ a5_ a6_ a7_ a8_ a9_ a10_ a11_ a12_ a14_ a15_ a16_ a17_}, laws_FnTrackBounds.j1 k a0_ a1_ a2_ a3_ a4_ a5_ a6_ a7_ a8_ a9_ a10_ a11_ a12_ true a14_ a15_ a16_ a17_ = some true → False := by
  intros; rename_i h; revert h; cases k <;> simp [laws_FnTrackBounds.j1]
set_option maxHeartbeats 8000000 in
set_option maxRecDepth 100000 in
theorem laws_FnTrackBounds.calls (k : Nat) (A0 : Option Addr) (c0 : Nat) (l0 : List Int) (A1 : Option Addr) (c1 : Nat) (l1 : List Int) (r : Bool) (w : World) (hr0 : Kd.C (Kd.int .u8) w A0 l0.length l0) (hc0 : l0.length ≤ c0) (hr1 : Kd.C (Kd.int .u8) w A1 l1.length l1) (hc1 : l1.length ≤ c1) (h : laws_FnTrackBounds.f k l0 l1 = some r) (hr_ : r = true) :
  Calls Try.prog 11 #[.slice A0 l0.length c0, .slice A1 l1.length c1] w fun e w' => e = .returned (.bool r) ∧ Below w.heap.size w w' := by
 have hu47 := Try.underlying47
 have HR0 := zm hr0
 have HC0 := zm hc0
 clear hr0 hc0
 have HR1 := zm hr1
 have HC1 := zm hc1
 clear hr1 hc1
 have HB := zm (Below.refl w.heap.size w)
 have H : (if (wrap64 ((l0.length : Int) + (l1.length : Int))) > 1048576 then (some true) else ((spec_DrawSafeBound.f l0).bind fun bt594 => ((impl_SafeBound.f bt594.1 bt594.2.1 bt594.2.2).bind fun bt598 => ((spec_SafeBound.f bt594.1 bt594.2.1 bt594.2.2).bind fun bt600 => ((impl_ReachedOffset.f k bt594.1 bt594.2.1 bt594.2.2).bind fun bt602 => ((spec_ReachedOffset.f k bt594.1 bt594.2.1 bt594.2.2).bind fun bt604 => ((spec_DrawLeastGain.f k l1).bind fun bt606 => ((impl_LeastGain.f k bt606.1 bt606.2.1 bt606.2.2.1 bt606.2.2.2).bind fun bt612 => ((spec_LeastGain.f k bt606.1 bt606.2.1 bt606.2.2.1 bt606.2.2.2).bind fun bt614 => ((spec_DrawDrivenOut.f l1).bind fun bt616 => ((impl_DrivenOut.f k bt616.1 bt616.2.1 bt616.2.2.1 bt616.2.2.2).bind fun bt621 => ((spec_DrivenOut.f k bt616.1 bt616.2.1 bt616.2.2.1 bt616.2.2.2).bind fun bt625 => ((spec_DrawIsController.f l1).bind fun bt629 => (if (bt598.2 != bt600.2) = true then (laws_FnTrackBounds.j0 k bt594.2.2 bt598.2 bt600.1 bt604.1 bt606.1 bt606.2.1 bt606.2.2.1 bt606.2.2.2 bt612.2 bt614.1 bt616.2.2.1 bt616.2.2.2 bt621.1 bt621.2 bt625.1 true bt594.1 bt594.2.1 bt616.1 bt616.2.1) else (if bt598.1 = bt600.1 then (if (bt602.2 != bt604.2) = true then (laws_FnTrackBounds.j0 k bt594.2.2 bt598.2 bt600.1 bt604.1 bt606.1 bt606.2.1 bt606.2.2.1 bt606.2.2.2 bt612.2 bt614.1 bt616.2.2.1 bt616.2.2.2 bt621.1 bt621.2 bt625.1 true bt594.1 bt594.2.1 bt616.1 bt616.2.1) else (if bt602.1 = bt604.1 then (if (bt612.2 != bt614.2) = true then (laws_FnTrackBounds.j0 k bt594.2.2 bt598.2 bt600.1 bt604.1 bt606.1 bt606.2.1 bt606.2.2.1 bt606.2.2.2 bt612.2 bt614.1 bt616.2.2.1 bt616.2.2.2 bt621.1 bt621.2 bt625.1 true bt594.1 bt594.2.1 bt616.1 bt616.2.1) else (if bt612.1 = bt614.1 then (if (bt621.2 != bt625.2) = true then (laws_FnTrackBounds.j0 k bt594.2.2 bt598.2 bt600.1 bt604.1 bt606.1 bt606.2.1 bt606.2.2.1 bt606.2.2.2 bt612.2 bt614.1 bt616.2.2.1 bt616.2.2.2 bt621.1 bt621.2 bt625.1 true bt594.1 bt594.2.1 bt616.1 bt616.2.1) else ((laws_qInts.f k bt621.1 bt625.1).bind fun t632 => (if t632 = true then (if (bt602.2 != bt598.2) = true then (laws_FnTrackBounds.j0 k bt594.2.2 bt598.2 bt600.1 bt604.1 bt606.1 bt606.2.1 bt606.2.2.1 bt606.2.2.2 bt612.2 bt614.1 bt616.2.2.1 bt616.2.2.2 bt621.1 bt621.2 bt625.1 true bt594.1 bt594.2.1 bt616.1 bt616.2.1) else ((impl_IsController.f bt629.1 bt629.2).bind fun t633 => ((spec_IsController.f bt629.1 bt629.2).bind fun t634 => (laws_FnTrackBounds.j0 k bt594.2.2 bt598.2 bt600.1 bt604.1 bt606.1 bt606.2.1 bt606.2.2.1 bt606.2.2.2 bt612.2 bt614.1 bt616.2.2.1 bt616.2.2.2 bt621.1 bt621.2 bt625.1 (t633 != t634) bt594.1 bt594.2.1 bt616.1 bt616.2.1)))) else (laws_FnTrackBounds.j0 k bt594.2.2 bt598.2 bt600.1 bt604.1 bt606.1 bt606.2.1 bt606.2.2.1 bt606.2.2.2 bt612.2 bt614.1 bt616.2.2.1 bt616.2.2.2 bt621.1 bt621.2 bt625.1 true bt594.1 bt594.2.1 bt616.1 bt616.2.1)))) else (laws_FnTrackBounds.j0 k bt594.2.2 bt598.2 bt600.1 bt604.1 bt606.1 bt606.2.1 bt606.2.2.1 bt606.2.2.2 bt612.2 bt614.1 bt616.2.2.1 bt616.2.2.2 bt621.1 bt621.2 bt625.1 true bt594.1 bt594.2.1 bt616.1 bt616.2.1))) else (laws_FnTrackBounds.j0 k bt594.2.2 bt598.2 bt600.1 bt604.1 bt606.1 bt606.2.1 bt606.2.2.1 bt606.2.2.2 bt612.2 bt614.1 bt616.2.2.1 bt616.2.2.2 bt621.1 bt621.2 bt625.1 true bt594.1 bt594.2.1 bt616.1 bt616.2.1))) else (laws_FnTrackBounds.j0 k bt594.2.2 bt598.2 bt600.1 bt604.1 bt606.1 bt606.2.1 bt606.2.2.1 bt606.2.2.2 bt612.2 bt614.1 bt616.2.2.1 bt616.2.2.2 bt621.1 bt621.2 bt625.1 true bt594.1 bt594.2.1 bt616.1 bt616.2.1)))))))))))))))) = some r := h
 clear h
 by_cases c3 : (wrap64 ((l0.length : Int) + (l1.length : Int))) > 1048576
 ·
  rw [if_pos c3] at H
  have c3b0 : decide (1048576 < (wrap64 ((l0.length : Int) + (l1.length : Int)))) = true := decide_eq_true c3
  clear c3
  obtain rfl := Option.some.inj H
  go_enter Try.func11, Try.ntmps11
  go_wp2
  go_ret
  exact ⟨zr, zb⟩
 ·
  rw [if_neg c3] at H
  have c3b0 : decide (1048576 < (wrap64 ((l0.length : Int) + (l1.length : Int)))) = false := decide_eq_false c3
  clear c3
  replace H := Option.bind_eq_some_iff.mp H
  obtain ⟨⟨t594, t595, t596⟩, A40, H⟩ := H
  (try dsimp only at H)
  have A4 := zm A40
  clear A40
  replace H := Option.bind_eq_some_iff.mp H
  obtain ⟨⟨t598, t599⟩, A50, H⟩ := H
  (try dsimp only at H)
  have A5 := zm A50
  clear A50
  replace H := Option.bind_eq_some_iff.mp H
  obtain ⟨⟨t600, t601⟩, A60, H⟩ := H
  (try dsimp only at H)
  have A6 := zm A60
  clear A60
  replace H := Option.bind_eq_some_iff.mp H
  obtain ⟨⟨t602, t603⟩, A70, H⟩ := H
  (try dsimp only at H)
  have A7 := zm A70
  clear A70
  replace H := Option.bind_eq_some_iff.mp H
  obtain ⟨⟨t604, t605⟩, A80, H⟩ := H
  (try dsimp only at H)
  have A8 := zm A80
  clear A80
  replace H := Option.bind_eq_some_iff.mp H
  obtain ⟨⟨t606, t607, t608, t609⟩, A90, H⟩ := H
  (try dsimp only at H)
  have A9 := zm A90
  clear A90
  replace H := Option.bind_eq_some_iff.mp H
  obtain ⟨⟨t612, t613⟩, A100, H⟩ := H
  (try dsimp only at H)
  have A10 := zm A100
  clear A100
  replace H := Option.bind_eq_some_iff.mp H
  obtain ⟨⟨t614, t615⟩, A110, H⟩ := H
  (try dsimp only at H)
  have A11 := zm A110
  clear A110
  replace H := Option.bind_eq_some_iff.mp H
  obtain ⟨⟨t616, t617, t618, t619⟩, A120, H⟩ := H
  (try dsimp only at H)
  have A12 := zm A120
  clear A120
  replace H := Option.bind_eq_some_iff.mp H
  obtain ⟨⟨t621, t624⟩, A130, H⟩ := H
  (try dsimp only at H)
  have A13 := zm A130
  clear A130
  replace H := Option.bind_eq_some_iff.mp H
  obtain ⟨⟨t625, t628⟩, A140, H⟩ := H
  (try dsimp only at H)
  have A14 := zm A140
  clear A140
  replace H := Option.bind_eq_some_iff.mp H
  obtain ⟨⟨t629, t630⟩, A150, H⟩ := H
  (try dsimp only at H)
  have A15 := zm A150
  clear A150
  have HC16 := zm H
  clear H
  go_enter Try.func11, Try.ntmps11
  go_upto_region 15 with (first | ((with_reducible refine gate_callee (f := 68) rfl ?_); refine goesA_ (some 57) Try.func68 #[.slice A0 l0.length c0] rfl ?_; (with_reducible refine (spec_DrawSafeBound.calls _ _ l0 t594 t595 t596 _ ?side1 ?side2 A4.out).mono ?_); (case side1 => repeat (first | exact HR0.out | (with_reducible refine Kd.C_alloc ?_ _) | (with_reducible refine Kd.C_drewN ?_ _) | (with_reducible refine Kd.C_drew ?_))); (case side2 => exact HC0.out); rintro e w17 ⟨rfl, hb⟩; refine ⟨_, rfl, ?_⟩; have n0_ := zm (below_step zb hb); clear HB; have HB := n0_; clear n0_; (try clear hb); (try clear hb2); (try clear hk); (try clear hi)) | ((with_reducible refine gate_dst (N := 5) rfl ?_); (try (refine gate_guard (by rfl) ?_; dsimp only)); refine box_event ?hg (N := 5) ?hd (cs := #[.int .i64 0, .int .i64 0]) (t := 47) ?hr ?_; (case hd => rfl); (case hg => rfl); (case hr => first | (go_simp; done) | (go_simp; rfl)); intro gb597 hg w18 hbox hb; have n0_ := zm (below_step zb hb); have n1_ := zm (hbox); have n2_ := zm (zs hg zb : w.heap.size ≤ gb597); have n3_ := zm (zs hg zb : w.heap.size ≤ gb597); clear HB; have HB := n0_; have BK597 := n1_; have GW597 := n2_; have GE597 := n3_; clear n0_ n1_ n2_ n3_; clear hb hbox hg; obtain ⟨hcz19_0, hcz19_1, hfz19_0, hfz19_1⟩ := zc2 BK597.out) | ((with_reducible refine gate_callee (f := 69) rfl ?_); refine goesA_ (some 63) Try.func69 #[.agg #[.int .i64 t594, .int .i64 t595], .int .i64 t596] rfl ?_; (with_reducible refine (impl_SafeBound.calls t594 t595 t596 t598 t599 _ A5.out).mono ?_); rintro e w20 ⟨rfl, hb⟩; refine ⟨_, rfl, ?_⟩; have n0_ := zm (blk_below (g := gb597) (o := .cells #[.int .i64 t594, .int .i64 t595] 47 (0, 0)) (by (with_reducible repeat (first | refine blk_drewN ?_ _ | refine blk_drew ?_ | refine blk_alloc ?_ _)); refine blk_put (cs := #[.int .i64 t594, .int .i64 0]) ?_ 1 _ rfl; (with_reducible repeat (first | refine blk_drewN ?_ _ | refine blk_drew ?_ | refine blk_alloc ?_ _)); refine blk_put (cs := #[.int .i64 0, .int .i64 0]) ?_ 0 _ rfl; (with_reducible repeat (first | refine blk_drewN ?_ _ | refine blk_drew ?_ | refine blk_alloc ?_ _)); exact BK597.out) hb); have n1_ := zm (below_step zb hb); clear BK597; clear HB; have BK597 := n0_; have HB := n1_; clear n0_ n1_; (try clear hb); (try clear hb2); (try clear hk); (try clear hi); obtain ⟨hcz21_0, hcz21_1, hfz21_0, hfz21_1⟩ := zc2 BK597.out) | ((with_reducible refine gate_callee (f := 70) rfl ?_); refine goesA_ (some 69) Try.func70 #[.agg #[.int .i64 t594, .int .i64 t595], .int .i64 t596] rfl ?_; (with_reducible refine (spec_SafeBound.calls t594 t595 t596 t600 t601 _ A6.out).mono ?_); rintro e w22 ⟨rfl, hb⟩; refine ⟨_, rfl, ?_⟩; have n0_ := zm (blk_below (g := gb597) (o := .cells #[.int .i64 t594, .int .i64 t595] 47 (0, 0)) zk hb); have n1_ := zm (below_step zb hb); clear BK597; clear HB; have BK597 := n0_; have HB := n1_; clear n0_ n1_; (try clear hb); (try clear hb2); (try clear hk); (try clear hi); obtain ⟨hcz23_0, hcz23_1, hfz23_0, hfz23_1⟩ := zc2 BK597.out) | ((with_reducible refine gate_callee (f := 28) rfl ?_); refine goesA_ (some 75) Try.func28 #[.agg #[.int .i64 t594, .int .i64 t595], .int .i64 t596] rfl ?_; (with_reducible refine (impl_ReachedOffset.calls k t594 t595 t596 t602 t603 _ A7.out).mono ?_); rintro e w24 ⟨rfl, hb⟩; refine ⟨_, rfl, ?_⟩; have n0_ := zm (blk_below (g := gb597) (o := .cells #[.int .i64 t594, .int .i64 t595] 47 (0, 0)) zk hb); have n1_ := zm (below_step zb hb); clear BK597; clear HB; have BK597 := n0_; have HB := n1_; clear n0_ n1_; (try clear hb); (try clear hb2); (try clear hk); (try clear hi); obtain ⟨hcz25_0, hcz25_1, hfz25_0, hfz25_1⟩ := zc2 BK597.out) | ((with_reducible refine gate_callee (f := 26) rfl ?_); refine goesA_ (some 81) Try.func26 #[.agg #[.int .i64 t594, .int .i64 t595], .int .i64 t596] rfl ?_; (with_reducible refine (spec_ReachedOffset.calls k t594 t595 t596 t604 t605 _ A8.out).mono ?_); rintro e w26 ⟨rfl, hb⟩; refine ⟨_, rfl, ?_⟩; have n0_ := zm (blk_below (g := gb597) (o := .cells #[.int .i64 t594, .int .i64 t595] 47 (0, 0)) zk hb); have n1_ := zm (below_step zb hb); clear BK597; clear HB; have BK597 := n0_; have HB := n1_; clear n0_ n1_; (try clear hb); (try clear hb2); (try clear hk); (try clear hi)) | ((with_reducible refine gate_callee (f := 71) rfl ?_); refine goesA_ (some 86) Try.func71 #[.slice A1 l1.length c1] rfl ?_; (with_reducible refine (spec_DrawLeastGain.calls k _ _ l1 t606 t607 t608 t609 _ ?side1 ?side2 A9.out).mono ?_); (case side1 => repeat (first | exact (Kd.C_below HR1.out HB.out) | (with_reducible refine Kd.C_alloc ?_ _) | (with_reducible refine Kd.C_drewN ?_ _) | (with_reducible refine Kd.C_drew ?_))); (case side2 => exact HC1.out); rintro e w27 ⟨v610, rfl, ho0, hb⟩; refine ⟨_, rfl, ?_⟩; have n0_ := zm (Kd.R_lower ho0 (below_size zb)); have n1_ := zm (blk_below (g := gb597) (o := .cells #[.int .i64 t594, .int .i64 t595] 47 (0, 0)) zk hb); have n2_ := zm (below_step zb hb); clear BK597; clear HB; have HO611 := n0_; have BK597 := n1_; have HB := n2_; clear n0_ n1_ n2_; (try clear hb); (try clear hb2); (try clear hk); (try clear hi); (try clear ho0); obtain ⟨Ao28, co28, eo28⟩ := Kd.R_slice HO611.out; subst eo28) | ((with_reducible refine gate_callee (f := 72) rfl ?_); refine goesA_ (some 96) Try.func72 #[.int .i64 t606, .int .i64 t607, .slice Ao28 t608.length co28, .int .i64 t609] rfl ?_; (with_reducible refine (impl_LeastGain.calls k t606 t607 _ _ t608 t609 t612 t613 _ ?side1 ?side2 A10.out).mono ?_); (case side1 => repeat (first | exact (Kd.R_reads' HO611.out).2.2 | (with_reducible refine Kd.C_alloc ?_ _) | (with_reducible refine Kd.C_drewN ?_ _) | (with_reducible refine Kd.C_drew ?_))); (case side2 => exact (Kd.R_reads' HO611.out).2.1); rintro e w29 ⟨rfl, hb⟩; refine ⟨_, rfl, ?_⟩; have n0_ := zm (Kd.R_below (by (with_reducible repeat (first | apply Kd.R_alloc | apply Kd.R_drewN | apply Kd.R_drew)); exact HO611.out) hb); have n1_ := zm (blk_below (g := gb597) (o := .cells #[.int .i64 t594, .int .i64 t595] 47 (0, 0)) zk hb); have n2_ := zm (below_step zb hb); clear HO611; clear BK597; clear HB; have HO611 := n0_; have BK597 := n1_; have HB := n2_; clear n0_ n1_ n2_; (try clear hb); (try clear hb2); (try clear hk); (try clear hi)) | ((with_reducible refine gate_callee (f := 73) rfl ?_); refine goesA_ (some 104) Try.func73 #[.int .i64 t606, .int .i64 t607, .slice Ao28 t608.length co28, .int .i64 t609] rfl ?_; (with_reducible refine (spec_LeastGain.calls k t606 t607 _ _ t608 t609 t614 t615 _ ?side1 ?side2 A11.out).mono ?_); (case side1 => repeat (first | exact (Kd.R_reads' HO611.out).2.2 | (with_reducible refine Kd.C_alloc ?_ _) | (with_reducible refine Kd.C_drewN ?_ _) | (with_reducible refine Kd.C_drew ?_))); (case side2 => exact (Kd.R_reads' HO611.out).2.1); rintro e w30 ⟨rfl, hb⟩; refine ⟨_, rfl, ?_⟩; have n0_ := zm (Kd.R_below (by (with_reducible repeat (first | apply Kd.R_alloc | apply Kd.R_drewN | apply Kd.R_drew)); exact HO611.out) hb); have n1_ := zm (blk_below (g := gb597) (o := .cells #[.int .i64 t594, .int .i64 t595] 47 (0, 0)) zk hb); have n2_ := zm (below_step zb hb); clear HO611; clear BK597; clear HB; have HO611 := n0_; have BK597 := n1_; have HB := n2_; clear n0_ n1_ n2_; (try clear hb); (try clear hb2); (try clear hk); (try clear hi)) | ((with_reducible refine gate_callee (f := 74) rfl ?_); refine goesA_ (some 109) Try.func74 #[.slice A1 l1.length c1] rfl ?_; (with_reducible refine (spec_DrawDrivenOut.calls _ _ l1 t616 t617 t618 t619 _ ?side1 ?side2 A12.out).mono ?_); (case side1 => repeat (first | exact (Kd.C_below HR1.out HB.out) | (with_reducible refine Kd.C_alloc ?_ _) | (with_reducible refine Kd.C_drewN ?_ _) | (with_reducible refine Kd.C_drew ?_))); (case side2 => exact HC1.out); rintro e w31 ⟨rfl, hb⟩; refine ⟨_, rfl, ?_⟩; have n0_ := zm (Kd.R_below (by (with_reducible repeat (first | apply Kd.R_alloc | apply Kd.R_drewN | apply Kd.R_drew)); exact HO611.out) hb); have n1_ := zm (blk_below (g := gb597) (o := .cells #[.int .i64 t594, .int .i64 t595] 47 (0, 0)) zk hb); have n2_ := zm (below_step zb hb); clear HO611; clear BK597; clear HB; have HO611 := n0_; have BK597 := n1_; have HB := n2_; clear n0_ n1_ n2_; (try clear hb); (try clear hb2); (try clear hk); (try clear hi)) | ((with_reducible refine gate_dst (N := 23) rfl ?_); (try (refine gate_guard (by rfl) ?_; dsimp only)); refine box_event ?hg (N := 23) ?hd (cs := #[.int .i64 0, .int .i64 0]) (t := 47) ?hr ?_; (case hd => rfl); (case hg => rfl); (case hr => first | (go_simp; done) | (go_simp; rfl)); intro gb620 hg w32 hbox hb; have n0_ := zm (Kd.R_below (by (with_reducible repeat (first | apply Kd.R_alloc | apply Kd.R_drewN | apply Kd.R_drew)); exact HO611.out) hb); have n1_ := zm (blk_below (g := gb597) (o := .cells #[.int .i64 t594, .int .i64 t595] 47 (0, 0)) zk hb); have n2_ := zm (below_step zb hb); have n3_ := zm (hbox); have n4_ := zm (zs hg zb : w.heap.size ≤ gb620); have n5_ := zm (zs hg zb : w.heap.size ≤ gb620); have n6_ := zm (zl hg zk : gb597 ≠ gb620); have n7_ := zm (zg hg zk : gb620 ≠ gb597); clear HO611; clear BK597; clear HB; have HO611 := n0_; have BK597 := n1_; have HB := n2_; have BK620 := n3_; have GW620 := n4_; have GE620 := n5_; have NB597_620 := n6_; have NB620_597 := n7_; clear n0_ n1_ n2_ n3_ n4_ n5_ n6_ n7_; clear hb hbox hg; have hnb33 := NB620_597.out; have hnc33 := NB597_620.out; obtain ⟨hcz34_0, hcz34_1, hfz34_0, hfz34_1⟩ := zc2 BK620.out) | ((with_reducible refine gate_callee (f := 30) rfl ?_); refine goesA_ (some 117) Try.func30 #[.agg #[.int .i64 t616, .int .i64 t617], .int .i64 t618, .int .i64 t619] rfl ?_; (with_reducible refine (impl_DrivenOut.calls k t616 t617 t618 t619 t621 t624 _ A13.out).mono ?_); rintro e w35 ⟨v622, rfl, ho0, hb⟩; refine ⟨_, rfl, ?_⟩; have n0_ := zm (Kd.R_elder' (by (with_reducible repeat (first | apply Kd.R_alloc | apply Kd.R_drewN | apply Kd.R_drew)); exact (Kd.R_mono (Kd.R_far (p := ⟨gb620, 1, none⟩) (Kd.R_far (p := ⟨gb620, 0, none⟩) (Kd.R_types HO611.out BK620.out (by decide)) (fun _ hk => hk.2) (.int .i64 t616)) (fun _ hk => hk.2) (.int .i64 t617)) (fun _ h_ => h_.1))) (Kd.R_base ho0) hb); have n1_ := zm (Kd.R_lower (Kd.R_new' ho0 (Kd.R_lt (by (with_reducible repeat (first | apply Kd.R_alloc | apply Kd.R_drewN | apply Kd.R_drew)); exact (Kd.R_mono (Kd.R_far (p := ⟨gb620, 1, none⟩) (Kd.R_far (p := ⟨gb620, 0, none⟩) (Kd.R_types HO611.out BK620.out (by decide)) (fun _ hk => hk.2) (.int .i64 t616)) (fun _ hk => hk.2) (.int .i64 t617)) (fun _ h_ => h_.1))))) (below_size zb)); have n2_ := zm (blk_below (g := gb597) (o := .cells #[.int .i64 t594, .int .i64 t595] 47 (0, 0)) zK hb); have n3_ := zm (blk_below (g := gb620) (o := .cells #[.int .i64 t616, .int .i64 t617] 47 (0, 0)) (by (with_reducible repeat (first | refine blk_drewN ?_ _ | refine blk_drew ?_ | refine blk_alloc ?_ _)); refine blk_put (cs := #[.int .i64 t616, .int .i64 0]) ?_ 1 _ rfl; (with_reducible repeat (first | refine blk_drewN ?_ _ | refine blk_drew ?_ | refine blk_alloc ?_ _)); refine blk_put (cs := #[.int .i64 0, .int .i64 0]) ?_ 0 _ rfl; (with_reducible repeat (first | refine blk_drewN ?_ _ | refine blk_drew ?_ | refine blk_alloc ?_ _)); exact BK620.out) hb); have n4_ := zm (below_step zb hb); clear HO611; clear BK597; clear BK620; clear HB; have HO611 := n0_; have HO623 := n1_; have BK597 := n2_; have BK620 := n3_; have HB := n4_; clear n0_ n1_ n2_ n3_ n4_; (try clear hb); (try clear hb2); (try clear hk); (try clear hi); (try clear ho0); obtain ⟨hcz36_0, hcz36_1, hfz36_0, hfz36_1⟩ := zc2 BK620.out) | ((with_reducible refine gate_callee (f := 29) rfl ?_); refine goesA_ (some 124) Try.func29 #[.agg #[.int .i64 t616, .int .i64 t617], .int .i64 t618, .int .i64 t619] rfl ?_; (with_reducible refine (spec_DrivenOut.calls k t616 t617 t618 t619 t625 t628 _ A14.out).mono ?_); rintro e w37 ⟨v626, rfl, ho0, hb⟩; refine ⟨_, rfl, ?_⟩; have n0_ := zm (Kd.R_elder' (by (with_reducible repeat (first | apply Kd.R_alloc | apply Kd.R_drewN | apply Kd.R_drew)); exact HO611.out) (Kd.R_base ho0) hb); have n1_ := zm (Kd.R_elder' (by (with_reducible repeat (first | apply Kd.R_alloc | apply Kd.R_drewN | apply Kd.R_drew)); exact HO623.out) (Kd.R_base ho0) hb); have n2_ := zm (Kd.R_lower (Kd.R_new' (Kd.R_new' ho0 (Kd.R_lt (by (with_reducible repeat (first | apply Kd.R_alloc | apply Kd.R_drewN | apply Kd.R_drew)); exact HO611.out))) (Kd.R_lt (by (with_reducible repeat (first | apply Kd.R_alloc | apply Kd.R_drewN | apply Kd.R_drew)); exact HO623.out))) (below_size zb)); have n3_ := zm (blk_below (g := gb597) (o := .cells #[.int .i64 t594, .int .i64 t595] 47 (0, 0)) zk hb); have n4_ := zm (blk_below (g := gb620) (o := .cells #[.int .i64 t616, .int .i64 t617] 47 (0, 0)) zk hb); have n5_ := zm (below_step zb hb); clear HO611; clear HO623; clear BK597; clear BK620; clear HB; have HO611 := n0_; have HO623 := n1_; have HO627 := n2_; have BK597 := n3_; have BK620 := n4_; have HB := n5_; clear n0_ n1_ n2_ n3_ n4_ n5_; (try clear hb); (try clear hb2); (try clear hk); (try clear hi); (try clear ho0)) | ((with_reducible refine gate_callee (f := 75) rfl ?_); refine goesA_ (some 128) Try.func75 #[.slice A1 l1.length c1] rfl ?_; (with_reducible refine (spec_DrawIsController.calls _ _ l1 t629 t630 _ ?side1 ?side2 A15.out).mono ?_); (case side1 => repeat (first | exact (Kd.C_below HR1.out HB.out) | (with_reducible refine Kd.C_alloc ?_ _) | (with_reducible refine Kd.C_drewN ?_ _) | (with_reducible refine Kd.C_drew ?_))); (case side2 => exact HC1.out); rintro e w38 ⟨rfl, hb⟩; refine ⟨_, rfl, ?_⟩; have n0_ := zm (Kd.R_below (by (with_reducible repeat (first | apply Kd.R_alloc | apply Kd.R_drewN | apply Kd.R_drew)); exact HO611.out) hb); have n1_ := zm (Kd.R_below (by (with_reducible repeat (first | apply Kd.R_alloc | apply Kd.R_drewN | apply Kd.R_drew)); exact HO623.out) hb); have n2_ := zm (Kd.R_below (by (with_reducible repeat (first | apply Kd.R_alloc | apply Kd.R_drewN | apply Kd.R_drew)); exact HO627.out) hb); have n3_ := zm (blk_below (g := gb597) (o := .cells #[.int .i64 t594, .int .i64 t595] 47 (0, 0)) zk hb); have n4_ := zm (blk_below (g := gb620) (o := .cells #[.int .i64 t616, .int .i64 t617] 47 (0, 0)) zk hb); have n5_ := zm (below_step zb hb); clear HO611; clear HO623; clear HO627; clear BK597; clear BK620; clear HB; have HO611 := n0_; have HO623 := n1_; have HO627 := n2_; have BK597 := n3_; have BK620 := n4_; have HB := n5_; clear n0_ n1_ n2_ n3_ n4_ n5_; (try clear hb); (try clear hb2); (try clear hk); (try clear hi)) | ((with_reducible refine gate_dst (N := 30) rfl ?_); (try (refine gate_guard (by rfl) ?_; dsimp only)); refine box_event ?hg (N := 30) ?hd (cs := #[.int .i64 0, .int .i64 0]) (t := 47) ?hr ?_; (case hd => rfl); (case hg => rfl); (case hr => first | (go_simp; done) | (go_simp; rfl)); intro gb631 hg w39 hbox hb; have n0_ := zm (Kd.R_below (by (with_reducible repeat (first | apply Kd.R_alloc | apply Kd.R_drewN | apply Kd.R_drew)); exact HO611.out) hb); have n1_ := zm (Kd.R_below (by (with_reducible repeat (first | apply Kd.R_alloc | apply Kd.R_drewN | apply Kd.R_drew)); exact HO623.out) hb); have n2_ := zm (Kd.R_below (by (with_reducible repeat (first | apply Kd.R_alloc | apply Kd.R_drewN | apply Kd.R_drew)); exact HO627.out) hb); have n3_ := zm (blk_below (g := gb597) (o := .cells #[.int .i64 t594, .int .i64 t595] 47 (0, 0)) zk hb); have n4_ := zm (blk_below (g := gb620) (o := .cells #[.int .i64 t616, .int .i64 t617] 47 (0, 0)) zk hb); have n5_ := zm (below_step zb hb); have n6_ := zm (hbox); have n7_ := zm (zs hg zb : w.heap.size ≤ gb631); have n8_ := zm (zs hg zb : w.heap.size ≤ gb631); have n9_ := zm (zl hg zk : gb597 ≠ gb631); have n10_ := zm (zg hg zk : gb631 ≠ gb597); have n11_ := zm (zl hg zk : gb620 ≠ gb631); have n12_ := zm (zg hg zk : gb631 ≠ gb620); clear HO611; clear HO623; clear HO627; clear BK597; clear BK620; clear HB; have HO611 := n0_; have HO623 := n1_; have HO627 := n2_; have BK597 := n3_; have BK620 := n4_; have HB := n5_; have BK631 := n6_; have GW631 := n7_; have GE631 := n8_; have NB597_631 := n9_; have NB631_597 := n10_; have NB620_631 := n11_; have NB631_620 := n12_; clear n0_ n1_ n2_ n3_ n4_ n5_ n6_ n7_ n8_ n9_ n10_ n11_ n12_; clear hb hbox hg; have hnb40 := NB631_597.out; have hnc40 := NB597_631.out; have hnb41 := NB631_620.out; have hnc41 := NB620_631.out; obtain ⟨hcz42_0, hcz42_1, hfz42_0, hfz42_1⟩ := zc2 BK631.out))
  (try simp only [Act.put, List.setIfInBounds_toArray, List.set_cons_zero, List.set_cons_succ])
  go_cut [179] (fun v179 wc => ∃ (kq : Nat) (x179_15 : Bool), v179 = .bool x179_15 ∧ Aside0 (laws_FnTrackBounds.j0 kq t596 t599 t600 t604 t606 t607 t608 t609 t613 t614 t618 t619 t621 t624 t625 x179_15 t594 t595 t616 t617 = some r) ∧ Aside0 (kq ≤ k) ∧ Aside0 (Kd.R (Kd.int .i64) 3 wc w.heap.size (fun k_ => some k_ ≠ (v622 : Value).ownBlock ∧ some k_ ≠ (v626 : Value).ownBlock) (.slice Ao28 t608.length co28) t608) ∧ Aside0 (Kd.R (Kd.int .i64) 3 wc w.heap.size (fun k_ => some k_ ≠ ((.slice Ao28 t608.length co28) : Value).ownBlock ∧ some k_ ≠ (v626 : Value).ownBlock) v622 t621) ∧ Aside0 (Kd.R (Kd.int .i64) 3 wc w.heap.size (fun k_ => some k_ ≠ ((.slice Ao28 t608.length co28) : Value).ownBlock ∧ some k_ ≠ (v622 : Value).ownBlock) v626 t625) ∧ Aside0 (wc.heap[gb597]? = some (.cells #[.int .i64 t594, .int .i64 t595] 47 (0, 0))) ∧ Aside0 (wc.heap[gb620]? = some (.cells #[.int .i64 t616, .int .i64 t617] 47 (0, 0))) ∧ Aside0 (wc.heap[gb631]? = some (.cells #[.int .i64 t629, .int .i64 t630] 47 (0, 0))) ∧ Aside0 (Below w.heap.size w wc))
  case first =>
   as_aux_lemma =>
    have H := HC16.out
    clear HC16
    by_cases c43 : (t599 != t601) = true
    ·
     rw [if_pos c43] at H
     have c43b0 : (t599 != t601) = true := c43
     (try (have c43b1 : decide (t599 = t601) = false := by simpa using c43))
     (try (have c43b2 : (t599 == t601) = false := by simpa using c43))
     (try (have c43b3 : ¬ (t599 = t601) := by simpa using c43))
     clear c43
     (first | rw [c43b0] | (simp only [i64_w, i32_w]; rw [c43b0]) | skip)
     exact (laws_FnTrackBounds.j0_t (H.trans (congrArg some hr_))).elim
    ·
     rw [if_neg c43] at H
     have c43b0 : (t599 != t601) = false := by simpa using c43
     (try (have c43b1 : decide (t599 = t601) = true := by simpa using c43))
     (try (have c43b2 : (t599 == t601) = true := by simpa using c43))
     clear c43
     (first | rw [c43b0] | (simp only [i64_w, i32_w]; rw [c43b0]) | skip)
     by_cases c44 : t598 = t600
     ·
      rw [if_pos c44] at H
      have c44b0 : (t598 == t600) = true := beq_iff_eq.mpr c44
      have c44b1 : (t598 != t600) = false := bne_eq_false_iff_eq.mpr c44
      clear c44
      by_cases c45 : (t603 != t605) = true
      ·
       rw [if_pos c45] at H
       have c45b0 : (t603 != t605) = true := c45
       (try (have c45b1 : decide (t603 = t605) = false := by simpa using c45))
       (try (have c45b2 : (t603 == t605) = false := by simpa using c45))
       (try (have c45b3 : ¬ (t603 = t605) := by simpa using c45))
       clear c45
       exact (laws_FnTrackBounds.j0_t (H.trans (congrArg some hr_))).elim
      ·
       rw [if_neg c45] at H
       have c45b0 : (t603 != t605) = false := by simpa using c45
       (try (have c45b1 : decide (t603 = t605) = true := by simpa using c45))
       (try (have c45b2 : (t603 == t605) = true := by simpa using c45))
       clear c45
       by_cases c46 : t602 = t604
       ·
        rw [if_pos c46] at H
        have c46b0 : (t602 == t604) = true := beq_iff_eq.mpr c46
        have c46b1 : (t602 != t604) = false := bne_eq_false_iff_eq.mpr c46
        clear c46
        by_cases c47 : (t613 != t615) = true
        ·
         rw [if_pos c47] at H
         have c47b0 : (t613 != t615) = true := c47
         (try (have c47b1 : decide (t613 = t615) = false := by simpa using c47))
         (try (have c47b2 : (t613 == t615) = false := by simpa using c47))
         (try (have c47b3 : ¬ (t613 = t615) := by simpa using c47))
         clear c47
         exact (laws_FnTrackBounds.j0_t (H.trans (congrArg some hr_))).elim
        ·
         rw [if_neg c47] at H
         have c47b0 : (t613 != t615) = false := by simpa using c47
         (try (have c47b1 : decide (t613 = t615) = true := by simpa using c47))
         (try (have c47b2 : (t613 == t615) = true := by simpa using c47))
         clear c47
         by_cases c48 : t612 = t614
         ·
          rw [if_pos c48] at H
          have c48b0 : (t612 == t614) = true := beq_iff_eq.mpr c48
          have c48b1 : (t612 != t614) = false := bne_eq_false_iff_eq.mpr c48
          clear c48
          by_cases c49 : (t624 != t628) = true
          ·
           rw [if_pos c49] at H
           have c49b0 : (t624 != t628) = true := c49
           (try (have c49b1 : decide (t624 = t628) = false := by simpa using c49))
           (try (have c49b2 : (t624 == t628) = false := by simpa using c49))
           (try (have c49b3 : ¬ (t624 = t628) := by simpa using c49))
           clear c49
           exact (laws_FnTrackBounds.j0_t (H.trans (congrArg some hr_))).elim
          ·
           rw [if_neg c49] at H
           have c49b0 : (t624 != t628) = false := by simpa using c49
           (try (have c49b1 : decide (t624 = t628) = true := by simpa using c49))
           (try (have c49b2 : (t624 == t628) = true := by simpa using c49))
           clear c49
           replace H := Option.bind_eq_some_iff.mp H
           obtain ⟨t632, A500, H⟩ := H
           (try dsimp only at H)
           have A50 := zm A500
           clear A500
           by_cases c51 : t632 = true
           ·
            subst c51
            have H1 : (if (t603 != t599) = true then (laws_FnTrackBounds.j0 k t596 t599 t600 t604 t606 t607 t608 t609 t613 t614 t618 t619 t621 t624 t625 true t594 t595 t616 t617) else ((impl_IsController.f t629 t630).bind fun t633 => ((spec_IsController.f t629 t630).bind fun t634 => (laws_FnTrackBounds.j0 k t596 t599 t600 t604 t606 t607 t608 t609 t613 t614 t618 t619 t621 t624 t625 (t633 != t634) t594 t595 t616 t617)))) = some r := by rw [if_pos rfl] at H; exact H
            clear H
            have H := H1
            clear H1
            by_cases c52 : (t603 != t599) = true
            ·
             rw [if_pos c52] at H
             have c52b0 : (t603 != t599) = true := c52
             (try (have c52b1 : decide (t603 = t599) = false := by simpa using c52))
             (try (have c52b2 : (t603 == t599) = false := by simpa using c52))
             (try (have c52b3 : ¬ (t603 = t599) := by simpa using c52))
             clear c52
             exact (laws_FnTrackBounds.j0_t (H.trans (congrArg some hr_))).elim
            ·
             rw [if_neg c52] at H
             have c52b0 : (t603 != t599) = false := by simpa using c52
             (try (have c52b1 : decide (t603 = t599) = true := by simpa using c52))
             (try (have c52b2 : (t603 == t599) = true := by simpa using c52))
             clear c52
             replace H := Option.bind_eq_some_iff.mp H
             obtain ⟨t633, A530, H⟩ := H
             (try dsimp only at H)
             have A53 := zm A530
             clear A530
             replace H := Option.bind_eq_some_iff.mp H
             obtain ⟨t634, A540, H⟩ := H
             (try dsimp only at H)
             have A54 := zm A540
             clear A540
             have H' := zm H
             clear H
             try go_wp2
             have n0_ : Aside0 (Kd.R (Kd.int .i64) 3 ((w39.setCell ⟨gb631, 0, none⟩ (.int .i64 t629)).setCell ⟨gb631, 1, none⟩ (.int .i64 t630)) w.heap.size (fun k_ => some k_ ≠ (v622 : Value).ownBlock ∧ some k_ ≠ (v626 : Value).ownBlock) (.slice Ao28 t608.length co28) t608) := ⟨by (with_reducible repeat (first | apply Kd.R_alloc | apply Kd.R_drewN | apply Kd.R_drew)); exact Kd.R_mono (Kd.R_far (p := ⟨gb631, 1, none⟩) (Kd.R_far (p := ⟨gb631, 0, none⟩) (Kd.R_types HO611.out BK631.out (by decide)) (fun _ hk => hk.2) (.int .i64 t629)) (fun _ hk => hk.2) (.int .i64 t630)) (fun _ hk => ⟨hk.1.1.2, hk.1.2⟩)⟩
             have n1_ : Aside0 (Kd.R (Kd.int .i64) 3 ((w39.setCell ⟨gb631, 0, none⟩ (.int .i64 t629)).setCell ⟨gb631, 1, none⟩ (.int .i64 t630)) w.heap.size (fun k_ => some k_ ≠ (.slice Ao28 t608.length co28 : Value).ownBlock ∧ some k_ ≠ (v626 : Value).ownBlock) v622 t621) := ⟨by (with_reducible repeat (first | apply Kd.R_alloc | apply Kd.R_drewN | apply Kd.R_drew)); exact Kd.R_mono (Kd.R_far (p := ⟨gb631, 1, none⟩) (Kd.R_far (p := ⟨gb631, 0, none⟩) (Kd.R_types HO623.out BK631.out (by decide)) (fun _ hk => hk.2) (.int .i64 t629)) (fun _ hk => hk.2) (.int .i64 t630)) (fun _ hk => ⟨hk.1.1.2, hk.1.2⟩)⟩
             have n2_ : Aside0 (Kd.R (Kd.int .i64) 3 ((w39.setCell ⟨gb631, 0, none⟩ (.int .i64 t629)).setCell ⟨gb631, 1, none⟩ (.int .i64 t630)) w.heap.size (fun k_ => some k_ ≠ (.slice Ao28 t608.length co28 : Value).ownBlock ∧ some k_ ≠ (v622 : Value).ownBlock) v626 t625) := ⟨by (with_reducible repeat (first | apply Kd.R_alloc | apply Kd.R_drewN | apply Kd.R_drew)); exact Kd.R_mono (Kd.R_far (p := ⟨gb631, 1, none⟩) (Kd.R_far (p := ⟨gb631, 0, none⟩) (Kd.R_types HO627.out BK631.out (by decide)) (fun _ hk => hk.2) (.int .i64 t629)) (fun _ hk => hk.2) (.int .i64 t630)) (fun _ hk => ⟨hk.1.1.2, hk.1.2⟩)⟩
             have n3_ : Aside0 (((w39.setCell ⟨gb631, 0, none⟩ (.int .i64 t629)).setCell ⟨gb631, 1, none⟩ (.int .i64 t630)).heap[gb597]? = some (.cells #[.int .i64 t594, .int .i64 t595] 47 (0, 0))) := ⟨zK⟩
             have n4_ : Aside0 (((w39.setCell ⟨gb631, 0, none⟩ (.int .i64 t629)).setCell ⟨gb631, 1, none⟩ (.int .i64 t630)).heap[gb620]? = some (.cells #[.int .i64 t616, .int .i64 t617] 47 (0, 0))) := ⟨zK⟩
             have n5_ : Aside0 (((w39.setCell ⟨gb631, 0, none⟩ (.int .i64 t629)).setCell ⟨gb631, 1, none⟩ (.int .i64 t630)).heap[gb631]? = some (.cells #[.int .i64 t629, .int .i64 t630] 47 (0, 0))) := ⟨by (with_reducible repeat (first | refine blk_drewN ?_ _ | refine blk_drew ?_ | refine blk_alloc ?_ _)); refine blk_put (cs := #[.int .i64 t629, .int .i64 0]) ?_ 1 _ rfl; (with_reducible repeat (first | refine blk_drewN ?_ _ | refine blk_drew ?_ | refine blk_alloc ?_ _)); refine blk_put (cs := #[.int .i64 0, .int .i64 0]) ?_ 0 _ rfl; (with_reducible repeat (first | refine blk_drewN ?_ _ | refine blk_drew ?_ | refine blk_alloc ?_ _)); exact BK631.out⟩
             have n6_ : Aside0 (Below w.heap.size w ((w39.setCell ⟨gb631, 0, none⟩ (.int .i64 t629)).setCell ⟨gb631, 1, none⟩ (.int .i64 t630))) := ⟨zb⟩
             (try clear HO611)
             (try clear HO623)
             (try clear HO627)
             (try clear BK597)
             (try clear BK620)
             (try clear BK631)
             (try clear HB)
             generalize ((w39.setCell ⟨gb631, 0, none⟩ (.int .i64 t629)).setCell ⟨gb631, 1, none⟩ (.int .i64 t630)) = w55 at n0_ n1_ n2_ n3_ n4_ n5_ n6_ ⊢
             have HO611 := n0_
             have HO623 := n1_
             have HO627 := n2_
             have BK597 := n3_
             have BK620 := n4_
             have BK631 := n5_
             have HB := n6_
             clear n0_ n1_ n2_ n3_ n4_ n5_ n6_
             have n0_ := zm (Kd.R_drew HO611.out)
             have n1_ := zm (Kd.R_drew HO623.out)
             have n2_ := zm (Kd.R_drew HO627.out)
             have n3_ := zm (blk_drew BK597.out)
             have n4_ := zm (blk_drew BK620.out)
             have n5_ := zm (blk_drew BK631.out)
             have n6_ := zm (below_drew1 HB.out)
             clear HO611
             clear HO623
             clear HO627
             clear BK597
             clear BK620
             clear BK631
             clear HB
             have HO611 := n0_
             have HO623 := n1_
             have HO627 := n2_
             have BK597 := n3_
             have BK620 := n4_
             have BK631 := n5_
             have HB := n6_
             clear n0_ n1_ n2_ n3_ n4_ n5_ n6_
             obtain ⟨Ao57, co57, eo57⟩ := Kd.R_slice HO623.out
             (first | subst eo57 | (injection eo57 with f1_ f2_ f3_; have f4_ := f1_.symm; have f5_ := f3_.symm; clear f1_ f2_ f3_; subst f4_; subst f5_))
             obtain ⟨Ao58, co58, eo58⟩ := Kd.R_slice HO627.out
             (first | subst eo58 | (injection eo58 with f1_ f2_ f3_; have f4_ := f1_.symm; have f5_ := f3_.symm; clear f1_ f2_ f3_; subst f4_; subst f5_))
             as_aux_lemma =>
              refine start_ (n := 51) (S := fun w' => w'.cell? ⟨gb631, 0, none⟩ = some (.int .i64 t629) ∧ w'.cell? ⟨gb631, 1, none⟩ = some (.int .i64 t630)) (ds := []) #[false, false, false, false, false, false, false, false, false, false, false, false, false, false, false, false, false, false, false, false, false, false, false, false, false, false, false, false, false, false, false, false, false, false, false, false, false, false, false, false, false, false, false, false, false, false, false, false, false, false, false] (by kernel_rfl) rfl rfl ⟨(blk_cell BK631.out 0).trans rfl, (blk_cell BK631.out 1).trans rfl⟩ (fun hHeld => ?_); refine with_tabW laws_FnTrackBounds.tab15 laws_FnTrackBounds.bits15 (fun HT_ HW_ => ?_)
              generalize w55.drew = w56 at HO611 HO623 HO627 BK597 BK620 BK631 HB hHeld ⊢
              refine pure_ (i := 0) (N := some 129) (v := ?_) (a' := ?_) #[true, false, false, false, false, false, false, false, false, false, false, false, false, false, false, false, false, false, false, false, false, false, false, false, false, false, false, false, false, false, false, false, false, false, false, false, false, false, false, false, false, false, false, false, false, false, false, false, false, false, false] rfl rfl (any_of HT_.out (by kernel_rfl)) (fun _ _ _ h => h) (Or.inl ⟨by rfl, ?_⟩) ?_ ?_
              rotate_left
              ·
               intro w'
               go_simp
               with_reducible rfl
              rotate_left
              ·
               simp only [Act.put, zA, zB, zD, i64_w, i32_w]
               rfl
              refine pure_ (i := 1) (N := some 130) (v := ?_) (a' := ?_) #[true, true, false, false, false, false, false, false, false, false, false, false, false, false, false, false, false, false, false, false, false, false, false, false, false, false, false, false, false, false, false, false, false, false, false, false, false, false, false, false, false, false, false, false, false, false, false, false, false, false, false] rfl rfl (any_of HT_.out (by kernel_rfl)) (fun _ _ _ h => h) (Or.inl ⟨by rfl, ?_⟩) ?_ ?_
              rotate_left
              ·
               intro w'
               go_simp
               with_reducible rfl
              rotate_left
              ·
               simp only [Act.put, zA, zB, zD, i64_w, i32_w]
               rfl
              refine pure_ (i := 2) (N := some 131) (v := ?_) (a' := ?_) #[true, true, true, false, false, false, false, false, false, false, false, false, false, false, false, false, false, false, false, false, false, false, false, false, false, false, false, false, false, false, false, false, false, false, false, false, false, false, false, false, false, false, false, false, false, false, false, false, false, false, false] rfl rfl (any_of HT_.out (by kernel_rfl)) (fun _ _ _ h => h) (Or.inl ⟨by rfl, ?_⟩) ?_ ?_
              rotate_left
              ·
               intro w'
               go_simp
               with_reducible rfl
              rotate_left
              ·
               simp only [Act.put, zA, zB, zD, i64_w, i32_w]
               rfl
              refine pure_ (i := 3) (N := some 132) (v := ?_) (a' := ?_) #[true, true, true, true, false, false, false, false, false, false, false, false, false, false, false, false, false, false, false, false, false, false, false, false, false, false, false, false, false, false, false, false, false, false, false, false, false, false, false, false, false, false, false, false, false, false, false, false, false, false, false] rfl rfl (any_of HT_.out (by kernel_rfl)) (fun _ _ _ h => h) (Or.inl ⟨by rfl, ?_⟩) ?_ ?_
              rotate_left
              ·
               intro w'
               go_simp
               with_reducible rfl
              rotate_left
              ·
               simp only [Act.put, zA, zB, zD, i64_w, i32_w]
               rfl
              refine pure_ (i := 4) (N := some 133) (v := ?_) (a' := ?_) #[true, true, true, true, true, false, false, false, false, false, false, false, false, false, false, false, false, false, false, false, false, false, false, false, false, false, false, false, false, false, false, false, false, false, false, false, false, false, false, false, false, false, false, false, false, false, false, false, false, false, false] rfl rfl (any_of HT_.out (by kernel_rfl)) (fun _ _ _ h => h) (Or.inl ⟨by rfl, ?_⟩) ?_ ?_
              rotate_left
              ·
               intro w'
               go_simp
               with_reducible rfl
              rotate_left
              ·
               simp only [Act.put, zA, zB, zD, i64_w, i32_w]
               rfl
              refine pure_ (i := 5) (N := some 134) (v := ?_) (a' := ?_) #[true, true, true, true, true, true, false, false, false, false, false, false, false, false, false, false, false, false, false, false, false, false, false, false, false, false, false, false, false, false, false, false, false, false, false, false, false, false, false, false, false, false, false, false, false, false, false, false, false, false, false] rfl rfl (any_of HT_.out (by kernel_rfl)) (fun _ _ _ h => h) (Or.inl ⟨by rfl, ?_⟩) ?_ ?_
              rotate_left
              ·
               intro w'
               go_simp
               with_reducible rfl
              rotate_left
              ·
               simp only [Act.put, zA, zB, zD, i64_w, i32_w]
               rfl
              refine pure_ (i := 6) (N := some 135) (v := ?_) (a' := ?_) #[true, true, true, true, true, true, true, false, false, false, false, false, false, false, false, false, false, false, false, false, false, false, false, false, false, false, false, false, false, false, false, false, false, false, false, false, false, false, false, false, false, false, false, false, false, false, false, false, false, false, false] rfl rfl (any_of HT_.out (by kernel_rfl)) (fun _ _ _ h => h) (Or.inl ⟨by rfl, ?_⟩) ?_ ?_
              rotate_left
              ·
               intro w'
               go_simp
               with_reducible rfl
              rotate_left
              ·
               simp only [Act.put, zA, zB, zD, i64_w, i32_w]
               rfl
              refine pure_ (i := 7) (N := some 136) (v := ?_) (a' := ?_) #[true, true, true, true, true, true, true, true, false, false, false, false, false, false, false, false, false, false, false, false, false, false, false, false, false, false, false, false, false, false, false, false, false, false, false, false, false, false, false, false, false, false, false, false, false, false, false, false, false, false, false] rfl rfl (any_of HT_.out (by kernel_rfl)) (fun _ _ _ h => h) (Or.inl ⟨by rfl, ?_⟩) ?_ ?_
              rotate_left
              ·
               intro w'
               go_simp
               with_reducible rfl
              rotate_left
              ·
               simp only [Act.put, zA, zB, zD, i64_w, i32_w]
               rfl
              refine pure_ (i := 8) (N := some 137) (v := ?_) (a' := ?_) #[true, true, true, true, true, true, true, true, true, false, false, false, false, false, false, false, false, false, false, false, false, false, false, false, false, false, false, false, false, false, false, false, false, false, false, false, false, false, false, false, false, false, false, false, false, false, false, false, false, false, false] rfl rfl (any_of HT_.out (by kernel_rfl)) (fun _ _ _ h => h) (Or.inl ⟨by rfl, ?_⟩) ?_ ?_
              rotate_left
              ·
               intro w'
               go_simp
               with_reducible rfl
              rotate_left
              ·
               simp only [Act.put, zA, zB, zD, i64_w, i32_w]
               rfl
              refine pure_ (i := 9) (N := some 138) (v := ?_) (a' := ?_) #[true, true, true, true, true, true, true, true, true, true, false, false, false, false, false, false, false, false, false, false, false, false, false, false, false, false, false, false, false, false, false, false, false, false, false, false, false, false, false, false, false, false, false, false, false, false, false, false, false, false, false] rfl rfl (any_of HT_.out (by kernel_rfl)) (fun _ _ _ h => h) (Or.inl ⟨by rfl, ?_⟩) ?_ ?_
              rotate_left
              ·
               intro w'
               go_simp
               with_reducible rfl
              rotate_left
              ·
               simp only [Act.put, zA, zB, zD, i64_w, i32_w]
               rfl
              refine pure_ (i := 10) (N := some 139) (v := ?_) (a' := ?_) #[true, true, true, true, true, true, true, true, true, true, true, false, false, false, false, false, false, false, false, false, false, false, false, false, false, false, false, false, false, false, false, false, false, false, false, false, false, false, false, false, false, false, false, false, false, false, false, false, false, false, false] rfl rfl (any_of HT_.out (by kernel_rfl)) (fun _ _ _ h => h) (Or.inl ⟨by rfl, ?_⟩) ?_ ?_
              rotate_left
              ·
               intro w'
               go_simp
               with_reducible rfl
              rotate_left
              ·
               simp only [Act.put, zA, zB, zD, i64_w, i32_w]
               rfl
              as_aux_lemma =>
               refine pure_ (i := 11) (N := some 140) (v := ?_) (a' := ?_) #[true, true, true, true, true, true, true, true, true, true, true, true, false, false, false, false, false, false, false, false, false, false, false, false, false, false, false, false, false, false, false, false, false, false, false, false, false, false, false, false, false, false, false, false, false, false, false, false, false, false, false] rfl rfl (any_of HT_.out (by kernel_rfl)) (fun _ _ _ h => h) (Or.inl ⟨by rfl, ?_⟩) ?_ ?_
               rotate_left
               ·
                intro w'
                go_simp
                with_reducible rfl
               rotate_left
               ·
                simp only [Act.put, zA, zB, zD, i64_w, i32_w]
                rfl
               refine pure_ (i := 12) (N := some 141) (v := ?_) (a' := ?_) #[true, true, true, true, true, true, true, true, true, true, true, true, true, false, false, false, false, false, false, false, false, false, false, false, false, false, false, false, false, false, false, false, false, false, false, false, false, false, false, false, false, false, false, false, false, false, false, false, false, false, false] rfl rfl (any_of HT_.out (by kernel_rfl)) (fun _ _ _ h => h) (Or.inl ⟨by rfl, ?_⟩) ?_ ?_
               rotate_left
               ·
                intro w'
                go_simp
                with_reducible rfl
               rotate_left
               ·
                simp only [Act.put, zA, zB, zD, i64_w, i32_w]
                rfl
               refine pure_ (i := 13) (N := some 142) (v := ?_) (a' := ?_) #[true, true, true, true, true, true, true, true, true, true, true, true, true, true, false, false, false, false, false, false, false, false, false, false, false, false, false, false, false, false, false, false, false, false, false, false, false, false, false, false, false, false, false, false, false, false, false, false, false, false, false] rfl rfl (any_of HT_.out (by kernel_rfl)) (fun _ _ _ h => h) (Or.inl ⟨by rfl, ?_⟩) ?_ ?_
               rotate_left
               ·
                intro w'
                go_simp
                with_reducible rfl
               rotate_left
               ·
                simp only [Act.put, zA, zB, zD, i64_w, i32_w]
                rfl
               refine pure_ (i := 14) (N := some 143) (v := ?_) (a' := ?_) #[true, true, true, true, true, true, true, true, true, true, true, true, true, true, true, false, false, false, false, false, false, false, false, false, false, false, false, false, false, false, false, false, false, false, false, false, false, false, false, false, false, false, false, false, false, false, false, false, false, false, false] rfl rfl (any_of HT_.out (by kernel_rfl)) (fun _ _ _ h => h) (Or.inl ⟨by rfl, ?_⟩) ?_ ?_
               rotate_left
               ·
                intro w'
                go_simp
                with_reducible rfl
               rotate_left
               ·
                simp only [Act.put, zA, zB, zD, i64_w, i32_w]
                rfl
               refine pure_ (i := 15) (N := some 144) (v := ?_) (a' := ?_) #[true, true, true, true, true, true, true, true, true, true, true, true, true, true, true, true, false, false, false, false, false, false, false, false, false, false, false, false, false, false, false, false, false, false, false, false, false, false, false, false, false, false, false, false, false, false, false, false, false, false, false] rfl rfl (any_of HT_.out (by kernel_rfl)) (fun _ _ _ h => h) (Or.inl ⟨by rfl, ?_⟩) ?_ ?_
               rotate_left
               ·
                intro w'
                go_simp
                with_reducible rfl
               rotate_left
               ·
                simp only [Act.put, zA, zB, zD, i64_w, i32_w]
                rfl
               refine pure_ (i := 16) (N := some 145) (v := ?_) (a' := ?_) #[true, true, true, true, true, true, true, true, true, true, true, true, true, true, true, true, true, false, false, false, false, false, false, false, false, false, false, false, false, false, false, false, false, false, false, false, false, false, false, false, false, false, false, false, false, false, false, false, false, false, false] rfl rfl (any_of HT_.out (by kernel_rfl)) (fun _ _ _ h => h) (Or.inl ⟨by rfl, ?_⟩) ?_ ?_
               rotate_left
               ·
                intro w'
                go_simp
                with_reducible rfl
               rotate_left
               ·
                simp only [Act.put, zA, zB, zD, i64_w, i32_w]
                rfl
               refine pure_ (i := 17) (N := some 146) (v := ?_) (a' := ?_) #[true, true, true, true, true, true, true, true, true, true, true, true, true, true, true, true, true, true, false, false, false, false, false, false, false, false, false, false, false, false, false, false, false, false, false, false, false, false, false, false, false, false, false, false, false, false, false, false, false, false, false] rfl rfl (any_of HT_.out (by kernel_rfl)) (fun _ _ _ h => h) (Or.inl ⟨by rfl, ?_⟩) ?_ ?_
               rotate_left
               ·
                intro w'
                go_simp
                with_reducible rfl
               rotate_left
               ·
                simp only [Act.put, zA, zB, zD, i64_w, i32_w]
                rfl
               refine pure_ (i := 18) (N := some 147) (v := ?_) (a' := ?_) #[true, true, true, true, true, true, true, true, true, true, true, true, true, true, true, true, true, true, true, false, false, false, false, false, false, false, false, false, false, false, false, false, false, false, false, false, false, false, false, false, false, false, false, false, false, false, false, false, false, false, false] rfl rfl (any_of HT_.out (by kernel_rfl)) (fun _ _ _ h => h) (Or.inl ⟨by rfl, ?_⟩) ?_ ?_
               rotate_left
               ·
                intro w'
                go_simp
                with_reducible rfl
               rotate_left
               ·
                simp only [Act.put, zA, zB, zD, i64_w, i32_w]
                rfl
               refine pure_ (i := 19) (N := some 148) (v := ?_) (a' := ?_) #[true, true, true, true, true, true, true, true, true, true, true, true, true, true, true, true, true, true, true, true, false, false, false, false, false, false, false, false, false, false, false, false, false, false, false, false, false, false, false, false, false, false, false, false, false, false, false, false, false, false, false] rfl rfl (any_of HT_.out (by kernel_rfl)) (fun _ _ _ h => h) (Or.inl ⟨by rfl, ?_⟩) ?_ ?_
               rotate_left
               ·
                intro w'
                go_simp
                with_reducible rfl
               rotate_left
               ·
                simp only [Act.put, zA, zB, zD, i64_w, i32_w]
                rfl
               refine pure_ (i := 20) (N := some 149) (v := ?_) (a' := ?_) #[true, true, true, true, true, true, true, true, true, true, true, true, true, true, true, true, true, true, true, true, true, false, false, false, false, false, false, false, false, false, false, false, false, false, false, false, false, false, false, false, false, false, false, false, false, false, false, false, false, false, false] rfl rfl (any_of HT_.out (by kernel_rfl)) (fun _ _ _ h => h) (Or.inl ⟨by rfl, ?_⟩) ?_ ?_
               rotate_left
               ·
                intro w'
                go_simp
                with_reducible rfl
               rotate_left
               ·
                simp only [Act.put, zA, zB, zD, i64_w, i32_w]
                rfl
               refine pure_ (i := 21) (N := some 150) (v := ?_) (a' := ?_) #[true, true, true, true, true, true, true, true, true, true, true, true, true, true, true, true, true, true, true, true, true, true, false, false, false, false, false, false, false, false, false, false, false, false, false, false, false, false, false, false, false, false, false, false, false, false, false, false, false, false, false] rfl rfl (any_of HT_.out (by kernel_rfl)) (fun _ _ _ h => h) (Or.inl ⟨by rfl, ?_⟩) ?_ ?_
               rotate_left
               ·
                intro w'
                go_simp
                with_reducible rfl
               rotate_left
               ·
                simp only [Act.put, zA, zB, zD, i64_w, i32_w]
                rfl
               refine pure_ (i := 22) (N := some 151) (v := ?_) (a' := ?_) #[true, true, true, true, true, true, true, true, true, true, true, true, true, true, true, true, true, true, true, true, true, true, true, false, false, false, false, false, false, false, false, false, false, false, false, false, false, false, false, false, false, false, false, false, false, false, false, false, false, false, false] rfl rfl (any_of HT_.out (by kernel_rfl)) (fun _ _ _ h => h) (Or.inl ⟨by rfl, ?_⟩) ?_ ?_
               rotate_left
               ·
                intro w'
                go_simp
                with_reducible rfl
               rotate_left
               ·
                simp only [Act.put, zA, zB, zD, i64_w, i32_w]
                rfl
               as_aux_lemma =>
                refine pure_ (i := 23) (N := some 152) (v := ?_) (a' := ?_) #[true, true, true, true, true, true, true, true, true, true, true, true, true, true, true, true, true, true, true, true, true, true, true, true, false, false, false, false, false, false, false, false, false, false, false, false, false, false, false, false, false, false, false, false, false, false, false, false, false, false, false] rfl rfl (any_of HT_.out (by kernel_rfl)) (fun _ _ _ h => h) (Or.inl ⟨by rfl, ?_⟩) ?_ ?_
                rotate_left
                ·
                 intro w'
                 go_simp
                 with_reducible rfl
                rotate_left
                ·
                 simp only [Act.put, zA, zB, zD, i64_w, i32_w]
                 rfl
                refine pure_ (i := 24) (N := some 153) (v := ?_) (a' := ?_) #[true, true, true, true, true, true, true, true, true, true, true, true, true, true, true, true, true, true, true, true, true, true, true, true, true, false, false, false, false, false, false, false, false, false, false, false, false, false, false, false, false, false, false, false, false, false, false, false, false, false, false] rfl rfl (any_of HT_.out (by kernel_rfl)) (fun _ _ _ h => h) (Or.inl ⟨by rfl, ?_⟩) ?_ ?_
                rotate_left
                ·
                 intro w'
                 go_simp
                 with_reducible rfl
                rotate_left
                ·
                 simp only [Act.put, zA, zB, zD, i64_w, i32_w]
                 rfl
                refine pure_ (i := 25) (N := some 154) (v := ?_) (a' := ?_) #[true, true, true, true, true, true, true, true, true, true, true, true, true, true, true, true, true, true, true, true, true, true, true, true, true, true, false, false, false, false, false, false, false, false, false, false, false, false, false, false, false, false, false, false, false, false, false, false, false, false, false] rfl rfl (any_of HT_.out (by kernel_rfl)) (fun _ _ _ h => h) (Or.inl ⟨by rfl, ?_⟩) ?_ ?_
                rotate_left
                ·
                 intro w'
                 go_simp
                 with_reducible rfl
                rotate_left
                ·
                 simp only [Act.put, zA, zB, zD, i64_w, i32_w]
                 rfl
                refine pure_ (i := 26) (N := some 155) (v := ?_) (a' := ?_) #[true, true, true, true, true, true, true, true, true, true, true, true, true, true, true, true, true, true, true, true, true, true, true, true, true, true, true, false, false, false, false, false, false, false, false, false, false, false, false, false, false, false, false, false, false, false, false, false, false, false, false] rfl rfl (any_of HT_.out (by kernel_rfl)) (fun _ _ _ h => h) (Or.inl ⟨by rfl, ?_⟩) ?_ ?_
                rotate_left
                ·
                 intro w'
                 go_simp
                 with_reducible rfl
                rotate_left
                ·
                 simp only [Act.put, zA, zB, zD, i64_w, i32_w]
                 rfl
                refine pure_ (i := 27) (N := some 156) (v := ?_) (a' := ?_) #[true, true, true, true, true, true, true, true, true, true, true, true, true, true, true, true, true, true, true, true, true, true, true, true, true, true, true, true, false, false, false, false, false, false, false, false, false, false, false, false, false, false, false, false, false, false, false, false, false, false, false] rfl rfl (any_of HT_.out (by kernel_rfl)) (fun _ _ _ h => h) (Or.inl ⟨by rfl, ?_⟩) ?_ ?_
                rotate_left
                ·
                 intro w'
                 go_simp
                 with_reducible rfl
                rotate_left
                ·
                 simp only [Act.put, zA, zB, zD, i64_w, i32_w]
                 rfl
                refine pure_ (i := 28) (N := some 157) (v := ?_) (a' := ?_) #[true, true, true, true, true, true, true, true, true, true, true, true, true, true, true, true, true, true, true, true, true, true, true, true, true, true, true, true, true, false, false, false, false, false, false, false, false, false, false, false, false, false, false, false, false, false, false, false, false, false, false] rfl rfl (any_of HT_.out (by kernel_rfl)) (fun _ _ _ h => h) (Or.inl ⟨by rfl, ?_⟩) ?_ ?_
                rotate_left
                ·
                 intro w'
                 go_simp
                 with_reducible rfl
                rotate_left
                ·
                 simp only [Act.put, zA, zB, zD, i64_w, i32_w]
                 rfl
                refine pure_ (i := 29) (N := some 158) (v := ?_) (a' := ?_) #[true, true, true, true, true, true, true, true, true, true, true, true, true, true, true, true, true, true, true, true, true, true, true, true, true, true, true, true, true, true, false, false, false, false, false, false, false, false, false, false, false, false, false, false, false, false, false, false, false, false, false] rfl rfl (any_of HT_.out (by kernel_rfl)) (fun _ _ _ h => h) (Or.inl ⟨by rfl, ?_⟩) ?_ ?_
                rotate_left
                ·
                 intro w'
                 go_simp
                 with_reducible rfl
                rotate_left
                ·
                 simp only [Act.put, zA, zB, zD, i64_w, i32_w]
                 rfl
                refine pure_ (i := 30) (N := some 159) (v := ?_) (a' := ?_) #[true, true, true, true, true, true, true, true, true, true, true, true, true, true, true, true, true, true, true, true, true, true, true, true, true, true, true, true, true, true, true, false, false, false, false, false, false, false, false, false, false, false, false, false, false, false, false, false, false, false, false] rfl rfl (any_of HT_.out (by kernel_rfl)) (fun _ _ _ h => h) (Or.inl ⟨by rfl, ?_⟩) ?_ ?_
                rotate_left
                ·
                 intro w'
                 go_simp
                 with_reducible rfl
                rotate_left
                ·
                 simp only [Act.put, zA, zB, zD, i64_w, i32_w]
                 rfl
                refine pure_ (i := 31) (N := some 160) (v := ?_) (a' := ?_) #[true, true, true, true, true, true, true, true, true, true, true, true, true, true, true, true, true, true, true, true, true, true, true, true, true, true, true, true, true, true, true, true, false, false, false, false, false, false, false, false, false, false, false, false, false, false, false, false, false, false, false] rfl rfl (any_of HT_.out (by kernel_rfl)) (fun _ _ _ h => h) (Or.inl ⟨by rfl, ?_⟩) ?_ ?_
                rotate_left
                ·
                 intro w'
                 go_simp
                 with_reducible rfl
                rotate_left
                ·
                 simp only [Act.put, zA, zB, zD, i64_w, i32_w]
                 rfl
                refine pure_ (i := 32) (N := some 161) (v := ?_) (a' := ?_) #[true, true, true, true, true, true, true, true, true, true, true, true, true, true, true, true, true, true, true, true, true, true, true, true, true, true, true, true, true, true, true, true, true, false, false, false, false, false, false, false, false, false, false, false, false, false, false, false, false, false, false] rfl rfl (any_of HT_.out (by kernel_rfl)) (fun _ _ _ h => h) (Or.inl ⟨by rfl, ?_⟩) ?_ ?_
                rotate_left
                ·
                 intro w'
                 go_simp
                 with_reducible rfl
                rotate_left
                ·
                 simp only [Act.put, zA, zB, zD, i64_w, i32_w]
                 rfl
                refine pure_ (i := 33) (N := some 162) (v := ?_) (a' := ?_) #[true, true, true, true, true, true, true, true, true, true, true, true, true, true, true, true, true, true, true, true, true, true, true, true, true, true, true, true, true, true, true, true, true, true, false, false, false, false, false, false, false, false, false, false, false, false, false, false, false, false, false] rfl rfl (any_of HT_.out (by kernel_rfl)) (fun _ _ _ h => h) (Or.inl ⟨by rfl, ?_⟩) ?_ ?_
                rotate_left
                ·
                 intro w'
                 go_simp
                 with_reducible rfl
                rotate_left
                ·
                 simp only [Act.put, zA, zB, zD, i64_w, i32_w]
                 rfl
                refine pure_ (i := 34) (N := some 163) (v := ?_) (a' := ?_) #[true, true, true, true, true, true, true, true, true, true, true, true, true, true, true, true, true, true, true, true, true, true, true, true, true, true, true, true, true, true, true, true, true, true, true, false, false, false, false, false, false, false, false, false, false, false, false, false, false, false, false] rfl rfl (any_of HT_.out (by kernel_rfl)) (fun _ _ _ h => h) (Or.inl ⟨by rfl, ?_⟩) ?_ ?_
                rotate_left
                ·
                 intro w'
                 go_simp
                 with_reducible rfl
                rotate_left
                ·
                 simp only [Act.put, zA, zB, zD, i64_w, i32_w]
                 rfl
                as_aux_lemma =>
                 refine pure_ (i := 35) (N := some 164) (v := ?_) (a' := ?_) #[true, true, true, true, true, true, true, true, true, true, true, true, true, true, true, true, true, true, true, true, true, true, true, true, true, true, true, true, true, true, true, true, true, true, true, true, false, false, false, false, false, false, false, false, false, false, false, false, false, false, false] rfl rfl (any_of HT_.out (by kernel_rfl)) (fun _ _ _ h => h) (Or.inl ⟨by rfl, ?_⟩) ?_ ?_
                 rotate_left
                 ·
                  intro w'
                  go_simp
                  with_reducible rfl
                 rotate_left
                 ·
                  simp only [Act.put, zA, zB, zD, i64_w, i32_w]
                  rfl
                 refine one_ (i := 36) (N := some 165) #[true, true, true, true, true, true, true, true, true, true, true, true, true, true, true, true, true, true, true, true, true, true, true, true, true, true, true, true, true, true, true, true, true, true, true, true, true, false, false, false, false, false, false, false, false, false, false, false, false, false, false] rfl rfl (one_of HT_.out (by kernel_rfl)) (by decide) (fun K hK => ?_)
                 refine goes_ Try.func49 (by kernel_rfl) rfl #[.slice Ao57 t621.length co57, .slice Ao58 t625.length co58] (by rfl) rfl rfl (by (try simp only [List.map_toArray, List.map_cons, List.map_nil]); first | done | rfl | (simp only [List.length_drop, List.length_take]; rfl)) ?_
                 with_reducible refine (laws_qInts.calls k _ _ t621 _ _ t625 true _ ?side1 ?side2 ?side3 ?side4 A50.out).mono ?_
                 (case side1 => repeat (first | exact (Kd.R_reads' HO623.out).2.2 | (with_reducible refine Kd.C_alloc ?_ _) | (with_reducible refine Kd.C_drewN ?_ _) | (with_reducible refine Kd.C_drew ?_)))
                 (case side2 => exact (Kd.R_reads' HO623.out).2.1)
                 (case side3 => repeat (first | exact (Kd.R_reads' HO627.out).2.2 | (with_reducible refine Kd.C_alloc ?_ _) | (with_reducible refine Kd.C_drewN ?_ _) | (with_reducible refine Kd.C_drew ?_)))
                 (case side4 => exact (Kd.R_reads' HO627.out).2.1)
                 rintro e w' ⟨rfl, ⟨nd, rfl⟩⟩
                 refine ⟨_, rfl, ?_⟩
                 refine hK.out _ _ ⟨(blk_cell BK631.out 0).trans rfl, (blk_cell BK631.out 1).trans rfl⟩ (fun hHeld => ?_)
                 clear hK K
                 refine norm_ (a' := ?_) ?_ ?_
                 rotate_left
                 ·
                  show Act.put _ (some 165) _ = _
                  simp only [Act.put, zA, zB, zD, i64_w, i32_w]
                  rfl
                 refine pure_ (i := 37) (N := some 166) (v := ?_) (a' := ?_) #[true, true, true, true, true, true, true, true, true, true, true, true, true, true, true, true, true, true, true, true, true, true, true, true, true, true, true, true, true, true, true, true, true, true, true, true, true, true, false, false, false, false, false, false, false, false, false, false, false, false, false] rfl rfl (any_of HT_.out (by kernel_rfl)) (fun _ _ _ h => h) (Or.inl ⟨by rfl, ?_⟩) ?_ ?_
                 rotate_left
                 ·
                  intro w'
                  go_simp
                  with_reducible rfl
                 rotate_left
                 ·
                  simp only [Act.put, zA, zB, zD, i64_w, i32_w]
                  rfl
                 refine pure_ (i := 38) (N := some 167) (v := ?_) (a' := ?_) #[true, true, true, true, true, true, true, true, true, true, true, true, true, true, true, true, true, true, true, true, true, true, true, true, true, true, true, true, true, true, true, true, true, true, true, true, true, true, true, false, false, false, false, false, false, false, false, false, false, false, false] rfl rfl (any_of HT_.out (by kernel_rfl)) (fun _ _ _ h => h) (Or.inl ⟨by rfl, ?_⟩) ?_ ?_
                 rotate_left
                 ·
                  intro w'
                  go_simp
                  with_reducible rfl
                 rotate_left
                 ·
                  simp only [Act.put, zA, zB, zD, i64_w, i32_w]
                  rfl
                 refine pure_ (i := 39) (N := some 168) (v := ?_) (a' := ?_) #[true, true, true, true, true, true, true, true, true, true, true, true, true, true, true, true, true, true, true, true, true, true, true, true, true, true, true, true, true, true, true, true, true, true, true, true, true, true, true, true, false, false, false, false, false, false, false, false, false, false, false] rfl rfl (any_of HT_.out (by kernel_rfl)) (fun _ _ _ h => h) (Or.inl ⟨by rfl, ?_⟩) ?_ ?_
                 rotate_left
                 ·
                  intro w'
                  go_simp
                  with_reducible rfl
                 rotate_left
                 ·
                  simp only [Act.put, zA, zB, zD, i64_w, i32_w]
                  rfl
                 refine pure_ (i := 40) (N := some 169) (v := ?_) (a' := ?_) #[true, true, true, true, true, true, true, true, true, true, true, true, true, true, true, true, true, true, true, true, true, true, true, true, true, true, true, true, true, true, true, true, true, true, true, true, true, true, true, true, true, false, false, false, false, false, false, false, false, false, false] rfl rfl (any_of HT_.out (by kernel_rfl)) (fun _ _ _ h => h) (Or.inl ⟨by rfl, ?_⟩) ?_ ?_
                 rotate_left
                 ·
                  intro w'
                  go_simp
                  with_reducible rfl
                 rotate_left
                 ·
                  simp only [Act.put, zA, zB, zD, i64_w, i32_w]
                  rfl
                 refine pure_ (i := 41) (N := some 170) (v := ?_) (a' := ?_) #[true, true, true, true, true, true, true, true, true, true, true, true, true, true, true, true, true, true, true, true, true, true, true, true, true, true, true, true, true, true, true, true, true, true, true, true, true, true, true, true, true, true, false, false, false, false, false, false, false, false, false] rfl rfl (any_of HT_.out (by kernel_rfl)) (fun _ _ _ h => h) (Or.inl ⟨by rfl, ?_⟩) ?_ ?_
                 rotate_left
                 ·
                  intro w'
                  go_simp
                  with_reducible rfl
                 rotate_left
                 ·
                  simp only [Act.put, zA, zB, zD, i64_w, i32_w]
                  rfl
                 refine pure_ (i := 42) (N := some 171) (v := ?_) (a' := ?_) #[true, true, true, true, true, true, true, true, true, true, true, true, true, true, true, true, true, true, true, true, true, true, true, true, true, true, true, true, true, true, true, true, true, true, true, true, true, true, true, true, true, true, true, false, false, false, false, false, false, false, false] rfl rfl (any_of HT_.out (by kernel_rfl)) (fun _ _ _ h => h) (Or.inl ⟨by rfl, ?_⟩) ?_ ?_
                 rotate_left
                 ·
                  intro w'
                  go_simp
                  with_reducible rfl
                 rotate_left
                 ·
                  simp only [Act.put, zA, zB, zD, i64_w, i32_w]
                  rfl
                 refine pure_ (i := 43) (N := some 172) (v := ?_) (a' := ?_) #[true, true, true, true, true, true, true, true, true, true, true, true, true, true, true, true, true, true, true, true, true, true, true, true, true, true, true, true, true, true, true, true, true, true, true, true, true, true, true, true, true, true, true, true, false, false, false, false, false, false, false] rfl rfl (any_of HT_.out (by kernel_rfl)) (fun _ _ _ h => h) (Or.inl ⟨by rfl, ?_⟩) ?_ ?_
                 rotate_left
                 ·
                  intro w'
                  go_simp
                  with_reducible rfl
                 rotate_left
                 ·
                  simp only [Act.put, zA, zB, zD, i64_w, i32_w]
                  rfl
                 refine pure_ (i := 44) (N := some 173) (v := ?_) (a' := ?_) #[true, true, true, true, true, true, true, true, true, true, true, true, true, true, true, true, true, true, true, true, true, true, true, true, true, true, true, true, true, true, true, true, true, true, true, true, true, true, true, true, true, true, true, true, true, false, false, false, false, false, false] rfl rfl (any_of HT_.out (by kernel_rfl)) (fun _ _ _ h => h) (Or.inl ⟨by rfl, ?_⟩) ?_ ?_
                 rotate_left
                 ·
                  intro w'
                  go_simp
                  with_reducible rfl
                 rotate_left
                 ·
                  simp only [Act.put, zA, zB, zD, i64_w, i32_w]
                  rfl
                 refine take_ (i := 45) (N := some 174) (v := ?_) (a' := ?_) #[true, true, true, true, true, true, true, true, true, true, true, true, true, true, true, true, true, true, true, true, true, true, true, true, true, true, true, true, true, true, true, true, true, true, true, true, true, true, true, true, true, true, true, true, true, true, false, false, false, false, false] rfl rfl (take_ofW HT_.out HW_.out (by kernel_rfl)) (fun _ _ _ h => h) (Or.inl ⟨by rfl, ?_⟩) hHeld ?_ ?_
                 rotate_left
                 ·
                  rintro w' ⟨s0, s1⟩
                  go_simp
                  with_reducible rfl
                 rotate_left
                 ·
                  simp only [Act.put, zA, zB, zD, i64_w, i32_w]
                  rfl
                 refine take_ (i := 47) (N := some 176) (v := ?_) (a' := ?_) #[true, true, true, true, true, true, true, true, true, true, true, true, true, true, true, true, true, true, true, true, true, true, true, true, true, true, true, true, true, true, true, true, true, true, true, true, true, true, true, true, true, true, true, true, true, true, false, true, false, false, false] rfl rfl (take_ofW HT_.out HW_.out (by kernel_rfl)) (fun _ _ _ h => h) (Or.inl ⟨by rfl, ?_⟩) hHeld ?_ ?_
                 rotate_left
                 ·
                  rintro w' ⟨s0, s1⟩
                  go_simp
                  with_reducible rfl
                 rotate_left
                 ·
                  simp only [Act.put, zA, zB, zD, i64_w, i32_w]
                  rfl
                 as_aux_lemma =>
                  refine one_ (i := 46) (N := some 175) #[true, true, true, true, true, true, true, true, true, true, true, true, true, true, true, true, true, true, true, true, true, true, true, true, true, true, true, true, true, true, true, true, true, true, true, true, true, true, true, true, true, true, true, true, true, true, true, true, false, false, false] rfl rfl (one_of HT_.out (by kernel_rfl)) (by decide) (fun K hK => ?_)
                  refine goes_ Try.func76 (by kernel_rfl) rfl #[.agg #[.int .i64 t629, .int .i64 t630]] (by rfl) rfl rfl (by (try simp only [List.map_toArray, List.map_cons, List.map_nil]); first | done | rfl | (simp only [List.length_drop, List.length_take]; rfl)) ?_
                  with_reducible refine (impl_IsController.calls t629 t630 t633 _ A53.out).mono ?_
                  rintro e w59 ⟨rfl, hb⟩
                  refine ⟨_, rfl, ?_⟩
                  have n0_ := zm (Kd.R_below (by (with_reducible repeat (first | apply Kd.R_alloc | apply Kd.R_drewN | apply Kd.R_drew)); exact HO611.out) hb)
                  have n1_ := zm (Kd.R_below (by (with_reducible repeat (first | apply Kd.R_alloc | apply Kd.R_drewN | apply Kd.R_drew)); exact HO623.out) hb)
                  have n2_ := zm (Kd.R_below (by (with_reducible repeat (first | apply Kd.R_alloc | apply Kd.R_drewN | apply Kd.R_drew)); exact HO627.out) hb)
                  have n3_ := zm (blk_below (g := gb597) (o := .cells #[.int .i64 t594, .int .i64 t595] 47 (0, 0)) zk hb)
                  have n4_ := zm (blk_below (g := gb620) (o := .cells #[.int .i64 t616, .int .i64 t617] 47 (0, 0)) zk hb)
                  have n5_ := zm (blk_below (g := gb631) (o := .cells #[.int .i64 t629, .int .i64 t630] 47 (0, 0)) zk hb)
                  have n6_ := zm (below_step zb hb)
                  clear HO611
                  clear HO623
                  clear HO627
                  clear BK597
                  clear BK620
                  clear BK631
                  clear HB
                  have HO611 := n0_
                  have HO623 := n1_
                  have HO627 := n2_
                  have BK597 := n3_
                  have BK620 := n4_
                  have BK631 := n5_
                  have HB := n6_
                  clear n0_ n1_ n2_ n3_ n4_ n5_ n6_
                  (try clear hb)
                  (try clear hb2)
                  (try clear hk)
                  (try clear hi)
                  refine hK.out _ _ ⟨(blk_cell BK631.out 0).trans rfl, (blk_cell BK631.out 1).trans rfl⟩ (fun hHeld => ?_)
                  clear hK K
                  refine norm_ (a' := ?_) ?_ ?_
                  rotate_left
                  ·
                   show Act.put _ (some 175) _ = _
                   simp only [Act.put, zA, zB, zD, i64_w, i32_w]
                   rfl
                  refine one_ (i := 48) (N := some 177) #[true, true, true, true, true, true, true, true, true, true, true, true, true, true, true, true, true, true, true, true, true, true, true, true, true, true, true, true, true, true, true, true, true, true, true, true, true, true, true, true, true, true, true, true, true, true, true, true, true, false, false] rfl rfl (one_of HT_.out (by kernel_rfl)) (by decide) (fun K hK => ?_)
                  refine goes_ Try.func77 (by kernel_rfl) rfl #[.agg #[.int .i64 t629, .int .i64 t630]] (by rfl) rfl rfl (by (try simp only [List.map_toArray, List.map_cons, List.map_nil]); first | done | rfl | (simp only [List.length_drop, List.length_take]; rfl)) ?_
                  with_reducible refine (spec_IsController.calls t629 t630 t634 _ A54.out).mono ?_
                  rintro e w60 ⟨rfl, hb⟩
                  refine ⟨_, rfl, ?_⟩
                  have n0_ := zm (Kd.R_below (by (with_reducible repeat (first | apply Kd.R_alloc | apply Kd.R_drewN | apply Kd.R_drew)); exact HO611.out) hb)
                  have n1_ := zm (Kd.R_below (by (with_reducible repeat (first | apply Kd.R_alloc | apply Kd.R_drewN | apply Kd.R_drew)); exact HO623.out) hb)
                  have n2_ := zm (Kd.R_below (by (with_reducible repeat (first | apply Kd.R_alloc | apply Kd.R_drewN | apply Kd.R_drew)); exact HO627.out) hb)
                  have n3_ := zm (blk_below (g := gb597) (o := .cells #[.int .i64 t594, .int .i64 t595] 47 (0, 0)) zk hb)
                  have n4_ := zm (blk_below (g := gb620) (o := .cells #[.int .i64 t616, .int .i64 t617] 47 (0, 0)) zk hb)
                  have n5_ := zm (blk_below (g := gb631) (o := .cells #[.int .i64 t629, .int .i64 t630] 47 (0, 0)) zk hb)
                  have n6_ := zm (below_step zb hb)
                  clear HO611
                  clear HO623
                  clear HO627
                  clear BK597
                  clear BK620
                  clear BK631
                  clear HB
                  have HO611 := n0_
                  have HO623 := n1_
                  have HO627 := n2_
                  have BK597 := n3_
                  have BK620 := n4_
                  have BK631 := n5_
                  have HB := n6_
                  clear n0_ n1_ n2_ n3_ n4_ n5_ n6_
                  (try clear hb)
                  (try clear hb2)
                  (try clear hk)
                  (try clear hi)
                  refine hK.out _ _ ⟨(blk_cell BK631.out 0).trans rfl, (blk_cell BK631.out 1).trans rfl⟩ (fun hHeld => ?_)
                  clear hK K
                  refine norm_ (a' := ?_) ?_ ?_
                  rotate_left
                  ·
                   show Act.put _ (some 177) _ = _
                   simp only [Act.put, zA, zB, zD, i64_w, i32_w]
                   rfl
                  refine pure_ (i := 49) (N := some 178) (v := ?_) (a' := ?_) #[true, true, true, true, true, true, true, true, true, true, true, true, true, true, true, true, true, true, true, true, true, true, true, true, true, true, true, true, true, true, true, true, true, true, true, true, true, true, true, true, true, true, true, true, true, true, true, true, true, true, false] rfl rfl (any_of HT_.out (by kernel_rfl)) (fun _ _ _ h => h) (Or.inl ⟨by rfl, ?_⟩) ?_ ?_
                  rotate_left
                  ·
                   intro w'
                   go_simp
                   with_reducible rfl
                  rotate_left
                  ·
                   simp only [Act.put, zA, zB, zD, i64_w, i32_w]
                   rfl
                  refine pure_ (i := 50) (N := some 179) (v := ?_) (a' := ?_) #[true, true, true, true, true, true, true, true, true, true, true, true, true, true, true, true, true, true, true, true, true, true, true, true, true, true, true, true, true, true, true, true, true, true, true, true, true, true, true, true, true, true, true, true, true, true, true, true, true, true, true] rfl rfl (any_of HT_.out (by kernel_rfl)) (fun _ _ _ h => h) (Or.inl ⟨by rfl, ?_⟩) ?_ ?_
                  rotate_left
                  ·
                   intro w'
                   go_simp
                   with_reducible rfl
                  rotate_left
                  ·
                   simp only [Act.put, zA, zB, zD, i64_w, i32_w]
                   rfl
                  refine done_ (done_of HT_.out (by kernel_rfl)) ?_
                  try go_wp2
                  go_meet
                  case rel => exact ⟨_, ((t633 != t634)), (by first | rfl | (simp; done) | (simp [*]; done)), H', ⟨by first | omega | exact Nat.le_refl _⟩, ⟨by (with_reducible repeat (first | apply Kd.R_alloc | apply Kd.R_drewN | apply Kd.R_drew)); exact HO611.out⟩, ⟨by (with_reducible repeat (first | apply Kd.R_alloc | apply Kd.R_drewN | apply Kd.R_drew)); exact HO623.out⟩, ⟨by (with_reducible repeat (first | apply Kd.R_alloc | apply Kd.R_drewN | apply Kd.R_drew)); exact HO627.out⟩, ⟨zk⟩, ⟨zk⟩, ⟨zk⟩, ⟨zb⟩⟩
           ·
            replace c51 := Bool.eq_false_iff.mpr c51
            subst c51
            have H1 : (laws_FnTrackBounds.j0 k t596 t599 t600 t604 t606 t607 t608 t609 t613 t614 t618 t619 t621 t624 t625 true t594 t595 t616 t617) = some r := by rw [if_neg (show ¬ (false = true) by decide)] at H; exact H
            clear H
            have H := H1
            clear H1
            exact (laws_FnTrackBounds.j0_t (H.trans (congrArg some hr_))).elim
         ·
          rw [if_neg c48] at H
          have c48b0 : (t612 == t614) = false := beq_eq_false_iff_ne.mpr c48
          have c48b1 : (t612 != t614) = true := bne_iff_ne.mpr c48
          exact (laws_FnTrackBounds.j0_t (H.trans (congrArg some hr_))).elim
       ·
        rw [if_neg c46] at H
        have c46b0 : (t602 == t604) = false := beq_eq_false_iff_ne.mpr c46
        have c46b1 : (t602 != t604) = true := bne_iff_ne.mpr c46
        exact (laws_FnTrackBounds.j0_t (H.trans (congrArg some hr_))).elim
     ·
      rw [if_neg c44] at H
      have c44b0 : (t598 == t600) = false := beq_eq_false_iff_ne.mpr c44
      have c44b1 : (t598 != t600) = true := bne_iff_ne.mpr c44
      exact (laws_FnTrackBounds.j0_t (H.trans (congrArg some hr_))).elim
  case rest =>
   as_aux_lemma =>
    clear HC16
    (try clear p2); (try clear c4); (try clear c5); (try clear c7); (try clear c44); (try clear c44b0); (try clear c44b1); (try clear c46); (try clear c46b0); (try clear c46b1); (try clear c48); (try clear c48b0); (try clear c48b1); (try clear c49); (try clear c49b0); (try clear c49b1); (try clear c49b2); (try clear c51); (try clear c52); (try clear c52b0); (try clear c52b1); (try clear c52b2)
    obtain ⟨kq, x179_15, rfl, HA, HJ15, HO_17, HO_26, HO_28, BK597, BK620, BK631, HB⟩ := hcut
    cases kq with
    | zero => exact absurd HA.out (by simp [laws_FnTrackBounds.j0])
    | succ kj15 =>
     have H := HA.out
     clear HA
     simp only [laws_FnTrackBounds.j0] at H
     by_cases c61 : x179_15 = true
     ·
      subst c61
      have H1 : (some false) = some r := by rw [if_pos rfl] at H; exact H
      clear H
      have H := H1
      clear H1
      exact absurd ((Option.some.inj H).trans hr_) (by decide)
     ·
      replace c61 := Bool.eq_false_iff.mpr c61
      subst c61
      have H1 : (if t599 = true then (if t604 > t600 then (laws_FnTrackBounds.j1 kj15 t596 t604 t606 t607 t608 t609 t613 t614 t618 t619 t621 t624 t625 true t594 t595 t616 t617) else (laws_FnTrackBounds.j1 kj15 t596 t604 t606 t607 t608 t609 t613 t614 t618 t619 t621 t624 t625 (decide (t600 < t594)) t594 t595 t616 t617)) else (laws_FnTrackBounds.j2 kj15 t606 t607 t608 t609 t613 t614 t618 t619 t621 t624 t625 t616 t617)) = some r := by rw [if_neg (show ¬ (false = true) by decide)] at H; exact H
      clear H
      have H := H1
      clear H1
      have HC62 := zm H
      clear H
      go_upto_if 180 with (fail)
      go_cut [] (fun wc => ∃ (kq : Nat), Aside0 (laws_FnTrackBounds.j2 kq t606 t607 t608 t609 t613 t614 t618 t619 t621 t624 t625 t616 t617 = some r) ∧ Aside0 (kq ≤ kj15) ∧ Aside0 (Kd.R (Kd.int .i64) 3 wc w.heap.size (fun k_ => some k_ ≠ (v622 : Value).ownBlock ∧ some k_ ≠ (v626 : Value).ownBlock) (.slice Ao28 t608.length co28) t608) ∧ Aside0 (Kd.R (Kd.int .i64) 3 wc w.heap.size (fun k_ => some k_ ≠ ((.slice Ao28 t608.length co28) : Value).ownBlock ∧ some k_ ≠ (v626 : Value).ownBlock) v622 t621) ∧ Aside0 (Kd.R (Kd.int .i64) 3 wc w.heap.size (fun k_ => some k_ ≠ ((.slice Ao28 t608.length co28) : Value).ownBlock ∧ some k_ ≠ (v622 : Value).ownBlock) v626 t625) ∧ Aside0 (wc.heap[gb597]? = some (.cells #[.int .i64 t594, .int .i64 t595] 47 (0, 0))) ∧ Aside0 (wc.heap[gb620]? = some (.cells #[.int .i64 t616, .int .i64 t617] 47 (0, 0))) ∧ Aside0 (wc.heap[gb631]? = some (.cells #[.int .i64 t629, .int .i64 t630] 47 (0, 0))) ∧ Aside0 (Below w.heap.size w wc))
      case first =>
       as_aux_lemma =>
        have H := HC62.out
        clear HC62
        by_cases c63 : t599 = true
        ·
         subst c63
         have H1 : (if t604 > t600 then (laws_FnTrackBounds.j1 kj15 t596 t604 t606 t607 t608 t609 t613 t614 t618 t619 t621 t624 t625 true t594 t595 t616 t617) else (laws_FnTrackBounds.j1 kj15 t596 t604 t606 t607 t608 t609 t613 t614 t618 t619 t621 t624 t625 (decide (t600 < t594)) t594 t595 t616 t617)) = some r := by rw [if_pos rfl] at H; exact H
         clear H
         have H := H1
         clear H1
         have HC64 := zm H
         clear H
         go_upto_region 18 with (fail)
         go_cut [189] (fun v189 wc => ∃ (kq : Nat) (x189_63 : Bool), v189 = .bool x189_63 ∧ Aside0 (laws_FnTrackBounds.j1 kq t596 t604 t606 t607 t608 t609 t613 t614 t618 t619 t621 t624 t625 x189_63 t594 t595 t616 t617 = some r) ∧ Aside0 (kq ≤ kj15) ∧ Aside0 (Kd.R (Kd.int .i64) 3 wc w.heap.size (fun k_ => some k_ ≠ (v622 : Value).ownBlock ∧ some k_ ≠ (v626 : Value).ownBlock) (.slice Ao28 t608.length co28) t608) ∧ Aside0 (Kd.R (Kd.int .i64) 3 wc w.heap.size (fun k_ => some k_ ≠ ((.slice Ao28 t608.length co28) : Value).ownBlock ∧ some k_ ≠ (v626 : Value).ownBlock) v622 t621) ∧ Aside0 (Kd.R (Kd.int .i64) 3 wc w.heap.size (fun k_ => some k_ ≠ ((.slice Ao28 t608.length co28) : Value).ownBlock ∧ some k_ ≠ (v622 : Value).ownBlock) v626 t625) ∧ Aside0 (wc.heap[gb597]? = some (.cells #[.int .i64 t594, .int .i64 t595] 47 (0, 0))) ∧ Aside0 (wc.heap[gb620]? = some (.cells #[.int .i64 t616, .int .i64 t617] 47 (0, 0))) ∧ Aside0 (wc.heap[gb631]? = some (.cells #[.int .i64 t629, .int .i64 t630] 47 (0, 0))) ∧ Aside0 (Below w.heap.size w wc))
         case first =>
          as_aux_lemma =>
           have H := HC64.out
           clear HC64
           by_cases c65 : t604 > t600
           ·
            rw [if_pos c65] at H
            have c65b0 : decide (t600 < t604) = true := decide_eq_true c65
            clear c65
            (first | rw [c65b0] | (simp only [i64_w, i32_w]; rw [c65b0]) | skip)
            exact (laws_FnTrackBounds.j1_t (H.trans (congrArg some hr_))).elim
           ·
            rw [if_neg c65] at H
            have c65b0 : decide (t600 < t604) = false := decide_eq_false c65
            clear c65
            (first | rw [c65b0] | (simp only [i64_w, i32_w]; rw [c65b0]) | skip)
            have H' := zm H
            clear H
            have hnb66 := NB597_620.out
            have hnc66 := NB620_597.out
            have hnb67 := NB597_631.out
            have hnc67 := NB631_597.out
            obtain ⟨hcz68_0, hcz68_1, hfz68_0, hfz68_1⟩ := zc2 BK597.out
            go_wp2
            go_meet
            case rel => exact ⟨_, (decide (t600 < t594)), (by first | rfl | (simp; done) | (simp [*]; done)), H', ⟨by have := HJ15.out; first | omega | exact Nat.le_refl _⟩, ⟨by (with_reducible repeat (first | apply Kd.R_alloc | apply Kd.R_drewN | apply Kd.R_drew)); exact HO_17.out⟩, ⟨by (with_reducible repeat (first | apply Kd.R_alloc | apply Kd.R_drewN | apply Kd.R_drew)); exact HO_26.out⟩, ⟨by (with_reducible repeat (first | apply Kd.R_alloc | apply Kd.R_drewN | apply Kd.R_drew)); exact HO_28.out⟩, ⟨zk⟩, ⟨zk⟩, ⟨zk⟩, ⟨zb⟩⟩
         case rest =>
          as_aux_lemma =>
           clear HC64
           (try clear p2); (try clear c4); (try clear c5); (try clear c6); (try clear c7); (try clear c44); (try clear c44b0); (try clear c44b1); (try clear c46); (try clear c46b0); (try clear c46b1); (try clear c48); (try clear c48b0); (try clear c48b1); (try clear c49); (try clear c49b0); (try clear c49b1); (try clear c49b2); (try clear c51); (try clear c52); (try clear c52b0); (try clear c52b1); (try clear c52b2); (try clear c61); (try clear c63); (try clear c65); (try clear c65b0); (try clear c66); (try clear c67); (try clear hcz68_0); (try clear hcz68_1); (try clear hfz68_0); (try clear hfz68_1); (try clear p2)
           obtain ⟨kq, x189_63, rfl, HA, HJ63, HO_17, HO_26, HO_28, BK597, BK620, BK631, HB⟩ := hcut
           cases kq with
           | zero => exact absurd HA.out (by simp [laws_FnTrackBounds.j1])
           | succ kj63 =>
            have H := HA.out
            clear HA
            simp only [laws_FnTrackBounds.j1] at H
            by_cases c69 : x189_63 = true
            ·
             subst c69
             have H1 : (some false) = some r := by rw [if_pos rfl] at H; exact H
             clear H
             have H := H1
             clear H1
             exact absurd ((Option.some.inj H).trans hr_) (by decide)
            ·
             replace c69 := Bool.eq_false_iff.mpr c69
             subst c69
             have H1 : ((impl_DrivenOut.f kj63 t594 t595 t596 t604).bind fun bt635 => (if bt635.2 = true then (some false) else (laws_FnTrackBounds.j2 kj63 t606 t607 t608 t609 t613 t614 t618 t619 t621 t624 t625 t616 t617))) = some r := by rw [if_neg (show ¬ (false = true) by decide)] at H; exact H
             clear H
             have H := H1
             clear H1
             replace H := Option.bind_eq_some_iff.mp H
             obtain ⟨⟨t635, t638⟩, A700, H⟩ := H
             (try dsimp only at H)
             have A70 := zm A700
             clear A700
             by_cases c71 : t638 = true
             ·
              subst c71
              have H1 : (some false) = some r := by rw [if_pos rfl] at H; exact H
              clear H
              have H := H1
              clear H1
              exact absurd ((Option.some.inj H).trans hr_) (by decide)
             ·
              replace c71 := Bool.eq_false_iff.mpr c71
              subst c71
              have H1 : (laws_FnTrackBounds.j2 kj63 t606 t607 t608 t609 t613 t614 t618 t619 t621 t624 t625 t616 t617) = some r := by rw [if_neg (show ¬ (false = true) by decide)] at H; exact H
              clear H
              have H := H1
              clear H1
              have H' := zm H
              clear H
              have hnb72 := NB597_620.out
              have hnc72 := NB620_597.out
              have hnb73 := NB597_631.out
              have hnc73 := NB631_597.out
              obtain ⟨hcz74_0, hcz74_1, hfz74_0, hfz74_1⟩ := zc2 BK597.out
              go_wp2_with (first | ((with_reducible refine gate_callee (f := 30) rfl ?_); refine goesA_ (some 194) Try.func30 #[.agg #[.int .i64 t594, .int .i64 t595], .int .i64 t596, .int .i64 t604] rfl ?_; (with_reducible refine (impl_DrivenOut.calls kj63 t594 t595 t596 t604 t635 false _ A70.out).mono ?_); rintro e w75 ⟨v636, rfl, ho0, hb⟩; refine ⟨_, rfl, ?_⟩; have n0_ := zm (Kd.R_elder' (by (with_reducible repeat (first | apply Kd.R_alloc | apply Kd.R_drewN | apply Kd.R_drew)); exact HO_17.out) (Kd.R_base ho0) hb); have n1_ := zm (Kd.R_elder' (by (with_reducible repeat (first | apply Kd.R_alloc | apply Kd.R_drewN | apply Kd.R_drew)); exact HO_26.out) (Kd.R_base ho0) hb); have n2_ := zm (Kd.R_elder' (by (with_reducible repeat (first | apply Kd.R_alloc | apply Kd.R_drewN | apply Kd.R_drew)); exact HO_28.out) (Kd.R_base ho0) hb); have n3_ := zm (Kd.R_lower (Kd.R_new' (Kd.R_new' (Kd.R_new' ho0 (Kd.R_lt (by (with_reducible repeat (first | apply Kd.R_alloc | apply Kd.R_drewN | apply Kd.R_drew)); exact HO_17.out))) (Kd.R_lt (by (with_reducible repeat (first | apply Kd.R_alloc | apply Kd.R_drewN | apply Kd.R_drew)); exact HO_26.out))) (Kd.R_lt (by (with_reducible repeat (first | apply Kd.R_alloc | apply Kd.R_drewN | apply Kd.R_drew)); exact HO_28.out))) (below_size zb)); have n4_ := zm (blk_below (g := gb597) (o := .cells #[.int .i64 t594, .int .i64 t595] 47 (0, 0)) zk hb); have n5_ := zm (blk_below (g := gb620) (o := .cells #[.int .i64 t616, .int .i64 t617] 47 (0, 0)) zk hb); have n6_ := zm (blk_below (g := gb631) (o := .cells #[.int .i64 t629, .int .i64 t630] 47 (0, 0)) zk hb); have n7_ := zm (below_step zb hb); clear HO_17; clear HO_26; clear HO_28; clear BK597; clear BK620; clear BK631; clear HB; have HO_17 := n0_; have HO_26 := n1_; have HO_28 := n2_; have HO637 := n3_; have BK597 := n4_; have BK620 := n5_; have BK631 := n6_; have HB := n7_; clear n0_ n1_ n2_ n3_ n4_ n5_ n6_ n7_; (try clear hb); (try clear hb2); (try clear hk); (try clear hi); (try clear ho0)))
              go_meet
              case rel => exact ⟨_, H', ⟨by have := HJ15.out; have := HJ63.out; first | omega | exact Nat.le_refl _⟩, ⟨by (with_reducible repeat (first | apply Kd.R_alloc | apply Kd.R_drewN | apply Kd.R_drew)); exact Kd.R_mono HO_17.out (fun _ hk => ⟨hk.1.1, hk.1.2⟩)⟩, ⟨by (with_reducible repeat (first | apply Kd.R_alloc | apply Kd.R_drewN | apply Kd.R_drew)); exact Kd.R_mono HO_26.out (fun _ hk => ⟨hk.1.1, hk.1.2⟩)⟩, ⟨by (with_reducible repeat (first | apply Kd.R_alloc | apply Kd.R_drewN | apply Kd.R_drew)); exact Kd.R_mono HO_28.out (fun _ hk => ⟨hk.1.1, hk.1.2⟩)⟩, ⟨zk⟩, ⟨zk⟩, ⟨zk⟩, ⟨zb⟩⟩
        ·
         replace c63 := Bool.eq_false_iff.mpr c63
         subst c63
         have H1 : (laws_FnTrackBounds.j2 kj15 t606 t607 t608 t609 t613 t614 t618 t619 t621 t624 t625 t616 t617) = some r := by rw [if_neg (show ¬ (false = true) by decide)] at H; exact H
         clear H
         have H := H1
         clear H1
         have H' := zm H
         clear H
         go_wp2
         go_meet
         case rel => exact ⟨_, H', ⟨by have := HJ15.out; first | omega | exact Nat.le_refl _⟩, ⟨by (with_reducible repeat (first | apply Kd.R_alloc | apply Kd.R_drewN | apply Kd.R_drew)); exact HO_17.out⟩, ⟨by (with_reducible repeat (first | apply Kd.R_alloc | apply Kd.R_drewN | apply Kd.R_drew)); exact HO_26.out⟩, ⟨by (with_reducible repeat (first | apply Kd.R_alloc | apply Kd.R_drewN | apply Kd.R_drew)); exact HO_28.out⟩, ⟨zk⟩, ⟨zk⟩, ⟨zk⟩, ⟨zb⟩⟩
      case rest =>
       as_aux_lemma =>
        clear HC62
        (try clear p2); (try clear c3); (try clear c4); (try clear c5); (try clear c6); (try clear c7); (try clear c30); (try clear c44); (try clear c44b0); (try clear c44b1); (try clear c46); (try clear c46b0); (try clear c46b1); (try clear c48); (try clear c48b0); (try clear c48b1); (try clear c49); (try clear c49b0); (try clear c49b1); (try clear c49b2); (try clear c51); (try clear c52); (try clear c52b0); (try clear c52b1); (try clear c52b2); (try clear c61); (try clear c63); (try clear c65); (try clear c65b0); (try clear c66); (try clear c67); (try clear c69); (try clear c71); (try clear c72); (try clear c73); (try clear hcz68_0); (try clear hcz68_1); (try clear hcz74_0); (try clear hcz74_1); (try clear hfz68_0); (try clear hfz68_1); (try clear hfz74_0); (try clear hfz74_1); (try clear p2)
        obtain ⟨kq, HA, HJ61, HO_17, HO_26, HO_28, BK597, BK620, BK631, HB⟩ := hcut
        cases kq with
        | zero => exact absurd HA.out (by simp [laws_FnTrackBounds.j2])
        | succ kj61 =>
         have H := HA.out
         clear HA
         simp only [laws_FnTrackBounds.j2] at H
         have HC76 := zm H
         clear H
         go_upto_if 198 with (fail)
         go_cut [] (fun wc => ∃ (kq : Nat), Aside0 (laws_FnTrackBounds.j4 kq t618 t619 t621 t624 t625 t616 t617 = some r) ∧ Aside0 (kq ≤ kj61) ∧ Aside0 (Kd.R (Kd.int .i64) 3 wc w.heap.size (fun k_ => some k_ ≠ (v626 : Value).ownBlock) v622 t621) ∧ Aside0 (Kd.R (Kd.int .i64) 3 wc w.heap.size (fun k_ => some k_ ≠ (v622 : Value).ownBlock) v626 t625) ∧ Aside0 (wc.heap[gb597]? = some (.cells #[.int .i64 t594, .int .i64 t595] 47 (0, 0))) ∧ Aside0 (wc.heap[gb620]? = some (.cells #[.int .i64 t616, .int .i64 t617] 47 (0, 0))) ∧ Aside0 (wc.heap[gb631]? = some (.cells #[.int .i64 t629, .int .i64 t630] 47 (0, 0))) ∧ Aside0 (Below w.heap.size w wc))
         case first =>
          as_aux_lemma =>
           have H := HC76.out
           clear HC76
           by_cases c77 : t613 = true
           ·
            subst c77
            have H1 : ((impl_WorstOffset.f kj61 t606 t614 t607 t608).bind fun bt639 => (if bt639.2 = true then (laws_FnTrackBounds.j3 kj61 t606 t607 t608 t609 t614 t618 t619 t621 t624 t625 (decide (bt639.1 > t609)) t616 t617) else (laws_FnTrackBounds.j3 kj61 t606 t607 t608 t609 t614 t618 t619 t621 t624 t625 true t616 t617))) = some r := by rw [if_pos rfl] at H; exact H
            clear H
            have H := H1
            clear H1
            replace H := Option.bind_eq_some_iff.mp H
            obtain ⟨⟨t639, t640⟩, A780, H⟩ := H
            (try dsimp only at H)
            have A78 := zm A780
            clear A780
            have HC79 := zm H
            clear H
            go_upto_region 25 with (first | ((with_reducible refine gate_callee (f := 39) rfl ?_); refine goesA_ (some 205) Try.func39 #[.agg #[.int .i64 t606, .int .i64 t614], .int .i64 t607, .slice Ao28 t608.length co28] rfl ?_; (with_reducible refine (impl_WorstOffset.calls kj61 t606 t614 t607 _ _ t608 t639 t640 _ ?side1 ?side2 A78.out).mono ?_); (case side1 => repeat (first | exact (Kd.R_reads' HO_17.out).2.2 | (with_reducible refine Kd.C_alloc ?_ _) | (with_reducible refine Kd.C_drewN ?_ _) | (with_reducible refine Kd.C_drew ?_))); (case side2 => exact (Kd.R_reads' HO_17.out).2.1); rintro e w80 ⟨rfl, hb⟩; refine ⟨_, rfl, ?_⟩; have n0_ := zm (Kd.R_below (by (with_reducible repeat (first | apply Kd.R_alloc | apply Kd.R_drewN | apply Kd.R_drew)); exact HO_17.out) hb); have n1_ := zm (Kd.R_below (by (with_reducible repeat (first | apply Kd.R_alloc | apply Kd.R_drewN | apply Kd.R_drew)); exact HO_26.out) hb); have n2_ := zm (Kd.R_below (by (with_reducible repeat (first | apply Kd.R_alloc | apply Kd.R_drewN | apply Kd.R_drew)); exact HO_28.out) hb); have n3_ := zm (blk_below (g := gb597) (o := .cells #[.int .i64 t594, .int .i64 t595] 47 (0, 0)) zk hb); have n4_ := zm (blk_below (g := gb620) (o := .cells #[.int .i64 t616, .int .i64 t617] 47 (0, 0)) zk hb); have n5_ := zm (blk_below (g := gb631) (o := .cells #[.int .i64 t629, .int .i64 t630] 47 (0, 0)) zk hb); have n6_ := zm (below_step zb hb); clear HO_17; clear HO_26; clear HO_28; clear BK597; clear BK620; clear BK631; clear HB; have HO_17 := n0_; have HO_26 := n1_; have HO_28 := n2_; have BK597 := n3_; have BK620 := n4_; have BK631 := n5_; have HB := n6_; clear n0_ n1_ n2_ n3_ n4_ n5_ n6_; (try clear hb); (try clear hb2); (try clear hk); (try clear hi)))
            (try simp only [Act.put, List.setIfInBounds_toArray, List.set_cons_zero, List.set_cons_succ])
            go_cut [214] (fun v214 wc => ∃ (kq : Nat) (x214_78 : Bool), v214 = .bool x214_78 ∧ Aside0 (laws_FnTrackBounds.j3 kq t606 t607 t608 t609 t614 t618 t619 t621 t624 t625 x214_78 t616 t617 = some r) ∧ Aside0 (kq ≤ kj61) ∧ Aside0 (Kd.R (Kd.int .i64) 3 wc w.heap.size (fun k_ => some k_ ≠ (v622 : Value).ownBlock ∧ some k_ ≠ (v626 : Value).ownBlock) (.slice Ao28 t608.length co28) t608) ∧ Aside0 (Kd.R (Kd.int .i64) 3 wc w.heap.size (fun k_ => some k_ ≠ ((.slice Ao28 t608.length co28) : Value).ownBlock ∧ some k_ ≠ (v626 : Value).ownBlock) v622 t621) ∧ Aside0 (Kd.R (Kd.int .i64) 3 wc w.heap.size (fun k_ => some k_ ≠ ((.slice Ao28 t608.length co28) : Value).ownBlock ∧ some k_ ≠ (v622 : Value).ownBlock) v626 t625) ∧ Aside0 (wc.heap[gb597]? = some (.cells #[.int .i64 t594, .int .i64 t595] 47 (0, 0))) ∧ Aside0 (wc.heap[gb620]? = some (.cells #[.int .i64 t616, .int .i64 t617] 47 (0, 0))) ∧ Aside0 (wc.heap[gb631]? = some (.cells #[.int .i64 t629, .int .i64 t630] 47 (0, 0))) ∧ Aside0 (Below w.heap.size w wc))
            case first =>
             as_aux_lemma =>
              have H := HC79.out
              clear HC79
              by_cases c81 : t640 = true
              ·
               subst c81
               have H1 : (laws_FnTrackBounds.j3 kj61 t606 t607 t608 t609 t614 t618 t619 t621 t624 t625 (decide (t639 > t609)) t616 t617) = some r := by rw [if_pos rfl] at H; exact H
               clear H
               have H := H1
               clear H1
               have H' := zm H
               clear H
               go_wp2
               go_meet
               case rel => exact ⟨_, (decide (t639 > t609)), (by first | rfl | (simp; done) | (simp [*]; done)), H', ⟨by have := HJ15.out; have := HJ61.out; first | omega | exact Nat.le_refl _⟩, ⟨by (with_reducible repeat (first | apply Kd.R_alloc | apply Kd.R_drewN | apply Kd.R_drew)); exact HO_17.out⟩, ⟨by (with_reducible repeat (first | apply Kd.R_alloc | apply Kd.R_drewN | apply Kd.R_drew)); exact HO_26.out⟩, ⟨by (with_reducible repeat (first | apply Kd.R_alloc | apply Kd.R_drewN | apply Kd.R_drew)); exact HO_28.out⟩, ⟨zk⟩, ⟨zk⟩, ⟨zk⟩, ⟨zb⟩⟩
              ·
               replace c81 := Bool.eq_false_iff.mpr c81
               subst c81
               have H1 : (laws_FnTrackBounds.j3 kj61 t606 t607 t608 t609 t614 t618 t619 t621 t624 t625 true t616 t617) = some r := by rw [if_neg (show ¬ (false = true) by decide)] at H; exact H
               clear H
               have H := H1
               clear H1
               exact (laws_FnTrackBounds.j3_t (H.trans (congrArg some hr_))).elim
            case rest =>
             as_aux_lemma =>
              clear HC79
              (try clear p2); (try clear c3); (try clear c4); (try clear c5); (try clear c6); (try clear c7); (try clear c8); (try clear c30); (try clear c39); (try clear c44); (try clear c44b0); (try clear c44b1); (try clear c46); (try clear c46b0); (try clear c46b1); (try clear c48); (try clear c48b0); (try clear c48b1); (try clear c49); (try clear c49b0); (try clear c49b1); (try clear c49b2); (try clear c51); (try clear c52); (try clear c52b0); (try clear c52b1); (try clear c52b2); (try clear c61); (try clear c63); (try clear c65); (try clear c65b0); (try clear c66); (try clear c67); (try clear c69); (try clear c71); (try clear c72); (try clear c73); (try clear c76); (try clear c77); (try clear c81); (try clear hcz68_0); (try clear hcz68_1); (try clear hcz74_0); (try clear hcz74_1); (try clear hfz68_0); (try clear hfz68_1); (try clear hfz74_0); (try clear hfz74_1); (try clear p2)
              obtain ⟨kq, x214_78, rfl, HA, HJ78, HO_17, HO_26, HO_28, BK597, BK620, BK631, HB⟩ := hcut
              cases kq with
              | zero => exact absurd HA.out (by simp [laws_FnTrackBounds.j3])
              | succ kj78 =>
               have H := HA.out
               clear HA
               simp only [laws_FnTrackBounds.j3] at H
               by_cases c82 : x214_78 = true
               ·
                subst c82
                have H1 : (some false) = some r := by rw [if_pos rfl] at H; exact H
                clear H
                have H := H1
                clear H1
                exact absurd ((Option.some.inj H).trans hr_) (by decide)
               ·
                replace c82 := Bool.eq_false_iff.mpr c82
                subst c82
                have H1 : (if t614 > 1 then ((impl_WorstOffset.f kj78 t606 (wrap64 (t614 - 1)) t607 t608).bind fun bt641 => ((spec_WorstOffset.f kj78 t606 (wrap64 (t614 - 1)) t607 t608).bind fun bt643 => (if (bt641.2 != bt643.2) = true then (some false) else (if bt641.1 = bt643.1 then (if bt643.2 = true then (if bt643.1 ≤ t609 then (some false) else (laws_FnTrackBounds.j4 kj78 t618 t619 t621 t624 t625 t616 t617)) else (laws_FnTrackBounds.j4 kj78 t618 t619 t621 t624 t625 t616 t617)) else (some false))))) else (laws_FnTrackBounds.j4 kj78 t618 t619 t621 t624 t625 t616 t617)) = some r := by rw [if_neg (show ¬ (false = true) by decide)] at H; exact H
                clear H
                have H := H1
                clear H1
                by_cases c83 : t614 > 1
                ·
                 rw [if_pos c83] at H
                 have c83b0 : decide (1 < t614) = true := decide_eq_true c83
                 clear c83
                 replace H := Option.bind_eq_some_iff.mp H
                 obtain ⟨⟨t641, t642⟩, A840, H⟩ := H
                 (try dsimp only at H)
                 have A84 := zm A840
                 clear A840
                 replace H := Option.bind_eq_some_iff.mp H
                 obtain ⟨⟨t643, t644⟩, A850, H⟩ := H
                 (try dsimp only at H)
                 have A85 := zm A850
                 clear A850
                 by_cases c86 : (t642 != t644) = true
                 ·
                  rw [if_pos c86] at H
                  have c86b0 : (t642 != t644) = true := c86
                  (try (have c86b1 : decide (t642 = t644) = false := by simpa using c86))
                  (try (have c86b2 : (t642 == t644) = false := by simpa using c86))
                  (try (have c86b3 : ¬ (t642 = t644) := by simpa using c86))
                  clear c86
                  exact absurd ((Option.some.inj H).trans hr_) (by decide)
                 ·
                  rw [if_neg c86] at H
                  have c86b0 : (t642 != t644) = false := by simpa using c86
                  (try (have c86b1 : decide (t642 = t644) = true := by simpa using c86))
                  (try (have c86b2 : (t642 == t644) = true := by simpa using c86))
                  clear c86
                  by_cases c87 : t641 = t643
                  ·
                   rw [if_pos c87] at H
                   have c87b0 : (t641 == t643) = true := beq_iff_eq.mpr c87
                   have c87b1 : (t641 != t643) = false := bne_eq_false_iff_eq.mpr c87
                   clear c87
                   by_cases c88 : t644 = true
                   ·
                    subst c88
                    have H1 : (if t643 ≤ t609 then (some false) else (laws_FnTrackBounds.j4 kj78 t618 t619 t621 t624 t625 t616 t617)) = some r := by rw [if_pos rfl] at H; exact H
                    clear H
                    have H := H1
                    clear H1
                    by_cases c89 : t643 ≤ t609
                    ·
                     rw [if_pos c89] at H
                     have c89b0 : decide (t643 ≤ t609) = true := decide_eq_true c89
                     clear c89
                     exact absurd ((Option.some.inj H).trans hr_) (by decide)
                    ·
                     rw [if_neg c89] at H
                     have c89b0 : decide (t643 ≤ t609) = false := decide_eq_false c89
                     clear c89
                     have H' := zm H
                     clear H
                     go_wp2_with (first | ((with_reducible refine gate_callee (f := 39) rfl ?_); refine goesA_ (some 224) Try.func39 #[.agg #[.int .i64 t606, .int .i64 (wrap64 (t614 - 1))], .int .i64 t607, .slice Ao28 t608.length co28] rfl ?_; (with_reducible refine (impl_WorstOffset.calls kj78 t606 (wrap64 (t614 - 1)) t607 _ _ t608 t641 t642 _ ?side1 ?side2 A84.out).mono ?_); (case side1 => repeat (first | exact (Kd.R_reads' HO_17.out).2.2 | (with_reducible refine Kd.C_alloc ?_ _) | (with_reducible refine Kd.C_drewN ?_ _) | (with_reducible refine Kd.C_drew ?_))); (case side2 => exact (Kd.R_reads' HO_17.out).2.1); rintro e w90 ⟨rfl, hb⟩; refine ⟨_, rfl, ?_⟩; have n0_ := zm (Kd.R_below (by (with_reducible repeat (first | apply Kd.R_alloc | apply Kd.R_drewN | apply Kd.R_drew)); exact HO_17.out) hb); have n1_ := zm (Kd.R_below (by (with_reducible repeat (first | apply Kd.R_alloc | apply Kd.R_drewN | apply Kd.R_drew)); exact HO_26.out) hb); have n2_ := zm (Kd.R_below (by (with_reducible repeat (first | apply Kd.R_alloc | apply Kd.R_drewN | apply Kd.R_drew)); exact HO_28.out) hb); have n3_ := zm (blk_below (g := gb597) (o := .cells #[.int .i64 t594, .int .i64 t595] 47 (0, 0)) zk hb); have n4_ := zm (blk_below (g := gb620) (o := .cells #[.int .i64 t616, .int .i64 t617] 47 (0, 0)) zk hb); have n5_ := zm (blk_below (g := gb631) (o := .cells #[.int .i64 t629, .int .i64 t630] 47 (0, 0)) zk hb); have n6_ := zm (below_step zb hb); clear HO_17; clear HO_26; clear HO_28; clear BK597; clear BK620; clear BK631; clear HB; have HO_17 := n0_; have HO_26 := n1_; have HO_28 := n2_; have BK597 := n3_; have BK620 := n4_; have BK631 := n5_; have HB := n6_; clear n0_ n1_ n2_ n3_ n4_ n5_ n6_; (try clear hb); (try clear hb2); (try clear hk); (try clear hi)) | ((with_reducible refine gate_callee (f := 40) rfl ?_); refine goesA_ (some 234) Try.func40 #[.agg #[.int .i64 t606, .int .i64 (wrap64 (t614 - 1))], .int .i64 t607, .slice Ao28 t608.length co28] rfl ?_; (with_reducible refine (spec_WorstOffset.calls kj78 t606 (wrap64 (t614 - 1)) t607 _ _ t608 t643 true _ ?side1 ?side2 A85.out).mono ?_); (case side1 => repeat (first | exact (Kd.R_reads' HO_17.out).2.2 | (with_reducible refine Kd.C_alloc ?_ _) | (with_reducible refine Kd.C_drewN ?_ _) | (with_reducible refine Kd.C_drew ?_))); (case side2 => exact (Kd.R_reads' HO_17.out).2.1); rintro e w91 ⟨rfl, hb⟩; refine ⟨_, rfl, ?_⟩; have n0_ := zm (Kd.R_below (by (with_reducible repeat (first | apply Kd.R_alloc | apply Kd.R_drewN | apply Kd.R_drew)); exact HO_17.out) hb); have n1_ := zm (Kd.R_below (by (with_reducible repeat (first | apply Kd.R_alloc | apply Kd.R_drewN | apply Kd.R_drew)); exact HO_26.out) hb); have n2_ := zm (Kd.R_below (by (with_reducible repeat (first | apply Kd.R_alloc | apply Kd.R_drewN | apply Kd.R_drew)); exact HO_28.out) hb); have n3_ := zm (blk_below (g := gb597) (o := .cells #[.int .i64 t594, .int .i64 t595] 47 (0, 0)) zk hb); have n4_ := zm (blk_below (g := gb620) (o := .cells #[.int .i64 t616, .int .i64 t617] 47 (0, 0)) zk hb); have n5_ := zm (blk_below (g := gb631) (o := .cells #[.int .i64 t629, .int .i64 t630] 47 (0, 0)) zk hb); have n6_ := zm (below_step zb hb); clear HO_17; clear HO_26; clear HO_28; clear BK597; clear BK620; clear BK631; clear HB; have HO_17 := n0_; have HO_26 := n1_; have HO_28 := n2_; have BK597 := n3_; have BK620 := n4_; have BK631 := n5_; have HB := n6_; clear n0_ n1_ n2_ n3_ n4_ n5_ n6_; (try clear hb); (try clear hb2); (try clear hk); (try clear hi)))
                     go_meet
                     case rel => exact ⟨_, H', ⟨by have := HJ15.out; have := HJ61.out; have := HJ78.out; first | omega | exact Nat.le_refl _⟩, ⟨by (with_reducible repeat (first | apply Kd.R_alloc | apply Kd.R_drewN | apply Kd.R_drew)); exact zM HO_26.out⟩, ⟨by (with_reducible repeat (first | apply Kd.R_alloc | apply Kd.R_drewN | apply Kd.R_drew)); exact zM HO_28.out⟩, ⟨zk⟩, ⟨zk⟩, ⟨zk⟩, ⟨zb⟩⟩
                   ·
                    replace c88 := Bool.eq_false_iff.mpr c88
                    subst c88
                    have H1 : (laws_FnTrackBounds.j4 kj78 t618 t619 t621 t624 t625 t616 t617) = some r := by rw [if_neg (show ¬ (false = true) by decide)] at H; exact H
                    clear H
                    have H := H1
                    clear H1
                    have H' := zm H
                    clear H
                    go_wp2_with (first | ((with_reducible refine gate_callee (f := 39) rfl ?_); refine goesA_ (some 224) Try.func39 #[.agg #[.int .i64 t606, .int .i64 (wrap64 (t614 - 1))], .int .i64 t607, .slice Ao28 t608.length co28] rfl ?_; (with_reducible refine (impl_WorstOffset.calls kj78 t606 (wrap64 (t614 - 1)) t607 _ _ t608 t641 t642 _ ?side1 ?side2 A84.out).mono ?_); (case side1 => repeat (first | exact (Kd.R_reads' HO_17.out).2.2 | (with_reducible refine Kd.C_alloc ?_ _) | (with_reducible refine Kd.C_drewN ?_ _) | (with_reducible refine Kd.C_drew ?_))); (case side2 => exact (Kd.R_reads' HO_17.out).2.1); rintro e w92 ⟨rfl, hb⟩; refine ⟨_, rfl, ?_⟩; have n0_ := zm (Kd.R_below (by (with_reducible repeat (first | apply Kd.R_alloc | apply Kd.R_drewN | apply Kd.R_drew)); exact HO_17.out) hb); have n1_ := zm (Kd.R_below (by (with_reducible repeat (first | apply Kd.R_alloc | apply Kd.R_drewN | apply Kd.R_drew)); exact HO_26.out) hb); have n2_ := zm (Kd.R_below (by (with_reducible repeat (first | apply Kd.R_alloc | apply Kd.R_drewN | apply Kd.R_drew)); exact HO_28.out) hb); have n3_ := zm (blk_below (g := gb597) (o := .cells #[.int .i64 t594, .int .i64 t595] 47 (0, 0)) zk hb); have n4_ := zm (blk_below (g := gb620) (o := .cells #[.int .i64 t616, .int .i64 t617] 47 (0, 0)) zk hb); have n5_ := zm (blk_below (g := gb631) (o := .cells #[.int .i64 t629, .int .i64 t630] 47 (0, 0)) zk hb); have n6_ := zm (below_step zb hb); clear HO_17; clear HO_26; clear HO_28; clear BK597; clear BK620; clear BK631; clear HB; have HO_17 := n0_; have HO_26 := n1_; have HO_28 := n2_; have BK597 := n3_; have BK620 := n4_; have BK631 := n5_; have HB := n6_; clear n0_ n1_ n2_ n3_ n4_ n5_ n6_; (try clear hb); (try clear hb2); (try clear hk); (try clear hi)) | ((with_reducible refine gate_callee (f := 40) rfl ?_); refine goesA_ (some 234) Try.func40 #[.agg #[.int .i64 t606, .int .i64 (wrap64 (t614 - 1))], .int .i64 t607, .slice Ao28 t608.length co28] rfl ?_; (with_reducible refine (spec_WorstOffset.calls kj78 t606 (wrap64 (t614 - 1)) t607 _ _ t608 t643 false _ ?side1 ?side2 A85.out).mono ?_); (case side1 => repeat (first | exact (Kd.R_reads' HO_17.out).2.2 | (with_reducible refine Kd.C_alloc ?_ _) | (with_reducible refine Kd.C_drewN ?_ _) | (with_reducible refine Kd.C_drew ?_))); (case side2 => exact (Kd.R_reads' HO_17.out).2.1); rintro e w93 ⟨rfl, hb⟩; refine ⟨_, rfl, ?_⟩; have n0_ := zm (Kd.R_below (by (with_reducible repeat (first | apply Kd.R_alloc | apply Kd.R_drewN | apply Kd.R_drew)); exact HO_17.out) hb); have n1_ := zm (Kd.R_below (by (with_reducible repeat (first | apply Kd.R_alloc | apply Kd.R_drewN | apply Kd.R_drew)); exact HO_26.out) hb); have n2_ := zm (Kd.R_below (by (with_reducible repeat (first | apply Kd.R_alloc | apply Kd.R_drewN | apply Kd.R_drew)); exact HO_28.out) hb); have n3_ := zm (blk_below (g := gb597) (o := .cells #[.int .i64 t594, .int .i64 t595] 47 (0, 0)) zk hb); have n4_ := zm (blk_below (g := gb620) (o := .cells #[.int .i64 t616, .int .i64 t617] 47 (0, 0)) zk hb); have n5_ := zm (blk_below (g := gb631) (o := .cells #[.int .i64 t629, .int .i64 t630] 47 (0, 0)) zk hb); have n6_ := zm (below_step zb hb); clear HO_17; clear HO_26; clear HO_28; clear BK597; clear BK620; clear BK631; clear HB; have HO_17 := n0_; have HO_26 := n1_; have HO_28 := n2_; have BK597 := n3_; have BK620 := n4_; have BK631 := n5_; have HB := n6_; clear n0_ n1_ n2_ n3_ n4_ n5_ n6_; (try clear hb); (try clear hb2); (try clear hk); (try clear hi)))
                    go_meet
                    case rel => exact ⟨_, H', ⟨by have := HJ15.out; have := HJ61.out; have := HJ78.out; first | omega | exact Nat.le_refl _⟩, ⟨by (with_reducible repeat (first | apply Kd.R_alloc | apply Kd.R_drewN | apply Kd.R_drew)); exact zM HO_26.out⟩, ⟨by (with_reducible repeat (first | apply Kd.R_alloc | apply Kd.R_drewN | apply Kd.R_drew)); exact zM HO_28.out⟩, ⟨zk⟩, ⟨zk⟩, ⟨zk⟩, ⟨zb⟩⟩
                  ·
                   rw [if_neg c87] at H
                   have c87b0 : (t641 == t643) = false := beq_eq_false_iff_ne.mpr c87
                   have c87b1 : (t641 != t643) = true := bne_iff_ne.mpr c87
                   exact absurd ((Option.some.inj H).trans hr_) (by decide)
                ·
                 rw [if_neg c83] at H
                 have c83b0 : decide (1 < t614) = false := decide_eq_false c83
                 clear c83
                 have H' := zm H
                 clear H
                 go_wp2
                 go_meet
                 case rel => exact ⟨_, H', ⟨by have := HJ15.out; have := HJ61.out; have := HJ78.out; first | omega | exact Nat.le_refl _⟩, ⟨by (with_reducible repeat (first | apply Kd.R_alloc | apply Kd.R_drewN | apply Kd.R_drew)); exact zM HO_26.out⟩, ⟨by (with_reducible repeat (first | apply Kd.R_alloc | apply Kd.R_drewN | apply Kd.R_drew)); exact zM HO_28.out⟩, ⟨zk⟩, ⟨zk⟩, ⟨zk⟩, ⟨zb⟩⟩
           ·
            replace c77 := Bool.eq_false_iff.mpr c77
            subst c77
            have H1 : (laws_FnTrackBounds.j4 kj61 t618 t619 t621 t624 t625 t616 t617) = some r := by rw [if_neg (show ¬ (false = true) by decide)] at H; exact H
            clear H
            have H := H1
            clear H1
            have H' := zm H
            clear H
            go_wp2
            go_meet
            case rel => exact ⟨_, H', ⟨by have := HJ15.out; have := HJ61.out; first | omega | exact Nat.le_refl _⟩, ⟨by (with_reducible repeat (first | apply Kd.R_alloc | apply Kd.R_drewN | apply Kd.R_drew)); exact zM HO_26.out⟩, ⟨by (with_reducible repeat (first | apply Kd.R_alloc | apply Kd.R_drewN | apply Kd.R_drew)); exact zM HO_28.out⟩, ⟨zk⟩, ⟨zk⟩, ⟨zk⟩, ⟨zb⟩⟩
         case rest =>
          as_aux_lemma =>
           clear HC76
           (try clear p2); (try clear c3); (try clear c4); (try clear c5); (try clear c6); (try clear p6); (try clear c7); (try clear c8); (try clear c30); (try clear c39); (try clear c40); (try clear c44); (try clear c44b0); (try clear c44b1); (try clear c46); (try clear c46b0); (try clear c46b1); (try clear c48); (try clear c48b0); (try clear c48b1); (try clear c49); (try clear c49b0); (try clear c49b1); (try clear c49b2); (try clear c51); (try clear c52); (try clear c52b0); (try clear c52b1); (try clear c52b2); (try clear c61); (try clear c63); (try clear p64); (try clear c65); (try clear c65b0); (try clear c66); (try clear c67); (try clear c69); (try clear c71); (try clear c72); (try clear c73); (try clear c76); (try clear c77); (try clear c81); (try clear c82); (try clear c83); (try clear c83b0); (try clear c86); (try clear c86b0); (try clear c86b1); (try clear c86b2); (try clear c87); (try clear c87b0); (try clear c87b1); (try clear c88); (try clear c89); (try clear c89b0); (try clear hcz68_0); (try clear hcz68_1); (try clear hcz74_0); (try clear hcz74_1); (try clear hfz68_0); (try clear hfz68_1); (try clear hfz74_0); (try clear hfz74_1); (try clear p2)
           obtain ⟨kq, HA, HJ75, HO_26, HO_28, BK597, BK620, BK631, HB⟩ := hcut
           cases kq with
           | zero => exact absurd HA.out (by simp [laws_FnTrackBounds.j4])
           | succ kj75 =>
            have H := HA.out
            clear HA
            simp only [laws_FnTrackBounds.j4] at H
            by_cases c94 : t624 = true
            ·
             subst c94
             have H1 : ((impl_TrackRun.f kj75 t616 t617 0 t621).bind fun bt645 => ((spec_TrackRun.f kj75 t616 t617 0 t625).bind fun bt649 => (if bt645.2 = true then (if bt649.2 = true then ((laws_qInts.f kj75 bt645.1 bt649.1).bind fun t653 => (if t653 = true then (if (bt649.1.length : Int) = 0 then (laws_FnTrackBounds.j5 kj75 t618 t619 t625 bt649.1 true t616 t617) else (laws_FnTrackBounds.j5 kj75 t618 t619 t625 bt649.1 (decide ((bt649.1.length : Int) > 20)) t616 t617)) else (laws_FnTrackBounds.j5 kj75 t618 t619 t625 bt649.1 true t616 t617))) else (laws_FnTrackBounds.j5 kj75 t618 t619 t625 bt649.1 true t616 t617)) else (laws_FnTrackBounds.j5 kj75 t618 t619 t625 bt649.1 true t616 t617)))) = some r := by rw [if_pos rfl] at H; exact H
             clear H
             have H := H1
             clear H1
             replace H := Option.bind_eq_some_iff.mp H
             obtain ⟨⟨t645, t648⟩, A950, H⟩ := H
             (try dsimp only at H)
             have A95 := zm A950
             clear A950
             replace H := Option.bind_eq_some_iff.mp H
             obtain ⟨⟨t649, t652⟩, A960, H⟩ := H
             (try dsimp only at H)
             have A96 := zm A960
             clear A960
             have HC97 := zm H
             clear H
             have hnb98 := NB620_597.out
             have hnc98 := NB597_620.out
             have hnb99 := NB620_631.out
             have hnc99 := NB631_620.out
             obtain ⟨hcz100_0, hcz100_1, hfz100_0, hfz100_1⟩ := zc2 BK620.out
             obtain ⟨Ao101, co101, eo101⟩ := Kd.R_slice HO_26.out
             subst eo101
             go_upto_region 35 with (first | ((with_reducible refine gate_callee (f := 37) rfl ?_); refine goesA_ (some 257) Try.func37 #[.agg #[.int .i64 t616, .int .i64 t617], .int .i64 0, .slice Ao101 t621.length co101] rfl ?_; (with_reducible refine (impl_TrackRun.calls kj75 t616 t617 0 _ _ t621 t645 t648 _ ?side1 ?side2 A95.out).mono ?_); (case side1 => repeat (first | exact (Kd.R_reads' HO_26.out).2.2 | (with_reducible refine Kd.C_alloc ?_ _) | (with_reducible refine Kd.C_drewN ?_ _) | (with_reducible refine Kd.C_drew ?_))); (case side2 => exact (Kd.R_reads' HO_26.out).2.1); rintro e w102 ⟨v646, rfl, ho0, hb⟩; refine ⟨_, rfl, ?_⟩; have n0_ := zm (Kd.R_elder' (by (with_reducible repeat (first | apply Kd.R_alloc | apply Kd.R_drewN | apply Kd.R_drew)); exact HO_26.out) (Kd.R_base ho0) hb); have n1_ := zm (Kd.R_elder' (by (with_reducible repeat (first | apply Kd.R_alloc | apply Kd.R_drewN | apply Kd.R_drew)); exact HO_28.out) (Kd.R_base ho0) hb); have n2_ := zm (Kd.R_lower (Kd.R_new' (Kd.R_new' ho0 (Kd.R_lt (by (with_reducible repeat (first | apply Kd.R_alloc | apply Kd.R_drewN | apply Kd.R_drew)); exact HO_26.out))) (Kd.R_lt (by (with_reducible repeat (first | apply Kd.R_alloc | apply Kd.R_drewN | apply Kd.R_drew)); exact HO_28.out))) (below_size zb)); have n3_ := zm (blk_below (g := gb597) (o := .cells #[.int .i64 t594, .int .i64 t595] 47 (0, 0)) zk hb); have n4_ := zm (blk_below (g := gb620) (o := .cells #[.int .i64 t616, .int .i64 t617] 47 (0, 0)) zk hb); have n5_ := zm (blk_below (g := gb631) (o := .cells #[.int .i64 t629, .int .i64 t630] 47 (0, 0)) zk hb); have n6_ := zm (below_step zb hb); clear HO_26; clear HO_28; clear BK597; clear BK620; clear BK631; clear HB; have HO_26 := n0_; have HO_28 := n1_; have HO647 := n2_; have BK597 := n3_; have BK620 := n4_; have BK631 := n5_; have HB := n6_; clear n0_ n1_ n2_ n3_ n4_ n5_ n6_; (try clear hb); (try clear hb2); (try clear hk); (try clear hi); (try clear ho0); obtain ⟨hcz103_0, hcz103_1, hfz103_0, hfz103_1⟩ := zc2 BK620.out; obtain ⟨Ao104, co104, eo104⟩ := Kd.R_slice HO_28.out; subst eo104) | ((with_reducible refine gate_callee (f := 38) rfl ?_); refine goesA_ (some 263) Try.func38 #[.agg #[.int .i64 t616, .int .i64 t617], .int .i64 0, .slice Ao104 t625.length co104] rfl ?_; (with_reducible refine (spec_TrackRun.calls kj75 t616 t617 0 _ _ t625 t649 t652 _ ?side1 ?side2 A96.out).mono ?_); (case side1 => repeat (first | exact (Kd.R_reads' HO_28.out).2.2 | (with_reducible refine Kd.C_alloc ?_ _) | (with_reducible refine Kd.C_drewN ?_ _) | (with_reducible refine Kd.C_drew ?_))); (case side2 => exact (Kd.R_reads' HO_28.out).2.1); rintro e w105 ⟨v650, rfl, ho0, hb⟩; refine ⟨_, rfl, ?_⟩; have n0_ := zm (Kd.R_elder' (by (with_reducible repeat (first | apply Kd.R_alloc | apply Kd.R_drewN | apply Kd.R_drew)); exact HO_26.out) (Kd.R_base ho0) hb); have n1_ := zm (Kd.R_elder' (by (with_reducible repeat (first | apply Kd.R_alloc | apply Kd.R_drewN | apply Kd.R_drew)); exact HO_28.out) (Kd.R_base ho0) hb); have n2_ := zm (Kd.R_elder' (by (with_reducible repeat (first | apply Kd.R_alloc | apply Kd.R_drewN | apply Kd.R_drew)); exact HO647.out) (Kd.R_base ho0) hb); have n3_ := zm (Kd.R_lower (Kd.R_new' (Kd.R_new' (Kd.R_new' ho0 (Kd.R_lt (by (with_reducible repeat (first | apply Kd.R_alloc | apply Kd.R_drewN | apply Kd.R_drew)); exact HO_26.out))) (Kd.R_lt (by (with_reducible repeat (first | apply Kd.R_alloc | apply Kd.R_drewN | apply Kd.R_drew)); exact HO_28.out))) (Kd.R_lt (by (with_reducible repeat (first | apply Kd.R_alloc | apply Kd.R_drewN | apply Kd.R_drew)); exact HO647.out))) (below_size zb)); have n4_ := zm (blk_below (g := gb597) (o := .cells #[.int .i64 t594, .int .i64 t595] 47 (0, 0)) zk hb); have n5_ := zm (blk_below (g := gb620) (o := .cells #[.int .i64 t616, .int .i64 t617] 47 (0, 0)) zk hb); have n6_ := zm (blk_below (g := gb631) (o := .cells #[.int .i64 t629, .int .i64 t630] 47 (0, 0)) zk hb); have n7_ := zm (below_step zb hb); clear HO_26; clear HO_28; clear HO647; clear BK597; clear BK620; clear BK631; clear HB; have HO_26 := n0_; have HO_28 := n1_; have HO647 := n2_; have HO651 := n3_; have BK597 := n4_; have BK620 := n5_; have BK631 := n6_; have HB := n7_; clear n0_ n1_ n2_ n3_ n4_ n5_ n6_ n7_; (try clear hb); (try clear hb2); (try clear hk); (try clear hi); (try clear ho0)))
             (try simp only [Act.put, List.setIfInBounds_toArray, List.set_cons_zero, List.set_cons_succ])
             go_cut [287] (fun v287 wc => ∃ (kq : Nat) (x287_96 : Bool), v287 = .bool x287_96 ∧ Aside0 (laws_FnTrackBounds.j5 kq t618 t619 t625 t649 x287_96 t616 t617 = some r) ∧ Aside0 (kq ≤ kj75) ∧ Aside0 (Kd.R (Kd.int .i64) 3 wc w.heap.size (fun k_ => some k_ ≠ (v650 : Value).ownBlock) (.slice Ao104 t625.length co104) t625) ∧ Aside0 (Kd.R (Kd.int .i64) 3 wc w.heap.size (fun k_ => some k_ ≠ ((.slice Ao104 t625.length co104) : Value).ownBlock) v650 t649) ∧ Aside0 (wc.heap[gb597]? = some (.cells #[.int .i64 t594, .int .i64 t595] 47 (0, 0))) ∧ Aside0 (wc.heap[gb620]? = some (.cells #[.int .i64 t616, .int .i64 t617] 47 (0, 0))) ∧ Aside0 (wc.heap[gb631]? = some (.cells #[.int .i64 t629, .int .i64 t630] 47 (0, 0))) ∧ Aside0 (Below w.heap.size w wc))
             case first =>
              as_aux_lemma =>
               have H := HC97.out
               clear HC97
               by_cases c106 : t648 = true
               ·
                subst c106
                have H1 : (if t652 = true then ((laws_qInts.f kj75 t645 t649).bind fun t653 => (if t653 = true then (if (t649.length : Int) = 0 then (laws_FnTrackBounds.j5 kj75 t618 t619 t625 t649 true t616 t617) else (laws_FnTrackBounds.j5 kj75 t618 t619 t625 t649 (decide ((t649.length : Int) > 20)) t616 t617)) else (laws_FnTrackBounds.j5 kj75 t618 t619 t625 t649 true t616 t617))) else (laws_FnTrackBounds.j5 kj75 t618 t619 t625 t649 true t616 t617)) = some r := by rw [if_pos rfl] at H; exact H
                clear H
                have H := H1
                clear H1
                by_cases c107 : t652 = true
                ·
                 subst c107
                 have H1 : ((laws_qInts.f kj75 t645 t649).bind fun t653 => (if t653 = true then (if (t649.length : Int) = 0 then (laws_FnTrackBounds.j5 kj75 t618 t619 t625 t649 true t616 t617) else (laws_FnTrackBounds.j5 kj75 t618 t619 t625 t649 (decide ((t649.length : Int) > 20)) t616 t617)) else (laws_FnTrackBounds.j5 kj75 t618 t619 t625 t649 true t616 t617))) = some r := by rw [if_pos rfl] at H; exact H
                 clear H
                 have H := H1
                 clear H1
                 replace H := Option.bind_eq_some_iff.mp H
                 obtain ⟨t653, A1080, H⟩ := H
                 (try dsimp only at H)
                 have A108 := zm A1080
                 clear A1080
                 by_cases c109 : t653 = true
                 ·
                  subst c109
                  have H1 : (if (t649.length : Int) = 0 then (laws_FnTrackBounds.j5 kj75 t618 t619 t625 t649 true t616 t617) else (laws_FnTrackBounds.j5 kj75 t618 t619 t625 t649 (decide ((t649.length : Int) > 20)) t616 t617)) = some r := by rw [if_pos rfl] at H; exact H
                  clear H
                  have H := H1
                  clear H1
                  by_cases c110 : (t649.length : Int) = 0
                  ·
                   rw [if_pos c110] at H
                   have c110b0 : ((t649.length : Int) == 0) = true := beq_iff_eq.mpr c110
                   have c110b1 : ((t649.length : Int) != 0) = false := bne_eq_false_iff_eq.mpr c110
                   clear c110
                   (first | rw [c110b0] | (simp only [i64_w, i32_w]; rw [c110b0]) | skip)
                   exact (laws_FnTrackBounds.j5_t (H.trans (congrArg some hr_))).elim
                  ·
                   rw [if_neg c110] at H
                   have c110b0 : ((t649.length : Int) == 0) = false := beq_eq_false_iff_ne.mpr c110
                   have c110b1 : ((t649.length : Int) != 0) = true := bne_iff_ne.mpr c110
                   have c110b2 : ¬ (t649 = []) := fun h_ => c110 (by rw [h_]; rfl)
                   (first | rw [c110b0] | (simp only [i64_w, i32_w]; rw [c110b0]) | skip)
                   have H' := zm H
                   clear H
                   obtain ⟨Ao111, co111, eo111⟩ := Kd.R_slice HO647.out
                   subst eo111
                   obtain ⟨Ao112, co112, eo112⟩ := Kd.R_slice HO651.out
                   subst eo112
                   go_wp2_with (first | (go_at_call 49; (with_reducible refine (laws_qInts.calls kj75 _ _ t645 _ _ t649 true _ ?side1 ?side2 ?side3 ?side4 A108.out).mono ?_); (case side1 => repeat (first | exact (Kd.R_reads' HO647.out).2.2 | (with_reducible refine Kd.C_alloc ?_ _) | (with_reducible refine Kd.C_drewN ?_ _) | (with_reducible refine Kd.C_drew ?_))); (case side2 => exact (Kd.R_reads' HO647.out).2.1); (case side3 => repeat (first | exact (Kd.R_reads' HO651.out).2.2 | (with_reducible refine Kd.C_alloc ?_ _) | (with_reducible refine Kd.C_drewN ?_ _) | (with_reducible refine Kd.C_drew ?_))); (case side4 => exact (Kd.R_reads' HO651.out).2.1); rintro e w' ⟨rfl, ⟨nd, rfl⟩⟩))
                   go_meet
                   case rel => exact ⟨_, (decide ((t649.length : Int) > 20)), (by first | rfl | (simp; done) | (simp [*]; done)), H', ⟨by have := HJ15.out; have := HJ61.out; have := HJ75.out; first | omega | exact Nat.le_refl _⟩, ⟨by (with_reducible repeat (first | apply Kd.R_alloc | apply Kd.R_drewN | apply Kd.R_drew)); exact zM HO_28.out⟩, ⟨by (with_reducible repeat (first | apply Kd.R_alloc | apply Kd.R_drewN | apply Kd.R_drew)); exact Kd.R_mono HO651.out (fun _ hk => hk.1.2)⟩, ⟨zk⟩, ⟨zk⟩, ⟨zk⟩, ⟨zb⟩⟩
                 ·
                  replace c109 := Bool.eq_false_iff.mpr c109
                  subst c109
                  have H1 : (laws_FnTrackBounds.j5 kj75 t618 t619 t625 t649 true t616 t617) = some r := by rw [if_neg (show ¬ (false = true) by decide)] at H; exact H
                  clear H
                  have H := H1
                  clear H1
                  exact (laws_FnTrackBounds.j5_t (H.trans (congrArg some hr_))).elim
                ·
                 replace c107 := Bool.eq_false_iff.mpr c107
                 subst c107
                 have H1 : (laws_FnTrackBounds.j5 kj75 t618 t619 t625 t649 true t616 t617) = some r := by rw [if_neg (show ¬ (false = true) by decide)] at H; exact H
                 clear H
                 have H := H1
                 clear H1
                 exact (laws_FnTrackBounds.j5_t (H.trans (congrArg some hr_))).elim
               ·
                replace c106 := Bool.eq_false_iff.mpr c106
                subst c106
                have H1 : (laws_FnTrackBounds.j5 kj75 t618 t619 t625 t649 true t616 t617) = some r := by rw [if_neg (show ¬ (false = true) by decide)] at H; exact H
                clear H
                have H := H1
                clear H1
                exact (laws_FnTrackBounds.j5_t (H.trans (congrArg some hr_))).elim
             case rest =>
              as_aux_lemma =>
               clear HC97
               (try clear c1); (try clear p2); (try clear c3); (try clear c4); (try clear c5); (try clear c6); (try clear p6); (try clear c7); (try clear c8); (try clear c9); (try clear c10); (try clear c11); (try clear c30); (try clear c37); (try clear c38); (try clear c39); (try clear c40); (try clear c44); (try clear c44b0); (try clear c44b1); (try clear c46); (try clear c46b0); (try clear c46b1); (try clear c48); (try clear c48b0); (try clear c48b1); (try clear c49); (try clear c49b0); (try clear c49b1); (try clear c49b2); (try clear c51); (try clear c52); (try clear c52b0); (try clear c52b1); (try clear c52b2); (try clear c61); (try clear c63); (try clear p64); (try clear c65); (try clear c65b0); (try clear c66); (try clear c67); (try clear c69); (try clear c71); (try clear c72); (try clear c73); (try clear c76); (try clear c77); (try clear c81); (try clear c82); (try clear c83); (try clear c83b0); (try clear c86); (try clear c86b0); (try clear c86b1); (try clear c86b2); (try clear c87); (try clear c87b0); (try clear c87b1); (try clear c88); (try clear c89); (try clear c89b0); (try clear c94); (try clear c98); (try clear c99); (try clear c106); (try clear c107); (try clear c109); (try clear c110); (try clear c110b0); (try clear c110b1); (try clear c110b2); (try clear hcz100_0); (try clear hcz100_1); (try clear hcz103_0); (try clear hcz103_1); (try clear hcz68_0); (try clear hcz68_1); (try clear hcz74_0); (try clear hcz74_1); (try clear hfz100_0); (try clear hfz100_1); (try clear hfz103_0); (try clear hfz103_1); (try clear hfz68_0); (try clear hfz68_1); (try clear hfz74_0); (try clear hfz74_1); (try clear p2); (try clear p6); (try clear p64)
               obtain ⟨kq, x287_96, rfl, HA, HJ96, HO_28, HO_41, BK597, BK620, BK631, HB⟩ := hcut
               cases kq with
               | zero => exact absurd HA.out (by simp [laws_FnTrackBounds.j5])
               | succ kj96 =>
                have H := HA.out
                clear HA
                simp only [laws_FnTrackBounds.j5] at H
                by_cases c113 : x287_96 = true
                ·
                 subst c113
                 have H1 : (some false) = some r := by rw [if_pos rfl] at H; exact H
                 clear H
                 have H := H1
                 clear H1
                 exact absurd ((Option.some.inj H).trans hr_) (by decide)
                ·
                 replace c113 := Bool.eq_false_iff.mpr c113
                 subst c113
                 have H1 : (laws_FnTrackBounds.l0 kj96 t618 t619 t625 t649 t649 (t649.length : Int) 0 t616 t617) = some r := by rw [if_neg (show ¬ (false = true) by decide)] at H; exact H
                 clear H
                 have H := H1
                 clear H1
                 have H' := zm H
                 clear H
                 obtain ⟨Ao114, co114, eo114⟩ := Kd.R_slice HO_41.out
                 subst eo114
                 go_wp2
                 go_loopg [290] kj96 (fun kq v290 w' => ∃ (x290_5 : Int), v290 = .int .i64 x290_5 ∧ Aside0 (laws_FnTrackBounds.l0 kq t618 t619 t625 t649 t649 (t649.length : Int) x290_5 t616 t617 = some r) ∧ Aside0 (kq ≤ kj96) ∧ Aside0 (Kd.R (Kd.int .i64) 3 w' w.heap.size (fun k_ => some k_ ≠ ((.slice Ao114 t649.length co114) : Value).ownBlock ∧ some k_ ≠ ((.slice Ao114 t649.length co114) : Value).ownBlock) (.slice Ao104 t625.length co104) t625) ∧ Aside0 (Kd.R (Kd.int .i64) 3 w' w.heap.size (fun k_ => some k_ ≠ ((.slice Ao104 t625.length co104) : Value).ownBlock) (.slice Ao114 t649.length co114) t649) ∧ Aside0 (Kd.R (Kd.int .i64) 3 w' w.heap.size (fun k_ => some k_ ≠ ((.slice Ao104 t625.length co104) : Value).ownBlock) (.slice Ao114 t649.length co114) t649) ∧ Aside0 (w'.heap[gb597]? = some (.cells #[.int .i64 t594, .int .i64 t595] 47 (0, 0))) ∧ Aside0 (w'.heap[gb620]? = some (.cells #[.int .i64 t616, .int .i64 t617] 47 (0, 0))) ∧ Aside0 (w'.heap[gb631]? = some (.cells #[.int .i64 t629, .int .i64 t630] 47 (0, 0))) ∧ Aside0 (Below w.heap.size w w'))
                 case atStart => exact ⟨(0), (by first | rfl | (simp; done) | (simp [*]; done)), H', ⟨Nat.le_refl _⟩, ⟨by (with_reducible repeat (first | apply Kd.R_alloc | apply Kd.R_drewN | apply Kd.R_drew)); exact Kd.R_mono HO_28.out (fun _ hk => ⟨hk, hk⟩)⟩, ⟨by (with_reducible repeat (first | apply Kd.R_alloc | apply Kd.R_drewN | apply Kd.R_drew)); exact HO_41.out⟩, ⟨by (with_reducible repeat (first | apply Kd.R_alloc | apply Kd.R_drewN | apply Kd.R_drew)); exact HO_41.out⟩, ⟨zk⟩, ⟨zk⟩, ⟨zk⟩, ⟨zb⟩⟩
                 case round =>
                  as_aux_lemma =>
                   clear H'
                   (try clear c1); (try clear p2); (try clear c3); (try clear c4); (try clear c5); (try clear c6); (try clear p6); (try clear c7); (try clear c8); (try clear c9); (try clear c10); (try clear c11); (try clear c30); (try clear c37); (try clear c38); (try clear c39); (try clear c40); (try clear c44); (try clear c44b0); (try clear c44b1); (try clear c46); (try clear c46b0); (try clear c46b1); (try clear c48); (try clear c48b0); (try clear c48b1); (try clear c49); (try clear c49b0); (try clear c49b1); (try clear c49b2); (try clear c51); (try clear c52); (try clear c52b0); (try clear c52b1); (try clear c52b2); (try clear c61); (try clear c63); (try clear p64); (try clear c65); (try clear c65b0); (try clear c66); (try clear c67); (try clear c69); (try clear c71); (try clear c72); (try clear c73); (try clear c76); (try clear c77); (try clear c81); (try clear c82); (try clear c83); (try clear c83b0); (try clear c86); (try clear c86b0); (try clear c86b1); (try clear c86b2); (try clear c87); (try clear c87b0); (try clear c87b1); (try clear c88); (try clear c89); (try clear c89b0); (try clear c94); (try clear c98); (try clear c99); (try clear c106); (try clear c107); (try clear c109); (try clear c110); (try clear c110b0); (try clear c110b1); (try clear c110b2); (try clear c113); (try clear hcz100_0); (try clear hcz100_1); (try clear hcz103_0); (try clear hcz103_1); (try clear hcz68_0); (try clear hcz68_1); (try clear hcz74_0); (try clear hcz74_1); (try clear hfz100_0); (try clear hfz100_1); (try clear hfz103_0); (try clear hfz103_1); (try clear hfz68_0); (try clear hfz68_1); (try clear hfz74_0); (try clear hfz74_1); (try clear p2); (try clear p6); (try clear p64)
                   obtain ⟨x290_5, rfl, HA, HK5, HO_28, HO_41, HO_288, BK597, BK620, BK631, HB⟩ := hrel
                   cases gk with
                   | zero => exact absurd HA.out (by simp [laws_FnTrackBounds.l0])
                   | succ k5 =>
                    have H := HA.out
                    clear HA
                    simp only [laws_FnTrackBounds.l0] at H
                    by_cases c115 : x290_5 < (t649.length : Int)
                    ·
                     rw [if_pos c115] at H
                     have c115b0 : decide (x290_5 < (t649.length : Int)) = true := decide_eq_true c115
                     clear c115
                     by_cases c116 : 0 ≤ x290_5
                     ·
                      rw [if_pos c116] at H
                      have c116b0 : decide (0 ≤ x290_5) = true := decide_eq_true c116
                      clear c116
                      by_cases c117 : x290_5 < (t649.length : Int)
                      ·
                       rw [if_pos c117] at H
                       have c117b0 : decide (x290_5 < (t649.length : Int)) = true := decide_eq_true c117
                       clear c117
                       replace H := Option.bind_eq_some_iff.mp H
                       obtain ⟨t659, A1180, H⟩ := H
                       (try dsimp only at H)
                       have A118 := zm A1180
                       clear A1180
                       by_cases c119 : ((decide (t659 > t619)) != ((wrap64 (x290_5 + 1)) == (t649.length : Int))) = true
                       ·
                        rw [if_pos c119] at H
                        have c119b0 : ((decide (t659 > t619)) != ((wrap64 (x290_5 + 1)) == (t649.length : Int))) = true := c119
                        (try (have c119b1 : decide ((decide (t659 > t619)) = ((wrap64 (x290_5 + 1)) == (t649.length : Int))) = false := by simpa using c119))
                        (try (have c119b2 : ((decide (t659 > t619)) == ((wrap64 (x290_5 + 1)) == (t649.length : Int))) = false := by simpa using c119))
                        (try (have c119b3 : ¬ ((decide (t659 > t619)) = ((wrap64 (x290_5 + 1)) == (t649.length : Int))) := by simpa using c119))
                        clear c119
                        exact absurd ((Option.some.inj H).trans hr_) (by decide)
                       ·
                        rw [if_neg c119] at H
                        have c119b0 : ((decide (t659 > t619)) != ((wrap64 (x290_5 + 1)) == (t649.length : Int))) = false := by simpa using c119
                        (try (have c119b1 : decide ((decide (t659 > t619)) = ((wrap64 (x290_5 + 1)) == (t649.length : Int))) = true := by simpa using c119))
                        (try (have c119b2 : ((decide (t659 > t619)) == ((wrap64 (x290_5 + 1)) == (t649.length : Int))) = true := by simpa using c119))
                        clear c119
                        by_cases c120 : x290_5 < (t625.length : Int)
                        ·
                         rw [if_pos c120] at H
                         have c120b0 : decide (x290_5 < (t625.length : Int)) = true := decide_eq_true c120
                         clear c120
                         replace H := Option.bind_eq_some_iff.mp H
                         obtain ⟨t661, A1210, H⟩ := H
                         (try dsimp only at H)
                         have A121 := zm A1210
                         clear A1210
                         by_cases c122 : t661 = t618
                         ·
                          rw [if_pos c122] at H
                          have c122b0 : (t661 == t618) = true := beq_iff_eq.mpr c122
                          have c122b1 : (t661 != t618) = false := bne_eq_false_iff_eq.mpr c122
                          clear c122
                          have H' := zm H
                          clear H
                          have p658 : 0 ≤ (x290_5 : Int) := zd
                          have q658 : x290_5 < (t649.length : Int) := zd
                          obtain ⟨ad658, e658, hx658_0⟩ := Kd.at_int (Kd.R_reads' HO_288.out).2.2 x290_5 p658 q658
                          cases e658
                          replace p658 := eq_true p658
                          replace q658 := eq_true q658
                          go_wp2_with (first | ((with_reducible refine gate_callee (f := 50) rfl ?_); refine goesA_ (some 296) Try.func50 #[.int .i64 (rd t649 x290_5)] rfl ?_; (with_reducible refine (laws_qAbs.calls (rd t649 x290_5) t659 _ A118.out).mono ?_); rintro e w' ⟨rfl, ⟨nd, rfl⟩⟩; refine ⟨_, rfl, ?_⟩; have p660 : 0 ≤ (x290_5 : Int) := zd; have q660 : x290_5 < (t625.length : Int) := zd; obtain ⟨ad660, e660, hx660_0⟩ := Kd.at_int (Kd.R_reads' HO_28.out).2.2 x290_5 p660 q660; cases e660; replace p660 := eq_true p660; replace q660 := eq_true q660) | (go_at_call 50; (with_reducible refine (laws_qAbs.calls (rd t625 x290_5) t661 _ A121.out).mono ?_); rintro e w' ⟨rfl, ⟨nd, rfl⟩⟩))
                          go_roundg k5
                          case measure => have := HJ15.out; have := HJ61.out; have := HJ75.out; have := HJ96.out; have := HK5.out; omega
                          case rel => exact ⟨(wrap64 (x290_5 + 1)), (by first | rfl | (simp; done) | (simp [*]; done)), H', ⟨by have := HJ15.out; have := HJ61.out; have := HJ75.out; have := HJ96.out; have := HK5.out; omega⟩, ⟨by (with_reducible repeat (first | apply Kd.R_alloc | apply Kd.R_drewN | apply Kd.R_drew)); exact HO_28.out⟩, ⟨by (with_reducible repeat (first | apply Kd.R_alloc | apply Kd.R_drewN | apply Kd.R_drew)); exact HO_41.out⟩, ⟨by (with_reducible repeat (first | apply Kd.R_alloc | apply Kd.R_drewN | apply Kd.R_drew)); exact HO_288.out⟩, ⟨zk⟩, ⟨zk⟩, ⟨zk⟩, ⟨zb⟩⟩
                         ·
                          rw [if_neg c122] at H
                          have c122b0 : (t661 == t618) = false := beq_eq_false_iff_ne.mpr c122
                          have c122b1 : (t661 != t618) = true := bne_iff_ne.mpr c122
                          by_cases c123 : (rd t625 x290_5) = 0
                          ·
                           rw [if_pos c123] at H
                           have c123b0 : ((rd t625 x290_5) == 0) = true := beq_iff_eq.mpr c123
                           have c123b1 : ((rd t625 x290_5) != 0) = false := bne_eq_false_iff_eq.mpr c123
                           clear c123
                           have H' := zm H
                           clear H
                           have p658 : 0 ≤ (x290_5 : Int) := zd
                           have q658 : x290_5 < (t649.length : Int) := zd
                           obtain ⟨ad658, e658, hx658_0⟩ := Kd.at_int (Kd.R_reads' HO_288.out).2.2 x290_5 p658 q658
                           cases e658
                           replace p658 := eq_true p658
                           replace q658 := eq_true q658
                           go_wp2_with (first | ((with_reducible refine gate_callee (f := 50) rfl ?_); refine goesA_ (some 296) Try.func50 #[.int .i64 (rd t649 x290_5)] rfl ?_; (with_reducible refine (laws_qAbs.calls (rd t649 x290_5) t659 _ A118.out).mono ?_); rintro e w' ⟨rfl, ⟨nd, rfl⟩⟩; refine ⟨_, rfl, ?_⟩; have p660 : 0 ≤ (x290_5 : Int) := zd; have q660 : x290_5 < (t625.length : Int) := zd; obtain ⟨ad660, e660, hx660_0⟩ := Kd.at_int (Kd.R_reads' HO_28.out).2.2 x290_5 p660 q660; cases e660; replace p660 := eq_true p660; replace q660 := eq_true q660) | (go_at_call 50; (with_reducible refine (laws_qAbs.calls (rd t625 x290_5) t661 _ A121.out).mono ?_); rintro e w' ⟨rfl, ⟨nd, rfl⟩⟩; have p662 : 0 ≤ (x290_5 : Int) := zd; have q662 : x290_5 < (t625.length : Int) := zd; obtain ⟨ad662, e662, hx662_0⟩ := Kd.at_int (Kd.R_reads' HO_28.out).2.2 x290_5 p662 q662; obtain rfl : ad660 = ad662 := (by injection e662); replace p662 := eq_true p662; replace q662 := eq_true q662))
                           go_roundg k5
                           case measure => have := HJ15.out; have := HJ61.out; have := HJ75.out; have := HJ96.out; have := HK5.out; omega
                           case rel => exact ⟨(wrap64 (x290_5 + 1)), (by first | rfl | (simp; done) | (simp [*]; done)), H', ⟨by have := HJ15.out; have := HJ61.out; have := HJ75.out; have := HJ96.out; have := HK5.out; omega⟩, ⟨by (with_reducible repeat (first | apply Kd.R_alloc | apply Kd.R_drewN | apply Kd.R_drew)); exact HO_28.out⟩, ⟨by (with_reducible repeat (first | apply Kd.R_alloc | apply Kd.R_drewN | apply Kd.R_drew)); exact HO_41.out⟩, ⟨by (with_reducible repeat (first | apply Kd.R_alloc | apply Kd.R_drewN | apply Kd.R_drew)); exact HO_288.out⟩, ⟨zk⟩, ⟨zk⟩, ⟨zk⟩, ⟨zb⟩⟩
                          ·
                           rw [if_neg c123] at H
                           have c123b0 : ((rd t625 x290_5) == 0) = false := beq_eq_false_iff_ne.mpr c123
                           have c123b1 : ((rd t625 x290_5) != 0) = true := bne_iff_ne.mpr c123
                           exact absurd ((Option.some.inj H).trans hr_) (by decide)
                        ·
                         rw [if_neg c120] at H
                         exact absurd H (by simp)
                      ·
                       rw [if_neg c117] at H
                       exact absurd H (by simp)
                     ·
                      rw [if_neg c116] at H
                      exact absurd H (by simp)
                    ·
                     rw [if_neg c115] at H
                     have c115b0 : decide (x290_5 < (t649.length : Int)) = false := decide_eq_false c115
                     clear c115
                     replace H := Option.bind_eq_some_iff.mp H
                     obtain ⟨⟨t654, t655⟩, A1240, H⟩ := H
                     (try dsimp only at H)
                     have A124 := zm A1240
                     clear A1240
                     replace H := Option.bind_eq_some_iff.mp H
                     obtain ⟨⟨t656, t657⟩, A1250, H⟩ := H
                     (try dsimp only at H)
                     have A125 := zm A1250
                     clear A1250
                     by_cases c126 : (t655 == t657) = true
                     ·
                      rw [if_pos c126] at H
                      have c126b0 : (t655 == t657) = true := c126
                      (try (have c126b1 : decide (t655 = t657) = true := by simpa using c126))
                      (try (have c126b2 : (t655 == t657) = true := by simpa using c126))
                      clear c126
                      by_cases c127 : t654 = t656
                      ·
                       rw [if_pos c127] at H
                       have c127b0 : (t654 == t656) = true := beq_iff_eq.mpr c127
                       have c127b1 : (t654 != t656) = false := bne_eq_false_iff_eq.mpr c127
                       clear c127
                       by_cases c128 : t657 = true
                       ·
                        subst c128
                        have H1 : (some (decide (t619 < t656))) = some r := by rw [if_pos rfl] at H; exact H
                        clear H
                        have H := H1
                        clear H1
                        obtain rfl := Option.some.inj H
                        have hnb129 := NB620_597.out
                        have hnc129 := NB597_620.out
                        have hnb130 := NB620_631.out
                        have hnc130 := NB631_620.out
                        obtain ⟨hcz131_0, hcz131_1, hfz131_0, hfz131_1⟩ := zc2 BK620.out
                        go_wp2_with (first | ((with_reducible refine gate_callee (f := 69) rfl ?_); refine goesA_ (some 325) Try.func69 #[.agg #[.int .i64 t616, .int .i64 t617], .int .i64 t618] rfl ?_; (with_reducible refine (impl_SafeBound.calls t616 t617 t618 t654 t655 _ A124.out).mono ?_); rintro e w132 ⟨rfl, hb⟩; refine ⟨_, rfl, ?_⟩; have n0_ := zm (Kd.R_below (by (with_reducible repeat (first | apply Kd.R_alloc | apply Kd.R_drewN | apply Kd.R_drew)); exact HO_28.out) hb); have n1_ := zm (Kd.R_below (by (with_reducible repeat (first | apply Kd.R_alloc | apply Kd.R_drewN | apply Kd.R_drew)); exact HO_41.out) hb); have n2_ := zm (Kd.R_below (by (with_reducible repeat (first | apply Kd.R_alloc | apply Kd.R_drewN | apply Kd.R_drew)); exact HO_288.out) hb); have n3_ := zm (blk_below (g := gb597) (o := .cells #[.int .i64 t594, .int .i64 t595] 47 (0, 0)) zk hb); have n4_ := zm (blk_below (g := gb620) (o := .cells #[.int .i64 t616, .int .i64 t617] 47 (0, 0)) zk hb); have n5_ := zm (blk_below (g := gb631) (o := .cells #[.int .i64 t629, .int .i64 t630] 47 (0, 0)) zk hb); have n6_ := zm (below_step zb hb); clear HO_28; clear HO_41; clear HO_288; clear BK597; clear BK620; clear BK631; clear HB; have HO_28 := n0_; have HO_41 := n1_; have HO_288 := n2_; have BK597 := n3_; have BK620 := n4_; have BK631 := n5_; have HB := n6_; clear n0_ n1_ n2_ n3_ n4_ n5_ n6_; (try clear hb); (try clear hb2); (try clear hk); (try clear hi); obtain ⟨hcz133_0, hcz133_1, hfz133_0, hfz133_1⟩ := zc2 BK620.out) | ((with_reducible refine gate_callee (f := 70) rfl ?_); refine goesA_ (some 331) Try.func70 #[.agg #[.int .i64 t616, .int .i64 t617], .int .i64 t618] rfl ?_; (with_reducible refine (spec_SafeBound.calls t616 t617 t618 t656 true _ A125.out).mono ?_); rintro e w134 ⟨rfl, hb⟩; refine ⟨_, rfl, ?_⟩; have n0_ := zm (Kd.R_below (by (with_reducible repeat (first | apply Kd.R_alloc | apply Kd.R_drewN | apply Kd.R_drew)); exact HO_28.out) hb); have n1_ := zm (Kd.R_below (by (with_reducible repeat (first | apply Kd.R_alloc | apply Kd.R_drewN | apply Kd.R_drew)); exact HO_41.out) hb); have n2_ := zm (Kd.R_below (by (with_reducible repeat (first | apply Kd.R_alloc | apply Kd.R_drewN | apply Kd.R_drew)); exact HO_288.out) hb); have n3_ := zm (blk_below (g := gb597) (o := .cells #[.int .i64 t594, .int .i64 t595] 47 (0, 0)) zk hb); have n4_ := zm (blk_below (g := gb620) (o := .cells #[.int .i64 t616, .int .i64 t617] 47 (0, 0)) zk hb); have n5_ := zm (blk_below (g := gb631) (o := .cells #[.int .i64 t629, .int .i64 t630] 47 (0, 0)) zk hb); have n6_ := zm (below_step zb hb); clear HO_28; clear HO_41; clear HO_288; clear BK597; clear BK620; clear BK631; clear HB; have HO_28 := n0_; have HO_41 := n1_; have HO_288 := n2_; have BK597 := n3_; have BK620 := n4_; have BK631 := n5_; have HB := n6_; clear n0_ n1_ n2_ n3_ n4_ n5_ n6_; (try clear hb); (try clear hb2); (try clear hk); (try clear hi)))
                        go_ret
                        exact ⟨zr, zb⟩
                       ·
                        replace c128 := Bool.eq_false_iff.mpr c128
                        subst c128
                        have H1 : (some true) = some r := by rw [if_neg (show ¬ (false = true) by decide)] at H; exact H
                        clear H
                        have H := H1
                        clear H1
                        obtain rfl := Option.some.inj H
                        have hnb135 := NB620_597.out
                        have hnc135 := NB597_620.out
                        have hnb136 := NB620_631.out
                        have hnc136 := NB631_620.out
                        obtain ⟨hcz137_0, hcz137_1, hfz137_0, hfz137_1⟩ := zc2 BK620.out
                        go_wp2_with (first | ((with_reducible refine gate_callee (f := 69) rfl ?_); refine goesA_ (some 325) Try.func69 #[.agg #[.int .i64 t616, .int .i64 t617], .int .i64 t618] rfl ?_; (with_reducible refine (impl_SafeBound.calls t616 t617 t618 t654 t655 _ A124.out).mono ?_); rintro e w138 ⟨rfl, hb⟩; refine ⟨_, rfl, ?_⟩; have n0_ := zm (Kd.R_below (by (with_reducible repeat (first | apply Kd.R_alloc | apply Kd.R_drewN | apply Kd.R_drew)); exact HO_28.out) hb); have n1_ := zm (Kd.R_below (by (with_reducible repeat (first | apply Kd.R_alloc | apply Kd.R_drewN | apply Kd.R_drew)); exact HO_41.out) hb); have n2_ := zm (Kd.R_below (by (with_reducible repeat (first | apply Kd.R_alloc | apply Kd.R_drewN | apply Kd.R_drew)); exact HO_288.out) hb); have n3_ := zm (blk_below (g := gb597) (o := .cells #[.int .i64 t594, .int .i64 t595] 47 (0, 0)) zk hb); have n4_ := zm (blk_below (g := gb620) (o := .cells #[.int .i64 t616, .int .i64 t617] 47 (0, 0)) zk hb); have n5_ := zm (blk_below (g := gb631) (o := .cells #[.int .i64 t629, .int .i64 t630] 47 (0, 0)) zk hb); have n6_ := zm (below_step zb hb); clear HO_28; clear HO_41; clear HO_288; clear BK597; clear BK620; clear BK631; clear HB; have HO_28 := n0_; have HO_41 := n1_; have HO_288 := n2_; have BK597 := n3_; have BK620 := n4_; have BK631 := n5_; have HB := n6_; clear n0_ n1_ n2_ n3_ n4_ n5_ n6_; (try clear hb); (try clear hb2); (try clear hk); (try clear hi); obtain ⟨hcz139_0, hcz139_1, hfz139_0, hfz139_1⟩ := zc2 BK620.out) | ((with_reducible refine gate_callee (f := 70) rfl ?_); refine goesA_ (some 331) Try.func70 #[.agg #[.int .i64 t616, .int .i64 t617], .int .i64 t618] rfl ?_; (with_reducible refine (spec_SafeBound.calls t616 t617 t618 t656 false _ A125.out).mono ?_); rintro e w140 ⟨rfl, hb⟩; refine ⟨_, rfl, ?_⟩; have n0_ := zm (Kd.R_below (by (with_reducible repeat (first | apply Kd.R_alloc | apply Kd.R_drewN | apply Kd.R_drew)); exact HO_28.out) hb); have n1_ := zm (Kd.R_below (by (with_reducible repeat (first | apply Kd.R_alloc | apply Kd.R_drewN | apply Kd.R_drew)); exact HO_41.out) hb); have n2_ := zm (Kd.R_below (by (with_reducible repeat (first | apply Kd.R_alloc | apply Kd.R_drewN | apply Kd.R_drew)); exact HO_288.out) hb); have n3_ := zm (blk_below (g := gb597) (o := .cells #[.int .i64 t594, .int .i64 t595] 47 (0, 0)) zk hb); have n4_ := zm (blk_below (g := gb620) (o := .cells #[.int .i64 t616, .int .i64 t617] 47 (0, 0)) zk hb); have n5_ := zm (blk_below (g := gb631) (o := .cells #[.int .i64 t629, .int .i64 t630] 47 (0, 0)) zk hb); have n6_ := zm (below_step zb hb); clear HO_28; clear HO_41; clear HO_288; clear BK597; clear BK620; clear BK631; clear HB; have HO_28 := n0_; have HO_41 := n1_; have HO_288 := n2_; have BK597 := n3_; have BK620 := n4_; have BK631 := n5_; have HB := n6_; clear n0_ n1_ n2_ n3_ n4_ n5_ n6_; (try clear hb); (try clear hb2); (try clear hk); (try clear hi)))
                        go_ret
                        exact ⟨zr, zb⟩
                      ·
                       rw [if_neg c127] at H
                       have c127b0 : (t654 == t656) = false := beq_eq_false_iff_ne.mpr c127
                       have c127b1 : (t654 != t656) = true := bne_iff_ne.mpr c127
                       exact absurd ((Option.some.inj H).trans hr_) (by decide)
                     ·
                      rw [if_neg c126] at H
                      have c126b0 : (t655 == t657) = false := by simpa using c126
                      (try (have c126b1 : decide (t655 = t657) = false := by simpa using c126))
                      (try (have c126b2 : (t655 == t657) = false := by simpa using c126))
                      (try (have c126b3 : ¬ (t655 = t657) := by simpa using c126))
                      clear c126
                      exact absurd ((Option.some.inj H).trans hr_) (by decide)
            ·
             replace c94 := Bool.eq_false_iff.mpr c94
             subst c94
             have H1 : (some true) = some r := by rw [if_neg (show ¬ (false = true) by decide)] at H; exact H
             clear H
             have H := H1
             clear H1
             obtain rfl := Option.some.inj H
             go_wp2
             go_ret
             exact ⟨zr, zb⟩


end Go.Proofs.Ytepkedhmbfkenaa.PTb
