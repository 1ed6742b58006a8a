-- Written for this claim by a program of this session (wip/tpl/patchprint.py), not by print.sh.
import Derived.Test.YtepkedhmbfkenaaPRsx0
import Derived.Test.YtepkedhmbfkenaaPRsx1
import Derived.Test.YtepkedhmbfkenaaPRsx2
import Derived.Test.YtepkedhmbfkenaaPRsx3
import Derived.Test.YtepkedhmbfkenaaPRsx7
import Derived.Test.YtepkedhmbfkenaaPRsx11
namespace Go.Proofs.Ytepkedhmbfkenaa.PRs
open Go.RowKit Go.Proofs.YtepkedhmbfkenaaW.PrintWords Go.Proofs.YtepkedhmbfkenaaW.PrintLast Go.Proofs.YtepkedhmbfkenaaW.PrintMore
attribute [local go_sem] max2_int min2_int max_two min_two max_three min_three max_four min_four   -- for this text's walks alone
set_option linter.unusedVariables false
set_option linter.unusedSimpArgs false

/-! ### laws_FnExactReadStep: function 5 -/
mutual
def laws_FnExactReadStep.j0 : Nat → List Int → List Int → Bool → List Int → List Int → Bool → Bool → List (S139) → Int → List Int → List (S137) → Int → List Int → List (S137) → Int → List Int → List (S137) → Int → List Int → Option (Bool)
  | 0, _, _, _, _, _, _, _, _, _, _, _, _, _, _, _, _, _, _, _ => none
  | k + 1, x5, x6, x7, x10, x11, x12, x62, x342000, x342001, x342002, x365000, x365001, x365002, x373000, x373001, x373002, x388000, x388001, x388002 => if x62 = true then (some false) else ((laws_toReader.f k x342000 x342001 x342002).bind fun bt391 => ((laws_eqReader.f k x373000 x373001 x373002 bt391.1 bt391.2.1 bt391.2.2).bind fun t398 => (if t398 = true then ((laws_markReader.f k x373000 x373001 x373002 1).bind fun bt399 => (if bt399.1 < 0 then (laws_FnExactReadStep.j1 k x5 x6 x7 x10 x11 true x342000 x342001 x342002 x365000 x365001 x365002 x388000 x388001 x388002) else ((laws_eqReader.f k x388000 x388001 x388002 x365000 x365001 x365002).bind fun t402 => (if t402 = true then ((laws_eqIntS.f k x10 x5).bind fun t403 => (if t403 = true then ((laws_eqIntS.f k x11 x6).bind fun t404 => (if t404 = true then (laws_FnExactReadStep.j1 k x5 x6 x7 x10 x11 (x12 != x7) x342000 x342001 x342002 x365000 x365001 x365002 x388000 x388001 x388002) else (laws_FnExactReadStep.j1 k x5 x6 x7 x10 x11 true x342000 x342001 x342002 x365000 x365001 x365002 x388000 x388001 x388002))) else (laws_FnExactReadStep.j1 k x5 x6 x7 x10 x11 true x342000 x342001 x342002 x365000 x365001 x365002 x388000 x388001 x388002))) else (laws_FnExactReadStep.j1 k x5 x6 x7 x10 x11 true x342000 x342001 x342002 x365000 x365001 x365002 x388000 x388001 x388002))))) else (some false))))
def laws_FnExactReadStep.j1 : Nat → List Int → List Int → Bool → List Int → List Int → Bool → List (S139) → Int → List Int → List (S137) → Int → List Int → List (S137) → Int → List Int → Option (Bool)
  | 0, _, _, _, _, _, _, _, _, _, _, _, _, _, _, _ => none
  | k + 1, x5, x6, x7, x10, x11, x95, x342000, x342001, x342002, x365000, x365001, x365002, x388000, x388001, x388002 => if x95 = true then (some false) else ((laws_markReader.f k x388000 x388001 x388002 1).bind fun bt405 => ((laws_markIntS.f k x10 bt405.1).bind fun bt408 => ((laws_markIntS.f k x11 bt408.1).bind fun bt410 => ((laws_heldReader.f k bt405.2.1 x388001 bt405.2.2 1).bind fun t412 => (if t412 < 0 then (some false) else ((laws_heldIntS.f k bt408.2 t412).bind fun t413 => (if t413 < 0 then (some false) else ((laws_heldIntS.f k bt410.2 t413).bind fun t414 => (if t414 < 0 then (some false) else (if t414 = bt410.1 then ((laws_toReader.f k x342000 x342001 x342002).bind fun bt415 => ((impl_ReadStep.f k bt415.1 bt415.2.1 bt415.2.2).bind fun bt422 => ((laws_eqReader.f k bt422.1 bt422.2.1 bt422.2.2.1 x365000 x365001 x365002).bind fun t437 => (if t437 = true then ((laws_eqIntS.f k bt422.2.2.2.1 x5).bind fun t438 => (if t438 = true then ((laws_eqIntS.f k bt422.2.2.2.2.1 x6).bind fun t439 => (if t439 = true then (laws_FnExactReadStep.j2 k bt408.2 bt410.2 bt410.1 (bt422.2.2.2.2.2 != x7) bt405.2.1 x388001 bt405.2.2) else (laws_FnExactReadStep.j2 k bt408.2 bt410.2 bt410.1 true bt405.2.1 x388001 bt405.2.2))) else (laws_FnExactReadStep.j2 k bt408.2 bt410.2 bt410.1 true bt405.2.1 x388001 bt405.2.2))) else (laws_FnExactReadStep.j2 k bt408.2 bt410.2 bt410.1 true bt405.2.1 x388001 bt405.2.2))))) else (some false)))))))))))
def laws_FnExactReadStep.j2 : Nat → List Int → List Int → Int → Bool → List (S137) → Int → List Int → Option (Bool)
  | 0, _, _, _, _, _, _, _ => none
  | k + 1, x10, x11, x14, x151, x388000, x388001, x388002 => if x151 = true then (some false) else ((laws_heldReader.f k x388000 x388001 x388002 1).bind fun t440 => (if t440 < 0 then (some false) else ((laws_heldIntS.f k x10 t440).bind fun t441 => (if t441 < 0 then (some false) else ((laws_heldIntS.f k x11 t441).bind fun t442 => (if t442 < 0 then (some false) else (if t442 = x14 then (some true) else (some false))))))))
end
def laws_FnExactReadStep.f (k : Nat) (l0_0 : List (S139)) (a0_1 : Int) (l0_2 : List Int) : Option (Bool) := (laws_szReader.f l0_0 a0_1 l0_2 1048576).bind fun t342 => (if t342 < 0 then (some true) else ((laws_toReader.f k l0_0 a0_1 l0_2).bind fun bt343 => ((spec_ReadStep.f k bt343.1 bt343.2.1 bt343.2.2).bind fun bt350 => ((laws_toReader.f k l0_0 a0_1 l0_2).bind fun bt365 => ((impl_ReadStep.f k bt365.1 bt365.2.1 bt365.2.2).bind fun bt373 => ((laws_eqReader.f k bt373.1 bt373.2.1 bt373.2.2.1 bt350.1 bt350.2.1 bt350.2.2.1).bind fun t388 => (if t388 = true then ((laws_eqIntS.f k bt373.2.2.2.1 bt350.2.2.2.1).bind fun t389 => (if t389 = true then ((laws_eqIntS.f k bt373.2.2.2.2.1 bt350.2.2.2.2.1).bind fun t390 => (if t390 = true then (laws_FnExactReadStep.j0 k bt350.2.2.2.1 bt350.2.2.2.2.1 bt350.2.2.2.2.2 bt373.2.2.2.1 bt373.2.2.2.2.1 bt373.2.2.2.2.2 (bt373.2.2.2.2.2 != bt350.2.2.2.2.2) l0_0 a0_1 l0_2 bt350.1 bt350.2.1 bt350.2.2.1 bt365.1 bt365.2.1 bt365.2.2 bt373.1 bt373.2.1 bt373.2.2.1) else (laws_FnExactReadStep.j0 k bt350.2.2.2.1 bt350.2.2.2.2.1 bt350.2.2.2.2.2 bt373.2.2.2.1 bt373.2.2.2.2.1 bt373.2.2.2.2.2 true l0_0 a0_1 l0_2 bt350.1 bt350.2.1 bt350.2.2.1 bt365.1 bt365.2.1 bt365.2.2 bt373.1 bt373.2.1 bt373.2.2.1))) else (laws_FnExactReadStep.j0 k bt350.2.2.2.1 bt350.2.2.2.2.1 bt350.2.2.2.2.2 bt373.2.2.2.1 bt373.2.2.2.2.1 bt373.2.2.2.2.2 true l0_0 a0_1 l0_2 bt350.1 bt350.2.1 bt350.2.2.1 bt365.1 bt365.2.1 bt365.2.2 bt373.1 bt373.2.1 bt373.2.2.1))) else (laws_FnExactReadStep.j0 k bt350.2.2.2.1 bt350.2.2.2.2.1 bt350.2.2.2.2.2 bt373.2.2.2.1 bt373.2.2.2.2.1 bt373.2.2.2.2.2 true l0_0 a0_1 l0_2 bt350.1 bt350.2.1 bt350.2.2.1 bt365.1 bt365.2.1 bt365.2.2 bt373.1 bt373.2.1 bt373.2.2.1))))))))
theorem laws_FnExactReadStep.mono_l : ∀ k, (∀ y0 y1 y2 y3 y4 y5 y6 y7 y8 y9 y10 y11 y12 y13 y14 y15 y16 y17 y18, LeO (laws_FnExactReadStep.j0 k y0 y1 y2 y3 y4 y5 y6 y7 y8 y9 y10 y11 y12 y13 y14 y15 y16 y17 y18) (laws_FnExactReadStep.j0 (k + 1) y0 y1 y2 y3 y4 y5 y6 y7 y8 y9 y10 y11 y12 y13 y14 y15 y16 y17 y18)) ∧ (∀ y0 y1 y2 y3 y4 y5 y6 y7 y8 y9 y10 y11 y12 y13 y14, LeO (laws_FnExactReadStep.j1 k y0 y1 y2 y3 y4 y5 y6 y7 y8 y9 y10 y11 y12 y13 y14) (laws_FnExactReadStep.j1 (k + 1) y0 y1 y2 y3 y4 y5 y6 y7 y8 y9 y10 y11 y12 y13 y14)) ∧ (∀ y0 y1 y2 y3 y4 y5 y6, LeO (laws_FnExactReadStep.j2 k y0 y1 y2 y3 y4 y5 y6) (laws_FnExactReadStep.j2 (k + 1) y0 y1 y2 y3 y4 y5 y6))
  | 0 => ⟨fun _ _ _ _ _ _ _ _ _ _ _ _ _ _ _ _ _ _ _ r h => by simp [laws_FnExactReadStep.j0] at h, fun _ _ _ _ _ _ _ _ _ _ _ _ _ _ _ r h => by simp [laws_FnExactReadStep.j1] at h, fun _ _ _ _ _ _ _ r h => by simp [laws_FnExactReadStep.j2] at h⟩
  | k + 1 => by
    obtain ⟨ih0, ih1, ih2⟩ := laws_FnExactReadStep.mono_l k
    refine ⟨?_, ?_, ?_⟩
    · intro y0 y1 y2 y3 y4 y5 y6 y7 y8 y9 y10 y11 y12 y13 y14 y15 y16 y17 y18
      unfold laws_FnExactReadStep.j0
      repeat' first
      | (with_reducible exact ih0 _ _ _ _ _ _ _ _ _ _ _ _ _ _ _ _ _ _ _)
      | (with_reducible exact ih1 _ _ _ _ _ _ _ _ _ _ _ _ _ _ _)
      | (with_reducible exact ih2 _ _ _ _ _ _ _)
      | (with_reducible exact impl_ReadStep.mono _ _ _ _)
      | (with_reducible exact laws_eqIntS.mono _ _ _)
      | (with_reducible exact laws_eqReader.mono _ _ _ _ _ _ _)
      | (with_reducible exact laws_heldIntS.mono _ _ _)
      | (with_reducible exact laws_heldReader.mono _ _ _ _ _)
      | (with_reducible exact laws_markIntS.mono _ _ _)
      | (with_reducible exact laws_markReader.mono _ _ _ _ _)
      | (with_reducible exact laws_toReader.mono _ _ _ _)
      | (with_reducible exact spec_ReadStep.mono _ _ _ _)
      | (with_reducible exact LeO.refl _)
      | (with_reducible exact LeO.none _)
      | (with_reducible refine LeO.ite ?_ ?_)
      | (with_reducible refine LeO.bind ?_ (fun _ => ?_))
      | exact ih0 _ _ _ _ _ _ _ _ _ _ _ _ _ _ _ _ _ _ _
      | exact ih1 _ _ _ _ _ _ _ _ _ _ _ _ _ _ _
      | exact ih2 _ _ _ _ _ _ _
      | exact impl_ReadStep.mono _ _ _ _
      | exact laws_eqIntS.mono _ _ _
      | exact laws_eqReader.mono _ _ _ _ _ _ _
      | exact laws_heldIntS.mono _ _ _
      | exact laws_heldReader.mono _ _ _ _ _
      | exact laws_markIntS.mono _ _ _
      | exact laws_markReader.mono _ _ _ _ _
      | exact laws_toReader.mono _ _ _ _
      | exact spec_ReadStep.mono _ _ _ _
      | exact LeO.none _
      | refine LeO.ite ?_ ?_
      | refine LeO.bind ?_ (fun _ => ?_)
    · intro y0 y1 y2 y3 y4 y5 y6 y7 y8 y9 y10 y11 y12 y13 y14
      unfold laws_FnExactReadStep.j1
      repeat' first
      | (with_reducible exact ih0 _ _ _ _ _ _ _ _ _ _ _ _ _ _ _ _ _ _ _)
      | (with_reducible exact ih1 _ _ _ _ _ _ _ _ _ _ _ _ _ _ _)
      | (with_reducible exact ih2 _ _ _ _ _ _ _)
      | (with_reducible exact impl_ReadStep.mono _ _ _ _)
      | (with_reducible exact laws_eqIntS.mono _ _ _)
      | (with_reducible exact laws_eqReader.mono _ _ _ _ _ _ _)
      | (with_reducible exact laws_heldIntS.mono _ _ _)
      | (with_reducible exact laws_heldReader.mono _ _ _ _ _)
      | (with_reducible exact laws_markIntS.mono _ _ _)
      | (with_reducible exact laws_markReader.mono _ _ _ _ _)
      | (with_reducible exact laws_toReader.mono _ _ _ _)
      | (with_reducible exact spec_ReadStep.mono _ _ _ _)
      | (with_reducible exact LeO.refl _)
      | (with_reducible exact LeO.none _)
      | (with_reducible refine LeO.ite ?_ ?_)
      | (with_reducible refine LeO.bind ?_ (fun _ => ?_))
      | exact ih0 _ _ _ _ _ _ _ _ _ _ _ _ _ _ _ _ _ _ _
      | exact ih1 _ _ _ _ _ _ _ _ _ _ _ _ _ _ _
      | exact ih2 _ _ _ _ _ _ _
      | exact impl_ReadStep.mono _ _ _ _
      | exact laws_eqIntS.mono _ _ _
      | exact laws_eqReader.mono _ _ _ _ _ _ _
      | exact laws_heldIntS.mono _ _ _
      | exact laws_heldReader.mono _ _ _ _ _
      | exact laws_markIntS.mono _ _ _
      | exact laws_markReader.mono _ _ _ _ _
      | exact laws_toReader.mono _ _ _ _
      | exact spec_ReadStep.mono _ _ _ _
      | exact LeO.none _
      | refine LeO.ite ?_ ?_
      | refine LeO.bind ?_ (fun _ => ?_)
    · intro y0 y1 y2 y3 y4 y5 y6
      unfold laws_FnExactReadStep.j2
      repeat' first
      | (with_reducible exact ih0 _ _ _ _ _ _ _ _ _ _ _ _ _ _ _ _ _ _ _)
      | (with_reducible exact ih1 _ _ _ _ _ _ _ _ _ _ _ _ _ _ _)
      | (with_reducible exact ih2 _ _ _ _ _ _ _)
      | (with_reducible exact impl_ReadStep.mono _ _ _ _)
      | (with_reducible exact laws_eqIntS.mono _ _ _)
      | (with_reducible exact laws_eqReader.mono _ _ _ _ _ _ _)
      | (with_reducible exact laws_heldIntS.mono _ _ _)
      | (with_reducible exact laws_heldReader.mono _ _ _ _ _)
      | (with_reducible exact laws_markIntS.mono _ _ _)
      | (with_reducible exact laws_markReader.mono _ _ _ _ _)
      | (with_reducible exact laws_toReader.mono _ _ _ _)
      | (with_reducible exact spec_ReadStep.mono _ _ _ _)
      | (with_reducible exact LeO.refl _)
      | (with_reducible exact LeO.none _)
      | (with_reducible refine LeO.ite ?_ ?_)
      | (with_reducible refine LeO.bind ?_ (fun _ => ?_))
      | exact ih0 _ _ _ _ _ _ _ _ _ _ _ _ _ _ _ _ _ _ _
      | exact ih1 _ _ _ _ _ _ _ _ _ _ _ _ _ _ _
      | exact ih2 _ _ _ _ _ _ _
      | exact impl_ReadStep.mono _ _ _ _
      | exact laws_eqIntS.mono _ _ _
      | exact laws_eqReader.mono _ _ _ _ _ _ _
      | exact laws_heldIntS.mono _ _ _
      | exact laws_heldReader.mono _ _ _ _ _
      | exact laws_markIntS.mono _ _ _
      | exact laws_markReader.mono _ _ _ _ _
      | exact laws_toReader.mono _ _ _ _
      | exact spec_ReadStep.mono _ _ _ _
      | exact LeO.none _
      | refine LeO.ite ?_ ?_
      | refine LeO.bind ?_ (fun _ => ?_)
theorem laws_FnExactReadStep.mono : ∀ a0 a1 a2 k, LeO (laws_FnExactReadStep.f k a0 a1 a2) (laws_FnExactReadStep.f (k + 1) a0 a1 a2) := by
  intro a0 a1 a2 k
  obtain ⟨ih0, ih1, ih2⟩ := laws_FnExactReadStep.mono_l k
  unfold laws_FnExactReadStep.f
  repeat' first
      | (with_reducible exact ih0 _ _ _ _ _ _ _ _ _ _ _ _ _ _ _ _ _ _ _)
      | (with_reducible exact ih1 _ _ _ _ _ _ _ _ _ _ _ _ _ _ _)
      | (with_reducible exact ih2 _ _ _ _ _ _ _)
      | (with_reducible exact impl_ReadStep.mono _ _ _ _)
      | (with_reducible exact laws_eqIntS.mono _ _ _)
      | (with_reducible exact laws_eqReader.mono _ _ _ _ _ _ _)
      | (with_reducible exact laws_heldIntS.mono _ _ _)
      | (with_reducible exact laws_heldReader.mono _ _ _ _ _)
      | (with_reducible exact laws_markIntS.mono _ _ _)
      | (with_reducible exact laws_markReader.mono _ _ _ _ _)
      | (with_reducible exact laws_toReader.mono _ _ _ _)
      | (with_reducible exact spec_ReadStep.mono _ _ _ _)
      | (with_reducible exact LeO.refl _)
      | (with_reducible exact LeO.none _)
      | (with_reducible refine LeO.ite ?_ ?_)
      | (with_reducible refine LeO.bind ?_ (fun _ => ?_))
      | exact ih0 _ _ _ _ _ _ _ _ _ _ _ _ _ _ _ _ _ _ _
      | exact ih1 _ _ _ _ _ _ _ _ _ _ _ _ _ _ _
      | exact ih2 _ _ _ _ _ _ _
      | exact impl_ReadStep.mono _ _ _ _
      | exact laws_eqIntS.mono _ _ _
      | exact laws_eqReader.mono _ _ _ _ _ _ _
      | exact laws_heldIntS.mono _ _ _
      | exact laws_heldReader.mono _ _ _ _ _
      | exact laws_markIntS.mono _ _ _
      | exact laws_markReader.mono _ _ _ _ _
      | exact laws_toReader.mono _ _ _ _
      | exact spec_ReadStep.mono _ _ _ _
      | exact LeO.none _
      | refine LeO.ite ?_ ?_
      | refine LeO.bind ?_ (fun _ => ?_)

end Go.Proofs.Ytepkedhmbfkenaa.PRs
