-- Written for this claim by a program of this session (wip/tpl/patchprint.py), not by print.sh.
import Derived.Test.YtepkedhmbfkenaaPTkx0
import Derived.Test.YtepkedhmbfkenaaPTkx1
import Derived.Test.YtepkedhmbfkenaaPTkx2
import Derived.Test.YtepkedhmbfkenaaPTkx3
import Derived.Test.YtepkedhmbfkenaaPTkx4
import Derived.Test.YtepkedhmbfkenaaPTkx5
import Derived.Test.YtepkedhmbfkenaaPTkx6
namespace Go.Proofs.Ytepkedhmbfkenaa.PTk
open Go.RowKit Go.Proofs.YtepkedhmbfkenaaW.PrintWords Go.Proofs.YtepkedhmbfkenaaW.PrintLast Go.Proofs.YtepkedhmbfkenaaW.PrintMore
attribute [local go_sem] max2_int min2_int max_two min_two max_three min_three max_four min_four   -- for this text's walks alone
set_option linter.unusedVariables false
set_option linter.unusedSimpArgs false

theorem laws_FnTracking.j0_t {k : Nat} : ∀ {a0_ a1_ a2_ a3_ a4_ a5_ a6_ a7_ a8_ a9_ a11_ a12_ a13_ a14_}, laws_FnTracking.j0 k a0_ a1_ a2_ a3_ a4_ a5_ a6_ a7_ a8_ a9_ true a11_ a12_ a13_ a14_ = some true → False := by
  intros; rename_i h; revert h; cases k <;> simp [laws_FnTracking.j0]
theorem laws_FnTracking.j6_t {k : Nat} : ∀ {a0_ a1_ a2_ a3_ a4_ a5_ a6_ a7_ a8_ a9_ a10_ a11_ a12_ a14_ a15_}, laws_FnTracking.j6 k a0_ a1_ a2_ a3_ a4_ a5_ a6_ a7_ a8_ a9_ a10_ a11_ a12_ true a14_ a15_ = some true → False := by
  intros; rename_i h; revert h; cases k <;> simp [laws_FnTracking.j6]
theorem laws_FnTracking.j2_t {k : Nat} : ∀ {a0_ a1_ a2_ a3_ a4_ a5_ a6_ a7_ a8_ a9_ a11_ a12_ a13_ a14_}, laws_FnTracking.j2 k a0_ a1_ a2_ a3_ a4_ a5_ a6_ a7_ a8_ a9_ true a11_ a12_ a13_ a14_ = some true → False := by
  intros; rename_i h; revert h; cases k <;> simp [laws_FnTracking.j2]
set_option maxHeartbeats 8000000 in
set_option maxRecDepth 100000 in
theorem laws_FnTracking.calls (k : Nat) (A0 : Option Addr) (c0 : Nat) (l0 : List Int) (A1 : Option Addr) (c1 : Nat) (l1 : List Int) (r : Bool) (w : World) (hr0 : Kd.C (Kd.int .u8) w A0 l0.length l0) (hc0 : l0.length ≤ c0) (hr1 : Kd.C (Kd.int .u8) w A1 l1.length l1) (hc1 : l1.length ≤ c1) (h : laws_FnTracking.f k l0 l1 = some r) (hr_ : r = true) :
  Calls Try.prog 9 #[.slice A0 l0.length c0, .slice A1 l1.length c1] w fun e w' => e = .returned (.bool r) ∧ Below w.heap.size w w' := by
 have hu47 := Try.underlying47
 have HR0 := zm hr0
 have HC0 := zm hc0
 clear hr0 hc0
 have HR1 := zm hr1
 have HC1 := zm hc1
 clear hr1 hc1
 have HB := zm (Below.refl w.heap.size w)
 have H : (if (wrap64 ((l0.length : Int) + (l1.length : Int))) > 1048576 then (some true) else ((spec_DrawTrackRun.f k l0).bind fun bt340 => ((impl_TrackRun.f k bt340.1 bt340.2.1 bt340.2.2.1 bt340.2.2.2).bind fun bt347 => ((spec_TrackRun.f k bt340.1 bt340.2.1 bt340.2.2.1 bt340.2.2.2).bind fun bt351 => ((impl_WorstOffset.f k bt340.1 bt340.2.1 bt340.2.2.1 bt340.2.2.2).bind fun bt355 => ((spec_WorstOffset.f k bt340.1 bt340.2.1 bt340.2.2.1 bt340.2.2.2).bind fun bt357 => ((impl_MovesMade.f k bt340.1 bt340.2.1 bt340.2.2.1 bt340.2.2.2).bind fun bt359 => ((spec_MovesMade.f k bt340.1 bt340.2.1 bt340.2.2.1 bt340.2.2.2).bind fun bt362 => ((spec_DrawTrackStep.f l1).bind fun bt365 => ((impl_TrackStep.f k bt365.1 bt365.2.1 bt365.2.2.1 bt365.2.2.2).bind fun bt370 => ((spec_TrackStep.f k bt365.1 bt365.2.1 bt365.2.2.1 bt365.2.2.2).bind fun bt372 => ((spec_DrawSettlesAfter.f l1).bind fun bt374 => ((impl_SettlesAfter.f k bt374.1 bt374.2.1 bt374.2.2).bind fun bt378 => ((spec_SettlesAfter.f k bt374.1 bt374.2.1 bt374.2.2).bind fun bt380 => (if (bt347.2 != bt351.2) = true then (laws_FnTracking.j0 k bt340.2.2.1 bt340.2.2.2 bt347.2 bt351.1 bt357.1 bt362.1 bt362.2.1 bt374.2.2 bt378.2 bt380.1 true bt340.1 bt340.2.1 bt374.1 bt374.2.1) else ((laws_qInts.f k bt347.1 bt351.1).bind fun t382 => (if t382 = true then (if (bt355.2 != bt357.2) = true then (laws_FnTracking.j0 k bt340.2.2.1 bt340.2.2.2 bt347.2 bt351.1 bt357.1 bt362.1 bt362.2.1 bt374.2.2 bt378.2 bt380.1 true bt340.1 bt340.2.1 bt374.1 bt374.2.1) else (if bt355.1 = bt357.1 then (if (bt359.2.2 != bt362.2.2) = true then (laws_FnTracking.j0 k bt340.2.2.1 bt340.2.2.2 bt347.2 bt351.1 bt357.1 bt362.1 bt362.2.1 bt374.2.2 bt378.2 bt380.1 true bt340.1 bt340.2.1 bt374.1 bt374.2.1) else (if bt359.1 = bt362.1 then (if bt359.2.1 = bt362.2.1 then (if (bt370.2 != bt372.2) = true then (laws_FnTracking.j0 k bt340.2.2.1 bt340.2.2.2 bt347.2 bt351.1 bt357.1 bt362.1 bt362.2.1 bt374.2.2 bt378.2 bt380.1 true bt340.1 bt340.2.1 bt374.1 bt374.2.1) else (if bt370.1 = bt372.1 then (if (bt378.2 != bt380.2) = true then (laws_FnTracking.j0 k bt340.2.2.1 bt340.2.2.2 bt347.2 bt351.1 bt357.1 bt362.1 bt362.2.1 bt374.2.2 bt378.2 bt380.1 true bt340.1 bt340.2.1 bt374.1 bt374.2.1) else (if bt378.1 = bt380.1 then (if (bt355.2 != bt347.2) = true then (laws_FnTracking.j0 k bt340.2.2.1 bt340.2.2.2 bt347.2 bt351.1 bt357.1 bt362.1 bt362.2.1 bt374.2.2 bt378.2 bt380.1 true bt340.1 bt340.2.1 bt374.1 bt374.2.1) else (laws_FnTracking.j0 k bt340.2.2.1 bt340.2.2.2 bt347.2 bt351.1 bt357.1 bt362.1 bt362.2.1 bt374.2.2 bt378.2 bt380.1 (bt359.2.2 != bt347.2) bt340.1 bt340.2.1 bt374.1 bt374.2.1)) else (laws_FnTracking.j0 k bt340.2.2.1 bt340.2.2.2 bt347.2 bt351.1 bt357.1 bt362.1 bt362.2.1 bt374.2.2 bt378.2 bt380.1 true bt340.1 bt340.2.1 bt374.1 bt374.2.1))) else (laws_FnTracking.j0 k bt340.2.2.1 bt340.2.2.2 bt347.2 bt351.1 bt357.1 bt362.1 bt362.2.1 bt374.2.2 bt378.2 bt380.1 true bt340.1 bt340.2.1 bt374.1 bt374.2.1))) else (laws_FnTracking.j0 k bt340.2.2.1 bt340.2.2.2 bt347.2 bt351.1 bt357.1 bt362.1 bt362.2.1 bt374.2.2 bt378.2 bt380.1 true bt340.1 bt340.2.1 bt374.1 bt374.2.1)) else (laws_FnTracking.j0 k bt340.2.2.1 bt340.2.2.2 bt347.2 bt351.1 bt357.1 bt362.1 bt362.2.1 bt374.2.2 bt378.2 bt380.1 true bt340.1 bt340.2.1 bt374.1 bt374.2.1))) else (laws_FnTracking.j0 k bt340.2.2.1 bt340.2.2.2 bt347.2 bt351.1 bt357.1 bt362.1 bt362.2.1 bt374.2.2 bt378.2 bt380.1 true bt340.1 bt340.2.1 bt374.1 bt374.2.1))) else (laws_FnTracking.j0 k bt340.2.2.1 bt340.2.2.2 bt347.2 bt351.1 bt357.1 bt362.1 bt362.2.1 bt374.2.2 bt378.2 bt380.1 true bt340.1 bt340.2.1 bt374.1 bt374.2.1)))))))))))))))))) = some r := h
 clear h
 by_cases c3 : (wrap64 ((l0.length : Int) + (l1.length : Int))) > 1048576
 ·
  rw [if_pos c3] at H
  have c3b0 : decide (1048576 < (wrap64 ((l0.length : Int) + (l1.length : Int)))) = true := decide_eq_true c3
  clear c3
  obtain rfl := Option.some.inj H
  go_enter Try.func9, Try.ntmps9
  go_wp2
  repeat (go_quiet (fail); try go_wp2)
  go_ret
  exact ⟨zr, zb⟩
 ·
  as_aux_lemma =>
  rw [if_neg c3] at H
  have c3b0 : decide (1048576 < (wrap64 ((l0.length : Int) + (l1.length : Int)))) = false := decide_eq_false c3
  clear c3
  replace H := Option.bind_eq_some_iff.mp H
  obtain ⟨⟨t340, t341, t342, t343⟩, A40, H⟩ := H
  replace H : ((impl_TrackRun.f k t340 t341 t342 t343).bind fun bt347 => ((spec_TrackRun.f k t340 t341 t342 t343).bind fun bt351 => ((impl_WorstOffset.f k t340 t341 t342 t343).bind fun bt355 => ((spec_WorstOffset.f k t340 t341 t342 t343).bind fun bt357 => ((impl_MovesMade.f k t340 t341 t342 t343).bind fun bt359 => ((spec_MovesMade.f k t340 t341 t342 t343).bind fun bt362 => ((spec_DrawTrackStep.f l1).bind fun bt365 => ((impl_TrackStep.f k bt365.1 bt365.2.1 bt365.2.2.1 bt365.2.2.2).bind fun bt370 => ((spec_TrackStep.f k bt365.1 bt365.2.1 bt365.2.2.1 bt365.2.2.2).bind fun bt372 => ((spec_DrawSettlesAfter.f l1).bind fun bt374 => ((impl_SettlesAfter.f k bt374.1 bt374.2.1 bt374.2.2).bind fun bt378 => ((spec_SettlesAfter.f k bt374.1 bt374.2.1 bt374.2.2).bind fun bt380 => (if (bt347.2 != bt351.2) = true then (laws_FnTracking.j0 k t342 t343 bt347.2 bt351.1 bt357.1 bt362.1 bt362.2.1 bt374.2.2 bt378.2 bt380.1 true t340 t341 bt374.1 bt374.2.1) else ((laws_qInts.f k bt347.1 bt351.1).bind fun t382 => (if t382 = true then (if (bt355.2 != bt357.2) = true then (laws_FnTracking.j0 k t342 t343 bt347.2 bt351.1 bt357.1 bt362.1 bt362.2.1 bt374.2.2 bt378.2 bt380.1 true t340 t341 bt374.1 bt374.2.1) else (if bt355.1 = bt357.1 then (if (bt359.2.2 != bt362.2.2) = true then (laws_FnTracking.j0 k t342 t343 bt347.2 bt351.1 bt357.1 bt362.1 bt362.2.1 bt374.2.2 bt378.2 bt380.1 true t340 t341 bt374.1 bt374.2.1) else (if bt359.1 = bt362.1 then (if bt359.2.1 = bt362.2.1 then (if (bt370.2 != bt372.2) = true then (laws_FnTracking.j0 k t342 t343 bt347.2 bt351.1 bt357.1 bt362.1 bt362.2.1 bt374.2.2 bt378.2 bt380.1 true t340 t341 bt374.1 bt374.2.1) else (if bt370.1 = bt372.1 then (if (bt378.2 != bt380.2) = true then (laws_FnTracking.j0 k t342 t343 bt347.2 bt351.1 bt357.1 bt362.1 bt362.2.1 bt374.2.2 bt378.2 bt380.1 true t340 t341 bt374.1 bt374.2.1) else (if bt378.1 = bt380.1 then (if (bt355.2 != bt347.2) = true then (laws_FnTracking.j0 k t342 t343 bt347.2 bt351.1 bt357.1 bt362.1 bt362.2.1 bt374.2.2 bt378.2 bt380.1 true t340 t341 bt374.1 bt374.2.1) else (laws_FnTracking.j0 k t342 t343 bt347.2 bt351.1 bt357.1 bt362.1 bt362.2.1 bt374.2.2 bt378.2 bt380.1 (bt359.2.2 != bt347.2) t340 t341 bt374.1 bt374.2.1)) else (laws_FnTracking.j0 k t342 t343 bt347.2 bt351.1 bt357.1 bt362.1 bt362.2.1 bt374.2.2 bt378.2 bt380.1 true t340 t341 bt374.1 bt374.2.1))) else (laws_FnTracking.j0 k t342 t343 bt347.2 bt351.1 bt357.1 bt362.1 bt362.2.1 bt374.2.2 bt378.2 bt380.1 true t340 t341 bt374.1 bt374.2.1))) else (laws_FnTracking.j0 k t342 t343 bt347.2 bt351.1 bt357.1 bt362.1 bt362.2.1 bt374.2.2 bt378.2 bt380.1 true t340 t341 bt374.1 bt374.2.1)) else (laws_FnTracking.j0 k t342 t343 bt347.2 bt351.1 bt357.1 bt362.1 bt362.2.1 bt374.2.2 bt378.2 bt380.1 true t340 t341 bt374.1 bt374.2.1))) else (laws_FnTracking.j0 k t342 t343 bt347.2 bt351.1 bt357.1 bt362.1 bt362.2.1 bt374.2.2 bt378.2 bt380.1 true t340 t341 bt374.1 bt374.2.1))) else (laws_FnTracking.j0 k t342 t343 bt347.2 bt351.1 bt357.1 bt362.1 bt362.2.1 bt374.2.2 bt378.2 bt380.1 true t340 t341 bt374.1 bt374.2.1)))))))))))))))) = some r := H
  have A4 := zm A40
  clear A40
  replace H := Option.bind_eq_some_iff.mp H
  obtain ⟨⟨t347, t350⟩, A50, H⟩ := H
  replace H : ((spec_TrackRun.f k t340 t341 t342 t343).bind fun bt351 => ((impl_WorstOffset.f k t340 t341 t342 t343).bind fun bt355 => ((spec_WorstOffset.f k t340 t341 t342 t343).bind fun bt357 => ((impl_MovesMade.f k t340 t341 t342 t343).bind fun bt359 => ((spec_MovesMade.f k t340 t341 t342 t343).bind fun bt362 => ((spec_DrawTrackStep.f l1).bind fun bt365 => ((impl_TrackStep.f k bt365.1 bt365.2.1 bt365.2.2.1 bt365.2.2.2).bind fun bt370 => ((spec_TrackStep.f k bt365.1 bt365.2.1 bt365.2.2.1 bt365.2.2.2).bind fun bt372 => ((spec_DrawSettlesAfter.f l1).bind fun bt374 => ((impl_SettlesAfter.f k bt374.1 bt374.2.1 bt374.2.2).bind fun bt378 => ((spec_SettlesAfter.f k bt374.1 bt374.2.1 bt374.2.2).bind fun bt380 => (if (t350 != bt351.2) = true then (laws_FnTracking.j0 k t342 t343 t350 bt351.1 bt357.1 bt362.1 bt362.2.1 bt374.2.2 bt378.2 bt380.1 true t340 t341 bt374.1 bt374.2.1) else ((laws_qInts.f k t347 bt351.1).bind fun t382 => (if t382 = true then (if (bt355.2 != bt357.2) = true then (laws_FnTracking.j0 k t342 t343 t350 bt351.1 bt357.1 bt362.1 bt362.2.1 bt374.2.2 bt378.2 bt380.1 true t340 t341 bt374.1 bt374.2.1) else (if bt355.1 = bt357.1 then (if (bt359.2.2 != bt362.2.2) = true then (laws_FnTracking.j0 k t342 t343 t350 bt351.1 bt357.1 bt362.1 bt362.2.1 bt374.2.2 bt378.2 bt380.1 true t340 t341 bt374.1 bt374.2.1) else (if bt359.1 = bt362.1 then (if bt359.2.1 = bt362.2.1 then (if (bt370.2 != bt372.2) = true then (laws_FnTracking.j0 k t342 t343 t350 bt351.1 bt357.1 bt362.1 bt362.2.1 bt374.2.2 bt378.2 bt380.1 true t340 t341 bt374.1 bt374.2.1) else (if bt370.1 = bt372.1 then (if (bt378.2 != bt380.2) = true then (laws_FnTracking.j0 k t342 t343 t350 bt351.1 bt357.1 bt362.1 bt362.2.1 bt374.2.2 bt378.2 bt380.1 true t340 t341 bt374.1 bt374.2.1) else (if bt378.1 = bt380.1 then (if (bt355.2 != t350) = true then (laws_FnTracking.j0 k t342 t343 t350 bt351.1 bt357.1 bt362.1 bt362.2.1 bt374.2.2 bt378.2 bt380.1 true t340 t341 bt374.1 bt374.2.1) else (laws_FnTracking.j0 k t342 t343 t350 bt351.1 bt357.1 bt362.1 bt362.2.1 bt374.2.2 bt378.2 bt380.1 (bt359.2.2 != t350) t340 t341 bt374.1 bt374.2.1)) else (laws_FnTracking.j0 k t342 t343 t350 bt351.1 bt357.1 bt362.1 bt362.2.1 bt374.2.2 bt378.2 bt380.1 true t340 t341 bt374.1 bt374.2.1))) else (laws_FnTracking.j0 k t342 t343 t350 bt351.1 bt357.1 bt362.1 bt362.2.1 bt374.2.2 bt378.2 bt380.1 true t340 t341 bt374.1 bt374.2.1))) else (laws_FnTracking.j0 k t342 t343 t350 bt351.1 bt357.1 bt362.1 bt362.2.1 bt374.2.2 bt378.2 bt380.1 true t340 t341 bt374.1 bt374.2.1)) else (laws_FnTracking.j0 k t342 t343 t350 bt351.1 bt357.1 bt362.1 bt362.2.1 bt374.2.2 bt378.2 bt380.1 true t340 t341 bt374.1 bt374.2.1))) else (laws_FnTracking.j0 k t342 t343 t350 bt351.1 bt357.1 bt362.1 bt362.2.1 bt374.2.2 bt378.2 bt380.1 true t340 t341 bt374.1 bt374.2.1))) else (laws_FnTracking.j0 k t342 t343 t350 bt351.1 bt357.1 bt362.1 bt362.2.1 bt374.2.2 bt378.2 bt380.1 true t340 t341 bt374.1 bt374.2.1))))))))))))))) = some r := H
  have A5 := zm A50
  clear A50
  replace H := Option.bind_eq_some_iff.mp H
  obtain ⟨⟨t351, t354⟩, A60, H⟩ := H
  replace H : ((impl_WorstOffset.f k t340 t341 t342 t343).bind fun bt355 => ((spec_WorstOffset.f k t340 t341 t342 t343).bind fun bt357 => ((impl_MovesMade.f k t340 t341 t342 t343).bind fun bt359 => ((spec_MovesMade.f k t340 t341 t342 t343).bind fun bt362 => ((spec_DrawTrackStep.f l1).bind fun bt365 => ((impl_TrackStep.f k bt365.1 bt365.2.1 bt365.2.2.1 bt365.2.2.2).bind fun bt370 => ((spec_TrackStep.f k bt365.1 bt365.2.1 bt365.2.2.1 bt365.2.2.2).bind fun bt372 => ((spec_DrawSettlesAfter.f l1).bind fun bt374 => ((impl_SettlesAfter.f k bt374.1 bt374.2.1 bt374.2.2).bind fun bt378 => ((spec_SettlesAfter.f k bt374.1 bt374.2.1 bt374.2.2).bind fun bt380 => (if (t350 != t354) = true then (laws_FnTracking.j0 k t342 t343 t350 t351 bt357.1 bt362.1 bt362.2.1 bt374.2.2 bt378.2 bt380.1 true t340 t341 bt374.1 bt374.2.1) else ((laws_qInts.f k t347 t351).bind fun t382 => (if t382 = true then (if (bt355.2 != bt357.2) = true then (laws_FnTracking.j0 k t342 t343 t350 t351 bt357.1 bt362.1 bt362.2.1 bt374.2.2 bt378.2 bt380.1 true t340 t341 bt374.1 bt374.2.1) else (if bt355.1 = bt357.1 then (if (bt359.2.2 != bt362.2.2) = true then (laws_FnTracking.j0 k t342 t343 t350 t351 bt357.1 bt362.1 bt362.2.1 bt374.2.2 bt378.2 bt380.1 true t340 t341 bt374.1 bt374.2.1) else (if bt359.1 = bt362.1 then (if bt359.2.1 = bt362.2.1 then (if (bt370.2 != bt372.2) = true then (laws_FnTracking.j0 k t342 t343 t350 t351 bt357.1 bt362.1 bt362.2.1 bt374.2.2 bt378.2 bt380.1 true t340 t341 bt374.1 bt374.2.1) else (if bt370.1 = bt372.1 then (if (bt378.2 != bt380.2) = true then (laws_FnTracking.j0 k t342 t343 t350 t351 bt357.1 bt362.1 bt362.2.1 bt374.2.2 bt378.2 bt380.1 true t340 t341 bt374.1 bt374.2.1) else (if bt378.1 = bt380.1 then (if (bt355.2 != t350) = true then (laws_FnTracking.j0 k t342 t343 t350 t351 bt357.1 bt362.1 bt362.2.1 bt374.2.2 bt378.2 bt380.1 true t340 t341 bt374.1 bt374.2.1) else (laws_FnTracking.j0 k t342 t343 t350 t351 bt357.1 bt362.1 bt362.2.1 bt374.2.2 bt378.2 bt380.1 (bt359.2.2 != t350) t340 t341 bt374.1 bt374.2.1)) else (laws_FnTracking.j0 k t342 t343 t350 t351 bt357.1 bt362.1 bt362.2.1 bt374.2.2 bt378.2 bt380.1 true t340 t341 bt374.1 bt374.2.1))) else (laws_FnTracking.j0 k t342 t343 t350 t351 bt357.1 bt362.1 bt362.2.1 bt374.2.2 bt378.2 bt380.1 true t340 t341 bt374.1 bt374.2.1))) else (laws_FnTracking.j0 k t342 t343 t350 t351 bt357.1 bt362.1 bt362.2.1 bt374.2.2 bt378.2 bt380.1 true t340 t341 bt374.1 bt374.2.1)) else (laws_FnTracking.j0 k t342 t343 t350 t351 bt357.1 bt362.1 bt362.2.1 bt374.2.2 bt378.2 bt380.1 true t340 t341 bt374.1 bt374.2.1))) else (laws_FnTracking.j0 k t342 t343 t350 t351 bt357.1 bt362.1 bt362.2.1 bt374.2.2 bt378.2 bt380.1 true t340 t341 bt374.1 bt374.2.1))) else (laws_FnTracking.j0 k t342 t343 t350 t351 bt357.1 bt362.1 bt362.2.1 bt374.2.2 bt378.2 bt380.1 true t340 t341 bt374.1 bt374.2.1)))))))))))))) = some r := H
  have A6 := zm A60
  clear A60
  replace H := Option.bind_eq_some_iff.mp H
  obtain ⟨⟨t355, t356⟩, A70, H⟩ := H
  replace H : ((spec_WorstOffset.f k t340 t341 t342 t343).bind fun bt357 => ((impl_MovesMade.f k t340 t341 t342 t343).bind fun bt359 => ((spec_MovesMade.f k t340 t341 t342 t343).bind fun bt362 => ((spec_DrawTrackStep.f l1).bind fun bt365 => ((impl_TrackStep.f k bt365.1 bt365.2.1 bt365.2.2.1 bt365.2.2.2).bind fun bt370 => ((spec_TrackStep.f k bt365.1 bt365.2.1 bt365.2.2.1 bt365.2.2.2).bind fun bt372 => ((spec_DrawSettlesAfter.f l1).bind fun bt374 => ((impl_SettlesAfter.f k bt374.1 bt374.2.1 bt374.2.2).bind fun bt378 => ((spec_SettlesAfter.f k bt374.1 bt374.2.1 bt374.2.2).bind fun bt380 => (if (t350 != t354) = true then (laws_FnTracking.j0 k t342 t343 t350 t351 bt357.1 bt362.1 bt362.2.1 bt374.2.2 bt378.2 bt380.1 true t340 t341 bt374.1 bt374.2.1) else ((laws_qInts.f k t347 t351).bind fun t382 => (if t382 = true then (if (t356 != bt357.2) = true then (laws_FnTracking.j0 k t342 t343 t350 t351 bt357.1 bt362.1 bt362.2.1 bt374.2.2 bt378.2 bt380.1 true t340 t341 bt374.1 bt374.2.1) else (if t355 = bt357.1 then (if (bt359.2.2 != bt362.2.2) = true then (laws_FnTracking.j0 k t342 t343 t350 t351 bt357.1 bt362.1 bt362.2.1 bt374.2.2 bt378.2 bt380.1 true t340 t341 bt374.1 bt374.2.1) else (if bt359.1 = bt362.1 then (if bt359.2.1 = bt362.2.1 then (if (bt370.2 != bt372.2) = true then (laws_FnTracking.j0 k t342 t343 t350 t351 bt357.1 bt362.1 bt362.2.1 bt374.2.2 bt378.2 bt380.1 true t340 t341 bt374.1 bt374.2.1) else (if bt370.1 = bt372.1 then (if (bt378.2 != bt380.2) = true then (laws_FnTracking.j0 k t342 t343 t350 t351 bt357.1 bt362.1 bt362.2.1 bt374.2.2 bt378.2 bt380.1 true t340 t341 bt374.1 bt374.2.1) else (if bt378.1 = bt380.1 then (if (t356 != t350) = true then (laws_FnTracking.j0 k t342 t343 t350 t351 bt357.1 bt362.1 bt362.2.1 bt374.2.2 bt378.2 bt380.1 true t340 t341 bt374.1 bt374.2.1) else (laws_FnTracking.j0 k t342 t343 t350 t351 bt357.1 bt362.1 bt362.2.1 bt374.2.2 bt378.2 bt380.1 (bt359.2.2 != t350) t340 t341 bt374.1 bt374.2.1)) else (laws_FnTracking.j0 k t342 t343 t350 t351 bt357.1 bt362.1 bt362.2.1 bt374.2.2 bt378.2 bt380.1 true t340 t341 bt374.1 bt374.2.1))) else (laws_FnTracking.j0 k t342 t343 t350 t351 bt357.1 bt362.1 bt362.2.1 bt374.2.2 bt378.2 bt380.1 true t340 t341 bt374.1 bt374.2.1))) else (laws_FnTracking.j0 k t342 t343 t350 t351 bt357.1 bt362.1 bt362.2.1 bt374.2.2 bt378.2 bt380.1 true t340 t341 bt374.1 bt374.2.1)) else (laws_FnTracking.j0 k t342 t343 t350 t351 bt357.1 bt362.1 bt362.2.1 bt374.2.2 bt378.2 bt380.1 true t340 t341 bt374.1 bt374.2.1))) else (laws_FnTracking.j0 k t342 t343 t350 t351 bt357.1 bt362.1 bt362.2.1 bt374.2.2 bt378.2 bt380.1 true t340 t341 bt374.1 bt374.2.1))) else (laws_FnTracking.j0 k t342 t343 t350 t351 bt357.1 bt362.1 bt362.2.1 bt374.2.2 bt378.2 bt380.1 true t340 t341 bt374.1 bt374.2.1))))))))))))) = some r := H
  have A7 := zm A70
  clear A70
  replace H := Option.bind_eq_some_iff.mp H
  obtain ⟨⟨t357, t358⟩, A80, H⟩ := H
  replace H : ((impl_MovesMade.f k t340 t341 t342 t343).bind fun bt359 => ((spec_MovesMade.f k t340 t341 t342 t343).bind fun bt362 => ((spec_DrawTrackStep.f l1).bind fun bt365 => ((impl_TrackStep.f k bt365.1 bt365.2.1 bt365.2.2.1 bt365.2.2.2).bind fun bt370 => ((spec_TrackStep.f k bt365.1 bt365.2.1 bt365.2.2.1 bt365.2.2.2).bind fun bt372 => ((spec_DrawSettlesAfter.f l1).bind fun bt374 => ((impl_SettlesAfter.f k bt374.1 bt374.2.1 bt374.2.2).bind fun bt378 => ((spec_SettlesAfter.f k bt374.1 bt374.2.1 bt374.2.2).bind fun bt380 => (if (t350 != t354) = true then (laws_FnTracking.j0 k t342 t343 t350 t351 t357 bt362.1 bt362.2.1 bt374.2.2 bt378.2 bt380.1 true t340 t341 bt374.1 bt374.2.1) else ((laws_qInts.f k t347 t351).bind fun t382 => (if t382 = true then (if (t356 != t358) = true then (laws_FnTracking.j0 k t342 t343 t350 t351 t357 bt362.1 bt362.2.1 bt374.2.2 bt378.2 bt380.1 true t340 t341 bt374.1 bt374.2.1) else (if t355 = t357 then (if (bt359.2.2 != bt362.2.2) = true then (laws_FnTracking.j0 k t342 t343 t350 t351 t357 bt362.1 bt362.2.1 bt374.2.2 bt378.2 bt380.1 true t340 t341 bt374.1 bt374.2.1) else (if bt359.1 = bt362.1 then (if bt359.2.1 = bt362.2.1 then (if (bt370.2 != bt372.2) = true then (laws_FnTracking.j0 k t342 t343 t350 t351 t357 bt362.1 bt362.2.1 bt374.2.2 bt378.2 bt380.1 true t340 t341 bt374.1 bt374.2.1) else (if bt370.1 = bt372.1 then (if (bt378.2 != bt380.2) = true then (laws_FnTracking.j0 k t342 t343 t350 t351 t357 bt362.1 bt362.2.1 bt374.2.2 bt378.2 bt380.1 true t340 t341 bt374.1 bt374.2.1) else (if bt378.1 = bt380.1 then (if (t356 != t350) = true then (laws_FnTracking.j0 k t342 t343 t350 t351 t357 bt362.1 bt362.2.1 bt374.2.2 bt378.2 bt380.1 true t340 t341 bt374.1 bt374.2.1) else (laws_FnTracking.j0 k t342 t343 t350 t351 t357 bt362.1 bt362.2.1 bt374.2.2 bt378.2 bt380.1 (bt359.2.2 != t350) t340 t341 bt374.1 bt374.2.1)) else (laws_FnTracking.j0 k t342 t343 t350 t351 t357 bt362.1 bt362.2.1 bt374.2.2 bt378.2 bt380.1 true t340 t341 bt374.1 bt374.2.1))) else (laws_FnTracking.j0 k t342 t343 t350 t351 t357 bt362.1 bt362.2.1 bt374.2.2 bt378.2 bt380.1 true t340 t341 bt374.1 bt374.2.1))) else (laws_FnTracking.j0 k t342 t343 t350 t351 t357 bt362.1 bt362.2.1 bt374.2.2 bt378.2 bt380.1 true t340 t341 bt374.1 bt374.2.1)) else (laws_FnTracking.j0 k t342 t343 t350 t351 t357 bt362.1 bt362.2.1 bt374.2.2 bt378.2 bt380.1 true t340 t341 bt374.1 bt374.2.1))) else (laws_FnTracking.j0 k t342 t343 t350 t351 t357 bt362.1 bt362.2.1 bt374.2.2 bt378.2 bt380.1 true t340 t341 bt374.1 bt374.2.1))) else (laws_FnTracking.j0 k t342 t343 t350 t351 t357 bt362.1 bt362.2.1 bt374.2.2 bt378.2 bt380.1 true t340 t341 bt374.1 bt374.2.1)))))))))))) = some r := H
  have A8 := zm A80
  clear A80
  replace H := Option.bind_eq_some_iff.mp H
  obtain ⟨⟨t359, t360, t361⟩, A90, H⟩ := H
  replace H : ((spec_MovesMade.f k t340 t341 t342 t343).bind fun bt362 => ((spec_DrawTrackStep.f l1).bind fun bt365 => ((impl_TrackStep.f k bt365.1 bt365.2.1 bt365.2.2.1 bt365.2.2.2).bind fun bt370 => ((spec_TrackStep.f k bt365.1 bt365.2.1 bt365.2.2.1 bt365.2.2.2).bind fun bt372 => ((spec_DrawSettlesAfter.f l1).bind fun bt374 => ((impl_SettlesAfter.f k bt374.1 bt374.2.1 bt374.2.2).bind fun bt378 => ((spec_SettlesAfter.f k bt374.1 bt374.2.1 bt374.2.2).bind fun bt380 => (if (t350 != t354) = true then (laws_FnTracking.j0 k t342 t343 t350 t351 t357 bt362.1 bt362.2.1 bt374.2.2 bt378.2 bt380.1 true t340 t341 bt374.1 bt374.2.1) else ((laws_qInts.f k t347 t351).bind fun t382 => (if t382 = true then (if (t356 != t358) = true then (laws_FnTracking.j0 k t342 t343 t350 t351 t357 bt362.1 bt362.2.1 bt374.2.2 bt378.2 bt380.1 true t340 t341 bt374.1 bt374.2.1) else (if t355 = t357 then (if (t361 != bt362.2.2) = true then (laws_FnTracking.j0 k t342 t343 t350 t351 t357 bt362.1 bt362.2.1 bt374.2.2 bt378.2 bt380.1 true t340 t341 bt374.1 bt374.2.1) else (if t359 = bt362.1 then (if t360 = bt362.2.1 then (if (bt370.2 != bt372.2) = true then (laws_FnTracking.j0 k t342 t343 t350 t351 t357 bt362.1 bt362.2.1 bt374.2.2 bt378.2 bt380.1 true t340 t341 bt374.1 bt374.2.1) else (if bt370.1 = bt372.1 then (if (bt378.2 != bt380.2) = true then (laws_FnTracking.j0 k t342 t343 t350 t351 t357 bt362.1 bt362.2.1 bt374.2.2 bt378.2 bt380.1 true t340 t341 bt374.1 bt374.2.1) else (if bt378.1 = bt380.1 then (if (t356 != t350) = true then (laws_FnTracking.j0 k t342 t343 t350 t351 t357 bt362.1 bt362.2.1 bt374.2.2 bt378.2 bt380.1 true t340 t341 bt374.1 bt374.2.1) else (laws_FnTracking.j0 k t342 t343 t350 t351 t357 bt362.1 bt362.2.1 bt374.2.2 bt378.2 bt380.1 (t361 != t350) t340 t341 bt374.1 bt374.2.1)) else (laws_FnTracking.j0 k t342 t343 t350 t351 t357 bt362.1 bt362.2.1 bt374.2.2 bt378.2 bt380.1 true t340 t341 bt374.1 bt374.2.1))) else (laws_FnTracking.j0 k t342 t343 t350 t351 t357 bt362.1 bt362.2.1 bt374.2.2 bt378.2 bt380.1 true t340 t341 bt374.1 bt374.2.1))) else (laws_FnTracking.j0 k t342 t343 t350 t351 t357 bt362.1 bt362.2.1 bt374.2.2 bt378.2 bt380.1 true t340 t341 bt374.1 bt374.2.1)) else (laws_FnTracking.j0 k t342 t343 t350 t351 t357 bt362.1 bt362.2.1 bt374.2.2 bt378.2 bt380.1 true t340 t341 bt374.1 bt374.2.1))) else (laws_FnTracking.j0 k t342 t343 t350 t351 t357 bt362.1 bt362.2.1 bt374.2.2 bt378.2 bt380.1 true t340 t341 bt374.1 bt374.2.1))) else (laws_FnTracking.j0 k t342 t343 t350 t351 t357 bt362.1 bt362.2.1 bt374.2.2 bt378.2 bt380.1 true t340 t341 bt374.1 bt374.2.1))))))))))) = some r := H
  have A9 := zm A90
  clear A90
  replace H := Option.bind_eq_some_iff.mp H
  obtain ⟨⟨t362, t363, t364⟩, A100, H⟩ := H
  replace H : ((spec_DrawTrackStep.f l1).bind fun bt365 => ((impl_TrackStep.f k bt365.1 bt365.2.1 bt365.2.2.1 bt365.2.2.2).bind fun bt370 => ((spec_TrackStep.f k bt365.1 bt365.2.1 bt365.2.2.1 bt365.2.2.2).bind fun bt372 => ((spec_DrawSettlesAfter.f l1).bind fun bt374 => ((impl_SettlesAfter.f k bt374.1 bt374.2.1 bt374.2.2).bind fun bt378 => ((spec_SettlesAfter.f k bt374.1 bt374.2.1 bt374.2.2).bind fun bt380 => (if (t350 != t354) = true then (laws_FnTracking.j0 k t342 t343 t350 t351 t357 t362 t363 bt374.2.2 bt378.2 bt380.1 true t340 t341 bt374.1 bt374.2.1) else ((laws_qInts.f k t347 t351).bind fun t382 => (if t382 = true then (if (t356 != t358) = true then (laws_FnTracking.j0 k t342 t343 t350 t351 t357 t362 t363 bt374.2.2 bt378.2 bt380.1 true t340 t341 bt374.1 bt374.2.1) else (if t355 = t357 then (if (t361 != t364) = true then (laws_FnTracking.j0 k t342 t343 t350 t351 t357 t362 t363 bt374.2.2 bt378.2 bt380.1 true t340 t341 bt374.1 bt374.2.1) else (if t359 = t362 then (if t360 = t363 then (if (bt370.2 != bt372.2) = true then (laws_FnTracking.j0 k t342 t343 t350 t351 t357 t362 t363 bt374.2.2 bt378.2 bt380.1 true t340 t341 bt374.1 bt374.2.1) else (if bt370.1 = bt372.1 then (if (bt378.2 != bt380.2) = true then (laws_FnTracking.j0 k t342 t343 t350 t351 t357 t362 t363 bt374.2.2 bt378.2 bt380.1 true t340 t341 bt374.1 bt374.2.1) else (if bt378.1 = bt380.1 then (if (t356 != t350) = true then (laws_FnTracking.j0 k t342 t343 t350 t351 t357 t362 t363 bt374.2.2 bt378.2 bt380.1 true t340 t341 bt374.1 bt374.2.1) else (laws_FnTracking.j0 k t342 t343 t350 t351 t357 t362 t363 bt374.2.2 bt378.2 bt380.1 (t361 != t350) t340 t341 bt374.1 bt374.2.1)) else (laws_FnTracking.j0 k t342 t343 t350 t351 t357 t362 t363 bt374.2.2 bt378.2 bt380.1 true t340 t341 bt374.1 bt374.2.1))) else (laws_FnTracking.j0 k t342 t343 t350 t351 t357 t362 t363 bt374.2.2 bt378.2 bt380.1 true t340 t341 bt374.1 bt374.2.1))) else (laws_FnTracking.j0 k t342 t343 t350 t351 t357 t362 t363 bt374.2.2 bt378.2 bt380.1 true t340 t341 bt374.1 bt374.2.1)) else (laws_FnTracking.j0 k t342 t343 t350 t351 t357 t362 t363 bt374.2.2 bt378.2 bt380.1 true t340 t341 bt374.1 bt374.2.1))) else (laws_FnTracking.j0 k t342 t343 t350 t351 t357 t362 t363 bt374.2.2 bt378.2 bt380.1 true t340 t341 bt374.1 bt374.2.1))) else (laws_FnTracking.j0 k t342 t343 t350 t351 t357 t362 t363 bt374.2.2 bt378.2 bt380.1 true t340 t341 bt374.1 bt374.2.1)))))))))) = some r := H
  have A10 := zm A100
  clear A100
  replace H := Option.bind_eq_some_iff.mp H
  obtain ⟨⟨t365, t366, t367, t368⟩, A110, H⟩ := H
  replace H : ((impl_TrackStep.f k t365 t366 t367 t368).bind fun bt370 => ((spec_TrackStep.f k t365 t366 t367 t368).bind fun bt372 => ((spec_DrawSettlesAfter.f l1).bind fun bt374 => ((impl_SettlesAfter.f k bt374.1 bt374.2.1 bt374.2.2).bind fun bt378 => ((spec_SettlesAfter.f k bt374.1 bt374.2.1 bt374.2.2).bind fun bt380 => (if (t350 != t354) = true then (laws_FnTracking.j0 k t342 t343 t350 t351 t357 t362 t363 bt374.2.2 bt378.2 bt380.1 true t340 t341 bt374.1 bt374.2.1) else ((laws_qInts.f k t347 t351).bind fun t382 => (if t382 = true then (if (t356 != t358) = true then (laws_FnTracking.j0 k t342 t343 t350 t351 t357 t362 t363 bt374.2.2 bt378.2 bt380.1 true t340 t341 bt374.1 bt374.2.1) else (if t355 = t357 then (if (t361 != t364) = true then (laws_FnTracking.j0 k t342 t343 t350 t351 t357 t362 t363 bt374.2.2 bt378.2 bt380.1 true t340 t341 bt374.1 bt374.2.1) else (if t359 = t362 then (if t360 = t363 then (if (bt370.2 != bt372.2) = true then (laws_FnTracking.j0 k t342 t343 t350 t351 t357 t362 t363 bt374.2.2 bt378.2 bt380.1 true t340 t341 bt374.1 bt374.2.1) else (if bt370.1 = bt372.1 then (if (bt378.2 != bt380.2) = true then (laws_FnTracking.j0 k t342 t343 t350 t351 t357 t362 t363 bt374.2.2 bt378.2 bt380.1 true t340 t341 bt374.1 bt374.2.1) else (if bt378.1 = bt380.1 then (if (t356 != t350) = true then (laws_FnTracking.j0 k t342 t343 t350 t351 t357 t362 t363 bt374.2.2 bt378.2 bt380.1 true t340 t341 bt374.1 bt374.2.1) else (laws_FnTracking.j0 k t342 t343 t350 t351 t357 t362 t363 bt374.2.2 bt378.2 bt380.1 (t361 != t350) t340 t341 bt374.1 bt374.2.1)) else (laws_FnTracking.j0 k t342 t343 t350 t351 t357 t362 t363 bt374.2.2 bt378.2 bt380.1 true t340 t341 bt374.1 bt374.2.1))) else (laws_FnTracking.j0 k t342 t343 t350 t351 t357 t362 t363 bt374.2.2 bt378.2 bt380.1 true t340 t341 bt374.1 bt374.2.1))) else (laws_FnTracking.j0 k t342 t343 t350 t351 t357 t362 t363 bt374.2.2 bt378.2 bt380.1 true t340 t341 bt374.1 bt374.2.1)) else (laws_FnTracking.j0 k t342 t343 t350 t351 t357 t362 t363 bt374.2.2 bt378.2 bt380.1 true t340 t341 bt374.1 bt374.2.1))) else (laws_FnTracking.j0 k t342 t343 t350 t351 t357 t362 t363 bt374.2.2 bt378.2 bt380.1 true t340 t341 bt374.1 bt374.2.1))) else (laws_FnTracking.j0 k t342 t343 t350 t351 t357 t362 t363 bt374.2.2 bt378.2 bt380.1 true t340 t341 bt374.1 bt374.2.1))))))))) = some r := H
  have A11 := zm A110
  clear A110
  replace H := Option.bind_eq_some_iff.mp H
  obtain ⟨⟨t370, t371⟩, A120, H⟩ := H
  replace H : ((spec_TrackStep.f k t365 t366 t367 t368).bind fun bt372 => ((spec_DrawSettlesAfter.f l1).bind fun bt374 => ((impl_SettlesAfter.f k bt374.1 bt374.2.1 bt374.2.2).bind fun bt378 => ((spec_SettlesAfter.f k bt374.1 bt374.2.1 bt374.2.2).bind fun bt380 => (if (t350 != t354) = true then (laws_FnTracking.j0 k t342 t343 t350 t351 t357 t362 t363 bt374.2.2 bt378.2 bt380.1 true t340 t341 bt374.1 bt374.2.1) else ((laws_qInts.f k t347 t351).bind fun t382 => (if t382 = true then (if (t356 != t358) = true then (laws_FnTracking.j0 k t342 t343 t350 t351 t357 t362 t363 bt374.2.2 bt378.2 bt380.1 true t340 t341 bt374.1 bt374.2.1) else (if t355 = t357 then (if (t361 != t364) = true then (laws_FnTracking.j0 k t342 t343 t350 t351 t357 t362 t363 bt374.2.2 bt378.2 bt380.1 true t340 t341 bt374.1 bt374.2.1) else (if t359 = t362 then (if t360 = t363 then (if (t371 != bt372.2) = true then (laws_FnTracking.j0 k t342 t343 t350 t351 t357 t362 t363 bt374.2.2 bt378.2 bt380.1 true t340 t341 bt374.1 bt374.2.1) else (if t370 = bt372.1 then (if (bt378.2 != bt380.2) = true then (laws_FnTracking.j0 k t342 t343 t350 t351 t357 t362 t363 bt374.2.2 bt378.2 bt380.1 true t340 t341 bt374.1 bt374.2.1) else (if bt378.1 = bt380.1 then (if (t356 != t350) = true then (laws_FnTracking.j0 k t342 t343 t350 t351 t357 t362 t363 bt374.2.2 bt378.2 bt380.1 true t340 t341 bt374.1 bt374.2.1) else (laws_FnTracking.j0 k t342 t343 t350 t351 t357 t362 t363 bt374.2.2 bt378.2 bt380.1 (t361 != t350) t340 t341 bt374.1 bt374.2.1)) else (laws_FnTracking.j0 k t342 t343 t350 t351 t357 t362 t363 bt374.2.2 bt378.2 bt380.1 true t340 t341 bt374.1 bt374.2.1))) else (laws_FnTracking.j0 k t342 t343 t350 t351 t357 t362 t363 bt374.2.2 bt378.2 bt380.1 true t340 t341 bt374.1 bt374.2.1))) else (laws_FnTracking.j0 k t342 t343 t350 t351 t357 t362 t363 bt374.2.2 bt378.2 bt380.1 true t340 t341 bt374.1 bt374.2.1)) else (laws_FnTracking.j0 k t342 t343 t350 t351 t357 t362 t363 bt374.2.2 bt378.2 bt380.1 true t340 t341 bt374.1 bt374.2.1))) else (laws_FnTracking.j0 k t342 t343 t350 t351 t357 t362 t363 bt374.2.2 bt378.2 bt380.1 true t340 t341 bt374.1 bt374.2.1))) else (laws_FnTracking.j0 k t342 t343 t350 t351 t357 t362 t363 bt374.2.2 bt378.2 bt380.1 true t340 t341 bt374.1 bt374.2.1)))))))) = some r := H
  have A12 := zm A120
  clear A120
  replace H := Option.bind_eq_some_iff.mp H
  obtain ⟨⟨t372, t373⟩, A130, H⟩ := H
  replace H : ((spec_DrawSettlesAfter.f l1).bind fun bt374 => ((impl_SettlesAfter.f k bt374.1 bt374.2.1 bt374.2.2).bind fun bt378 => ((spec_SettlesAfter.f k bt374.1 bt374.2.1 bt374.2.2).bind fun bt380 => (if (t350 != t354) = true then (laws_FnTracking.j0 k t342 t343 t350 t351 t357 t362 t363 bt374.2.2 bt378.2 bt380.1 true t340 t341 bt374.1 bt374.2.1) else ((laws_qInts.f k t347 t351).bind fun t382 => (if t382 = true then (if (t356 != t358) = true then (laws_FnTracking.j0 k t342 t343 t350 t351 t357 t362 t363 bt374.2.2 bt378.2 bt380.1 true t340 t341 bt374.1 bt374.2.1) else (if t355 = t357 then (if (t361 != t364) = true then (laws_FnTracking.j0 k t342 t343 t350 t351 t357 t362 t363 bt374.2.2 bt378.2 bt380.1 true t340 t341 bt374.1 bt374.2.1) else (if t359 = t362 then (if t360 = t363 then (if (t371 != t373) = true then (laws_FnTracking.j0 k t342 t343 t350 t351 t357 t362 t363 bt374.2.2 bt378.2 bt380.1 true t340 t341 bt374.1 bt374.2.1) else (if t370 = t372 then (if (bt378.2 != bt380.2) = true then (laws_FnTracking.j0 k t342 t343 t350 t351 t357 t362 t363 bt374.2.2 bt378.2 bt380.1 true t340 t341 bt374.1 bt374.2.1) else (if bt378.1 = bt380.1 then (if (t356 != t350) = true then (laws_FnTracking.j0 k t342 t343 t350 t351 t357 t362 t363 bt374.2.2 bt378.2 bt380.1 true t340 t341 bt374.1 bt374.2.1) else (laws_FnTracking.j0 k t342 t343 t350 t351 t357 t362 t363 bt374.2.2 bt378.2 bt380.1 (t361 != t350) t340 t341 bt374.1 bt374.2.1)) else (laws_FnTracking.j0 k t342 t343 t350 t351 t357 t362 t363 bt374.2.2 bt378.2 bt380.1 true t340 t341 bt374.1 bt374.2.1))) else (laws_FnTracking.j0 k t342 t343 t350 t351 t357 t362 t363 bt374.2.2 bt378.2 bt380.1 true t340 t341 bt374.1 bt374.2.1))) else (laws_FnTracking.j0 k t342 t343 t350 t351 t357 t362 t363 bt374.2.2 bt378.2 bt380.1 true t340 t341 bt374.1 bt374.2.1)) else (laws_FnTracking.j0 k t342 t343 t350 t351 t357 t362 t363 bt374.2.2 bt378.2 bt380.1 true t340 t341 bt374.1 bt374.2.1))) else (laws_FnTracking.j0 k t342 t343 t350 t351 t357 t362 t363 bt374.2.2 bt378.2 bt380.1 true t340 t341 bt374.1 bt374.2.1))) else (laws_FnTracking.j0 k t342 t343 t350 t351 t357 t362 t363 bt374.2.2 bt378.2 bt380.1 true t340 t341 bt374.1 bt374.2.1))))))) = some r := H
  have A13 := zm A130
  clear A130
  replace H := Option.bind_eq_some_iff.mp H
  obtain ⟨⟨t374, t375, t376⟩, A140, H⟩ := H
  replace H : ((impl_SettlesAfter.f k t374 t375 t376).bind fun bt378 => ((spec_SettlesAfter.f k t374 t375 t376).bind fun bt380 => (if (t350 != t354) = true then (laws_FnTracking.j0 k t342 t343 t350 t351 t357 t362 t363 t376 bt378.2 bt380.1 true t340 t341 t374 t375) else ((laws_qInts.f k t347 t351).bind fun t382 => (if t382 = true then (if (t356 != t358) = true then (laws_FnTracking.j0 k t342 t343 t350 t351 t357 t362 t363 t376 bt378.2 bt380.1 true t340 t341 t374 t375) else (if t355 = t357 then (if (t361 != t364) = true then (laws_FnTracking.j0 k t342 t343 t350 t351 t357 t362 t363 t376 bt378.2 bt380.1 true t340 t341 t374 t375) else (if t359 = t362 then (if t360 = t363 then (if (t371 != t373) = true then (laws_FnTracking.j0 k t342 t343 t350 t351 t357 t362 t363 t376 bt378.2 bt380.1 true t340 t341 t374 t375) else (if t370 = t372 then (if (bt378.2 != bt380.2) = true then (laws_FnTracking.j0 k t342 t343 t350 t351 t357 t362 t363 t376 bt378.2 bt380.1 true t340 t341 t374 t375) else (if bt378.1 = bt380.1 then (if (t356 != t350) = true then (laws_FnTracking.j0 k t342 t343 t350 t351 t357 t362 t363 t376 bt378.2 bt380.1 true t340 t341 t374 t375) else (laws_FnTracking.j0 k t342 t343 t350 t351 t357 t362 t363 t376 bt378.2 bt380.1 (t361 != t350) t340 t341 t374 t375)) else (laws_FnTracking.j0 k t342 t343 t350 t351 t357 t362 t363 t376 bt378.2 bt380.1 true t340 t341 t374 t375))) else (laws_FnTracking.j0 k t342 t343 t350 t351 t357 t362 t363 t376 bt378.2 bt380.1 true t340 t341 t374 t375))) else (laws_FnTracking.j0 k t342 t343 t350 t351 t357 t362 t363 t376 bt378.2 bt380.1 true t340 t341 t374 t375)) else (laws_FnTracking.j0 k t342 t343 t350 t351 t357 t362 t363 t376 bt378.2 bt380.1 true t340 t341 t374 t375))) else (laws_FnTracking.j0 k t342 t343 t350 t351 t357 t362 t363 t376 bt378.2 bt380.1 true t340 t341 t374 t375))) else (laws_FnTracking.j0 k t342 t343 t350 t351 t357 t362 t363 t376 bt378.2 bt380.1 true t340 t341 t374 t375)))))) = some r := H
  have A14 := zm A140
  clear A140
  replace H := Option.bind_eq_some_iff.mp H
  obtain ⟨⟨t378, t379⟩, A150, H⟩ := H
  replace H : ((spec_SettlesAfter.f k t374 t375 t376).bind fun bt380 => (if (t350 != t354) = true then (laws_FnTracking.j0 k t342 t343 t350 t351 t357 t362 t363 t376 t379 bt380.1 true t340 t341 t374 t375) else ((laws_qInts.f k t347 t351).bind fun t382 => (if t382 = true then (if (t356 != t358) = true then (laws_FnTracking.j0 k t342 t343 t350 t351 t357 t362 t363 t376 t379 bt380.1 true t340 t341 t374 t375) else (if t355 = t357 then (if (t361 != t364) = true then (laws_FnTracking.j0 k t342 t343 t350 t351 t357 t362 t363 t376 t379 bt380.1 true t340 t341 t374 t375) else (if t359 = t362 then (if t360 = t363 then (if (t371 != t373) = true then (laws_FnTracking.j0 k t342 t343 t350 t351 t357 t362 t363 t376 t379 bt380.1 true t340 t341 t374 t375) else (if t370 = t372 then (if (t379 != bt380.2) = true then (laws_FnTracking.j0 k t342 t343 t350 t351 t357 t362 t363 t376 t379 bt380.1 true t340 t341 t374 t375) else (if t378 = bt380.1 then (if (t356 != t350) = true then (laws_FnTracking.j0 k t342 t343 t350 t351 t357 t362 t363 t376 t379 bt380.1 true t340 t341 t374 t375) else (laws_FnTracking.j0 k t342 t343 t350 t351 t357 t362 t363 t376 t379 bt380.1 (t361 != t350) t340 t341 t374 t375)) else (laws_FnTracking.j0 k t342 t343 t350 t351 t357 t362 t363 t376 t379 bt380.1 true t340 t341 t374 t375))) else (laws_FnTracking.j0 k t342 t343 t350 t351 t357 t362 t363 t376 t379 bt380.1 true t340 t341 t374 t375))) else (laws_FnTracking.j0 k t342 t343 t350 t351 t357 t362 t363 t376 t379 bt380.1 true t340 t341 t374 t375)) else (laws_FnTracking.j0 k t342 t343 t350 t351 t357 t362 t363 t376 t379 bt380.1 true t340 t341 t374 t375))) else (laws_FnTracking.j0 k t342 t343 t350 t351 t357 t362 t363 t376 t379 bt380.1 true t340 t341 t374 t375))) else (laws_FnTracking.j0 k t342 t343 t350 t351 t357 t362 t363 t376 t379 bt380.1 true t340 t341 t374 t375))))) = some r := H
  have A15 := zm A150
  clear A150
  replace H := Option.bind_eq_some_iff.mp H
  obtain ⟨⟨t380, t381⟩, A160, H⟩ := H
  replace H : (if (t350 != t354) = true then (laws_FnTracking.j0 k t342 t343 t350 t351 t357 t362 t363 t376 t379 t380 true t340 t341 t374 t375) else ((laws_qInts.f k t347 t351).bind fun t382 => (if t382 = true then (if (t356 != t358) = true then (laws_FnTracking.j0 k t342 t343 t350 t351 t357 t362 t363 t376 t379 t380 true t340 t341 t374 t375) else (if t355 = t357 then (if (t361 != t364) = true then (laws_FnTracking.j0 k t342 t343 t350 t351 t357 t362 t363 t376 t379 t380 true t340 t341 t374 t375) else (if t359 = t362 then (if t360 = t363 then (if (t371 != t373) = true then (laws_FnTracking.j0 k t342 t343 t350 t351 t357 t362 t363 t376 t379 t380 true t340 t341 t374 t375) else (if t370 = t372 then (if (t379 != t381) = true then (laws_FnTracking.j0 k t342 t343 t350 t351 t357 t362 t363 t376 t379 t380 true t340 t341 t374 t375) else (if t378 = t380 then (if (t356 != t350) = true then (laws_FnTracking.j0 k t342 t343 t350 t351 t357 t362 t363 t376 t379 t380 true t340 t341 t374 t375) else (laws_FnTracking.j0 k t342 t343 t350 t351 t357 t362 t363 t376 t379 t380 (t361 != t350) t340 t341 t374 t375)) else (laws_FnTracking.j0 k t342 t343 t350 t351 t357 t362 t363 t376 t379 t380 true t340 t341 t374 t375))) else (laws_FnTracking.j0 k t342 t343 t350 t351 t357 t362 t363 t376 t379 t380 true t340 t341 t374 t375))) else (laws_FnTracking.j0 k t342 t343 t350 t351 t357 t362 t363 t376 t379 t380 true t340 t341 t374 t375)) else (laws_FnTracking.j0 k t342 t343 t350 t351 t357 t362 t363 t376 t379 t380 true t340 t341 t374 t375))) else (laws_FnTracking.j0 k t342 t343 t350 t351 t357 t362 t363 t376 t379 t380 true t340 t341 t374 t375))) else (laws_FnTracking.j0 k t342 t343 t350 t351 t357 t362 t363 t376 t379 t380 true t340 t341 t374 t375)))) = some r := H
  have A16 := zm A160
  clear A160
  have HC17 := zm H
  clear H
  go_enter Try.func9, Try.ntmps9
  go_upto_region 16 with (first | (go_at_call 36; (with_reducible refine (spec_DrawTrackRun.calls k _ _ l0 t340 t341 t342 t343 _ ?side1 ?side2 A4.out).mono ?_); (case side1 => repeat (first | exact HR0.out | (with_reducible refine Kd.C_alloc ?_ _) | (with_reducible refine Kd.C_drewN ?_ _) | (with_reducible refine Kd.C_drew ?_))); (case side2 => exact HC0.out); rintro e w18 ⟨v344, rfl, ho0, hb⟩; have n0_ := zm (Kd.R_lower ho0 (below_size zb)); have n1_ := zm (below_step zb hb); clear HB; have HO345 := n0_; have HB := n1_; clear n0_ n1_; (try clear hb); (try clear hb2); (try clear hk); (try clear hi); (try clear ho0)) | ((with_reducible refine gate_dst (N := 5) rfl ?_); refine box_event ?hg (N := 5) ?hd (cs := #[.int .i64 0, .int .i64 0]) (t := 47) ?hr ?_; (case hd => rfl); (case hg => rfl); (case hr => first | (go_simp; done) | (go_simp; rfl)); intro gb346 hg w19 hbox hb; have n0_ := zm (Kd.R_below (by (with_reducible repeat (first | apply Kd.R_alloc | apply Kd.R_drewN | apply Kd.R_drew)); exact HO345.out) hb); have n1_ := zm (below_step zb hb); have n2_ := zm (hbox); have n3_ := zm (zs hg zb : w.heap.size ≤ gb346); have n4_ := zm (zs hg zb : w.heap.size ≤ gb346); clear HO345; clear HB; have HO345 := n0_; have HB := n1_; have BK346 := n2_; have GW346 := n3_; have GE346 := n4_; clear n0_ n1_ n2_ n3_ n4_; clear hb hbox hg; obtain ⟨hcz20_0, hcz20_1, hfz20_0, hfz20_1⟩ := zc2 BK346.out; obtain ⟨Ao21, co21, eo21⟩ := Kd.R_slice HO345.out; subst eo21) | (go_at_call 37; (with_reducible refine (impl_TrackRun.calls k t340 t341 t342 _ _ t343 t347 t350 _ ?side1 ?side2 A5.out).mono ?_); (case side1 => refine (Kd.R_reads' (e := 3) (base := w.heap.size) (ok := fun k_ => True) (n := t343.length) (c := co21) ?_).2.2; exact (by (with_reducible repeat (first | apply Kd.R_alloc | apply Kd.R_drewN | apply Kd.R_drew)); exact (Kd.R_mono (Kd.R_far (p := ⟨gb346, 1, none⟩) (Kd.R_far (p := ⟨gb346, 0, none⟩) (Kd.R_types HO345.out BK346.out (by decide)) (fun _ hk => hk.2) (.int .i64 t340)) (fun _ hk => hk.2) (.int .i64 t341)) (fun _ h_ => h_.1)))); (case side2 => exact (Kd.R_reads' HO345.out).2.1); rintro e w22 ⟨v348, rfl, ho0, hb⟩; have n0_ := zm (Kd.R_elder' (by (with_reducible repeat (first | apply Kd.R_alloc | apply Kd.R_drewN | apply Kd.R_drew)); exact (Kd.R_mono (Kd.R_far (p := ⟨gb346, 1, none⟩) (Kd.R_far (p := ⟨gb346, 0, none⟩) (Kd.R_types HO345.out BK346.out (by decide)) (fun _ hk => hk.2) (.int .i64 t340)) (fun _ hk => hk.2) (.int .i64 t341)) (fun _ h_ => h_.1))) (Kd.R_base ho0) hb); have n1_ := zm (Kd.R_lower (Kd.R_new' ho0 (Kd.R_lt (by (with_reducible repeat (first | apply Kd.R_alloc | apply Kd.R_drewN | apply Kd.R_drew)); exact (Kd.R_mono (Kd.R_far (p := ⟨gb346, 1, none⟩) (Kd.R_far (p := ⟨gb346, 0, none⟩) (Kd.R_types HO345.out BK346.out (by decide)) (fun _ hk => hk.2) (.int .i64 t340)) (fun _ hk => hk.2) (.int .i64 t341)) (fun _ h_ => h_.1))))) (below_size zb)); have n2_ := zm (blk_below (g := gb346) (o := .cells #[.int .i64 t340, .int .i64 t341] 47 (0, 0)) (by (with_reducible repeat (first | refine blk_drewN ?_ _ | refine blk_drew ?_ | refine blk_alloc ?_ _)); refine blk_put (cs := #[.int .i64 t340, .int .i64 0]) ?_ 1 _ rfl; (with_reducible repeat (first | refine blk_drewN ?_ _ | refine blk_drew ?_ | refine blk_alloc ?_ _)); refine blk_put (cs := #[.int .i64 0, .int .i64 0]) ?_ 0 _ rfl; (with_reducible repeat (first | refine blk_drewN ?_ _ | refine blk_drew ?_ | refine blk_alloc ?_ _)); exact BK346.out) hb); have n3_ := zm (below_step zb hb); clear HO345; clear BK346; clear HB; have HO345 := n0_; have HO349 := n1_; have BK346 := n2_; have HB := n3_; clear n0_ n1_ n2_ n3_; (try clear hb); (try clear hb2); (try clear hk); (try clear hi); (try clear ho0); obtain ⟨hcz23_0, hcz23_1, hfz23_0, hfz23_1⟩ := zc2 BK346.out) | (go_at_call 38; (with_reducible refine (spec_TrackRun.calls k t340 t341 t342 _ _ t343 t351 t354 _ ?side1 ?side2 A6.out).mono ?_); (case side1 => repeat (first | exact (Kd.R_reads' HO345.out).2.2 | (with_reducible refine Kd.C_alloc ?_ _) | (with_reducible refine Kd.C_drewN ?_ _) | (with_reducible refine Kd.C_drew ?_))); (case side2 => exact (Kd.R_reads' HO345.out).2.1); rintro e w24 ⟨v352, rfl, ho0, hb⟩; have n0_ := zm (Kd.R_elder' (by (with_reducible repeat (first | apply Kd.R_alloc | apply Kd.R_drewN | apply Kd.R_drew)); exact HO345.out) (Kd.R_base ho0) hb); have n1_ := zm (Kd.R_elder' (by (with_reducible repeat (first | apply Kd.R_alloc | apply Kd.R_drewN | apply Kd.R_drew)); exact HO349.out) (Kd.R_base ho0) hb); have n2_ := zm (Kd.R_lower (Kd.R_new' (Kd.R_new' ho0 (Kd.R_lt (by (with_reducible repeat (first | apply Kd.R_alloc | apply Kd.R_drewN | apply Kd.R_drew)); exact HO345.out))) (Kd.R_lt (by (with_reducible repeat (first | apply Kd.R_alloc | apply Kd.R_drewN | apply Kd.R_drew)); exact HO349.out))) (below_size zb)); have n3_ := zm (blk_below (g := gb346) zk hb); have n4_ := zm (below_step zb hb); clear HO345; clear HO349; clear BK346; clear HB; have HO345 := n0_; have HO349 := n1_; have HO353 := n2_; have BK346 := n3_; have HB := n4_; clear n0_ n1_ n2_ n3_ n4_; (try clear hb); (try clear hb2); (try clear hk); (try clear hi); (try clear ho0); obtain ⟨hcz25_0, hcz25_1, hfz25_0, hfz25_1⟩ := zc2 BK346.out) | (go_at_call 39; (with_reducible refine (impl_WorstOffset.calls k t340 t341 t342 _ _ t343 t355 t356 _ ?side1 ?side2 A7.out).mono ?_); (case side1 => repeat (first | exact (Kd.R_reads' HO345.out).2.2 | (with_reducible refine Kd.C_alloc ?_ _) | (with_reducible refine Kd.C_drewN ?_ _) | (with_reducible refine Kd.C_drew ?_))); (case side2 => exact (Kd.R_reads' HO345.out).2.1); rintro e w26 ⟨rfl, hb⟩; have n0_ := zm (Kd.R_below (by (with_reducible repeat (first | apply Kd.R_alloc | apply Kd.R_drewN | apply Kd.R_drew)); exact HO345.out) hb); have n1_ := zm (Kd.R_below (by (with_reducible repeat (first | apply Kd.R_alloc | apply Kd.R_drewN | apply Kd.R_drew)); exact HO349.out) hb); have n2_ := zm (Kd.R_below (by (with_reducible repeat (first | apply Kd.R_alloc | apply Kd.R_drewN | apply Kd.R_drew)); exact HO353.out) hb); have n3_ := zm (blk_below (g := gb346) zk hb); have n4_ := zm (below_step zb hb); clear HO345; clear HO349; clear HO353; clear BK346; clear HB; have HO345 := n0_; have HO349 := n1_; have HO353 := n2_; have BK346 := n3_; have HB := n4_; clear n0_ n1_ n2_ n3_ n4_; (try clear hb); (try clear hb2); (try clear hk); (try clear hi); obtain ⟨hcz27_0, hcz27_1, hfz27_0, hfz27_1⟩ := zc2 BK346.out) | (go_at_call 40; (with_reducible refine (spec_WorstOffset.calls k t340 t341 t342 _ _ t343 t357 t358 _ ?side1 ?side2 A8.out).mono ?_); (case side1 => repeat (first | exact (Kd.R_reads' HO345.out).2.2 | (with_reducible refine Kd.C_alloc ?_ _) | (with_reducible refine Kd.C_drewN ?_ _) | (with_reducible refine Kd.C_drew ?_))); (case side2 => exact (Kd.R_reads' HO345.out).2.1); rintro e w28 ⟨rfl, hb⟩; have n0_ := zm (Kd.R_below (by (with_reducible repeat (first | apply Kd.R_alloc | apply Kd.R_drewN | apply Kd.R_drew)); exact HO345.out) hb); have n1_ := zm (Kd.R_below (by (with_reducible repeat (first | apply Kd.R_alloc | apply Kd.R_drewN | apply Kd.R_drew)); exact HO349.out) hb); have n2_ := zm (Kd.R_below (by (with_reducible repeat (first | apply Kd.R_alloc | apply Kd.R_drewN | apply Kd.R_drew)); exact HO353.out) hb); have n3_ := zm (blk_below (g := gb346) zk hb); have n4_ := zm (below_step zb hb); clear HO345; clear HO349; clear HO353; clear BK346; clear HB; have HO345 := n0_; have HO349 := n1_; have HO353 := n2_; have BK346 := n3_; have HB := n4_; clear n0_ n1_ n2_ n3_ n4_; (try clear hb); (try clear hb2); (try clear hk); (try clear hi); obtain ⟨hcz29_0, hcz29_1, hfz29_0, hfz29_1⟩ := zc2 BK346.out) | (go_at_call 41; (with_reducible refine (impl_MovesMade.calls k t340 t341 t342 _ _ t343 t359 t360 t361 _ ?side1 ?side2 A9.out).mono ?_); (case side1 => repeat (first | exact (Kd.R_reads' HO345.out).2.2 | (with_reducible refine Kd.C_alloc ?_ _) | (with_reducible refine Kd.C_drewN ?_ _) | (with_reducible refine Kd.C_drew ?_))); (case side2 => exact (Kd.R_reads' HO345.out).2.1); rintro e w30 ⟨rfl, hb⟩; have n0_ := zm (Kd.R_below (by (with_reducible repeat (first | apply Kd.R_alloc | apply Kd.R_drewN | apply Kd.R_drew)); exact HO345.out) hb); have n1_ := zm (Kd.R_below (by (with_reducible repeat (first | apply Kd.R_alloc | apply Kd.R_drewN | apply Kd.R_drew)); exact HO349.out) hb); have n2_ := zm (Kd.R_below (by (with_reducible repeat (first | apply Kd.R_alloc | apply Kd.R_drewN | apply Kd.R_drew)); exact HO353.out) hb); have n3_ := zm (blk_below (g := gb346) zk hb); have n4_ := zm (below_step zb hb); clear HO345; clear HO349; clear HO353; clear BK346; clear HB; have HO345 := n0_; have HO349 := n1_; have HO353 := n2_; have BK346 := n3_; have HB := n4_; clear n0_ n1_ n2_ n3_ n4_; (try clear hb); (try clear hb2); (try clear hk); (try clear hi); obtain ⟨hcz31_0, hcz31_1, hfz31_0, hfz31_1⟩ := zc2 BK346.out) | (go_at_call 42; (with_reducible refine (spec_MovesMade.calls k t340 t341 t342 _ _ t343 t362 t363 t364 _ ?side1 ?side2 A10.out).mono ?_); (case side1 => repeat (first | exact (Kd.R_reads' HO345.out).2.2 | (with_reducible refine Kd.C_alloc ?_ _) | (with_reducible refine Kd.C_drewN ?_ _) | (with_reducible refine Kd.C_drew ?_))); (case side2 => exact (Kd.R_reads' HO345.out).2.1); rintro e w32 ⟨rfl, hb⟩; have n0_ := zm (Kd.R_below (by (with_reducible repeat (first | apply Kd.R_alloc | apply Kd.R_drewN | apply Kd.R_drew)); exact HO345.out) hb); have n1_ := zm (Kd.R_below (by (with_reducible repeat (first | apply Kd.R_alloc | apply Kd.R_drewN | apply Kd.R_drew)); exact HO349.out) hb); have n2_ := zm (Kd.R_below (by (with_reducible repeat (first | apply Kd.R_alloc | apply Kd.R_drewN | apply Kd.R_drew)); exact HO353.out) hb); have n3_ := zm (blk_below (g := gb346) zk hb); have n4_ := zm (below_step zb hb); clear HO345; clear HO349; clear HO353; clear BK346; clear HB; have HO345 := n0_; have HO349 := n1_; have HO353 := n2_; have BK346 := n3_; have HB := n4_; clear n0_ n1_ n2_ n3_ n4_; (try clear hb); (try clear hb2); (try clear hk); (try clear hi)) | (go_at_call 43; (with_reducible refine (spec_DrawTrackStep.calls _ _ l1 t365 t366 t367 t368 _ ?side1 ?side2 A11.out).mono ?_); (case side1 => repeat (first | exact (Kd.C_below HR1.out HB.out) | (with_reducible refine Kd.C_alloc ?_ _) | (with_reducible refine Kd.C_drewN ?_ _) | (with_reducible refine Kd.C_drew ?_))); (case side2 => exact HC1.out); rintro e w33 ⟨rfl, hb⟩; have n0_ := zm (Kd.R_below (by (with_reducible repeat (first | apply Kd.R_alloc | apply Kd.R_drewN | apply Kd.R_drew)); exact HO345.out) hb); have n1_ := zm (Kd.R_below (by (with_reducible repeat (first | apply Kd.R_alloc | apply Kd.R_drewN | apply Kd.R_drew)); exact HO349.out) hb); have n2_ := zm (Kd.R_below (by (with_reducible repeat (first | apply Kd.R_alloc | apply Kd.R_drewN | apply Kd.R_drew)); exact HO353.out) hb); have n3_ := zm (blk_below (g := gb346) zk hb); have n4_ := zm (below_step zb hb); clear HO345; clear HO349; clear HO353; clear BK346; clear HB; have HO345 := n0_; have HO349 := n1_; have HO353 := n2_; have BK346 := n3_; have HB := n4_; clear n0_ n1_ n2_ n3_ n4_; (try clear hb); (try clear hb2); (try clear hk); (try clear hi)) | ((with_reducible refine gate_dst (N := 22) rfl ?_); refine box_event ?hg (N := 22) ?hd (cs := #[.int .i64 0, .int .i64 0]) (t := 47) ?hr ?_; (case hd => rfl); (case hg => rfl); (case hr => first | (go_simp; done) | (go_simp; rfl)); intro gb369 hg w34 hbox hb; have n0_ := zm (Kd.R_below (by (with_reducible repeat (first | apply Kd.R_alloc | apply Kd.R_drewN | apply Kd.R_drew)); exact HO345.out) hb); have n1_ := zm (Kd.R_below (by (with_reducible repeat (first | apply Kd.R_alloc | apply Kd.R_drewN | apply Kd.R_drew)); exact HO349.out) hb); have n2_ := zm (Kd.R_below (by (with_reducible repeat (first | apply Kd.R_alloc | apply Kd.R_drewN | apply Kd.R_drew)); exact HO353.out) hb); have n3_ := zm (blk_below (g := gb346) zk hb); have n4_ := zm (below_step zb hb); have n5_ := zm (hbox); have n6_ := zm (zs hg zb : w.heap.size ≤ gb369); have n7_ := zm (zs hg zb : w.heap.size ≤ gb369); have n8_ := zm (zl hg zk : gb346 ≠ gb369); have n9_ := zm (zg hg zk : gb369 ≠ gb346); clear HO345; clear HO349; clear HO353; clear BK346; clear HB; have HO345 := n0_; have HO349 := n1_; have HO353 := n2_; have BK346 := n3_; have HB := n4_; have BK369 := n5_; have GW369 := n6_; have GE369 := n7_; have NB346_369 := n8_; have NB369_346 := n9_; clear n0_ n1_ n2_ n3_ n4_ n5_ n6_ n7_ n8_ n9_; clear hb hbox hg; have hnb35 := NB369_346.out; have hnc35 := NB346_369.out; obtain ⟨hcz36_0, hcz36_1, hfz36_0, hfz36_1⟩ := zc2 BK369.out) | (go_at_call 44; (with_reducible refine (impl_TrackStep.calls k t365 t366 t367 t368 t370 t371 _ A12.out).mono ?_); rintro e w37 ⟨rfl, hb⟩; have n0_ := zm (Kd.R_below (by (with_reducible repeat (first | apply Kd.R_alloc | apply Kd.R_drewN | apply Kd.R_drew)); exact (Kd.R_mono (Kd.R_far (p := ⟨gb369, 1, none⟩) (Kd.R_far (p := ⟨gb369, 0, none⟩) (Kd.R_types HO345.out BK369.out (by decide)) (fun _ hk => hk.2) (.int .i64 t365)) (fun _ hk => hk.2) (.int .i64 t366)) (fun _ h_ => h_.1))) hb); have n1_ := zm (Kd.R_below (by (with_reducible repeat (first | apply Kd.R_alloc | apply Kd.R_drewN | apply Kd.R_drew)); exact (Kd.R_mono (Kd.R_far (p := ⟨gb369, 1, none⟩) (Kd.R_far (p := ⟨gb369, 0, none⟩) (Kd.R_types HO349.out BK369.out (by decide)) (fun _ hk => hk.2) (.int .i64 t365)) (fun _ hk => hk.2) (.int .i64 t366)) (fun _ h_ => h_.1))) hb); have n2_ := zm (Kd.R_below (by (with_reducible repeat (first | apply Kd.R_alloc | apply Kd.R_drewN | apply Kd.R_drew)); exact (Kd.R_mono (Kd.R_far (p := ⟨gb369, 1, none⟩) (Kd.R_far (p := ⟨gb369, 0, none⟩) (Kd.R_types HO353.out BK369.out (by decide)) (fun _ hk => hk.2) (.int .i64 t365)) (fun _ hk => hk.2) (.int .i64 t366)) (fun _ h_ => h_.1))) hb); have n3_ := zm (blk_below (g := gb346) (o := .cells #[.int .i64 t340, .int .i64 t341] 47 (0, 0)) zK hb); have n4_ := zm (blk_below (g := gb369) (o := .cells #[.int .i64 t365, .int .i64 t366] 47 (0, 0)) (by (with_reducible repeat (first | refine blk_drewN ?_ _ | refine blk_drew ?_ | refine blk_alloc ?_ _)); refine blk_put (cs := #[.int .i64 t365, .int .i64 0]) ?_ 1 _ rfl; (with_reducible repeat (first | refine blk_drewN ?_ _ | refine blk_drew ?_ | refine blk_alloc ?_ _)); refine blk_put (cs := #[.int .i64 0, .int .i64 0]) ?_ 0 _ rfl; (with_reducible repeat (first | refine blk_drewN ?_ _ | refine blk_drew ?_ | refine blk_alloc ?_ _)); exact BK369.out) hb); have n5_ := zm (below_step zb hb); clear HO345; clear HO349; clear HO353; clear BK346; clear BK369; clear HB; have HO345 := n0_; have HO349 := n1_; have HO353 := n2_; have BK346 := n3_; have BK369 := n4_; have HB := n5_; clear n0_ n1_ n2_ n3_ n4_ n5_; (try clear hb); (try clear hb2); (try clear hk); (try clear hi); obtain ⟨hcz38_0, hcz38_1, hfz38_0, hfz38_1⟩ := zc2 BK369.out) | (go_at_call 45; (with_reducible refine (spec_TrackStep.calls k t365 t366 t367 t368 t372 t373 _ A13.out).mono ?_); rintro e w39 ⟨rfl, hb⟩; have n0_ := zm (Kd.R_below (by (with_reducible repeat (first | apply Kd.R_alloc | apply Kd.R_drewN | apply Kd.R_drew)); exact HO345.out) hb); have n1_ := zm (Kd.R_below (by (with_reducible repeat (first | apply Kd.R_alloc | apply Kd.R_drewN | apply Kd.R_drew)); exact HO349.out) hb); have n2_ := zm (Kd.R_below (by (with_reducible repeat (first | apply Kd.R_alloc | apply Kd.R_drewN | apply Kd.R_drew)); exact HO353.out) hb); have n3_ := zm (blk_below (g := gb346) zk hb); have n4_ := zm (blk_below (g := gb369) zk hb); have n5_ := zm (below_step zb hb); clear HO345; clear HO349; clear HO353; clear BK346; clear BK369; clear HB; have HO345 := n0_; have HO349 := n1_; have HO353 := n2_; have BK346 := n3_; have BK369 := n4_; have HB := n5_; clear n0_ n1_ n2_ n3_ n4_ n5_; (try clear hb); (try clear hb2); (try clear hk); (try clear hi)) | (go_at_call 46; (with_reducible refine (spec_DrawSettlesAfter.calls _ _ l1 t374 t375 t376 _ ?side1 ?side2 A14.out).mono ?_); (case side1 => repeat (first | exact (Kd.C_below HR1.out HB.out) | (with_reducible refine Kd.C_alloc ?_ _) | (with_reducible refine Kd.C_drewN ?_ _) | (with_reducible refine Kd.C_drew ?_))); (case side2 => exact HC1.out); rintro e w40 ⟨rfl, hb⟩; have n0_ := zm (Kd.R_below (by (with_reducible repeat (first | apply Kd.R_alloc | apply Kd.R_drewN | apply Kd.R_drew)); exact HO345.out) hb); have n1_ := zm (Kd.R_below (by (with_reducible repeat (first | apply Kd.R_alloc | apply Kd.R_drewN | apply Kd.R_drew)); exact HO349.out) hb); have n2_ := zm (Kd.R_below (by (with_reducible repeat (first | apply Kd.R_alloc | apply Kd.R_drewN | apply Kd.R_drew)); exact HO353.out) hb); have n3_ := zm (blk_below (g := gb346) zk hb); have n4_ := zm (blk_below (g := gb369) zk hb); have n5_ := zm (below_step zb hb); clear HO345; clear HO349; clear HO353; clear BK346; clear BK369; clear HB; have HO345 := n0_; have HO349 := n1_; have HO353 := n2_; have BK346 := n3_; have BK369 := n4_; have HB := n5_; clear n0_ n1_ n2_ n3_ n4_ n5_; (try clear hb); (try clear hb2); (try clear hk); (try clear hi)) | ((with_reducible refine gate_dst (N := 29) rfl ?_); refine box_event ?hg (N := 29) ?hd (cs := #[.int .i64 0, .int .i64 0]) (t := 47) ?hr ?_; (case hd => rfl); (case hg => rfl); (case hr => first | (go_simp; done) | (go_simp; rfl)); intro gb377 hg w41 hbox hb; have n0_ := zm (Kd.R_below (by (with_reducible repeat (first | apply Kd.R_alloc | apply Kd.R_drewN | apply Kd.R_drew)); exact HO345.out) hb); have n1_ := zm (Kd.R_below (by (with_reducible repeat (first | apply Kd.R_alloc | apply Kd.R_drewN | apply Kd.R_drew)); exact HO349.out) hb); have n2_ := zm (Kd.R_below (by (with_reducible repeat (first | apply Kd.R_alloc | apply Kd.R_drewN | apply Kd.R_drew)); exact HO353.out) hb); have n3_ := zm (blk_below (g := gb346) zk hb); have n4_ := zm (blk_below (g := gb369) zk hb); have n5_ := zm (below_step zb hb); have n6_ := zm (hbox); have n7_ := zm (zs hg zb : w.heap.size ≤ gb377); have n8_ := zm (zs hg zb : w.heap.size ≤ gb377); have n9_ := zm (zl hg zk : gb346 ≠ gb377); have n10_ := zm (zg hg zk : gb377 ≠ gb346); have n11_ := zm (zl hg zk : gb369 ≠ gb377); have n12_ := zm (zg hg zk : gb377 ≠ gb369); clear HO345; clear HO349; clear HO353; clear BK346; clear BK369; clear HB; have HO345 := n0_; have HO349 := n1_; have HO353 := n2_; have BK346 := n3_; have BK369 := n4_; have HB := n5_; have BK377 := n6_; have GW377 := n7_; have GE377 := n8_; have NB346_377 := n9_; have NB377_346 := n10_; have NB369_377 := n11_; have NB377_369 := n12_; clear n0_ n1_ n2_ n3_ n4_ n5_ n6_ n7_ n8_ n9_ n10_ n11_ n12_; clear hb hbox hg; have hnb42 := NB377_346.out; have hnc42 := NB346_377.out; have hnb43 := NB377_369.out; have hnc43 := NB369_377.out; obtain ⟨hcz44_0, hcz44_1, hfz44_0, hfz44_1⟩ := zc2 BK377.out) | (go_at_call 47; (with_reducible refine (impl_SettlesAfter.calls k t374 t375 t376 t378 t379 _ A15.out).mono ?_); rintro e w45 ⟨rfl, hb⟩; have n0_ := zm (Kd.R_below (by (with_reducible repeat (first | apply Kd.R_alloc | apply Kd.R_drewN | apply Kd.R_drew)); exact (Kd.R_mono (Kd.R_far (p := ⟨gb377, 1, none⟩) (Kd.R_far (p := ⟨gb377, 0, none⟩) (Kd.R_types HO345.out BK377.out (by decide)) (fun _ hk => hk.2) (.int .i64 t374)) (fun _ hk => hk.2) (.int .i64 t375)) (fun _ h_ => h_.1))) hb); have n1_ := zm (Kd.R_below (by (with_reducible repeat (first | apply Kd.R_alloc | apply Kd.R_drewN | apply Kd.R_drew)); exact (Kd.R_mono (Kd.R_far (p := ⟨gb377, 1, none⟩) (Kd.R_far (p := ⟨gb377, 0, none⟩) (Kd.R_types HO349.out BK377.out (by decide)) (fun _ hk => hk.2) (.int .i64 t374)) (fun _ hk => hk.2) (.int .i64 t375)) (fun _ h_ => h_.1))) hb); have n2_ := zm (Kd.R_below (by (with_reducible repeat (first | apply Kd.R_alloc | apply Kd.R_drewN | apply Kd.R_drew)); exact (Kd.R_mono (Kd.R_far (p := ⟨gb377, 1, none⟩) (Kd.R_far (p := ⟨gb377, 0, none⟩) (Kd.R_types HO353.out BK377.out (by decide)) (fun _ hk => hk.2) (.int .i64 t374)) (fun _ hk => hk.2) (.int .i64 t375)) (fun _ h_ => h_.1))) hb); have n3_ := zm (blk_below (g := gb346) (o := .cells #[.int .i64 t340, .int .i64 t341] 47 (0, 0)) zK hb); have n4_ := zm (blk_below (g := gb369) (o := .cells #[.int .i64 t365, .int .i64 t366] 47 (0, 0)) zK hb); have n5_ := zm (blk_below (g := gb377) (o := .cells #[.int .i64 t374, .int .i64 t375] 47 (0, 0)) (by (with_reducible repeat (first | refine blk_drewN ?_ _ | refine blk_drew ?_ | refine blk_alloc ?_ _)); refine blk_put (cs := #[.int .i64 t374, .int .i64 0]) ?_ 1 _ rfl; (with_reducible repeat (first | refine blk_drewN ?_ _ | refine blk_drew ?_ | refine blk_alloc ?_ _)); refine blk_put (cs := #[.int .i64 0, .int .i64 0]) ?_ 0 _ rfl; (with_reducible repeat (first | refine blk_drewN ?_ _ | refine blk_drew ?_ | refine blk_alloc ?_ _)); exact BK377.out) hb); have n6_ := zm (below_step zb hb); clear HO345; clear HO349; clear HO353; clear BK346; clear BK369; clear BK377; clear HB; have HO345 := n0_; have HO349 := n1_; have HO353 := n2_; have BK346 := n3_; have BK369 := n4_; have BK377 := n5_; have HB := n6_; clear n0_ n1_ n2_ n3_ n4_ n5_ n6_; (try clear hb); (try clear hb2); (try clear hk); (try clear hi); obtain ⟨hcz46_0, hcz46_1, hfz46_0, hfz46_1⟩ := zc2 BK377.out) | (go_at_call 48; (with_reducible refine (spec_SettlesAfter.calls k t374 t375 t376 t380 t381 _ A16.out).mono ?_); rintro e w47 ⟨rfl, hb⟩; have n0_ := zm (Kd.R_below (by (with_reducible repeat (first | apply Kd.R_alloc | apply Kd.R_drewN | apply Kd.R_drew)); exact HO345.out) hb); have n1_ := zm (Kd.R_below (by (with_reducible repeat (first | apply Kd.R_alloc | apply Kd.R_drewN | apply Kd.R_drew)); exact HO349.out) hb); have n2_ := zm (Kd.R_below (by (with_reducible repeat (first | apply Kd.R_alloc | apply Kd.R_drewN | apply Kd.R_drew)); exact HO353.out) hb); have n3_ := zm (blk_below (g := gb346) zk hb); have n4_ := zm (blk_below (g := gb369) zk hb); have n5_ := zm (blk_below (g := gb377) zk hb); have n6_ := zm (below_step zb hb); clear HO345; clear HO349; clear HO353; clear BK346; clear BK369; clear BK377; clear HB; have HO345 := n0_; have HO349 := n1_; have HO353 := n2_; have BK346 := n3_; have BK369 := n4_; have BK377 := n5_; have HB := n6_; clear n0_ n1_ n2_ n3_ n4_ n5_ n6_; (try clear hb); (try clear hb2); (try clear hk); (try clear hi)))
  repeat (go_quiet (first | (go_at_call 36; (with_reducible refine (spec_DrawTrackRun.calls k _ _ l0 t340 t341 t342 t343 _ ?side1 ?side2 A4.out).mono ?_); (case side1 => repeat (first | exact HR0.out | (with_reducible refine Kd.C_alloc ?_ _) | (with_reducible refine Kd.C_drewN ?_ _) | (with_reducible refine Kd.C_drew ?_))); (case side2 => exact HC0.out); rintro e w18 ⟨v344, rfl, ho0, hb⟩; have n0_ := zm (Kd.R_lower ho0 (below_size zb)); have n1_ := zm (below_step zb hb); clear HB; have HO345 := n0_; have HB := n1_; clear n0_ n1_; (try clear hb); (try clear hb2); (try clear hk); (try clear hi); (try clear ho0)) | ((with_reducible refine gate_dst (N := 5) rfl ?_); refine box_event ?hg (N := 5) ?hd (cs := #[.int .i64 0, .int .i64 0]) (t := 47) ?hr ?_; (case hd => rfl); (case hg => rfl); (case hr => first | (go_simp; done) | (go_simp; rfl)); intro gb346 hg w19 hbox hb; have n0_ := zm (Kd.R_below (by (with_reducible repeat (first | apply Kd.R_alloc | apply Kd.R_drewN | apply Kd.R_drew)); exact HO345.out) hb); have n1_ := zm (below_step zb hb); have n2_ := zm (hbox); have n3_ := zm (zs hg zb : w.heap.size ≤ gb346); have n4_ := zm (zs hg zb : w.heap.size ≤ gb346); clear HO345; clear HB; have HO345 := n0_; have HB := n1_; have BK346 := n2_; have GW346 := n3_; have GE346 := n4_; clear n0_ n1_ n2_ n3_ n4_; clear hb hbox hg; obtain ⟨hcz20_0, hcz20_1, hfz20_0, hfz20_1⟩ := zc2 BK346.out; obtain ⟨Ao21, co21, eo21⟩ := Kd.R_slice HO345.out; subst eo21) | (go_at_call 37; (with_reducible refine (impl_TrackRun.calls k t340 t341 t342 _ _ t343 t347 t350 _ ?side1 ?side2 A5.out).mono ?_); (case side1 => refine (Kd.R_reads' (e := 3) (base := w.heap.size) (ok := fun k_ => True) (n := t343.length) (c := co21) ?_).2.2; exact (by (with_reducible repeat (first | apply Kd.R_alloc | apply Kd.R_drewN | apply Kd.R_drew)); exact (Kd.R_mono (Kd.R_far (p := ⟨gb346, 1, none⟩) (Kd.R_far (p := ⟨gb346, 0, none⟩) (Kd.R_types HO345.out BK346.out (by decide)) (fun _ hk => hk.2) (.int .i64 t340)) (fun _ hk => hk.2) (.int .i64 t341)) (fun _ h_ => h_.1)))); (case side2 => exact (Kd.R_reads' HO345.out).2.1); rintro e w22 ⟨v348, rfl, ho0, hb⟩; have n0_ := zm (Kd.R_elder' (by (with_reducible repeat (first | apply Kd.R_alloc | apply Kd.R_drewN | apply Kd.R_drew)); exact (Kd.R_mono (Kd.R_far (p := ⟨gb346, 1, none⟩) (Kd.R_far (p := ⟨gb346, 0, none⟩) (Kd.R_types HO345.out BK346.out (by decide)) (fun _ hk => hk.2) (.int .i64 t340)) (fun _ hk => hk.2) (.int .i64 t341)) (fun _ h_ => h_.1))) (Kd.R_base ho0) hb); have n1_ := zm (Kd.R_lower (Kd.R_new' ho0 (Kd.R_lt (by (with_reducible repeat (first | apply Kd.R_alloc | apply Kd.R_drewN | apply Kd.R_drew)); exact (Kd.R_mono (Kd.R_far (p := ⟨gb346, 1, none⟩) (Kd.R_far (p := ⟨gb346, 0, none⟩) (Kd.R_types HO345.out BK346.out (by decide)) (fun _ hk => hk.2) (.int .i64 t340)) (fun _ hk => hk.2) (.int .i64 t341)) (fun _ h_ => h_.1))))) (below_size zb)); have n2_ := zm (blk_below (g := gb346) (o := .cells #[.int .i64 t340, .int .i64 t341] 47 (0, 0)) (by (with_reducible repeat (first | refine blk_drewN ?_ _ | refine blk_drew ?_ | refine blk_alloc ?_ _)); refine blk_put (cs := #[.int .i64 t340, .int .i64 0]) ?_ 1 _ rfl; (with_reducible repeat (first | refine blk_drewN ?_ _ | refine blk_drew ?_ | refine blk_alloc ?_ _)); refine blk_put (cs := #[.int .i64 0, .int .i64 0]) ?_ 0 _ rfl; (with_reducible repeat (first | refine blk_drewN ?_ _ | refine blk_drew ?_ | refine blk_alloc ?_ _)); exact BK346.out) hb); have n3_ := zm (below_step zb hb); clear HO345; clear BK346; clear HB; have HO345 := n0_; have HO349 := n1_; have BK346 := n2_; have HB := n3_; clear n0_ n1_ n2_ n3_; (try clear hb); (try clear hb2); (try clear hk); (try clear hi); (try clear ho0); obtain ⟨hcz23_0, hcz23_1, hfz23_0, hfz23_1⟩ := zc2 BK346.out) | (go_at_call 38; (with_reducible refine (spec_TrackRun.calls k t340 t341 t342 _ _ t343 t351 t354 _ ?side1 ?side2 A6.out).mono ?_); (case side1 => repeat (first | exact (Kd.R_reads' HO345.out).2.2 | (with_reducible refine Kd.C_alloc ?_ _) | (with_reducible refine Kd.C_drewN ?_ _) | (with_reducible refine Kd.C_drew ?_))); (case side2 => exact (Kd.R_reads' HO345.out).2.1); rintro e w24 ⟨v352, rfl, ho0, hb⟩; have n0_ := zm (Kd.R_elder' (by (with_reducible repeat (first | apply Kd.R_alloc | apply Kd.R_drewN | apply Kd.R_drew)); exact HO345.out) (Kd.R_base ho0) hb); have n1_ := zm (Kd.R_elder' (by (with_reducible repeat (first | apply Kd.R_alloc | apply Kd.R_drewN | apply Kd.R_drew)); exact HO349.out) (Kd.R_base ho0) hb); have n2_ := zm (Kd.R_lower (Kd.R_new' (Kd.R_new' ho0 (Kd.R_lt (by (with_reducible repeat (first | apply Kd.R_alloc | apply Kd.R_drewN | apply Kd.R_drew)); exact HO345.out))) (Kd.R_lt (by (with_reducible repeat (first | apply Kd.R_alloc | apply Kd.R_drewN | apply Kd.R_drew)); exact HO349.out))) (below_size zb)); have n3_ := zm (blk_below (g := gb346) zk hb); have n4_ := zm (below_step zb hb); clear HO345; clear HO349; clear BK346; clear HB; have HO345 := n0_; have HO349 := n1_; have HO353 := n2_; have BK346 := n3_; have HB := n4_; clear n0_ n1_ n2_ n3_ n4_; (try clear hb); (try clear hb2); (try clear hk); (try clear hi); (try clear ho0); obtain ⟨hcz25_0, hcz25_1, hfz25_0, hfz25_1⟩ := zc2 BK346.out) | (go_at_call 39; (with_reducible refine (impl_WorstOffset.calls k t340 t341 t342 _ _ t343 t355 t356 _ ?side1 ?side2 A7.out).mono ?_); (case side1 => repeat (first | exact (Kd.R_reads' HO345.out).2.2 | (with_reducible refine Kd.C_alloc ?_ _) | (with_reducible refine Kd.C_drewN ?_ _) | (with_reducible refine Kd.C_drew ?_))); (case side2 => exact (Kd.R_reads' HO345.out).2.1); rintro e w26 ⟨rfl, hb⟩; have n0_ := zm (Kd.R_below (by (with_reducible repeat (first | apply Kd.R_alloc | apply Kd.R_drewN | apply Kd.R_drew)); exact HO345.out) hb); have n1_ := zm (Kd.R_below (by (with_reducible repeat (first | apply Kd.R_alloc | apply Kd.R_drewN | apply Kd.R_drew)); exact HO349.out) hb); have n2_ := zm (Kd.R_below (by (with_reducible repeat (first | apply Kd.R_alloc | apply Kd.R_drewN | apply Kd.R_drew)); exact HO353.out) hb); have n3_ := zm (blk_below (g := gb346) zk hb); have n4_ := zm (below_step zb hb); clear HO345; clear HO349; clear HO353; clear BK346; clear HB; have HO345 := n0_; have HO349 := n1_; have HO353 := n2_; have BK346 := n3_; have HB := n4_; clear n0_ n1_ n2_ n3_ n4_; (try clear hb); (try clear hb2); (try clear hk); (try clear hi); obtain ⟨hcz27_0, hcz27_1, hfz27_0, hfz27_1⟩ := zc2 BK346.out) | (go_at_call 40; (with_reducible refine (spec_WorstOffset.calls k t340 t341 t342 _ _ t343 t357 t358 _ ?side1 ?side2 A8.out).mono ?_); (case side1 => repeat (first | exact (Kd.R_reads' HO345.out).2.2 | (with_reducible refine Kd.C_alloc ?_ _) | (with_reducible refine Kd.C_drewN ?_ _) | (with_reducible refine Kd.C_drew ?_))); (case side2 => exact (Kd.R_reads' HO345.out).2.1); rintro e w28 ⟨rfl, hb⟩; have n0_ := zm (Kd.R_below (by (with_reducible repeat (first | apply Kd.R_alloc | apply Kd.R_drewN | apply Kd.R_drew)); exact HO345.out) hb); have n1_ := zm (Kd.R_below (by (with_reducible repeat (first | apply Kd.R_alloc | apply Kd.R_drewN | apply Kd.R_drew)); exact HO349.out) hb); have n2_ := zm (Kd.R_below (by (with_reducible repeat (first | apply Kd.R_alloc | apply Kd.R_drewN | apply Kd.R_drew)); exact HO353.out) hb); have n3_ := zm (blk_below (g := gb346) zk hb); have n4_ := zm (below_step zb hb); clear HO345; clear HO349; clear HO353; clear BK346; clear HB; have HO345 := n0_; have HO349 := n1_; have HO353 := n2_; have BK346 := n3_; have HB := n4_; clear n0_ n1_ n2_ n3_ n4_; (try clear hb); (try clear hb2); (try clear hk); (try clear hi); obtain ⟨hcz29_0, hcz29_1, hfz29_0, hfz29_1⟩ := zc2 BK346.out) | (go_at_call 41; (with_reducible refine (impl_MovesMade.calls k t340 t341 t342 _ _ t343 t359 t360 t361 _ ?side1 ?side2 A9.out).mono ?_); (case side1 => repeat (first | exact (Kd.R_reads' HO345.out).2.2 | (with_reducible refine Kd.C_alloc ?_ _) | (with_reducible refine Kd.C_drewN ?_ _) | (with_reducible refine Kd.C_drew ?_))); (case side2 => exact (Kd.R_reads' HO345.out).2.1); rintro e w30 ⟨rfl, hb⟩; have n0_ := zm (Kd.R_below (by (with_reducible repeat (first | apply Kd.R_alloc | apply Kd.R_drewN | apply Kd.R_drew)); exact HO345.out) hb); have n1_ := zm (Kd.R_below (by (with_reducible repeat (first | apply Kd.R_alloc | apply Kd.R_drewN | apply Kd.R_drew)); exact HO349.out) hb); have n2_ := zm (Kd.R_below (by (with_reducible repeat (first | apply Kd.R_alloc | apply Kd.R_drewN | apply Kd.R_drew)); exact HO353.out) hb); have n3_ := zm (blk_below (g := gb346) zk hb); have n4_ := zm (below_step zb hb); clear HO345; clear HO349; clear HO353; clear BK346; clear HB; have HO345 := n0_; have HO349 := n1_; have HO353 := n2_; have BK346 := n3_; have HB := n4_; clear n0_ n1_ n2_ n3_ n4_; (try clear hb); (try clear hb2); (try clear hk); (try clear hi); obtain ⟨hcz31_0, hcz31_1, hfz31_0, hfz31_1⟩ := zc2 BK346.out) | (go_at_call 42; (with_reducible refine (spec_MovesMade.calls k t340 t341 t342 _ _ t343 t362 t363 t364 _ ?side1 ?side2 A10.out).mono ?_); (case side1 => repeat (first | exact (Kd.R_reads' HO345.out).2.2 | (with_reducible refine Kd.C_alloc ?_ _) | (with_reducible refine Kd.C_drewN ?_ _) | (with_reducible refine Kd.C_drew ?_))); (case side2 => exact (Kd.R_reads' HO345.out).2.1); rintro e w32 ⟨rfl, hb⟩; have n0_ := zm (Kd.R_below (by (with_reducible repeat (first | apply Kd.R_alloc | apply Kd.R_drewN | apply Kd.R_drew)); exact HO345.out) hb); have n1_ := zm (Kd.R_below (by (with_reducible repeat (first | apply Kd.R_alloc | apply Kd.R_drewN | apply Kd.R_drew)); exact HO349.out) hb); have n2_ := zm (Kd.R_below (by (with_reducible repeat (first | apply Kd.R_alloc | apply Kd.R_drewN | apply Kd.R_drew)); exact HO353.out) hb); have n3_ := zm (blk_below (g := gb346) zk hb); have n4_ := zm (below_step zb hb); clear HO345; clear HO349; clear HO353; clear BK346; clear HB; have HO345 := n0_; have HO349 := n1_; have HO353 := n2_; have BK346 := n3_; have HB := n4_; clear n0_ n1_ n2_ n3_ n4_; (try clear hb); (try clear hb2); (try clear hk); (try clear hi)) | (go_at_call 43; (with_reducible refine (spec_DrawTrackStep.calls _ _ l1 t365 t366 t367 t368 _ ?side1 ?side2 A11.out).mono ?_); (case side1 => repeat (first | exact (Kd.C_below HR1.out HB.out) | (with_reducible refine Kd.C_alloc ?_ _) | (with_reducible refine Kd.C_drewN ?_ _) | (with_reducible refine Kd.C_drew ?_))); (case side2 => exact HC1.out); rintro e w33 ⟨rfl, hb⟩; have n0_ := zm (Kd.R_below (by (with_reducible repeat (first | apply Kd.R_alloc | apply Kd.R_drewN | apply Kd.R_drew)); exact HO345.out) hb); have n1_ := zm (Kd.R_below (by (with_reducible repeat (first | apply Kd.R_alloc | apply Kd.R_drewN | apply Kd.R_drew)); exact HO349.out) hb); have n2_ := zm (Kd.R_below (by (with_reducible repeat (first | apply Kd.R_alloc | apply Kd.R_drewN | apply Kd.R_drew)); exact HO353.out) hb); have n3_ := zm (blk_below (g := gb346) zk hb); have n4_ := zm (below_step zb hb); clear HO345; clear HO349; clear HO353; clear BK346; clear HB; have HO345 := n0_; have HO349 := n1_; have HO353 := n2_; have BK346 := n3_; have HB := n4_; clear n0_ n1_ n2_ n3_ n4_; (try clear hb); (try clear hb2); (try clear hk); (try clear hi)) | ((with_reducible refine gate_dst (N := 22) rfl ?_); refine box_event ?hg (N := 22) ?hd (cs := #[.int .i64 0, .int .i64 0]) (t := 47) ?hr ?_; (case hd => rfl); (case hg => rfl); (case hr => first | (go_simp; done) | (go_simp; rfl)); intro gb369 hg w34 hbox hb; have n0_ := zm (Kd.R_below (by (with_reducible repeat (first | apply Kd.R_alloc | apply Kd.R_drewN | apply Kd.R_drew)); exact HO345.out) hb); have n1_ := zm (Kd.R_below (by (with_reducible repeat (first | apply Kd.R_alloc | apply Kd.R_drewN | apply Kd.R_drew)); exact HO349.out) hb); have n2_ := zm (Kd.R_below (by (with_reducible repeat (first | apply Kd.R_alloc | apply Kd.R_drewN | apply Kd.R_drew)); exact HO353.out) hb); have n3_ := zm (blk_below (g := gb346) zk hb); have n4_ := zm (below_step zb hb); have n5_ := zm (hbox); have n6_ := zm (zs hg zb : w.heap.size ≤ gb369); have n7_ := zm (zs hg zb : w.heap.size ≤ gb369); have n8_ := zm (zl hg zk : gb346 ≠ gb369); have n9_ := zm (zg hg zk : gb369 ≠ gb346); clear HO345; clear HO349; clear HO353; clear BK346; clear HB; have HO345 := n0_; have HO349 := n1_; have HO353 := n2_; have BK346 := n3_; have HB := n4_; have BK369 := n5_; have GW369 := n6_; have GE369 := n7_; have NB346_369 := n8_; have NB369_346 := n9_; clear n0_ n1_ n2_ n3_ n4_ n5_ n6_ n7_ n8_ n9_; clear hb hbox hg; have hnb35 := NB369_346.out; have hnc35 := NB346_369.out; obtain ⟨hcz36_0, hcz36_1, hfz36_0, hfz36_1⟩ := zc2 BK369.out) | (go_at_call 44; (with_reducible refine (impl_TrackStep.calls k t365 t366 t367 t368 t370 t371 _ A12.out).mono ?_); rintro e w37 ⟨rfl, hb⟩; have n0_ := zm (Kd.R_below (by (with_reducible repeat (first | apply Kd.R_alloc | apply Kd.R_drewN | apply Kd.R_drew)); exact (Kd.R_mono (Kd.R_far (p := ⟨gb369, 1, none⟩) (Kd.R_far (p := ⟨gb369, 0, none⟩) (Kd.R_types HO345.out BK369.out (by decide)) (fun _ hk => hk.2) (.int .i64 t365)) (fun _ hk => hk.2) (.int .i64 t366)) (fun _ h_ => h_.1))) hb); have n1_ := zm (Kd.R_below (by (with_reducible repeat (first | apply Kd.R_alloc | apply Kd.R_drewN | apply Kd.R_drew)); exact (Kd.R_mono (Kd.R_far (p := ⟨gb369, 1, none⟩) (Kd.R_far (p := ⟨gb369, 0, none⟩) (Kd.R_types HO349.out BK369.out (by decide)) (fun _ hk => hk.2) (.int .i64 t365)) (fun _ hk => hk.2) (.int .i64 t366)) (fun _ h_ => h_.1))) hb); have n2_ := zm (Kd.R_below (by (with_reducible repeat (first | apply Kd.R_alloc | apply Kd.R_drewN | apply Kd.R_drew)); exact (Kd.R_mono (Kd.R_far (p := ⟨gb369, 1, none⟩) (Kd.R_far (p := ⟨gb369, 0, none⟩) (Kd.R_types HO353.out BK369.out (by decide)) (fun _ hk => hk.2) (.int .i64 t365)) (fun _ hk => hk.2) (.int .i64 t366)) (fun _ h_ => h_.1))) hb); have n3_ := zm (blk_below (g := gb346) (o := .cells #[.int .i64 t340, .int .i64 t341] 47 (0, 0)) zK hb); have n4_ := zm (blk_below (g := gb369) (o := .cells #[.int .i64 t365, .int .i64 t366] 47 (0, 0)) (by (with_reducible repeat (first | refine blk_drewN ?_ _ | refine blk_drew ?_ | refine blk_alloc ?_ _)); refine blk_put (cs := #[.int .i64 t365, .int .i64 0]) ?_ 1 _ rfl; (with_reducible repeat (first | refine blk_drewN ?_ _ | refine blk_drew ?_ | refine blk_alloc ?_ _)); refine blk_put (cs := #[.int .i64 0, .int .i64 0]) ?_ 0 _ rfl; (with_reducible repeat (first | refine blk_drewN ?_ _ | refine blk_drew ?_ | refine blk_alloc ?_ _)); exact BK369.out) hb); have n5_ := zm (below_step zb hb); clear HO345; clear HO349; clear HO353; clear BK346; clear BK369; clear HB; have HO345 := n0_; have HO349 := n1_; have HO353 := n2_; have BK346 := n3_; have BK369 := n4_; have HB := n5_; clear n0_ n1_ n2_ n3_ n4_ n5_; (try clear hb); (try clear hb2); (try clear hk); (try clear hi); obtain ⟨hcz38_0, hcz38_1, hfz38_0, hfz38_1⟩ := zc2 BK369.out) | (go_at_call 45; (with_reducible refine (spec_TrackStep.calls k t365 t366 t367 t368 t372 t373 _ A13.out).mono ?_); rintro e w39 ⟨rfl, hb⟩; have n0_ := zm (Kd.R_below (by (with_reducible repeat (first | apply Kd.R_alloc | apply Kd.R_drewN | apply Kd.R_drew)); exact HO345.out) hb); have n1_ := zm (Kd.R_below (by (with_reducible repeat (first | apply Kd.R_alloc | apply Kd.R_drewN | apply Kd.R_drew)); exact HO349.out) hb); have n2_ := zm (Kd.R_below (by (with_reducible repeat (first | apply Kd.R_alloc | apply Kd.R_drewN | apply Kd.R_drew)); exact HO353.out) hb); have n3_ := zm (blk_below (g := gb346) zk hb); have n4_ := zm (blk_below (g := gb369) zk hb); have n5_ := zm (below_step zb hb); clear HO345; clear HO349; clear HO353; clear BK346; clear BK369; clear HB; have HO345 := n0_; have HO349 := n1_; have HO353 := n2_; have BK346 := n3_; have BK369 := n4_; have HB := n5_; clear n0_ n1_ n2_ n3_ n4_ n5_; (try clear hb); (try clear hb2); (try clear hk); (try clear hi)) | (go_at_call 46; (with_reducible refine (spec_DrawSettlesAfter.calls _ _ l1 t374 t375 t376 _ ?side1 ?side2 A14.out).mono ?_); (case side1 => repeat (first | exact (Kd.C_below HR1.out HB.out) | (with_reducible refine Kd.C_alloc ?_ _) | (with_reducible refine Kd.C_drewN ?_ _) | (with_reducible refine Kd.C_drew ?_))); (case side2 => exact HC1.out); rintro e w40 ⟨rfl, hb⟩; have n0_ := zm (Kd.R_below (by (with_reducible repeat (first | apply Kd.R_alloc | apply Kd.R_drewN | apply Kd.R_drew)); exact HO345.out) hb); have n1_ := zm (Kd.R_below (by (with_reducible repeat (first | apply Kd.R_alloc | apply Kd.R_drewN | apply Kd.R_drew)); exact HO349.out) hb); have n2_ := zm (Kd.R_below (by (with_reducible repeat (first | apply Kd.R_alloc | apply Kd.R_drewN | apply Kd.R_drew)); exact HO353.out) hb); have n3_ := zm (blk_below (g := gb346) zk hb); have n4_ := zm (blk_below (g := gb369) zk hb); have n5_ := zm (below_step zb hb); clear HO345; clear HO349; clear HO353; clear BK346; clear BK369; clear HB; have HO345 := n0_; have HO349 := n1_; have HO353 := n2_; have BK346 := n3_; have BK369 := n4_; have HB := n5_; clear n0_ n1_ n2_ n3_ n4_ n5_; (try clear hb); (try clear hb2); (try clear hk); (try clear hi)) | ((with_reducible refine gate_dst (N := 29) rfl ?_); refine box_event ?hg (N := 29) ?hd (cs := #[.int .i64 0, .int .i64 0]) (t := 47) ?hr ?_; (case hd => rfl); (case hg => rfl); (case hr => first | (go_simp; done) | (go_simp; rfl)); intro gb377 hg w41 hbox hb; have n0_ := zm (Kd.R_below (by (with_reducible repeat (first | apply Kd.R_alloc | apply Kd.R_drewN | apply Kd.R_drew)); exact HO345.out) hb); have n1_ := zm (Kd.R_below (by (with_reducible repeat (first | apply Kd.R_alloc | apply Kd.R_drewN | apply Kd.R_drew)); exact HO349.out) hb); have n2_ := zm (Kd.R_below (by (with_reducible repeat (first | apply Kd.R_alloc | apply Kd.R_drewN | apply Kd.R_drew)); exact HO353.out) hb); have n3_ := zm (blk_below (g := gb346) zk hb); have n4_ := zm (blk_below (g := gb369) zk hb); have n5_ := zm (below_step zb hb); have n6_ := zm (hbox); have n7_ := zm (zs hg zb : w.heap.size ≤ gb377); have n8_ := zm (zs hg zb : w.heap.size ≤ gb377); have n9_ := zm (zl hg zk : gb346 ≠ gb377); have n10_ := zm (zg hg zk : gb377 ≠ gb346); have n11_ := zm (zl hg zk : gb369 ≠ gb377); have n12_ := zm (zg hg zk : gb377 ≠ gb369); clear HO345; clear HO349; clear HO353; clear BK346; clear BK369; clear HB; have HO345 := n0_; have HO349 := n1_; have HO353 := n2_; have BK346 := n3_; have BK369 := n4_; have HB := n5_; have BK377 := n6_; have GW377 := n7_; have GE377 := n8_; have NB346_377 := n9_; have NB377_346 := n10_; have NB369_377 := n11_; have NB377_369 := n12_; clear n0_ n1_ n2_ n3_ n4_ n5_ n6_ n7_ n8_ n9_ n10_ n11_ n12_; clear hb hbox hg; have hnb42 := NB377_346.out; have hnc42 := NB346_377.out; have hnb43 := NB377_369.out; have hnc43 := NB369_377.out; obtain ⟨hcz44_0, hcz44_1, hfz44_0, hfz44_1⟩ := zc2 BK377.out) | (go_at_call 47; (with_reducible refine (impl_SettlesAfter.calls k t374 t375 t376 t378 t379 _ A15.out).mono ?_); rintro e w45 ⟨rfl, hb⟩; have n0_ := zm (Kd.R_below (by (with_reducible repeat (first | apply Kd.R_alloc | apply Kd.R_drewN | apply Kd.R_drew)); exact (Kd.R_mono (Kd.R_far (p := ⟨gb377, 1, none⟩) (Kd.R_far (p := ⟨gb377, 0, none⟩) (Kd.R_types HO345.out BK377.out (by decide)) (fun _ hk => hk.2) (.int .i64 t374)) (fun _ hk => hk.2) (.int .i64 t375)) (fun _ h_ => h_.1))) hb); have n1_ := zm (Kd.R_below (by (with_reducible repeat (first | apply Kd.R_alloc | apply Kd.R_drewN | apply Kd.R_drew)); exact (Kd.R_mono (Kd.R_far (p := ⟨gb377, 1, none⟩) (Kd.R_far (p := ⟨gb377, 0, none⟩) (Kd.R_types HO349.out BK377.out (by decide)) (fun _ hk => hk.2) (.int .i64 t374)) (fun _ hk => hk.2) (.int .i64 t375)) (fun _ h_ => h_.1))) hb); have n2_ := zm (Kd.R_below (by (with_reducible repeat (first | apply Kd.R_alloc | apply Kd.R_drewN | apply Kd.R_drew)); exact (Kd.R_mono (Kd.R_far (p := ⟨gb377, 1, none⟩) (Kd.R_far (p := ⟨gb377, 0, none⟩) (Kd.R_types HO353.out BK377.out (by decide)) (fun _ hk => hk.2) (.int .i64 t374)) (fun _ hk => hk.2) (.int .i64 t375)) (fun _ h_ => h_.1))) hb); have n3_ := zm (blk_below (g := gb346) (o := .cells #[.int .i64 t340, .int .i64 t341] 47 (0, 0)) zK hb); have n4_ := zm (blk_below (g := gb369) (o := .cells #[.int .i64 t365, .int .i64 t366] 47 (0, 0)) zK hb); have n5_ := zm (blk_below (g := gb377) (o := .cells #[.int .i64 t374, .int .i64 t375] 47 (0, 0)) (by (with_reducible repeat (first | refine blk_drewN ?_ _ | refine blk_drew ?_ | refine blk_alloc ?_ _)); refine blk_put (cs := #[.int .i64 t374, .int .i64 0]) ?_ 1 _ rfl; (with_reducible repeat (first | refine blk_drewN ?_ _ | refine blk_drew ?_ | refine blk_alloc ?_ _)); refine blk_put (cs := #[.int .i64 0, .int .i64 0]) ?_ 0 _ rfl; (with_reducible repeat (first | refine blk_drewN ?_ _ | refine blk_drew ?_ | refine blk_alloc ?_ _)); exact BK377.out) hb); have n6_ := zm (below_step zb hb); clear HO345; clear HO349; clear HO353; clear BK346; clear BK369; clear BK377; clear HB; have HO345 := n0_; have HO349 := n1_; have HO353 := n2_; have BK346 := n3_; have BK369 := n4_; have BK377 := n5_; have HB := n6_; clear n0_ n1_ n2_ n3_ n4_ n5_ n6_; (try clear hb); (try clear hb2); (try clear hk); (try clear hi); obtain ⟨hcz46_0, hcz46_1, hfz46_0, hfz46_1⟩ := zc2 BK377.out) | (go_at_call 48; (with_reducible refine (spec_SettlesAfter.calls k t374 t375 t376 t380 t381 _ A16.out).mono ?_); rintro e w47 ⟨rfl, hb⟩; have n0_ := zm (Kd.R_below (by (with_reducible repeat (first | apply Kd.R_alloc | apply Kd.R_drewN | apply Kd.R_drew)); exact HO345.out) hb); have n1_ := zm (Kd.R_below (by (with_reducible repeat (first | apply Kd.R_alloc | apply Kd.R_drewN | apply Kd.R_drew)); exact HO349.out) hb); have n2_ := zm (Kd.R_below (by (with_reducible repeat (first | apply Kd.R_alloc | apply Kd.R_drewN | apply Kd.R_drew)); exact HO353.out) hb); have n3_ := zm (blk_below (g := gb346) zk hb); have n4_ := zm (blk_below (g := gb369) zk hb); have n5_ := zm (blk_below (g := gb377) zk hb); have n6_ := zm (below_step zb hb); clear HO345; clear HO349; clear HO353; clear BK346; clear BK369; clear BK377; clear HB; have HO345 := n0_; have HO349 := n1_; have HO353 := n2_; have BK346 := n3_; have BK369 := n4_; have BK377 := n5_; have HB := n6_; clear n0_ n1_ n2_ n3_ n4_ n5_ n6_; (try clear hb); (try clear hb2); (try clear hk); (try clear hi))); go_upto_region 16 with (first | (go_at_call 36; (with_reducible refine (spec_DrawTrackRun.calls k _ _ l0 t340 t341 t342 t343 _ ?side1 ?side2 A4.out).mono ?_); (case side1 => repeat (first | exact HR0.out | (with_reducible refine Kd.C_alloc ?_ _) | (with_reducible refine Kd.C_drewN ?_ _) | (with_reducible refine Kd.C_drew ?_))); (case side2 => exact HC0.out); rintro e w18 ⟨v344, rfl, ho0, hb⟩; have n0_ := zm (Kd.R_lower ho0 (below_size zb)); have n1_ := zm (below_step zb hb); clear HB; have HO345 := n0_; have HB := n1_; clear n0_ n1_; (try clear hb); (try clear hb2); (try clear hk); (try clear hi); (try clear ho0)) | ((with_reducible refine gate_dst (N := 5) rfl ?_); refine box_event ?hg (N := 5) ?hd (cs := #[.int .i64 0, .int .i64 0]) (t := 47) ?hr ?_; (case hd => rfl); (case hg => rfl); (case hr => first | (go_simp; done) | (go_simp; rfl)); intro gb346 hg w19 hbox hb; have n0_ := zm (Kd.R_below (by (with_reducible repeat (first | apply Kd.R_alloc | apply Kd.R_drewN | apply Kd.R_drew)); exact HO345.out) hb); have n1_ := zm (below_step zb hb); have n2_ := zm (hbox); have n3_ := zm (zs hg zb : w.heap.size ≤ gb346); have n4_ := zm (zs hg zb : w.heap.size ≤ gb346); clear HO345; clear HB; have HO345 := n0_; have HB := n1_; have BK346 := n2_; have GW346 := n3_; have GE346 := n4_; clear n0_ n1_ n2_ n3_ n4_; clear hb hbox hg; obtain ⟨hcz20_0, hcz20_1, hfz20_0, hfz20_1⟩ := zc2 BK346.out; obtain ⟨Ao21, co21, eo21⟩ := Kd.R_slice HO345.out; subst eo21) | (go_at_call 37; (with_reducible refine (impl_TrackRun.calls k t340 t341 t342 _ _ t343 t347 t350 _ ?side1 ?side2 A5.out).mono ?_); (case side1 => refine (Kd.R_reads' (e := 3) (base := w.heap.size) (ok := fun k_ => True) (n := t343.length) (c := co21) ?_).2.2; exact (by (with_reducible repeat (first | apply Kd.R_alloc | apply Kd.R_drewN | apply Kd.R_drew)); exact (Kd.R_mono (Kd.R_far (p := ⟨gb346, 1, none⟩) (Kd.R_far (p := ⟨gb346, 0, none⟩) (Kd.R_types HO345.out BK346.out (by decide)) (fun _ hk => hk.2) (.int .i64 t340)) (fun _ hk => hk.2) (.int .i64 t341)) (fun _ h_ => h_.1)))); (case side2 => exact (Kd.R_reads' HO345.out).2.1); rintro e w22 ⟨v348, rfl, ho0, hb⟩; have n0_ := zm (Kd.R_elder' (by (with_reducible repeat (first | apply Kd.R_alloc | apply Kd.R_drewN | apply Kd.R_drew)); exact (Kd.R_mono (Kd.R_far (p := ⟨gb346, 1, none⟩) (Kd.R_far (p := ⟨gb346, 0, none⟩) (Kd.R_types HO345.out BK346.out (by decide)) (fun _ hk => hk.2) (.int .i64 t340)) (fun _ hk => hk.2) (.int .i64 t341)) (fun _ h_ => h_.1))) (Kd.R_base ho0) hb); have n1_ := zm (Kd.R_lower (Kd.R_new' ho0 (Kd.R_lt (by (with_reducible repeat (first | apply Kd.R_alloc | apply Kd.R_drewN | apply Kd.R_drew)); exact (Kd.R_mono (Kd.R_far (p := ⟨gb346, 1, none⟩) (Kd.R_far (p := ⟨gb346, 0, none⟩) (Kd.R_types HO345.out BK346.out (by decide)) (fun _ hk => hk.2) (.int .i64 t340)) (fun _ hk => hk.2) (.int .i64 t341)) (fun _ h_ => h_.1))))) (below_size zb)); have n2_ := zm (blk_below (g := gb346) (o := .cells #[.int .i64 t340, .int .i64 t341] 47 (0, 0)) (by (with_reducible repeat (first | refine blk_drewN ?_ _ | refine blk_drew ?_ | refine blk_alloc ?_ _)); refine blk_put (cs := #[.int .i64 t340, .int .i64 0]) ?_ 1 _ rfl; (with_reducible repeat (first | refine blk_drewN ?_ _ | refine blk_drew ?_ | refine blk_alloc ?_ _)); refine blk_put (cs := #[.int .i64 0, .int .i64 0]) ?_ 0 _ rfl; (with_reducible repeat (first | refine blk_drewN ?_ _ | refine blk_drew ?_ | refine blk_alloc ?_ _)); exact BK346.out) hb); have n3_ := zm (below_step zb hb); clear HO345; clear BK346; clear HB; have HO345 := n0_; have HO349 := n1_; have BK346 := n2_; have HB := n3_; clear n0_ n1_ n2_ n3_; (try clear hb); (try clear hb2); (try clear hk); (try clear hi); (try clear ho0); obtain ⟨hcz23_0, hcz23_1, hfz23_0, hfz23_1⟩ := zc2 BK346.out) | (go_at_call 38; (with_reducible refine (spec_TrackRun.calls k t340 t341 t342 _ _ t343 t351 t354 _ ?side1 ?side2 A6.out).mono ?_); (case side1 => repeat (first | exact (Kd.R_reads' HO345.out).2.2 | (with_reducible refine Kd.C_alloc ?_ _) | (with_reducible refine Kd.C_drewN ?_ _) | (with_reducible refine Kd.C_drew ?_))); (case side2 => exact (Kd.R_reads' HO345.out).2.1); rintro e w24 ⟨v352, rfl, ho0, hb⟩; have n0_ := zm (Kd.R_elder' (by (with_reducible repeat (first | apply Kd.R_alloc | apply Kd.R_drewN | apply Kd.R_drew)); exact HO345.out) (Kd.R_base ho0) hb); have n1_ := zm (Kd.R_elder' (by (with_reducible repeat (first | apply Kd.R_alloc | apply Kd.R_drewN | apply Kd.R_drew)); exact HO349.out) (Kd.R_base ho0) hb); have n2_ := zm (Kd.R_lower (Kd.R_new' (Kd.R_new' ho0 (Kd.R_lt (by (with_reducible repeat (first | apply Kd.R_alloc | apply Kd.R_drewN | apply Kd.R_drew)); exact HO345.out))) (Kd.R_lt (by (with_reducible repeat (first | apply Kd.R_alloc | apply Kd.R_drewN | apply Kd.R_drew)); exact HO349.out))) (below_size zb)); have n3_ := zm (blk_below (g := gb346) zk hb); have n4_ := zm (below_step zb hb); clear HO345; clear HO349; clear BK346; clear HB; have HO345 := n0_; have HO349 := n1_; have HO353 := n2_; have BK346 := n3_; have HB := n4_; clear n0_ n1_ n2_ n3_ n4_; (try clear hb); (try clear hb2); (try clear hk); (try clear hi); (try clear ho0); obtain ⟨hcz25_0, hcz25_1, hfz25_0, hfz25_1⟩ := zc2 BK346.out) | (go_at_call 39; (with_reducible refine (impl_WorstOffset.calls k t340 t341 t342 _ _ t343 t355 t356 _ ?side1 ?side2 A7.out).mono ?_); (case side1 => repeat (first | exact (Kd.R_reads' HO345.out).2.2 | (with_reducible refine Kd.C_alloc ?_ _) | (with_reducible refine Kd.C_drewN ?_ _) | (with_reducible refine Kd.C_drew ?_))); (case side2 => exact (Kd.R_reads' HO345.out).2.1); rintro e w26 ⟨rfl, hb⟩; have n0_ := zm (Kd.R_below (by (with_reducible repeat (first | apply Kd.R_alloc | apply Kd.R_drewN | apply Kd.R_drew)); exact HO345.out) hb); have n1_ := zm (Kd.R_below (by (with_reducible repeat (first | apply Kd.R_alloc | apply Kd.R_drewN | apply Kd.R_drew)); exact HO349.out) hb); have n2_ := zm (Kd.R_below (by (with_reducible repeat (first | apply Kd.R_alloc | apply Kd.R_drewN | apply Kd.R_drew)); exact HO353.out) hb); have n3_ := zm (blk_below (g := gb346) zk hb); have n4_ := zm (below_step zb hb); clear HO345; clear HO349; clear HO353; clear BK346; clear HB; have HO345 := n0_; have HO349 := n1_; have HO353 := n2_; have BK346 := n3_; have HB := n4_; clear n0_ n1_ n2_ n3_ n4_; (try clear hb); (try clear hb2); (try clear hk); (try clear hi); obtain ⟨hcz27_0, hcz27_1, hfz27_0, hfz27_1⟩ := zc2 BK346.out) | (go_at_call 40; (with_reducible refine (spec_WorstOffset.calls k t340 t341 t342 _ _ t343 t357 t358 _ ?side1 ?side2 A8.out).mono ?_); (case side1 => repeat (first | exact (Kd.R_reads' HO345.out).2.2 | (with_reducible refine Kd.C_alloc ?_ _) | (with_reducible refine Kd.C_drewN ?_ _) | (with_reducible refine Kd.C_drew ?_))); (case side2 => exact (Kd.R_reads' HO345.out).2.1); rintro e w28 ⟨rfl, hb⟩; have n0_ := zm (Kd.R_below (by (with_reducible repeat (first | apply Kd.R_alloc | apply Kd.R_drewN | apply Kd.R_drew)); exact HO345.out) hb); have n1_ := zm (Kd.R_below (by (with_reducible repeat (first | apply Kd.R_alloc | apply Kd.R_drewN | apply Kd.R_drew)); exact HO349.out) hb); have n2_ := zm (Kd.R_below (by (with_reducible repeat (first | apply Kd.R_alloc | apply Kd.R_drewN | apply Kd.R_drew)); exact HO353.out) hb); have n3_ := zm (blk_below (g := gb346) zk hb); have n4_ := zm (below_step zb hb); clear HO345; clear HO349; clear HO353; clear BK346; clear HB; have HO345 := n0_; have HO349 := n1_; have HO353 := n2_; have BK346 := n3_; have HB := n4_; clear n0_ n1_ n2_ n3_ n4_; (try clear hb); (try clear hb2); (try clear hk); (try clear hi); obtain ⟨hcz29_0, hcz29_1, hfz29_0, hfz29_1⟩ := zc2 BK346.out) | (go_at_call 41; (with_reducible refine (impl_MovesMade.calls k t340 t341 t342 _ _ t343 t359 t360 t361 _ ?side1 ?side2 A9.out).mono ?_); (case side1 => repeat (first | exact (Kd.R_reads' HO345.out).2.2 | (with_reducible refine Kd.C_alloc ?_ _) | (with_reducible refine Kd.C_drewN ?_ _) | (with_reducible refine Kd.C_drew ?_))); (case side2 => exact (Kd.R_reads' HO345.out).2.1); rintro e w30 ⟨rfl, hb⟩; have n0_ := zm (Kd.R_below (by (with_reducible repeat (first | apply Kd.R_alloc | apply Kd.R_drewN | apply Kd.R_drew)); exact HO345.out) hb); have n1_ := zm (Kd.R_below (by (with_reducible repeat (first | apply Kd.R_alloc | apply Kd.R_drewN | apply Kd.R_drew)); exact HO349.out) hb); have n2_ := zm (Kd.R_below (by (with_reducible repeat (first | apply Kd.R_alloc | apply Kd.R_drewN | apply Kd.R_drew)); exact HO353.out) hb); have n3_ := zm (blk_below (g := gb346) zk hb); have n4_ := zm (below_step zb hb); clear HO345; clear HO349; clear HO353; clear BK346; clear HB; have HO345 := n0_; have HO349 := n1_; have HO353 := n2_; have BK346 := n3_; have HB := n4_; clear n0_ n1_ n2_ n3_ n4_; (try clear hb); (try clear hb2); (try clear hk); (try clear hi); obtain ⟨hcz31_0, hcz31_1, hfz31_0, hfz31_1⟩ := zc2 BK346.out) | (go_at_call 42; (with_reducible refine (spec_MovesMade.calls k t340 t341 t342 _ _ t343 t362 t363 t364 _ ?side1 ?side2 A10.out).mono ?_); (case side1 => repeat (first | exact (Kd.R_reads' HO345.out).2.2 | (with_reducible refine Kd.C_alloc ?_ _) | (with_reducible refine Kd.C_drewN ?_ _) | (with_reducible refine Kd.C_drew ?_))); (case side2 => exact (Kd.R_reads' HO345.out).2.1); rintro e w32 ⟨rfl, hb⟩; have n0_ := zm (Kd.R_below (by (with_reducible repeat (first | apply Kd.R_alloc | apply Kd.R_drewN | apply Kd.R_drew)); exact HO345.out) hb); have n1_ := zm (Kd.R_below (by (with_reducible repeat (first | apply Kd.R_alloc | apply Kd.R_drewN | apply Kd.R_drew)); exact HO349.out) hb); have n2_ := zm (Kd.R_below (by (with_reducible repeat (first | apply Kd.R_alloc | apply Kd.R_drewN | apply Kd.R_drew)); exact HO353.out) hb); have n3_ := zm (blk_below (g := gb346) zk hb); have n4_ := zm (below_step zb hb); clear HO345; clear HO349; clear HO353; clear BK346; clear HB; have HO345 := n0_; have HO349 := n1_; have HO353 := n2_; have BK346 := n3_; have HB := n4_; clear n0_ n1_ n2_ n3_ n4_; (try clear hb); (try clear hb2); (try clear hk); (try clear hi)) | (go_at_call 43; (with_reducible refine (spec_DrawTrackStep.calls _ _ l1 t365 t366 t367 t368 _ ?side1 ?side2 A11.out).mono ?_); (case side1 => repeat (first | exact (Kd.C_below HR1.out HB.out) | (with_reducible refine Kd.C_alloc ?_ _) | (with_reducible refine Kd.C_drewN ?_ _) | (with_reducible refine Kd.C_drew ?_))); (case side2 => exact HC1.out); rintro e w33 ⟨rfl, hb⟩; have n0_ := zm (Kd.R_below (by (with_reducible repeat (first | apply Kd.R_alloc | apply Kd.R_drewN | apply Kd.R_drew)); exact HO345.out) hb); have n1_ := zm (Kd.R_below (by (with_reducible repeat (first | apply Kd.R_alloc | apply Kd.R_drewN | apply Kd.R_drew)); exact HO349.out) hb); have n2_ := zm (Kd.R_below (by (with_reducible repeat (first | apply Kd.R_alloc | apply Kd.R_drewN | apply Kd.R_drew)); exact HO353.out) hb); have n3_ := zm (blk_below (g := gb346) zk hb); have n4_ := zm (below_step zb hb); clear HO345; clear HO349; clear HO353; clear BK346; clear HB; have HO345 := n0_; have HO349 := n1_; have HO353 := n2_; have BK346 := n3_; have HB := n4_; clear n0_ n1_ n2_ n3_ n4_; (try clear hb); (try clear hb2); (try clear hk); (try clear hi)) | ((with_reducible refine gate_dst (N := 22) rfl ?_); refine box_event ?hg (N := 22) ?hd (cs := #[.int .i64 0, .int .i64 0]) (t := 47) ?hr ?_; (case hd => rfl); (case hg => rfl); (case hr => first | (go_simp; done) | (go_simp; rfl)); intro gb369 hg w34 hbox hb; have n0_ := zm (Kd.R_below (by (with_reducible repeat (first | apply Kd.R_alloc | apply Kd.R_drewN | apply Kd.R_drew)); exact HO345.out) hb); have n1_ := zm (Kd.R_below (by (with_reducible repeat (first | apply Kd.R_alloc | apply Kd.R_drewN | apply Kd.R_drew)); exact HO349.out) hb); have n2_ := zm (Kd.R_below (by (with_reducible repeat (first | apply Kd.R_alloc | apply Kd.R_drewN | apply Kd.R_drew)); exact HO353.out) hb); have n3_ := zm (blk_below (g := gb346) zk hb); have n4_ := zm (below_step zb hb); have n5_ := zm (hbox); have n6_ := zm (zs hg zb : w.heap.size ≤ gb369); have n7_ := zm (zs hg zb : w.heap.size ≤ gb369); have n8_ := zm (zl hg zk : gb346 ≠ gb369); have n9_ := zm (zg hg zk : gb369 ≠ gb346); clear HO345; clear HO349; clear HO353; clear BK346; clear HB; have HO345 := n0_; have HO349 := n1_; have HO353 := n2_; have BK346 := n3_; have HB := n4_; have BK369 := n5_; have GW369 := n6_; have GE369 := n7_; have NB346_369 := n8_; have NB369_346 := n9_; clear n0_ n1_ n2_ n3_ n4_ n5_ n6_ n7_ n8_ n9_; clear hb hbox hg; have hnb35 := NB369_346.out; have hnc35 := NB346_369.out; obtain ⟨hcz36_0, hcz36_1, hfz36_0, hfz36_1⟩ := zc2 BK369.out) | (go_at_call 44; (with_reducible refine (impl_TrackStep.calls k t365 t366 t367 t368 t370 t371 _ A12.out).mono ?_); rintro e w37 ⟨rfl, hb⟩; have n0_ := zm (Kd.R_below (by (with_reducible repeat (first | apply Kd.R_alloc | apply Kd.R_drewN | apply Kd.R_drew)); exact (Kd.R_mono (Kd.R_far (p := ⟨gb369, 1, none⟩) (Kd.R_far (p := ⟨gb369, 0, none⟩) (Kd.R_types HO345.out BK369.out (by decide)) (fun _ hk => hk.2) (.int .i64 t365)) (fun _ hk => hk.2) (.int .i64 t366)) (fun _ h_ => h_.1))) hb); have n1_ := zm (Kd.R_below (by (with_reducible repeat (first | apply Kd.R_alloc | apply Kd.R_drewN | apply Kd.R_drew)); exact (Kd.R_mono (Kd.R_far (p := ⟨gb369, 1, none⟩) (Kd.R_far (p := ⟨gb369, 0, none⟩) (Kd.R_types HO349.out BK369.out (by decide)) (fun _ hk => hk.2) (.int .i64 t365)) (fun _ hk => hk.2) (.int .i64 t366)) (fun _ h_ => h_.1))) hb); have n2_ := zm (Kd.R_below (by (with_reducible repeat (first | apply Kd.R_alloc | apply Kd.R_drewN | apply Kd.R_drew)); exact (Kd.R_mono (Kd.R_far (p := ⟨gb369, 1, none⟩) (Kd.R_far (p := ⟨gb369, 0, none⟩) (Kd.R_types HO353.out BK369.out (by decide)) (fun _ hk => hk.2) (.int .i64 t365)) (fun _ hk => hk.2) (.int .i64 t366)) (fun _ h_ => h_.1))) hb); have n3_ := zm (blk_below (g := gb346) (o := .cells #[.int .i64 t340, .int .i64 t341] 47 (0, 0)) zK hb); have n4_ := zm (blk_below (g := gb369) (o := .cells #[.int .i64 t365, .int .i64 t366] 47 (0, 0)) (by (with_reducible repeat (first | refine blk_drewN ?_ _ | refine blk_drew ?_ | refine blk_alloc ?_ _)); refine blk_put (cs := #[.int .i64 t365, .int .i64 0]) ?_ 1 _ rfl; (with_reducible repeat (first | refine blk_drewN ?_ _ | refine blk_drew ?_ | refine blk_alloc ?_ _)); refine blk_put (cs := #[.int .i64 0, .int .i64 0]) ?_ 0 _ rfl; (with_reducible repeat (first | refine blk_drewN ?_ _ | refine blk_drew ?_ | refine blk_alloc ?_ _)); exact BK369.out) hb); have n5_ := zm (below_step zb hb); clear HO345; clear HO349; clear HO353; clear BK346; clear BK369; clear HB; have HO345 := n0_; have HO349 := n1_; have HO353 := n2_; have BK346 := n3_; have BK369 := n4_; have HB := n5_; clear n0_ n1_ n2_ n3_ n4_ n5_; (try clear hb); (try clear hb2); (try clear hk); (try clear hi); obtain ⟨hcz38_0, hcz38_1, hfz38_0, hfz38_1⟩ := zc2 BK369.out) | (go_at_call 45; (with_reducible refine (spec_TrackStep.calls k t365 t366 t367 t368 t372 t373 _ A13.out).mono ?_); rintro e w39 ⟨rfl, hb⟩; have n0_ := zm (Kd.R_below (by (with_reducible repeat (first | apply Kd.R_alloc | apply Kd.R_drewN | apply Kd.R_drew)); exact HO345.out) hb); have n1_ := zm (Kd.R_below (by (with_reducible repeat (first | apply Kd.R_alloc | apply Kd.R_drewN | apply Kd.R_drew)); exact HO349.out) hb); have n2_ := zm (Kd.R_below (by (with_reducible repeat (first | apply Kd.R_alloc | apply Kd.R_drewN | apply Kd.R_drew)); exact HO353.out) hb); have n3_ := zm (blk_below (g := gb346) zk hb); have n4_ := zm (blk_below (g := gb369) zk hb); have n5_ := zm (below_step zb hb); clear HO345; clear HO349; clear HO353; clear BK346; clear BK369; clear HB; have HO345 := n0_; have HO349 := n1_; have HO353 := n2_; have BK346 := n3_; have BK369 := n4_; have HB := n5_; clear n0_ n1_ n2_ n3_ n4_ n5_; (try clear hb); (try clear hb2); (try clear hk); (try clear hi)) | (go_at_call 46; (with_reducible refine (spec_DrawSettlesAfter.calls _ _ l1 t374 t375 t376 _ ?side1 ?side2 A14.out).mono ?_); (case side1 => repeat (first | exact (Kd.C_below HR1.out HB.out) | (with_reducible refine Kd.C_alloc ?_ _) | (with_reducible refine Kd.C_drewN ?_ _) | (with_reducible refine Kd.C_drew ?_))); (case side2 => exact HC1.out); rintro e w40 ⟨rfl, hb⟩; have n0_ := zm (Kd.R_below (by (with_reducible repeat (first | apply Kd.R_alloc | apply Kd.R_drewN | apply Kd.R_drew)); exact HO345.out) hb); have n1_ := zm (Kd.R_below (by (with_reducible repeat (first | apply Kd.R_alloc | apply Kd.R_drewN | apply Kd.R_drew)); exact HO349.out) hb); have n2_ := zm (Kd.R_below (by (with_reducible repeat (first | apply Kd.R_alloc | apply Kd.R_drewN | apply Kd.R_drew)); exact HO353.out) hb); have n3_ := zm (blk_below (g := gb346) zk hb); have n4_ := zm (blk_below (g := gb369) zk hb); have n5_ := zm (below_step zb hb); clear HO345; clear HO349; clear HO353; clear BK346; clear BK369; clear HB; have HO345 := n0_; have HO349 := n1_; have HO353 := n2_; have BK346 := n3_; have BK369 := n4_; have HB := n5_; clear n0_ n1_ n2_ n3_ n4_ n5_; (try clear hb); (try clear hb2); (try clear hk); (try clear hi)) | ((with_reducible refine gate_dst (N := 29) rfl ?_); refine box_event ?hg (N := 29) ?hd (cs := #[.int .i64 0, .int .i64 0]) (t := 47) ?hr ?_; (case hd => rfl); (case hg => rfl); (case hr => first | (go_simp; done) | (go_simp; rfl)); intro gb377 hg w41 hbox hb; have n0_ := zm (Kd.R_below (by (with_reducible repeat (first | apply Kd.R_alloc | apply Kd.R_drewN | apply Kd.R_drew)); exact HO345.out) hb); have n1_ := zm (Kd.R_below (by (with_reducible repeat (first | apply Kd.R_alloc | apply Kd.R_drewN | apply Kd.R_drew)); exact HO349.out) hb); have n2_ := zm (Kd.R_below (by (with_reducible repeat (first | apply Kd.R_alloc | apply Kd.R_drewN | apply Kd.R_drew)); exact HO353.out) hb); have n3_ := zm (blk_below (g := gb346) zk hb); have n4_ := zm (blk_below (g := gb369) zk hb); have n5_ := zm (below_step zb hb); have n6_ := zm (hbox); have n7_ := zm (zs hg zb : w.heap.size ≤ gb377); have n8_ := zm (zs hg zb : w.heap.size ≤ gb377); have n9_ := zm (zl hg zk : gb346 ≠ gb377); have n10_ := zm (zg hg zk : gb377 ≠ gb346); have n11_ := zm (zl hg zk : gb369 ≠ gb377); have n12_ := zm (zg hg zk : gb377 ≠ gb369); clear HO345; clear HO349; clear HO353; clear BK346; clear BK369; clear HB; have HO345 := n0_; have HO349 := n1_; have HO353 := n2_; have BK346 := n3_; have BK369 := n4_; have HB := n5_; have BK377 := n6_; have GW377 := n7_; have GE377 := n8_; have NB346_377 := n9_; have NB377_346 := n10_; have NB369_377 := n11_; have NB377_369 := n12_; clear n0_ n1_ n2_ n3_ n4_ n5_ n6_ n7_ n8_ n9_ n10_ n11_ n12_; clear hb hbox hg; have hnb42 := NB377_346.out; have hnc42 := NB346_377.out; have hnb43 := NB377_369.out; have hnc43 := NB369_377.out; obtain ⟨hcz44_0, hcz44_1, hfz44_0, hfz44_1⟩ := zc2 BK377.out) | (go_at_call 47; (with_reducible refine (impl_SettlesAfter.calls k t374 t375 t376 t378 t379 _ A15.out).mono ?_); rintro e w45 ⟨rfl, hb⟩; have n0_ := zm (Kd.R_below (by (with_reducible repeat (first | apply Kd.R_alloc | apply Kd.R_drewN | apply Kd.R_drew)); exact (Kd.R_mono (Kd.R_far (p := ⟨gb377, 1, none⟩) (Kd.R_far (p := ⟨gb377, 0, none⟩) (Kd.R_types HO345.out BK377.out (by decide)) (fun _ hk => hk.2) (.int .i64 t374)) (fun _ hk => hk.2) (.int .i64 t375)) (fun _ h_ => h_.1))) hb); have n1_ := zm (Kd.R_below (by (with_reducible repeat (first | apply Kd.R_alloc | apply Kd.R_drewN | apply Kd.R_drew)); exact (Kd.R_mono (Kd.R_far (p := ⟨gb377, 1, none⟩) (Kd.R_far (p := ⟨gb377, 0, none⟩) (Kd.R_types HO349.out BK377.out (by decide)) (fun _ hk => hk.2) (.int .i64 t374)) (fun _ hk => hk.2) (.int .i64 t375)) (fun _ h_ => h_.1))) hb); have n2_ := zm (Kd.R_below (by (with_reducible repeat (first | apply Kd.R_alloc | apply Kd.R_drewN | apply Kd.R_drew)); exact (Kd.R_mono (Kd.R_far (p := ⟨gb377, 1, none⟩) (Kd.R_far (p := ⟨gb377, 0, none⟩) (Kd.R_types HO353.out BK377.out (by decide)) (fun _ hk => hk.2) (.int .i64 t374)) (fun _ hk => hk.2) (.int .i64 t375)) (fun _ h_ => h_.1))) hb); have n3_ := zm (blk_below (g := gb346) (o := .cells #[.int .i64 t340, .int .i64 t341] 47 (0, 0)) zK hb); have n4_ := zm (blk_below (g := gb369) (o := .cells #[.int .i64 t365, .int .i64 t366] 47 (0, 0)) zK hb); have n5_ := zm (blk_below (g := gb377) (o := .cells #[.int .i64 t374, .int .i64 t375] 47 (0, 0)) (by (with_reducible repeat (first | refine blk_drewN ?_ _ | refine blk_drew ?_ | refine blk_alloc ?_ _)); refine blk_put (cs := #[.int .i64 t374, .int .i64 0]) ?_ 1 _ rfl; (with_reducible repeat (first | refine blk_drewN ?_ _ | refine blk_drew ?_ | refine blk_alloc ?_ _)); refine blk_put (cs := #[.int .i64 0, .int .i64 0]) ?_ 0 _ rfl; (with_reducible repeat (first | refine blk_drewN ?_ _ | refine blk_drew ?_ | refine blk_alloc ?_ _)); exact BK377.out) hb); have n6_ := zm (below_step zb hb); clear HO345; clear HO349; clear HO353; clear BK346; clear BK369; clear BK377; clear HB; have HO345 := n0_; have HO349 := n1_; have HO353 := n2_; have BK346 := n3_; have BK369 := n4_; have BK377 := n5_; have HB := n6_; clear n0_ n1_ n2_ n3_ n4_ n5_ n6_; (try clear hb); (try clear hb2); (try clear hk); (try clear hi); obtain ⟨hcz46_0, hcz46_1, hfz46_0, hfz46_1⟩ := zc2 BK377.out) | (go_at_call 48; (with_reducible refine (spec_SettlesAfter.calls k t374 t375 t376 t380 t381 _ A16.out).mono ?_); rintro e w47 ⟨rfl, hb⟩; have n0_ := zm (Kd.R_below (by (with_reducible repeat (first | apply Kd.R_alloc | apply Kd.R_drewN | apply Kd.R_drew)); exact HO345.out) hb); have n1_ := zm (Kd.R_below (by (with_reducible repeat (first | apply Kd.R_alloc | apply Kd.R_drewN | apply Kd.R_drew)); exact HO349.out) hb); have n2_ := zm (Kd.R_below (by (with_reducible repeat (first | apply Kd.R_alloc | apply Kd.R_drewN | apply Kd.R_drew)); exact HO353.out) hb); have n3_ := zm (blk_below (g := gb346) zk hb); have n4_ := zm (blk_below (g := gb369) zk hb); have n5_ := zm (blk_below (g := gb377) zk hb); have n6_ := zm (below_step zb hb); clear HO345; clear HO349; clear HO353; clear BK346; clear BK369; clear BK377; clear HB; have HO345 := n0_; have HO349 := n1_; have HO353 := n2_; have BK346 := n3_; have BK369 := n4_; have BK377 := n5_; have HB := n6_; clear n0_ n1_ n2_ n3_ n4_ n5_ n6_; (try clear hb); (try clear hb2); (try clear hk); (try clear hi))))
  (try simp only [Act.put, List.setIfInBounds_toArray, List.set_cons_zero, List.set_cons_succ])
  go_cut [206] (fun v206 wc => ∃ (kq : Nat) (x206_16 : Bool), v206 = .bool x206_16 ∧ Aside0 (laws_FnTracking.j0 kq t342 t343 t350 t351 t357 t362 t363 t376 t379 t380 x206_16 t340 t341 t374 t375 = some r) ∧ Aside0 (kq ≤ k) ∧ Aside0 (Kd.R (Kd.int .i64) 3 wc w.heap.size (fun k_ => some k_ ≠ (v352 : Value).ownBlock) (.slice Ao21 t343.length co21) t343) ∧ Aside0 (Kd.R (Kd.int .i64) 3 wc w.heap.size (fun k_ => some k_ ≠ ((.slice Ao21 t343.length co21) : Value).ownBlock) v352 t351) ∧ Aside0 (wc.heap[gb346]? = some (.cells #[.int .i64 t340, .int .i64 t341] 47 (0, 0))) ∧ Aside0 (wc.heap[gb369]? = some (.cells #[.int .i64 t365, .int .i64 t366] 47 (0, 0))) ∧ Aside0 (wc.heap[gb377]? = some (.cells #[.int .i64 t374, .int .i64 t375] 47 (0, 0))) ∧ Aside0 (Below w.heap.size w wc))
  case first =>
   have H := HC17.out
   clear HC17
   by_cases c48 : (t350 != t354) = true
   ·
    rw [if_pos c48] at H
    have c48b0 : (t350 != t354) = true := c48
    (try (have c48b1 : decide (t350 = t354) = false := by simpa using c48))
    (try (have c48b2 : (t350 == t354) = false := by simpa using c48))
    (try (have c48b3 : ¬ (t350 = t354) := by simpa using c48))
    clear c48
    (first | rw [c48b0] | (simp only [i64_w, i32_w]; rw [c48b0]) | skip)
    exact (laws_FnTracking.j0_t (H.trans (congrArg some hr_))).elim
   ·
    rw [if_neg c48] at H
    have c48b0 : (t350 != t354) = false := by simpa using c48
    (try (have c48b1 : decide (t350 = t354) = true := by simpa using c48))
    (try (have c48b2 : (t350 == t354) = true := by simpa using c48))
    clear c48
    (first | rw [c48b0] | (simp only [i64_w, i32_w]; rw [c48b0]) | skip)
    replace H := Option.bind_eq_some_iff.mp H
    obtain ⟨t382, A490, H⟩ := H
    replace H : (if t382 = true then (if (t356 != t358) = true then (laws_FnTracking.j0 k t342 t343 t350 t351 t357 t362 t363 t376 t379 t380 true t340 t341 t374 t375) else (if t355 = t357 then (if (t361 != t364) = true then (laws_FnTracking.j0 k t342 t343 t350 t351 t357 t362 t363 t376 t379 t380 true t340 t341 t374 t375) else (if t359 = t362 then (if t360 = t363 then (if (t371 != t373) = true then (laws_FnTracking.j0 k t342 t343 t350 t351 t357 t362 t363 t376 t379 t380 true t340 t341 t374 t375) else (if t370 = t372 then (if (t379 != t381) = true then (laws_FnTracking.j0 k t342 t343 t350 t351 t357 t362 t363 t376 t379 t380 true t340 t341 t374 t375) else (if t378 = t380 then (if (t356 != t350) = true then (laws_FnTracking.j0 k t342 t343 t350 t351 t357 t362 t363 t376 t379 t380 true t340 t341 t374 t375) else (laws_FnTracking.j0 k t342 t343 t350 t351 t357 t362 t363 t376 t379 t380 (t361 != t350) t340 t341 t374 t375)) else (laws_FnTracking.j0 k t342 t343 t350 t351 t357 t362 t363 t376 t379 t380 true t340 t341 t374 t375))) else (laws_FnTracking.j0 k t342 t343 t350 t351 t357 t362 t363 t376 t379 t380 true t340 t341 t374 t375))) else (laws_FnTracking.j0 k t342 t343 t350 t351 t357 t362 t363 t376 t379 t380 true t340 t341 t374 t375)) else (laws_FnTracking.j0 k t342 t343 t350 t351 t357 t362 t363 t376 t379 t380 true t340 t341 t374 t375))) else (laws_FnTracking.j0 k t342 t343 t350 t351 t357 t362 t363 t376 t379 t380 true t340 t341 t374 t375))) else (laws_FnTracking.j0 k t342 t343 t350 t351 t357 t362 t363 t376 t379 t380 true t340 t341 t374 t375)) = some r := H
    have A49 := zm A490
    clear A490
    by_cases c50 : t382 = true
    ·
     subst c50
     have H1 : (if (t356 != t358) = true then (laws_FnTracking.j0 k t342 t343 t350 t351 t357 t362 t363 t376 t379 t380 true t340 t341 t374 t375) else (if t355 = t357 then (if (t361 != t364) = true then (laws_FnTracking.j0 k t342 t343 t350 t351 t357 t362 t363 t376 t379 t380 true t340 t341 t374 t375) else (if t359 = t362 then (if t360 = t363 then (if (t371 != t373) = true then (laws_FnTracking.j0 k t342 t343 t350 t351 t357 t362 t363 t376 t379 t380 true t340 t341 t374 t375) else (if t370 = t372 then (if (t379 != t381) = true then (laws_FnTracking.j0 k t342 t343 t350 t351 t357 t362 t363 t376 t379 t380 true t340 t341 t374 t375) else (if t378 = t380 then (if (t356 != t350) = true then (laws_FnTracking.j0 k t342 t343 t350 t351 t357 t362 t363 t376 t379 t380 true t340 t341 t374 t375) else (laws_FnTracking.j0 k t342 t343 t350 t351 t357 t362 t363 t376 t379 t380 (t361 != t350) t340 t341 t374 t375)) else (laws_FnTracking.j0 k t342 t343 t350 t351 t357 t362 t363 t376 t379 t380 true t340 t341 t374 t375))) else (laws_FnTracking.j0 k t342 t343 t350 t351 t357 t362 t363 t376 t379 t380 true t340 t341 t374 t375))) else (laws_FnTracking.j0 k t342 t343 t350 t351 t357 t362 t363 t376 t379 t380 true t340 t341 t374 t375)) else (laws_FnTracking.j0 k t342 t343 t350 t351 t357 t362 t363 t376 t379 t380 true t340 t341 t374 t375))) else (laws_FnTracking.j0 k t342 t343 t350 t351 t357 t362 t363 t376 t379 t380 true t340 t341 t374 t375))) = some r := by rw [if_pos rfl] at H; exact H
     clear H
     have H := H1
     clear H1
     by_cases c51 : (t356 != t358) = true
     ·
      rw [if_pos c51] at H
      have c51b0 : (t356 != t358) = true := c51
      (try (have c51b1 : decide (t356 = t358) = false := by simpa using c51))
      (try (have c51b2 : (t356 == t358) = false := by simpa using c51))
      (try (have c51b3 : ¬ (t356 = t358) := by simpa using c51))
      clear c51
      exact (laws_FnTracking.j0_t (H.trans (congrArg some hr_))).elim
     ·
      rw [if_neg c51] at H
      have c51b0 : (t356 != t358) = false := by simpa using c51
      (try (have c51b1 : decide (t356 = t358) = true := by simpa using c51))
      (try (have c51b2 : (t356 == t358) = true := by simpa using c51))
      clear c51
      by_cases c52 : t355 = t357
      ·
       rw [if_pos c52] at H
       have c52b0 : (t355 == t357) = true := beq_iff_eq.mpr c52
       have c52b1 : (t355 != t357) = false := bne_eq_false_iff_eq.mpr c52
       clear c52
       by_cases c53 : (t361 != t364) = true
       ·
        rw [if_pos c53] at H
        have c53b0 : (t361 != t364) = true := c53
        (try (have c53b1 : decide (t361 = t364) = false := by simpa using c53))
        (try (have c53b2 : (t361 == t364) = false := by simpa using c53))
        (try (have c53b3 : ¬ (t361 = t364) := by simpa using c53))
        clear c53
        exact (laws_FnTracking.j0_t (H.trans (congrArg some hr_))).elim
       ·
        rw [if_neg c53] at H
        have c53b0 : (t361 != t364) = false := by simpa using c53
        (try (have c53b1 : decide (t361 = t364) = true := by simpa using c53))
        (try (have c53b2 : (t361 == t364) = true := by simpa using c53))
        clear c53
        by_cases c54 : t359 = t362
        ·
         rw [if_pos c54] at H
         have c54b0 : (t359 == t362) = true := beq_iff_eq.mpr c54
         have c54b1 : (t359 != t362) = false := bne_eq_false_iff_eq.mpr c54
         clear c54
         by_cases c55 : t360 = t363
         ·
          rw [if_pos c55] at H
          have c55b0 : (t360 == t363) = true := beq_iff_eq.mpr c55
          have c55b1 : (t360 != t363) = false := bne_eq_false_iff_eq.mpr c55
          clear c55
          by_cases c56 : (t371 != t373) = true
          ·
           rw [if_pos c56] at H
           have c56b0 : (t371 != t373) = true := c56
           (try (have c56b1 : decide (t371 = t373) = false := by simpa using c56))
           (try (have c56b2 : (t371 == t373) = false := by simpa using c56))
           (try (have c56b3 : ¬ (t371 = t373) := by simpa using c56))
           clear c56
           exact (laws_FnTracking.j0_t (H.trans (congrArg some hr_))).elim
          ·
           rw [if_neg c56] at H
           have c56b0 : (t371 != t373) = false := by simpa using c56
           (try (have c56b1 : decide (t371 = t373) = true := by simpa using c56))
           (try (have c56b2 : (t371 == t373) = true := by simpa using c56))
           clear c56
           by_cases c57 : t370 = t372
           ·
            rw [if_pos c57] at H
            have c57b0 : (t370 == t372) = true := beq_iff_eq.mpr c57
            have c57b1 : (t370 != t372) = false := bne_eq_false_iff_eq.mpr c57
            clear c57
            by_cases c58 : (t379 != t381) = true
            ·
             rw [if_pos c58] at H
             have c58b0 : (t379 != t381) = true := c58
             (try (have c58b1 : decide (t379 = t381) = false := by simpa using c58))
             (try (have c58b2 : (t379 == t381) = false := by simpa using c58))
             (try (have c58b3 : ¬ (t379 = t381) := by simpa using c58))
             clear c58
             exact (laws_FnTracking.j0_t (H.trans (congrArg some hr_))).elim
            ·
             rw [if_neg c58] at H
             have c58b0 : (t379 != t381) = false := by simpa using c58
             (try (have c58b1 : decide (t379 = t381) = true := by simpa using c58))
             (try (have c58b2 : (t379 == t381) = true := by simpa using c58))
             clear c58
             by_cases c59 : t378 = t380
             ·
              rw [if_pos c59] at H
              have c59b0 : (t378 == t380) = true := beq_iff_eq.mpr c59
              have c59b1 : (t378 != t380) = false := bne_eq_false_iff_eq.mpr c59
              clear c59
              by_cases c60 : (t356 != t350) = true
              ·
               rw [if_pos c60] at H
               have c60b0 : (t356 != t350) = true := c60
               (try (have c60b1 : decide (t356 = t350) = false := by simpa using c60))
               (try (have c60b2 : (t356 == t350) = false := by simpa using c60))
               (try (have c60b3 : ¬ (t356 = t350) := by simpa using c60))
               clear c60
               exact (laws_FnTracking.j0_t (H.trans (congrArg some hr_))).elim
              ·
               as_aux_lemma =>
               rw [if_neg c60] at H
               have c60b0 : (t356 != t350) = false := by simpa using c60
               (try (have c60b1 : decide (t356 = t350) = true := by simpa using c60))
               (try (have c60b2 : (t356 == t350) = true := by simpa using c60))
               clear c60
               have H' := zm H
               clear H
               obtain ⟨Ao61, co61, eo61⟩ := Kd.R_slice HO349.out
               subst eo61
               obtain ⟨Ao62, co62, eo62⟩ := Kd.R_slice HO353.out
               subst eo62
               go_wp2_with (first | (go_at_call 49; (with_reducible refine (laws_qInts.calls k _ _ t347 _ _ t351 true _ ?side1 ?side2 ?side3 ?side4 A49.out).mono ?_); (case side1 => repeat (first | exact (Kd.R_reads' HO349.out).2.2 | (with_reducible refine Kd.C_alloc ?_ _) | (with_reducible refine Kd.C_drewN ?_ _) | (with_reducible refine Kd.C_drew ?_))); (case side2 => exact (Kd.R_reads' HO349.out).2.1); (case side3 => repeat (first | exact (Kd.R_reads' HO353.out).2.2 | (with_reducible refine Kd.C_alloc ?_ _) | (with_reducible refine Kd.C_drewN ?_ _) | (with_reducible refine Kd.C_drew ?_))); (case side4 => exact (Kd.R_reads' HO353.out).2.1); rintro e w' ⟨rfl, ⟨nd, rfl⟩⟩; (try first | exact ⟨rfl, _, World.drewN_drewN _ _ _⟩ | exact ⟨rfl, _, Eq.trans (World.drewN_drewN _ _ _) (congrArg (World.drewN _) (Nat.add_assoc _ _ _))⟩)) | ((with_reducible refine laws_FnTracking.gq ?_); go_quiet (first | (go_at_call 49; (with_reducible refine (laws_qInts.calls k _ _ t347 _ _ t351 true _ ?side1 ?side2 ?side3 ?side4 A49.out).mono ?_); (case side1 => repeat (first | exact (Kd.R_reads' HO349.out).2.2 | (with_reducible refine Kd.C_alloc ?_ _) | (with_reducible refine Kd.C_drewN ?_ _) | (with_reducible refine Kd.C_drew ?_))); (case side2 => exact (Kd.R_reads' HO349.out).2.1); (case side3 => repeat (first | exact (Kd.R_reads' HO353.out).2.2 | (with_reducible refine Kd.C_alloc ?_ _) | (with_reducible refine Kd.C_drewN ?_ _) | (with_reducible refine Kd.C_drew ?_))); (case side4 => exact (Kd.R_reads' HO353.out).2.1); rintro e w' ⟨rfl, ⟨nd, rfl⟩⟩; (try first | exact ⟨rfl, _, World.drewN_drewN _ _ _⟩ | exact ⟨rfl, _, Eq.trans (World.drewN_drewN _ _ _) (congrArg (World.drewN _) (Nat.add_assoc _ _ _))⟩)))))
               go_meet
               case rel => exact ⟨_, ((t361 != t350)), (by first | rfl | (simp; done) | (simp [*]; done)), H', ⟨by first | omega | exact Nat.le_refl _⟩, ⟨by (with_reducible repeat (first | apply Kd.R_alloc | apply Kd.R_drewN | apply Kd.R_drew)); exact Kd.R_mono HO345.out (fun _ hk => hk.2)⟩, ⟨by (with_reducible repeat (first | apply Kd.R_alloc | apply Kd.R_drewN | apply Kd.R_drew)); exact Kd.R_mono HO353.out (fun _ hk => hk.1.2)⟩, ⟨zk⟩, ⟨zk⟩, ⟨zk⟩, ⟨zb⟩⟩
             ·
              rw [if_neg c59] at H
              have c59b0 : (t378 == t380) = false := beq_eq_false_iff_ne.mpr c59
              have c59b1 : (t378 != t380) = true := bne_iff_ne.mpr c59
              exact (laws_FnTracking.j0_t (H.trans (congrArg some hr_))).elim
           ·
            rw [if_neg c57] at H
            have c57b0 : (t370 == t372) = false := beq_eq_false_iff_ne.mpr c57
            have c57b1 : (t370 != t372) = true := bne_iff_ne.mpr c57
            exact (laws_FnTracking.j0_t (H.trans (congrArg some hr_))).elim
         ·
          rw [if_neg c55] at H
          have c55b0 : (t360 == t363) = false := beq_eq_false_iff_ne.mpr c55
          have c55b1 : (t360 != t363) = true := bne_iff_ne.mpr c55
          exact (laws_FnTracking.j0_t (H.trans (congrArg some hr_))).elim
        ·
         rw [if_neg c54] at H
         have c54b0 : (t359 == t362) = false := beq_eq_false_iff_ne.mpr c54
         have c54b1 : (t359 != t362) = true := bne_iff_ne.mpr c54
         exact (laws_FnTracking.j0_t (H.trans (congrArg some hr_))).elim
      ·
       rw [if_neg c52] at H
       have c52b0 : (t355 == t357) = false := beq_eq_false_iff_ne.mpr c52
       have c52b1 : (t355 != t357) = true := bne_iff_ne.mpr c52
       exact (laws_FnTracking.j0_t (H.trans (congrArg some hr_))).elim
    ·
     replace c50 := Bool.eq_false_iff.mpr c50
     subst c50
     have H1 : (laws_FnTracking.j0 k t342 t343 t350 t351 t357 t362 t363 t376 t379 t380 true t340 t341 t374 t375) = some r := by rw [if_neg (show ¬ (false = true) by decide)] at H; exact H
     clear H
     have H := H1
     clear H1
     exact (laws_FnTracking.j0_t (H.trans (congrArg some hr_))).elim
  case rest =>
   clear HC17
   try clear c1
   try clear p2
   try clear c3
   try clear c3b0
   try clear c4
   try clear c5
   try clear c6
   try clear p6
   try clear c9
   try clear c35
   try clear c42
   try clear c43
   try clear c48
   try clear c48b0
   try clear c48b1
   try clear c48b2
   try clear c50
   try clear c51
   try clear c51b0
   try clear c51b1
   try clear c51b2
   try clear c52
   try clear c52b0
   try clear c52b1
   try clear c53
   try clear c53b0
   try clear c53b1
   try clear c53b2
   try clear c54
   try clear c54b0
   try clear c54b1
   try clear c55
   try clear c55b0
   try clear c55b1
   try clear c56
   try clear c56b0
   try clear c56b1
   try clear c56b2
   try clear c57
   try clear c57b0
   try clear c57b1
   try clear c58
   try clear c58b0
   try clear c58b1
   try clear c58b2
   try clear c59
   try clear c59b0
   try clear c59b1
   try clear c60
   try clear c60b0
   try clear c60b1
   try clear c60b2
   try clear hcz20_0
   try clear hcz20_1
   try clear hcz23_0
   try clear hcz23_1
   try clear hcz25_0
   try clear hcz25_1
   try clear hcz27_0
   try clear hcz27_1
   try clear hcz29_0
   try clear hcz29_1
   try clear hcz31_0
   try clear hcz31_1
   try clear hcz36_0
   try clear hcz36_1
   try clear hcz38_0
   try clear hcz38_1
   try clear hcz44_0
   try clear hcz44_1
   try clear hcz46_0
   try clear hcz46_1
   try clear hfz20_0
   try clear hfz20_1
   try clear hfz23_0
   try clear hfz23_1
   try clear hfz25_0
   try clear hfz25_1
   try clear hfz27_0
   try clear hfz27_1
   try clear hfz29_0
   try clear hfz29_1
   try clear hfz31_0
   try clear hfz31_1
   try clear hfz36_0
   try clear hfz36_1
   try clear hfz38_0
   try clear hfz38_1
   try clear hfz44_0
   try clear hfz44_1
   try clear hfz46_0
   try clear hfz46_1
   obtain ⟨kq, x206_16, rfl, HA, HJ16, HO_7, HO_10, BK346, BK369, BK377, HB⟩ := hcut
   cases kq with
   | zero => exact absurd HA.out (by simp [laws_FnTracking.j0])
   | succ kj16 =>
    have H := HA.out
    clear HA
    simp only [laws_FnTracking.j0] at H
    by_cases c63 : x206_16 = true
    ·
     subst c63
     have H1 : (some false) = some r := by rw [if_pos rfl] at H; exact H
     clear H
     have H := H1
     clear H1
     exact absurd ((Option.some.inj H).trans hr_) (by decide)
    ·
     as_aux_lemma =>
     replace c63 := Bool.eq_false_iff.mpr c63
     subst c63
     have H1 : (if t379 = true then (laws_FnTracking.j1 kj16 t342 t343 t350 t351 t357 t362 t363 t376 t380 (decide (t380 ≤ 100)) t340 t341 t374 t375) else (laws_FnTracking.j1 kj16 t342 t343 t350 t351 t357 t362 t363 t376 t380 false t340 t341 t374 t375)) = some r := by rw [if_neg (show ¬ (false = true) by decide)] at H; exact H
     clear H
     have H := H1
     clear H1
     have HC64 := zm H
     clear H
     go_upto_region 18 with (fail)
     repeat (go_quiet (fail); go_upto_region 18 with (fail))
     go_cut [211] (fun v211 wc => ∃ (kq : Nat) (x211_63 : Bool), v211 = .bool x211_63 ∧ Aside0 (laws_FnTracking.j1 kq t342 t343 t350 t351 t357 t362 t363 t376 t380 x211_63 t340 t341 t374 t375 = some r) ∧ Aside0 (kq ≤ kj16) ∧ Aside0 (Kd.R (Kd.int .i64) 3 wc w.heap.size (fun k_ => some k_ ≠ (v352 : Value).ownBlock) (.slice Ao21 t343.length co21) t343) ∧ Aside0 (Kd.R (Kd.int .i64) 3 wc w.heap.size (fun k_ => some k_ ≠ ((.slice Ao21 t343.length co21) : Value).ownBlock) v352 t351) ∧ Aside0 (wc.heap[gb346]? = some (.cells #[.int .i64 t340, .int .i64 t341] 47 (0, 0))) ∧ Aside0 (wc.heap[gb369]? = some (.cells #[.int .i64 t365, .int .i64 t366] 47 (0, 0))) ∧ Aside0 (wc.heap[gb377]? = some (.cells #[.int .i64 t374, .int .i64 t375] 47 (0, 0))) ∧ Aside0 (Below w.heap.size w wc))
     case first =>
      have H := HC64.out
      clear HC64
      by_cases c65 : t379 = true
      ·
       subst c65
       have H1 : (laws_FnTracking.j1 kj16 t342 t343 t350 t351 t357 t362 t363 t376 t380 (decide (t380 ≤ 100)) t340 t341 t374 t375) = some r := by rw [if_pos rfl] at H; exact H
       clear H
       have H := H1
       clear H1
       have H' := zm H
       clear H
       go_wp2
       repeat (go_quiet (fail); try go_wp2)
       go_meet
       case rel => exact ⟨_, (decide (t380 ≤ 100)), (by first | rfl | (simp; done) | (simp [*]; done)), H', ⟨by have := HJ16.out; first | omega | exact Nat.le_refl _⟩, ⟨by (with_reducible repeat (first | apply Kd.R_alloc | apply Kd.R_drewN | apply Kd.R_drew)); exact HO_7.out⟩, ⟨by (with_reducible repeat (first | apply Kd.R_alloc | apply Kd.R_drewN | apply Kd.R_drew)); exact HO_10.out⟩, ⟨zk⟩, ⟨zk⟩, ⟨zk⟩, ⟨zb⟩⟩
      ·
       replace c65 := Bool.eq_false_iff.mpr c65
       subst c65
       have H1 : (laws_FnTracking.j1 kj16 t342 t343 t350 t351 t357 t362 t363 t376 t380 false t340 t341 t374 t375) = some r := by rw [if_neg (show ¬ (false = true) by decide)] at H; exact H
       clear H
       have H := H1
       clear H1
       have H' := zm H
       clear H
       go_wp2
       repeat (go_quiet (fail); try go_wp2)
       go_meet
       case rel => exact ⟨_, (false), (by first | rfl | (simp; done) | (simp [*]; done)), H', ⟨by have := HJ16.out; first | omega | exact Nat.le_refl _⟩, ⟨by (with_reducible repeat (first | apply Kd.R_alloc | apply Kd.R_drewN | apply Kd.R_drew)); exact HO_7.out⟩, ⟨by (with_reducible repeat (first | apply Kd.R_alloc | apply Kd.R_drewN | apply Kd.R_drew)); exact HO_10.out⟩, ⟨zk⟩, ⟨zk⟩, ⟨zk⟩, ⟨zb⟩⟩
     case rest =>
      clear HC64
      try clear c1
      try clear p2
      try clear c3
      try clear c3b0
      try clear c4
      try clear c5
      try clear c6
      try clear p6
      try clear c9
      try clear c35
      try clear c42
      try clear c43
      try clear c48
      try clear c48b0
      try clear c48b1
      try clear c48b2
      try clear c50
      try clear c51
      try clear c51b0
      try clear c51b1
      try clear c51b2
      try clear c52
      try clear c52b0
      try clear c52b1
      try clear c53
      try clear c53b0
      try clear c53b1
      try clear c53b2
      try clear c54
      try clear c54b0
      try clear c54b1
      try clear c55
      try clear c55b0
      try clear c55b1
      try clear c56
      try clear c56b0
      try clear c56b1
      try clear c56b2
      try clear c57
      try clear c57b0
      try clear c57b1
      try clear c58
      try clear c58b0
      try clear c58b1
      try clear c58b2
      try clear c59
      try clear c59b0
      try clear c59b1
      try clear c60
      try clear c60b0
      try clear c60b1
      try clear c60b2
      try clear c63
      try clear p64
      try clear c65
      try clear hcz20_0
      try clear hcz20_1
      try clear hcz23_0
      try clear hcz23_1
      try clear hcz25_0
      try clear hcz25_1
      try clear hcz27_0
      try clear hcz27_1
      try clear hcz29_0
      try clear hcz29_1
      try clear hcz31_0
      try clear hcz31_1
      try clear hcz36_0
      try clear hcz36_1
      try clear hcz38_0
      try clear hcz38_1
      try clear hcz44_0
      try clear hcz44_1
      try clear hcz46_0
      try clear hcz46_1
      try clear hfz20_0
      try clear hfz20_1
      try clear hfz23_0
      try clear hfz23_1
      try clear hfz25_0
      try clear hfz25_1
      try clear hfz27_0
      try clear hfz27_1
      try clear hfz29_0
      try clear hfz29_1
      try clear hfz31_0
      try clear hfz31_1
      try clear hfz36_0
      try clear hfz36_1
      try clear hfz38_0
      try clear hfz38_1
      try clear hfz44_0
      try clear hfz44_1
      try clear hfz46_0
      try clear hfz46_1
      try clear p2
      try clear p6
      obtain ⟨kq, x211_63, rfl, HA, HJ63, HO_7, HO_10, BK346, BK369, BK377, HB⟩ := hcut
      cases kq with
      | zero => exact absurd HA.out (by simp [laws_FnTracking.j1])
      | succ kj63 =>
       have H := HA.out
       clear HA
       simp only [laws_FnTracking.j1] at H
       have HC66 := zm H
       clear H
       go_upto_if 211 with (fail)
       repeat (go_quiet (fail); go_upto_if 211 with (fail))
       go_cut [] (fun wc => ∃ (kq : Nat), Aside0 (laws_FnTracking.j4 kq t342 t343 t350 t351 t357 t362 t363 t340 t341 = some r) ∧ Aside0 (kq ≤ kj63) ∧ Aside0 (Kd.R (Kd.int .i64) 3 wc w.heap.size (fun k_ => some k_ ≠ (v352 : Value).ownBlock) (.slice Ao21 t343.length co21) t343) ∧ Aside0 (Kd.R (Kd.int .i64) 3 wc w.heap.size (fun k_ => some k_ ≠ ((.slice Ao21 t343.length co21) : Value).ownBlock) v352 t351) ∧ Aside0 (wc.heap[gb346]? = some (.cells #[.int .i64 t340, .int .i64 t341] 47 (0, 0))) ∧ Aside0 (wc.heap[gb369]? = some (.cells #[.int .i64 t365, .int .i64 t366] 47 (0, 0))) ∧ Aside0 (wc.heap[gb377]? = some (.cells #[.int .i64 t374, .int .i64 t375] 47 (0, 0))) ∧ Aside0 (Below w.heap.size w wc))
       case first =>
        have H := HC66.out
        clear HC66
        by_cases c67 : x211_63 = true
        ·
         subst c67
         have H1 : (if 0 ≤ t380 then (if (t380 : Int).toNat ≤ 35184372088832 then ((some (List.replicate (t380 : Int).toNat 0 : List Int)).bind fun y383 => ((impl_TrackRun.f kj63 t374 t375 t376 y383).bind fun bt386 => ((spec_TrackRun.f kj63 t374 t375 t376 y383).bind fun bt390 => (if bt386.2 = true then (if bt390.2 = true then ((laws_qInts.f kj63 bt386.1 bt390.1).bind fun t394 => (laws_FnTracking.j2 kj63 t342 t343 t350 t351 t357 t362 t363 t376 t380 bt390.1 (!t394) t340 t341 t374 t375)) else (laws_FnTracking.j2 kj63 t342 t343 t350 t351 t357 t362 t363 t376 t380 bt390.1 true t340 t341 t374 t375)) else (laws_FnTracking.j2 kj63 t342 t343 t350 t351 t357 t362 t363 t376 t380 bt390.1 true t340 t341 t374 t375))))) else (none)) else (none)) = some r := by rw [if_pos rfl] at H; exact H
         clear H
         have H := H1
         clear H1
         by_cases c68 : 0 ≤ t380
         ·
          rw [if_pos c68] at H
          have c68b0 := eq_true c68
          have c68b1 : decide (0 ≤ t380) = true := decide_eq_true c68
          clear c68
          by_cases c69 : (t380 : Int).toNat ≤ 35184372088832
          ·
           as_aux_lemma =>
           rw [if_pos c69] at H
           have c69b0 := eq_true c69
           have c69b1 : decide ((t380 : Int).toNat ≤ 35184372088832) = true := decide_eq_true c69
           clear c69
           obtain ⟨y383, hy383⟩ : ∃ y_ : List Int, y_ = (List.replicate (t380 : Int).toNat 0) := ⟨_, rfl⟩
           replace H : ((impl_TrackRun.f kj63 t374 t375 t376 y383).bind fun bt386 => ((spec_TrackRun.f kj63 t374 t375 t376 y383).bind fun bt390 => (if bt386.2 = true then (if bt390.2 = true then ((laws_qInts.f kj63 bt386.1 bt390.1).bind fun t394 => (laws_FnTracking.j2 kj63 t342 t343 t350 t351 t357 t362 t363 t376 t380 bt390.1 (!t394) t340 t341 t374 t375)) else (laws_FnTracking.j2 kj63 t342 t343 t350 t351 t357 t362 t363 t376 t380 bt390.1 true t340 t341 t374 t375)) else (laws_FnTracking.j2 kj63 t342 t343 t350 t351 t357 t362 t363 t376 t380 bt390.1 true t340 t341 t374 t375)))) = some r := by first | (rw [hy383]; with_reducible exact H) | (have H2_ := (Option.bind_some _ _).symm.trans H; rw [hy383]; with_reducible exact H2_) | (have H2_ := (Option.bind_some _ _).symm.trans H; with_reducible exact H2_) | with_reducible exact H | (rw [hy383]; exact H) | exact H
           have Ny383 := zm hy383
           clear hy383
           replace H := Option.bind_eq_some_iff.mp H
           obtain ⟨⟨t386, t389⟩, A700, H⟩ := H
           replace H : ((spec_TrackRun.f kj63 t374 t375 t376 y383).bind fun bt390 => (if t389 = true then (if bt390.2 = true then ((laws_qInts.f kj63 t386 bt390.1).bind fun t394 => (laws_FnTracking.j2 kj63 t342 t343 t350 t351 t357 t362 t363 t376 t380 bt390.1 (!t394) t340 t341 t374 t375)) else (laws_FnTracking.j2 kj63 t342 t343 t350 t351 t357 t362 t363 t376 t380 bt390.1 true t340 t341 t374 t375)) else (laws_FnTracking.j2 kj63 t342 t343 t350 t351 t357 t362 t363 t376 t380 bt390.1 true t340 t341 t374 t375))) = some r := H
           have A70 := zm A700
           clear A700
           replace H := Option.bind_eq_some_iff.mp H
           obtain ⟨⟨t390, t393⟩, A710, H⟩ := H
           replace H : (if t389 = true then (if t393 = true then ((laws_qInts.f kj63 t386 t390).bind fun t394 => (laws_FnTracking.j2 kj63 t342 t343 t350 t351 t357 t362 t363 t376 t380 t390 (!t394) t340 t341 t374 t375)) else (laws_FnTracking.j2 kj63 t342 t343 t350 t351 t357 t362 t363 t376 t380 t390 true t340 t341 t374 t375)) else (laws_FnTracking.j2 kj63 t342 t343 t350 t351 t357 t362 t363 t376 t380 t390 true t340 t341 t374 t375)) = some r := H
           have A71 := zm A710
           clear A710
           have HC72 := zm H
           clear H
           go_upto_region 22 with (first | ((with_reducible refine gate_dst (N := 213) rfl ?_); refine Kd.R_make (Kd.int .i64) _ 3 rfl (N := 213) rfl 23 _ _ rfl t380 rfl rfl Try.underlying23 (.int .i64 0) 8 info3 rfl (by decide) (by omega) 0 (ok := fun _ => True) (okp := fun _ => True) rfl (fun _ hk => hk) trivial (of_decide_eq_true (by first | (with_reducible assumption) | assumption)) (Nat.le_trans (Nat.mul_le_mul_right _ (of_decide_eq_true (by first | (with_reducible assumption) | assumption) : t380.toNat ≤ 35184372088832)) (by omega)) (Below.refl _ _) (Nat.le_refl _) ?_; intro v384 w73 ho74 hb hg_ hnew_; clear hg_ hnew_; (first | rw [← Ny383.out] at ho74 | (simp only [Int.reduceToNat] at ho74; rw [← Ny383.out] at ho74)); have n0_ := zm (Kd.R_elder' (by (with_reducible repeat (first | apply Kd.R_alloc | apply Kd.R_drewN | apply Kd.R_drew)); exact HO_7.out) (Kd.R_base ho74) hb); have n1_ := zm (Kd.R_elder' (by (with_reducible repeat (first | apply Kd.R_alloc | apply Kd.R_drewN | apply Kd.R_drew)); exact HO_10.out) (Kd.R_base ho74) hb); have n2_ := zm (Kd.R_lower (Kd.R_new' (Kd.R_new' ho74 (Kd.R_lt (by (with_reducible repeat (first | apply Kd.R_alloc | apply Kd.R_drewN | apply Kd.R_drew)); exact HO_7.out))) (Kd.R_lt (by (with_reducible repeat (first | apply Kd.R_alloc | apply Kd.R_drewN | apply Kd.R_drew)); exact HO_10.out))) (below_size zb)); have n3_ := zm (blk_below (g := gb346) zk hb); have n4_ := zm (blk_below (g := gb369) zk hb); have n5_ := zm (blk_below (g := gb377) zk hb); have n6_ := zm (below_step zb hb); clear HO_7; clear HO_10; clear BK346; clear BK369; clear BK377; clear HB; have HO_7 := n0_; have HO_10 := n1_; have HO385 := n2_; have BK346 := n3_; have BK369 := n4_; have BK377 := n5_; have HB := n6_; clear n0_ n1_ n2_ n3_ n4_ n5_ n6_; clear hb ho74; have hnb75 := NB377_346.out; have hnc75 := NB346_377.out; have hnb76 := NB377_369.out; have hnc76 := NB369_377.out; obtain ⟨hcz77_0, hcz77_1, hfz77_0, hfz77_1⟩ := zc2 BK377.out; obtain ⟨Ao78, co78, eo78⟩ := Kd.R_slice HO385.out; subst eo78) | (go_at_call 37; (with_reducible refine (impl_TrackRun.calls kj63 t374 t375 t376 _ _ y383 t386 t389 _ ?side1 ?side2 A70.out).mono ?_); (case side1 => repeat (first | exact (Kd.R_reads' HO385.out).2.2 | (with_reducible refine Kd.C_alloc ?_ _) | (with_reducible refine Kd.C_drewN ?_ _) | (with_reducible refine Kd.C_drew ?_))); (case side2 => exact (Kd.R_reads' HO385.out).2.1); rintro e w79 ⟨v387, rfl, ho0, hb⟩; have n0_ := zm (Kd.R_elder' (by (with_reducible repeat (first | apply Kd.R_alloc | apply Kd.R_drewN | apply Kd.R_drew)); exact HO_7.out) (Kd.R_base ho0) hb); have n1_ := zm (Kd.R_elder' (by (with_reducible repeat (first | apply Kd.R_alloc | apply Kd.R_drewN | apply Kd.R_drew)); exact HO_10.out) (Kd.R_base ho0) hb); have n2_ := zm (Kd.R_elder' (by (with_reducible repeat (first | apply Kd.R_alloc | apply Kd.R_drewN | apply Kd.R_drew)); exact HO385.out) (Kd.R_base ho0) hb); have n3_ := zm (Kd.R_lower (Kd.R_new' (Kd.R_new' (Kd.R_new' ho0 (Kd.R_lt (by (with_reducible repeat (first | apply Kd.R_alloc | apply Kd.R_drewN | apply Kd.R_drew)); exact HO_7.out))) (Kd.R_lt (by (with_reducible repeat (first | apply Kd.R_alloc | apply Kd.R_drewN | apply Kd.R_drew)); exact HO_10.out))) (Kd.R_lt (by (with_reducible repeat (first | apply Kd.R_alloc | apply Kd.R_drewN | apply Kd.R_drew)); exact HO385.out))) (below_size zb)); have n4_ := zm (blk_below (g := gb346) zk hb); have n5_ := zm (blk_below (g := gb369) zk hb); have n6_ := zm (blk_below (g := gb377) zk hb); have n7_ := zm (below_step zb hb); clear HO_7; clear HO_10; clear HO385; clear BK346; clear BK369; clear BK377; clear HB; have HO_7 := n0_; have HO_10 := n1_; have HO385 := n2_; have HO388 := n3_; have BK346 := n4_; have BK369 := n5_; have BK377 := n6_; have HB := n7_; clear n0_ n1_ n2_ n3_ n4_ n5_ n6_ n7_; (try clear hb); (try clear hb2); (try clear hk); (try clear hi); (try clear ho0); obtain ⟨hcz80_0, hcz80_1, hfz80_0, hfz80_1⟩ := zc2 BK377.out) | (go_at_call 38; (with_reducible refine (spec_TrackRun.calls kj63 t374 t375 t376 _ _ y383 t390 t393 _ ?side1 ?side2 A71.out).mono ?_); (case side1 => repeat (first | exact (Kd.R_reads' HO385.out).2.2 | (with_reducible refine Kd.C_alloc ?_ _) | (with_reducible refine Kd.C_drewN ?_ _) | (with_reducible refine Kd.C_drew ?_))); (case side2 => exact (Kd.R_reads' HO385.out).2.1); rintro e w81 ⟨v391, rfl, ho0, hb⟩; have n0_ := zm (Kd.R_elder' (by (with_reducible repeat (first | apply Kd.R_alloc | apply Kd.R_drewN | apply Kd.R_drew)); exact HO_7.out) (Kd.R_base ho0) hb); have n1_ := zm (Kd.R_elder' (by (with_reducible repeat (first | apply Kd.R_alloc | apply Kd.R_drewN | apply Kd.R_drew)); exact HO_10.out) (Kd.R_base ho0) hb); have n2_ := zm (Kd.R_elder' (by (with_reducible repeat (first | apply Kd.R_alloc | apply Kd.R_drewN | apply Kd.R_drew)); exact HO385.out) (Kd.R_base ho0) hb); have n3_ := zm (Kd.R_elder' (by (with_reducible repeat (first | apply Kd.R_alloc | apply Kd.R_drewN | apply Kd.R_drew)); exact HO388.out) (Kd.R_base ho0) hb); have n4_ := zm (Kd.R_lower (Kd.R_new' (Kd.R_new' (Kd.R_new' (Kd.R_new' ho0 (Kd.R_lt (by (with_reducible repeat (first | apply Kd.R_alloc | apply Kd.R_drewN | apply Kd.R_drew)); exact HO_7.out))) (Kd.R_lt (by (with_reducible repeat (first | apply Kd.R_alloc | apply Kd.R_drewN | apply Kd.R_drew)); exact HO_10.out))) (Kd.R_lt (by (with_reducible repeat (first | apply Kd.R_alloc | apply Kd.R_drewN | apply Kd.R_drew)); exact HO385.out))) (Kd.R_lt (by (with_reducible repeat (first | apply Kd.R_alloc | apply Kd.R_drewN | apply Kd.R_drew)); exact HO388.out))) (below_size zb)); have n5_ := zm (blk_below (g := gb346) zk hb); have n6_ := zm (blk_below (g := gb369) zk hb); have n7_ := zm (blk_below (g := gb377) zk hb); have n8_ := zm (below_step zb hb); clear HO_7; clear HO_10; clear HO385; clear HO388; clear BK346; clear BK369; clear BK377; clear HB; have HO_7 := n0_; have HO_10 := n1_; have HO385 := n2_; have HO388 := n3_; have HO392 := n4_; have BK346 := n5_; have BK369 := n6_; have BK377 := n7_; have HB := n8_; clear n0_ n1_ n2_ n3_ n4_ n5_ n6_ n7_ n8_; (try clear hb); (try clear hb2); (try clear hk); (try clear hi); (try clear ho0)))
           repeat (go_quiet (first | ((with_reducible refine gate_dst (N := 213) rfl ?_); refine Kd.R_make (Kd.int .i64) _ 3 rfl (N := 213) rfl 23 _ _ rfl t380 rfl rfl Try.underlying23 (.int .i64 0) 8 info3 rfl (by decide) (by omega) 0 (ok := fun _ => True) (okp := fun _ => True) rfl (fun _ hk => hk) trivial (of_decide_eq_true (by first | (with_reducible assumption) | assumption)) (Nat.le_trans (Nat.mul_le_mul_right _ (of_decide_eq_true (by first | (with_reducible assumption) | assumption) : t380.toNat ≤ 35184372088832)) (by omega)) (Below.refl _ _) (Nat.le_refl _) ?_; intro v384 w73 ho74 hb hg_ hnew_; clear hg_ hnew_; (first | rw [← Ny383.out] at ho74 | (simp only [Int.reduceToNat] at ho74; rw [← Ny383.out] at ho74)); have n0_ := zm (Kd.R_elder' (by (with_reducible repeat (first | apply Kd.R_alloc | apply Kd.R_drewN | apply Kd.R_drew)); exact HO_7.out) (Kd.R_base ho74) hb); have n1_ := zm (Kd.R_elder' (by (with_reducible repeat (first | apply Kd.R_alloc | apply Kd.R_drewN | apply Kd.R_drew)); exact HO_10.out) (Kd.R_base ho74) hb); have n2_ := zm (Kd.R_lower (Kd.R_new' (Kd.R_new' ho74 (Kd.R_lt (by (with_reducible repeat (first | apply Kd.R_alloc | apply Kd.R_drewN | apply Kd.R_drew)); exact HO_7.out))) (Kd.R_lt (by (with_reducible repeat (first | apply Kd.R_alloc | apply Kd.R_drewN | apply Kd.R_drew)); exact HO_10.out))) (below_size zb)); have n3_ := zm (blk_below (g := gb346) zk hb); have n4_ := zm (blk_below (g := gb369) zk hb); have n5_ := zm (blk_below (g := gb377) zk hb); have n6_ := zm (below_step zb hb); clear HO_7; clear HO_10; clear BK346; clear BK369; clear BK377; clear HB; have HO_7 := n0_; have HO_10 := n1_; have HO385 := n2_; have BK346 := n3_; have BK369 := n4_; have BK377 := n5_; have HB := n6_; clear n0_ n1_ n2_ n3_ n4_ n5_ n6_; clear hb ho74; have hnb75 := NB377_346.out; have hnc75 := NB346_377.out; have hnb76 := NB377_369.out; have hnc76 := NB369_377.out; obtain ⟨hcz77_0, hcz77_1, hfz77_0, hfz77_1⟩ := zc2 BK377.out; obtain ⟨Ao78, co78, eo78⟩ := Kd.R_slice HO385.out; subst eo78) | (go_at_call 37; (with_reducible refine (impl_TrackRun.calls kj63 t374 t375 t376 _ _ y383 t386 t389 _ ?side1 ?side2 A70.out).mono ?_); (case side1 => repeat (first | exact (Kd.R_reads' HO385.out).2.2 | (with_reducible refine Kd.C_alloc ?_ _) | (with_reducible refine Kd.C_drewN ?_ _) | (with_reducible refine Kd.C_drew ?_))); (case side2 => exact (Kd.R_reads' HO385.out).2.1); rintro e w79 ⟨v387, rfl, ho0, hb⟩; have n0_ := zm (Kd.R_elder' (by (with_reducible repeat (first | apply Kd.R_alloc | apply Kd.R_drewN | apply Kd.R_drew)); exact HO_7.out) (Kd.R_base ho0) hb); have n1_ := zm (Kd.R_elder' (by (with_reducible repeat (first | apply Kd.R_alloc | apply Kd.R_drewN | apply Kd.R_drew)); exact HO_10.out) (Kd.R_base ho0) hb); have n2_ := zm (Kd.R_elder' (by (with_reducible repeat (first | apply Kd.R_alloc | apply Kd.R_drewN | apply Kd.R_drew)); exact HO385.out) (Kd.R_base ho0) hb); have n3_ := zm (Kd.R_lower (Kd.R_new' (Kd.R_new' (Kd.R_new' ho0 (Kd.R_lt (by (with_reducible repeat (first | apply Kd.R_alloc | apply Kd.R_drewN | apply Kd.R_drew)); exact HO_7.out))) (Kd.R_lt (by (with_reducible repeat (first | apply Kd.R_alloc | apply Kd.R_drewN | apply Kd.R_drew)); exact HO_10.out))) (Kd.R_lt (by (with_reducible repeat (first | apply Kd.R_alloc | apply Kd.R_drewN | apply Kd.R_drew)); exact HO385.out))) (below_size zb)); have n4_ := zm (blk_below (g := gb346) zk hb); have n5_ := zm (blk_below (g := gb369) zk hb); have n6_ := zm (blk_below (g := gb377) zk hb); have n7_ := zm (below_step zb hb); clear HO_7; clear HO_10; clear HO385; clear BK346; clear BK369; clear BK377; clear HB; have HO_7 := n0_; have HO_10 := n1_; have HO385 := n2_; have HO388 := n3_; have BK346 := n4_; have BK369 := n5_; have BK377 := n6_; have HB := n7_; clear n0_ n1_ n2_ n3_ n4_ n5_ n6_ n7_; (try clear hb); (try clear hb2); (try clear hk); (try clear hi); (try clear ho0); obtain ⟨hcz80_0, hcz80_1, hfz80_0, hfz80_1⟩ := zc2 BK377.out) | (go_at_call 38; (with_reducible refine (spec_TrackRun.calls kj63 t374 t375 t376 _ _ y383 t390 t393 _ ?side1 ?side2 A71.out).mono ?_); (case side1 => repeat (first | exact (Kd.R_reads' HO385.out).2.2 | (with_reducible refine Kd.C_alloc ?_ _) | (with_reducible refine Kd.C_drewN ?_ _) | (with_reducible refine Kd.C_drew ?_))); (case side2 => exact (Kd.R_reads' HO385.out).2.1); rintro e w81 ⟨v391, rfl, ho0, hb⟩; have n0_ := zm (Kd.R_elder' (by (with_reducible repeat (first | apply Kd.R_alloc | apply Kd.R_drewN | apply Kd.R_drew)); exact HO_7.out) (Kd.R_base ho0) hb); have n1_ := zm (Kd.R_elder' (by (with_reducible repeat (first | apply Kd.R_alloc | apply Kd.R_drewN | apply Kd.R_drew)); exact HO_10.out) (Kd.R_base ho0) hb); have n2_ := zm (Kd.R_elder' (by (with_reducible repeat (first | apply Kd.R_alloc | apply Kd.R_drewN | apply Kd.R_drew)); exact HO385.out) (Kd.R_base ho0) hb); have n3_ := zm (Kd.R_elder' (by (with_reducible repeat (first | apply Kd.R_alloc | apply Kd.R_drewN | apply Kd.R_drew)); exact HO388.out) (Kd.R_base ho0) hb); have n4_ := zm (Kd.R_lower (Kd.R_new' (Kd.R_new' (Kd.R_new' (Kd.R_new' ho0 (Kd.R_lt (by (with_reducible repeat (first | apply Kd.R_alloc | apply Kd.R_drewN | apply Kd.R_drew)); exact HO_7.out))) (Kd.R_lt (by (with_reducible repeat (first | apply Kd.R_alloc | apply Kd.R_drewN | apply Kd.R_drew)); exact HO_10.out))) (Kd.R_lt (by (with_reducible repeat (first | apply Kd.R_alloc | apply Kd.R_drewN | apply Kd.R_drew)); exact HO385.out))) (Kd.R_lt (by (with_reducible repeat (first | apply Kd.R_alloc | apply Kd.R_drewN | apply Kd.R_drew)); exact HO388.out))) (below_size zb)); have n5_ := zm (blk_below (g := gb346) zk hb); have n6_ := zm (blk_below (g := gb369) zk hb); have n7_ := zm (blk_below (g := gb377) zk hb); have n8_ := zm (below_step zb hb); clear HO_7; clear HO_10; clear HO385; clear HO388; clear BK346; clear BK369; clear BK377; clear HB; have HO_7 := n0_; have HO_10 := n1_; have HO385 := n2_; have HO388 := n3_; have HO392 := n4_; have BK346 := n5_; have BK369 := n6_; have BK377 := n7_; have HB := n8_; clear n0_ n1_ n2_ n3_ n4_ n5_ n6_ n7_ n8_; (try clear hb); (try clear hb2); (try clear hk); (try clear hi); (try clear ho0))); go_upto_region 22 with (first | ((with_reducible refine gate_dst (N := 213) rfl ?_); refine Kd.R_make (Kd.int .i64) _ 3 rfl (N := 213) rfl 23 _ _ rfl t380 rfl rfl Try.underlying23 (.int .i64 0) 8 info3 rfl (by decide) (by omega) 0 (ok := fun _ => True) (okp := fun _ => True) rfl (fun _ hk => hk) trivial (of_decide_eq_true (by first | (with_reducible assumption) | assumption)) (Nat.le_trans (Nat.mul_le_mul_right _ (of_decide_eq_true (by first | (with_reducible assumption) | assumption) : t380.toNat ≤ 35184372088832)) (by omega)) (Below.refl _ _) (Nat.le_refl _) ?_; intro v384 w73 ho74 hb hg_ hnew_; clear hg_ hnew_; (first | rw [← Ny383.out] at ho74 | (simp only [Int.reduceToNat] at ho74; rw [← Ny383.out] at ho74)); have n0_ := zm (Kd.R_elder' (by (with_reducible repeat (first | apply Kd.R_alloc | apply Kd.R_drewN | apply Kd.R_drew)); exact HO_7.out) (Kd.R_base ho74) hb); have n1_ := zm (Kd.R_elder' (by (with_reducible repeat (first | apply Kd.R_alloc | apply Kd.R_drewN | apply Kd.R_drew)); exact HO_10.out) (Kd.R_base ho74) hb); have n2_ := zm (Kd.R_lower (Kd.R_new' (Kd.R_new' ho74 (Kd.R_lt (by (with_reducible repeat (first | apply Kd.R_alloc | apply Kd.R_drewN | apply Kd.R_drew)); exact HO_7.out))) (Kd.R_lt (by (with_reducible repeat (first | apply Kd.R_alloc | apply Kd.R_drewN | apply Kd.R_drew)); exact HO_10.out))) (below_size zb)); have n3_ := zm (blk_below (g := gb346) zk hb); have n4_ := zm (blk_below (g := gb369) zk hb); have n5_ := zm (blk_below (g := gb377) zk hb); have n6_ := zm (below_step zb hb); clear HO_7; clear HO_10; clear BK346; clear BK369; clear BK377; clear HB; have HO_7 := n0_; have HO_10 := n1_; have HO385 := n2_; have BK346 := n3_; have BK369 := n4_; have BK377 := n5_; have HB := n6_; clear n0_ n1_ n2_ n3_ n4_ n5_ n6_; clear hb ho74; have hnb75 := NB377_346.out; have hnc75 := NB346_377.out; have hnb76 := NB377_369.out; have hnc76 := NB369_377.out; obtain ⟨hcz77_0, hcz77_1, hfz77_0, hfz77_1⟩ := zc2 BK377.out; obtain ⟨Ao78, co78, eo78⟩ := Kd.R_slice HO385.out; subst eo78) | (go_at_call 37; (with_reducible refine (impl_TrackRun.calls kj63 t374 t375 t376 _ _ y383 t386 t389 _ ?side1 ?side2 A70.out).mono ?_); (case side1 => repeat (first | exact (Kd.R_reads' HO385.out).2.2 | (with_reducible refine Kd.C_alloc ?_ _) | (with_reducible refine Kd.C_drewN ?_ _) | (with_reducible refine Kd.C_drew ?_))); (case side2 => exact (Kd.R_reads' HO385.out).2.1); rintro e w79 ⟨v387, rfl, ho0, hb⟩; have n0_ := zm (Kd.R_elder' (by (with_reducible repeat (first | apply Kd.R_alloc | apply Kd.R_drewN | apply Kd.R_drew)); exact HO_7.out) (Kd.R_base ho0) hb); have n1_ := zm (Kd.R_elder' (by (with_reducible repeat (first | apply Kd.R_alloc | apply Kd.R_drewN | apply Kd.R_drew)); exact HO_10.out) (Kd.R_base ho0) hb); have n2_ := zm (Kd.R_elder' (by (with_reducible repeat (first | apply Kd.R_alloc | apply Kd.R_drewN | apply Kd.R_drew)); exact HO385.out) (Kd.R_base ho0) hb); have n3_ := zm (Kd.R_lower (Kd.R_new' (Kd.R_new' (Kd.R_new' ho0 (Kd.R_lt (by (with_reducible repeat (first | apply Kd.R_alloc | apply Kd.R_drewN | apply Kd.R_drew)); exact HO_7.out))) (Kd.R_lt (by (with_reducible repeat (first | apply Kd.R_alloc | apply Kd.R_drewN | apply Kd.R_drew)); exact HO_10.out))) (Kd.R_lt (by (with_reducible repeat (first | apply Kd.R_alloc | apply Kd.R_drewN | apply Kd.R_drew)); exact HO385.out))) (below_size zb)); have n4_ := zm (blk_below (g := gb346) zk hb); have n5_ := zm (blk_below (g := gb369) zk hb); have n6_ := zm (blk_below (g := gb377) zk hb); have n7_ := zm (below_step zb hb); clear HO_7; clear HO_10; clear HO385; clear BK346; clear BK369; clear BK377; clear HB; have HO_7 := n0_; have HO_10 := n1_; have HO385 := n2_; have HO388 := n3_; have BK346 := n4_; have BK369 := n5_; have BK377 := n6_; have HB := n7_; clear n0_ n1_ n2_ n3_ n4_ n5_ n6_ n7_; (try clear hb); (try clear hb2); (try clear hk); (try clear hi); (try clear ho0); obtain ⟨hcz80_0, hcz80_1, hfz80_0, hfz80_1⟩ := zc2 BK377.out) | (go_at_call 38; (with_reducible refine (spec_TrackRun.calls kj63 t374 t375 t376 _ _ y383 t390 t393 _ ?side1 ?side2 A71.out).mono ?_); (case side1 => repeat (first | exact (Kd.R_reads' HO385.out).2.2 | (with_reducible refine Kd.C_alloc ?_ _) | (with_reducible refine Kd.C_drewN ?_ _) | (with_reducible refine Kd.C_drew ?_))); (case side2 => exact (Kd.R_reads' HO385.out).2.1); rintro e w81 ⟨v391, rfl, ho0, hb⟩; have n0_ := zm (Kd.R_elder' (by (with_reducible repeat (first | apply Kd.R_alloc | apply Kd.R_drewN | apply Kd.R_drew)); exact HO_7.out) (Kd.R_base ho0) hb); have n1_ := zm (Kd.R_elder' (by (with_reducible repeat (first | apply Kd.R_alloc | apply Kd.R_drewN | apply Kd.R_drew)); exact HO_10.out) (Kd.R_base ho0) hb); have n2_ := zm (Kd.R_elder' (by (with_reducible repeat (first | apply Kd.R_alloc | apply Kd.R_drewN | apply Kd.R_drew)); exact HO385.out) (Kd.R_base ho0) hb); have n3_ := zm (Kd.R_elder' (by (with_reducible repeat (first | apply Kd.R_alloc | apply Kd.R_drewN | apply Kd.R_drew)); exact HO388.out) (Kd.R_base ho0) hb); have n4_ := zm (Kd.R_lower (Kd.R_new' (Kd.R_new' (Kd.R_new' (Kd.R_new' ho0 (Kd.R_lt (by (with_reducible repeat (first | apply Kd.R_alloc | apply Kd.R_drewN | apply Kd.R_drew)); exact HO_7.out))) (Kd.R_lt (by (with_reducible repeat (first | apply Kd.R_alloc | apply Kd.R_drewN | apply Kd.R_drew)); exact HO_10.out))) (Kd.R_lt (by (with_reducible repeat (first | apply Kd.R_alloc | apply Kd.R_drewN | apply Kd.R_drew)); exact HO385.out))) (Kd.R_lt (by (with_reducible repeat (first | apply Kd.R_alloc | apply Kd.R_drewN | apply Kd.R_drew)); exact HO388.out))) (below_size zb)); have n5_ := zm (blk_below (g := gb346) zk hb); have n6_ := zm (blk_below (g := gb369) zk hb); have n7_ := zm (blk_below (g := gb377) zk hb); have n8_ := zm (below_step zb hb); clear HO_7; clear HO_10; clear HO385; clear HO388; clear BK346; clear BK369; clear BK377; clear HB; have HO_7 := n0_; have HO_10 := n1_; have HO385 := n2_; have HO388 := n3_; have HO392 := n4_; have BK346 := n5_; have BK369 := n6_; have BK377 := n7_; have HB := n8_; clear n0_ n1_ n2_ n3_ n4_ n5_ n6_ n7_ n8_; (try clear hb); (try clear hb2); (try clear hk); (try clear hi); (try clear ho0))))
           (try simp only [Act.put, List.setIfInBounds_toArray, List.set_cons_zero, List.set_cons_succ])
           go_cut [239] (fun v239 wc => ∃ (kq : Nat) (x239_71 : Bool), v239 = .bool x239_71 ∧ Aside0 (laws_FnTracking.j2 kq t342 t343 t350 t351 t357 t362 t363 t376 t380 t390 x239_71 t340 t341 t374 t375 = some r) ∧ Aside0 (kq ≤ kj63) ∧ Aside0 (Kd.R (Kd.int .i64) 3 wc w.heap.size (fun k_ => some k_ ≠ (v352 : Value).ownBlock ∧ some k_ ≠ (v391 : Value).ownBlock) (.slice Ao21 t343.length co21) t343) ∧ Aside0 (Kd.R (Kd.int .i64) 3 wc w.heap.size (fun k_ => some k_ ≠ ((.slice Ao21 t343.length co21) : Value).ownBlock ∧ some k_ ≠ (v391 : Value).ownBlock) v352 t351) ∧ Aside0 (Kd.R (Kd.int .i64) 3 wc w.heap.size (fun k_ => some k_ ≠ ((.slice Ao21 t343.length co21) : Value).ownBlock ∧ some k_ ≠ (v352 : Value).ownBlock) v391 t390) ∧ Aside0 (wc.heap[gb346]? = some (.cells #[.int .i64 t340, .int .i64 t341] 47 (0, 0))) ∧ Aside0 (wc.heap[gb369]? = some (.cells #[.int .i64 t365, .int .i64 t366] 47 (0, 0))) ∧ Aside0 (wc.heap[gb377]? = some (.cells #[.int .i64 t374, .int .i64 t375] 47 (0, 0))) ∧ Aside0 (Below w.heap.size w wc))
           case first =>
            have H := HC72.out
            clear HC72
            by_cases c82 : t389 = true
            ·
             subst c82
             have H1 : (if t393 = true then ((laws_qInts.f kj63 t386 t390).bind fun t394 => (laws_FnTracking.j2 kj63 t342 t343 t350 t351 t357 t362 t363 t376 t380 t390 (!t394) t340 t341 t374 t375)) else (laws_FnTracking.j2 kj63 t342 t343 t350 t351 t357 t362 t363 t376 t380 t390 true t340 t341 t374 t375)) = some r := by rw [if_pos rfl] at H; exact H
             clear H
             have H := H1
             clear H1
             by_cases c83 : t393 = true
             ·
              as_aux_lemma =>
              subst c83
              have H1 : ((laws_qInts.f kj63 t386 t390).bind fun t394 => (laws_FnTracking.j2 kj63 t342 t343 t350 t351 t357 t362 t363 t376 t380 t390 (!t394) t340 t341 t374 t375)) = some r := by rw [if_pos rfl] at H; exact H
              clear H
              have H := H1
              clear H1
              replace H := Option.bind_eq_some_iff.mp H
              obtain ⟨t394, A840, H⟩ := H
              replace H : (laws_FnTracking.j2 kj63 t342 t343 t350 t351 t357 t362 t363 t376 t380 t390 (!t394) t340 t341 t374 t375) = some r := H
              have A84 := zm A840
              clear A840
              have H' := zm H
              clear H
              obtain ⟨Ao85, co85, eo85⟩ := Kd.R_slice HO388.out
              subst eo85
              obtain ⟨Ao86, co86, eo86⟩ := Kd.R_slice HO392.out
              subst eo86
              go_wp2_with (first | (go_at_call 49; (with_reducible refine (laws_qInts.calls kj63 _ _ t386 _ _ t390 t394 _ ?side1 ?side2 ?side3 ?side4 A84.out).mono ?_); (case side1 => repeat (first | exact (Kd.R_reads' HO388.out).2.2 | (with_reducible refine Kd.C_alloc ?_ _) | (with_reducible refine Kd.C_drewN ?_ _) | (with_reducible refine Kd.C_drew ?_))); (case side2 => exact (Kd.R_reads' HO388.out).2.1); (case side3 => repeat (first | exact (Kd.R_reads' HO392.out).2.2 | (with_reducible refine Kd.C_alloc ?_ _) | (with_reducible refine Kd.C_drewN ?_ _) | (with_reducible refine Kd.C_drew ?_))); (case side4 => exact (Kd.R_reads' HO392.out).2.1); rintro e w' ⟨rfl, ⟨nd, rfl⟩⟩; (try first | exact ⟨rfl, _, World.drewN_drewN _ _ _⟩ | exact ⟨rfl, _, Eq.trans (World.drewN_drewN _ _ _) (congrArg (World.drewN _) (Nat.add_assoc _ _ _))⟩)) | ((with_reducible refine laws_FnTracking.gq ?_); go_quiet (first | (go_at_call 49; (with_reducible refine (laws_qInts.calls kj63 _ _ t386 _ _ t390 t394 _ ?side1 ?side2 ?side3 ?side4 A84.out).mono ?_); (case side1 => repeat (first | exact (Kd.R_reads' HO388.out).2.2 | (with_reducible refine Kd.C_alloc ?_ _) | (with_reducible refine Kd.C_drewN ?_ _) | (with_reducible refine Kd.C_drew ?_))); (case side2 => exact (Kd.R_reads' HO388.out).2.1); (case side3 => repeat (first | exact (Kd.R_reads' HO392.out).2.2 | (with_reducible refine Kd.C_alloc ?_ _) | (with_reducible refine Kd.C_drewN ?_ _) | (with_reducible refine Kd.C_drew ?_))); (case side4 => exact (Kd.R_reads' HO392.out).2.1); rintro e w' ⟨rfl, ⟨nd, rfl⟩⟩; (try first | exact ⟨rfl, _, World.drewN_drewN _ _ _⟩ | exact ⟨rfl, _, Eq.trans (World.drewN_drewN _ _ _) (congrArg (World.drewN _) (Nat.add_assoc _ _ _))⟩)))))
              go_meet
              case rel => exact ⟨_, (!t394), (by first | rfl | (simp; done) | (simp [*]; done)), H', ⟨by have := HJ16.out; have := HJ63.out; first | omega | exact Nat.le_refl _⟩, ⟨by (with_reducible repeat (first | apply Kd.R_alloc | apply Kd.R_drewN | apply Kd.R_drew)); exact Kd.R_mono HO_7.out (fun _ hk => ⟨hk.1.1.1, hk.2⟩)⟩, ⟨by (with_reducible repeat (first | apply Kd.R_alloc | apply Kd.R_drewN | apply Kd.R_drew)); exact Kd.R_mono HO_10.out (fun _ hk => ⟨hk.1.1.1, hk.2⟩)⟩, ⟨by (with_reducible repeat (first | apply Kd.R_alloc | apply Kd.R_drewN | apply Kd.R_drew)); exact Kd.R_mono HO392.out (fun _ hk => ⟨hk.1.1.1.2, hk.1.1.2⟩)⟩, ⟨zk⟩, ⟨zk⟩, ⟨zk⟩, ⟨zb⟩⟩
             ·
              replace c83 := Bool.eq_false_iff.mpr c83
              subst c83
              have H1 : (laws_FnTracking.j2 kj63 t342 t343 t350 t351 t357 t362 t363 t376 t380 t390 true t340 t341 t374 t375) = some r := by rw [if_neg (show ¬ (false = true) by decide)] at H; exact H
              clear H
              have H := H1
              clear H1
              exact (laws_FnTracking.j2_t (H.trans (congrArg some hr_))).elim
            ·
             replace c82 := Bool.eq_false_iff.mpr c82
             subst c82
             have H1 : (laws_FnTracking.j2 kj63 t342 t343 t350 t351 t357 t362 t363 t376 t380 t390 true t340 t341 t374 t375) = some r := by rw [if_neg (show ¬ (false = true) by decide)] at H; exact H
             clear H
             have H := H1
             clear H1
             exact (laws_FnTracking.j2_t (H.trans (congrArg some hr_))).elim
           case rest =>
            clear HC72
            try clear c1
            try clear p2
            try clear c3
            try clear c3b0
            try clear c4
            try clear c5
            try clear c6
            try clear p6
            try clear c7
            try clear c8
            try clear c9
            try clear c35
            try clear c42
            try clear c43
            try clear c48
            try clear c48b0
            try clear c48b1
            try clear c48b2
            try clear c50
            try clear c51
            try clear c51b0
            try clear c51b1
            try clear c51b2
            try clear c52
            try clear c52b0
            try clear c52b1
            try clear c53
            try clear c53b0
            try clear c53b1
            try clear c53b2
            try clear c54
            try clear c54b0
            try clear c54b1
            try clear c55
            try clear c55b0
            try clear c55b1
            try clear c56
            try clear c56b0
            try clear c56b1
            try clear c56b2
            try clear c57
            try clear c57b0
            try clear c57b1
            try clear c58
            try clear c58b0
            try clear c58b1
            try clear c58b2
            try clear c59
            try clear c59b0
            try clear c59b1
            try clear c60
            try clear c60b0
            try clear c60b1
            try clear c60b2
            try clear c63
            try clear p64
            try clear c65
            try clear c67
            try clear c68
            try clear c68b0
            try clear c68b1
            try clear c69
            try clear c69b0
            try clear c69b1
            try clear c75
            try clear c76
            try clear c82
            try clear c83
            try clear hcz20_0
            try clear hcz20_1
            try clear hcz23_0
            try clear hcz23_1
            try clear hcz25_0
            try clear hcz25_1
            try clear hcz27_0
            try clear hcz27_1
            try clear hcz29_0
            try clear hcz29_1
            try clear hcz31_0
            try clear hcz31_1
            try clear hcz36_0
            try clear hcz36_1
            try clear hcz38_0
            try clear hcz38_1
            try clear hcz44_0
            try clear hcz44_1
            try clear hcz46_0
            try clear hcz46_1
            try clear hcz77_0
            try clear hcz77_1
            try clear hcz80_0
            try clear hcz80_1
            try clear hfz20_0
            try clear hfz20_1
            try clear hfz23_0
            try clear hfz23_1
            try clear hfz25_0
            try clear hfz25_1
            try clear hfz27_0
            try clear hfz27_1
            try clear hfz29_0
            try clear hfz29_1
            try clear hfz31_0
            try clear hfz31_1
            try clear hfz36_0
            try clear hfz36_1
            try clear hfz38_0
            try clear hfz38_1
            try clear hfz44_0
            try clear hfz44_1
            try clear hfz46_0
            try clear hfz46_1
            try clear hfz77_0
            try clear hfz77_1
            try clear hfz80_0
            try clear hfz80_1
            try clear p2
            try clear p6
            try clear p64
            obtain ⟨kq, x239_71, rfl, HA, HJ71, HO_7, HO_10, HO_38, BK346, BK369, BK377, HB⟩ := hcut
            cases kq with
            | zero => exact absurd HA.out (by simp [laws_FnTracking.j2])
            | succ kj71 =>
             have H := HA.out
             clear HA
             simp only [laws_FnTracking.j2] at H
             by_cases c87 : x239_71 = true
             ·
              subst c87
              have H1 : (some false) = some r := by rw [if_pos rfl] at H; exact H
              clear H
              have H := H1
              clear H1
              exact absurd ((Option.some.inj H).trans hr_) (by decide)
             ·
              replace c87 := Bool.eq_false_iff.mpr c87
              subst c87
              have H1 : (laws_FnTracking.l0 kj71 t342 t343 t350 t351 t357 t362 t363 t380 t376 t390 (t390.length : Int) 0 t340 t341 t374 t375) = some r := by rw [if_neg (show ¬ (false = true) by decide)] at H; exact H
              clear H
              have H := H1
              clear H1
              have H' := zm H
              clear H
              obtain ⟨Ao88, co88, eo88⟩ := Kd.R_slice HO_38.out
              subst eo88
              go_wp2
              repeat (go_quiet (fail); try go_wp2)
              go_loopg [40, 243] kj71 (fun kq v40 v243 w' => ∃ (x40_4 : Int) (x243_4 : Int), v40 = .int .i64 x40_4 ∧ v243 = .int .i64 x243_4 ∧ Aside0 (laws_FnTracking.l0 kq t342 t343 t350 t351 t357 t362 t363 t380 x40_4 t390 (t390.length : Int) x243_4 t340 t341 t374 t375 = some r) ∧ Aside0 (kq ≤ kj71) ∧ Aside0 (Kd.R (Kd.int .i64) 3 w' w.heap.size (fun k_ => some k_ ≠ (v352 : Value).ownBlock ∧ some k_ ≠ ((.slice Ao88 t390.length co88) : Value).ownBlock) (.slice Ao21 t343.length co21) t343) ∧ Aside0 (Kd.R (Kd.int .i64) 3 w' w.heap.size (fun k_ => some k_ ≠ ((.slice Ao21 t343.length co21) : Value).ownBlock ∧ some k_ ≠ ((.slice Ao88 t390.length co88) : Value).ownBlock) v352 t351) ∧ Aside0 (Kd.R (Kd.int .i64) 3 w' w.heap.size (fun k_ => some k_ ≠ ((.slice Ao21 t343.length co21) : Value).ownBlock ∧ some k_ ≠ (v352 : Value).ownBlock) (.slice Ao88 t390.length co88) t390) ∧ Aside0 (w'.heap[gb346]? = some (.cells #[.int .i64 t340, .int .i64 t341] 47 (0, 0))) ∧ Aside0 (w'.heap[gb369]? = some (.cells #[.int .i64 t365, .int .i64 t366] 47 (0, 0))) ∧ Aside0 (w'.heap[gb377]? = some (.cells #[.int .i64 t374, .int .i64 t375] 47 (0, 0))) ∧ Aside0 (Below w.heap.size w w'))
              case atStart => exact ⟨(t376), (0), (by first | rfl | (simp; done) | (simp [*]; done)), (by first | rfl | (simp; done) | (simp [*]; done)), H', ⟨Nat.le_refl _⟩, ⟨by (with_reducible repeat (first | apply Kd.R_alloc | apply Kd.R_drewN | apply Kd.R_drew)); exact HO_7.out⟩, ⟨by (with_reducible repeat (first | apply Kd.R_alloc | apply Kd.R_drewN | apply Kd.R_drew)); exact HO_10.out⟩, ⟨by (with_reducible repeat (first | apply Kd.R_alloc | apply Kd.R_drewN | apply Kd.R_drew)); exact HO_38.out⟩, ⟨zk⟩, ⟨zk⟩, ⟨zk⟩, ⟨zb⟩⟩
              case round =>
               clear H'
               try clear c1
               try clear p2
               try clear c3
               try clear c3b0
               try clear c4
               try clear c5
               try clear c6
               try clear p6
               try clear c7
               try clear c8
               try clear c9
               try clear c35
               try clear c42
               try clear c43
               try clear c48
               try clear c48b0
               try clear c48b1
               try clear c48b2
               try clear c50
               try clear c51
               try clear c51b0
               try clear c51b1
               try clear c51b2
               try clear c52
               try clear c52b0
               try clear c52b1
               try clear c53
               try clear c53b0
               try clear c53b1
               try clear c53b2
               try clear c54
               try clear c54b0
               try clear c54b1
               try clear c55
               try clear c55b0
               try clear c55b1
               try clear c56
               try clear c56b0
               try clear c56b1
               try clear c56b2
               try clear c57
               try clear c57b0
               try clear c57b1
               try clear c58
               try clear c58b0
               try clear c58b1
               try clear c58b2
               try clear c59
               try clear c59b0
               try clear c59b1
               try clear c60
               try clear c60b0
               try clear c60b1
               try clear c60b2
               try clear c63
               try clear p64
               try clear c65
               try clear c67
               try clear c68
               try clear c68b0
               try clear c68b1
               try clear c69
               try clear c69b0
               try clear c69b1
               try clear c75
               try clear c76
               try clear c82
               try clear c83
               try clear c87
               try clear hcz20_0
               try clear hcz20_1
               try clear hcz23_0
               try clear hcz23_1
               try clear hcz25_0
               try clear hcz25_1
               try clear hcz27_0
               try clear hcz27_1
               try clear hcz29_0
               try clear hcz29_1
               try clear hcz31_0
               try clear hcz31_1
               try clear hcz36_0
               try clear hcz36_1
               try clear hcz38_0
               try clear hcz38_1
               try clear hcz44_0
               try clear hcz44_1
               try clear hcz46_0
               try clear hcz46_1
               try clear hcz77_0
               try clear hcz77_1
               try clear hcz80_0
               try clear hcz80_1
               try clear hfz20_0
               try clear hfz20_1
               try clear hfz23_0
               try clear hfz23_1
               try clear hfz25_0
               try clear hfz25_1
               try clear hfz27_0
               try clear hfz27_1
               try clear hfz29_0
               try clear hfz29_1
               try clear hfz31_0
               try clear hfz31_1
               try clear hfz36_0
               try clear hfz36_1
               try clear hfz38_0
               try clear hfz38_1
               try clear hfz44_0
               try clear hfz44_1
               try clear hfz46_0
               try clear hfz46_1
               try clear hfz77_0
               try clear hfz77_1
               try clear hfz80_0
               try clear hfz80_1
               try clear p2
               try clear p6
               try clear p64
               obtain ⟨x40_4, x243_4, rfl, rfl, HA, HK4, HO_7, HO_10, HO_241, BK346, BK369, BK377, HB⟩ := hrel
               cases gk with
               | zero => exact absurd HA.out (by simp [laws_FnTracking.l0])
               | succ k4 =>
                have H := HA.out
                clear HA
                simp only [laws_FnTracking.l0] at H
                by_cases c89 : x243_4 < (t390.length : Int)
                ·
                 rw [if_pos c89] at H
                 have c89b0 : decide (x243_4 < (t390.length : Int)) = true := decide_eq_true c89
                 clear c89
                 by_cases c90 : 0 ≤ x243_4
                 ·
                  rw [if_pos c90] at H
                  have c90b0 : decide (0 ≤ x243_4) = true := decide_eq_true c90
                  clear c90
                  by_cases c91 : x243_4 < (t390.length : Int)
                  ·
                   rw [if_pos c91] at H
                   have c91b0 : decide (x243_4 < (t390.length : Int)) = true := decide_eq_true c91
                   clear c91
                   replace H := Option.bind_eq_some_iff.mp H
                   obtain ⟨t396, A920, H⟩ := H
                   replace H : (if t396 ≤ t374 then (some false) else (if (wrap64 (x243_4 + 1)) = t380 then ((laws_qAbs.f (rd t390 x243_4)).bind fun t397 => (if t397 > t374 then (some false) else (laws_FnTracking.l0 k4 t342 t343 t350 t351 t357 t362 t363 t380 (rd t390 x243_4) t390 (t390.length : Int) (wrap64 (x243_4 + 1)) t340 t341 t374 t375))) else (laws_FnTracking.l0 k4 t342 t343 t350 t351 t357 t362 t363 t380 (rd t390 x243_4) t390 (t390.length : Int) (wrap64 (x243_4 + 1)) t340 t341 t374 t375))) = some r := H
                   have A92 := zm A920
                   clear A920
                   by_cases c93 : t396 ≤ t374
                   ·
                    rw [if_pos c93] at H
                    have c93b0 : decide (t396 ≤ t374) = true := decide_eq_true c93
                    clear c93
                    exact absurd ((Option.some.inj H).trans hr_) (by decide)
                   ·
                    rw [if_neg c93] at H
                    have c93b0 : decide (t396 ≤ t374) = false := decide_eq_false c93
                    clear c93
                    by_cases c94 : (wrap64 (x243_4 + 1)) = t380
                    ·
                     rw [if_pos c94] at H
                     have c94b0 : ((wrap64 (x243_4 + 1)) == t380) = true := beq_iff_eq.mpr c94
                     have c94b1 : ((wrap64 (x243_4 + 1)) != t380) = false := bne_eq_false_iff_eq.mpr c94
                     clear c94
                     replace H := Option.bind_eq_some_iff.mp H
                     obtain ⟨t397, A950, H⟩ := H
                     replace H : (if t397 > t374 then (some false) else (laws_FnTracking.l0 k4 t342 t343 t350 t351 t357 t362 t363 t380 (rd t390 x243_4) t390 (t390.length : Int) (wrap64 (x243_4 + 1)) t340 t341 t374 t375)) = some r := H
                     have A95 := zm A950
                     clear A950
                     by_cases c96 : t397 > t374
                     ·
                      rw [if_pos c96] at H
                      have c96b0 : decide (t374 < t397) = true := decide_eq_true c96
                      clear c96
                      exact absurd ((Option.some.inj H).trans hr_) (by decide)
                     ·
                      as_aux_lemma =>
                      rw [if_neg c96] at H
                      have c96b0 : decide (t374 < t397) = false := decide_eq_false c96
                      clear c96
                      have H' := zm H
                      clear H
                      have p395 : 0 ≤ (x243_4 : Int) := zd
                      have q395 : x243_4 < (t390.length : Int) := zd
                      obtain ⟨ad395, e395, hx395_0⟩ := Kd.at_int (Kd.R_reads' HO_241.out).2.2 x243_4 p395 q395
                      cases e395
                      replace p395 := eq_true p395
                      replace q395 := eq_true q395
                      go_wp2_with (first | (go_at_call 50; (with_reducible refine (laws_qAbs.calls x40_4 t396 _ A92.out).mono ?_); rintro e w' ⟨rfl, ⟨nd, rfl⟩⟩; (try first | exact ⟨rfl, _, World.drewN_drewN _ _ _⟩ | exact ⟨rfl, _, Eq.trans (World.drewN_drewN _ _ _) (congrArg (World.drewN _) (Nat.add_assoc _ _ _))⟩); have hnb97 := NB377_346.out; have hnc97 := NB346_377.out; have hnb98 := NB377_369.out; have hnc98 := NB369_377.out; obtain ⟨hcz99_0, hcz99_1, hfz99_0, hfz99_1⟩ := zc2 BK377.out) | (go_at_call 50; (with_reducible refine (laws_qAbs.calls (rd t390 x243_4) t397 _ A95.out).mono ?_); rintro e w' ⟨rfl, ⟨nd, rfl⟩⟩; (try first | exact ⟨rfl, _, World.drewN_drewN _ _ _⟩ | exact ⟨rfl, _, Eq.trans (World.drewN_drewN _ _ _) (congrArg (World.drewN _) (Nat.add_assoc _ _ _))⟩)) | ((with_reducible refine laws_FnTracking.gq ?_); go_quiet (first | (go_at_call 50; (with_reducible refine (laws_qAbs.calls x40_4 t396 _ A92.out).mono ?_); rintro e w' ⟨rfl, ⟨nd, rfl⟩⟩; (try first | exact ⟨rfl, _, World.drewN_drewN _ _ _⟩ | exact ⟨rfl, _, Eq.trans (World.drewN_drewN _ _ _) (congrArg (World.drewN _) (Nat.add_assoc _ _ _))⟩); have hnb97 := NB377_346.out; have hnc97 := NB346_377.out; have hnb98 := NB377_369.out; have hnc98 := NB369_377.out; obtain ⟨hcz99_0, hcz99_1, hfz99_0, hfz99_1⟩ := zc2 BK377.out) | (go_at_call 50; (with_reducible refine (laws_qAbs.calls (rd t390 x243_4) t397 _ A95.out).mono ?_); rintro e w' ⟨rfl, ⟨nd, rfl⟩⟩; (try first | exact ⟨rfl, _, World.drewN_drewN _ _ _⟩ | exact ⟨rfl, _, Eq.trans (World.drewN_drewN _ _ _) (congrArg (World.drewN _) (Nat.add_assoc _ _ _))⟩)))))
                      go_roundg k4
                      case measure => have := HJ16.out; have := HJ63.out; have := HJ71.out; have := HK4.out; omega
                      case rel => exact ⟨(rd t390 x243_4), (wrap64 (x243_4 + 1)), (by first | rfl | (simp; done) | (simp [*]; done)), (by first | rfl | (simp; done) | (simp [*]; done)), H', ⟨by have := HJ16.out; have := HJ63.out; have := HJ71.out; have := HK4.out; omega⟩, ⟨by (with_reducible repeat (first | apply Kd.R_alloc | apply Kd.R_drewN | apply Kd.R_drew)); exact HO_7.out⟩, ⟨by (with_reducible repeat (first | apply Kd.R_alloc | apply Kd.R_drewN | apply Kd.R_drew)); exact HO_10.out⟩, ⟨by (with_reducible repeat (first | apply Kd.R_alloc | apply Kd.R_drewN | apply Kd.R_drew)); exact HO_241.out⟩, ⟨zk⟩, ⟨zk⟩, ⟨zk⟩, ⟨zb⟩⟩
                    ·
                     as_aux_lemma =>
                     rw [if_neg c94] at H
                     have c94b0 : ((wrap64 (x243_4 + 1)) == t380) = false := beq_eq_false_iff_ne.mpr c94
                     have c94b1 : ((wrap64 (x243_4 + 1)) != t380) = true := bne_iff_ne.mpr c94
                     have H' := zm H
                     clear H
                     have p395 : 0 ≤ (x243_4 : Int) := zd
                     have q395 : x243_4 < (t390.length : Int) := zd
                     obtain ⟨ad395, e395, hx395_0⟩ := Kd.at_int (Kd.R_reads' HO_241.out).2.2 x243_4 p395 q395
                     cases e395
                     replace p395 := eq_true p395
                     replace q395 := eq_true q395
                     go_wp2_with (first | (go_at_call 50; (with_reducible refine (laws_qAbs.calls x40_4 t396 _ A92.out).mono ?_); rintro e w' ⟨rfl, ⟨nd, rfl⟩⟩; (try first | exact ⟨rfl, _, World.drewN_drewN _ _ _⟩ | exact ⟨rfl, _, Eq.trans (World.drewN_drewN _ _ _) (congrArg (World.drewN _) (Nat.add_assoc _ _ _))⟩); have hnb100 := NB377_346.out; have hnc100 := NB346_377.out; have hnb101 := NB377_369.out; have hnc101 := NB369_377.out; obtain ⟨hcz102_0, hcz102_1, hfz102_0, hfz102_1⟩ := zc2 BK377.out) | ((with_reducible refine laws_FnTracking.gq ?_); go_quiet (first | (go_at_call 50; (with_reducible refine (laws_qAbs.calls x40_4 t396 _ A92.out).mono ?_); rintro e w' ⟨rfl, ⟨nd, rfl⟩⟩; (try first | exact ⟨rfl, _, World.drewN_drewN _ _ _⟩ | exact ⟨rfl, _, Eq.trans (World.drewN_drewN _ _ _) (congrArg (World.drewN _) (Nat.add_assoc _ _ _))⟩); have hnb100 := NB377_346.out; have hnc100 := NB346_377.out; have hnb101 := NB377_369.out; have hnc101 := NB369_377.out; obtain ⟨hcz102_0, hcz102_1, hfz102_0, hfz102_1⟩ := zc2 BK377.out))))
                     go_roundg k4
                     case measure => have := HJ16.out; have := HJ63.out; have := HJ71.out; have := HK4.out; omega
                     case rel => exact ⟨(rd t390 x243_4), (wrap64 (x243_4 + 1)), (by first | rfl | (simp; done) | (simp [*]; done)), (by first | rfl | (simp; done) | (simp [*]; done)), H', ⟨by have := HJ16.out; have := HJ63.out; have := HJ71.out; have := HK4.out; omega⟩, ⟨by (with_reducible repeat (first | apply Kd.R_alloc | apply Kd.R_drewN | apply Kd.R_drew)); exact HO_7.out⟩, ⟨by (with_reducible repeat (first | apply Kd.R_alloc | apply Kd.R_drewN | apply Kd.R_drew)); exact HO_10.out⟩, ⟨by (with_reducible repeat (first | apply Kd.R_alloc | apply Kd.R_drewN | apply Kd.R_drew)); exact HO_241.out⟩, ⟨zk⟩, ⟨zk⟩, ⟨zk⟩, ⟨zb⟩⟩
                  ·
                   rw [if_neg c91] at H
                   exact absurd H (by simp)
                 ·
                  rw [if_neg c90] at H
                  exact absurd H (by simp)
                ·
                 rw [if_neg c89] at H
                 have c89b0 : decide (x243_4 < (t390.length : Int)) = false := decide_eq_false c89
                 clear c89
                 have H' := zm H
                 clear H
                 go_wp2
                 repeat (go_quiet (fail); try go_wp2)
                 go_meet
                 case rel => exact ⟨_, H', ⟨by have := HJ16.out; have := HJ63.out; have := HJ71.out; have := HK4.out; first | omega | exact Nat.le_refl _⟩, ⟨by (with_reducible repeat (first | apply Kd.R_alloc | apply Kd.R_drewN | apply Kd.R_drew)); exact zM HO_7.out⟩, ⟨by (with_reducible repeat (first | apply Kd.R_alloc | apply Kd.R_drewN | apply Kd.R_drew)); exact zM HO_10.out⟩, ⟨zk⟩, ⟨zk⟩, ⟨zk⟩, ⟨zb⟩⟩
          ·
           rw [if_neg c69] at H
           exact absurd H (by simp)
         ·
          rw [if_neg c68] at H
          exact absurd H (by simp)
        ·
         replace c67 := Bool.eq_false_iff.mpr c67
         subst c67
         have H1 : (laws_FnTracking.j4 kj63 t342 t343 t350 t351 t357 t362 t363 t340 t341) = some r := by rw [if_neg (show ¬ (false = true) by decide)] at H; exact H
         clear H
         have H := H1
         clear H1
         have H' := zm H
         clear H
         go_wp2
         repeat (go_quiet (fail); try go_wp2)
         go_meet
         case rel => exact ⟨_, H', ⟨by have := HJ16.out; have := HJ63.out; first | omega | exact Nat.le_refl _⟩, ⟨by (with_reducible repeat (first | apply Kd.R_alloc | apply Kd.R_drewN | apply Kd.R_drew)); exact HO_7.out⟩, ⟨by (with_reducible repeat (first | apply Kd.R_alloc | apply Kd.R_drewN | apply Kd.R_drew)); exact HO_10.out⟩, ⟨zk⟩, ⟨zk⟩, ⟨zk⟩, ⟨zb⟩⟩
       case rest =>
        clear HC66
        try clear c1
        try clear p2
        try clear c3
        try clear c3b0
        try clear p3
        try clear q3
        try clear hx3
        try clear c4
        try clear c5
        try clear c6
        try clear p6
        try clear c7
        try clear c8
        try clear c9
        try clear c10
        try clear c35
        try clear p39
        try clear q39
        try clear hx39
        try clear c42
        try clear c43
        try clear c48
        try clear c48b0
        try clear c48b1
        try clear c48b2
        try clear c50
        try clear c51
        try clear c51b0
        try clear c51b1
        try clear c51b2
        try clear c52
        try clear c52b0
        try clear c52b1
        try clear c53
        try clear c53b0
        try clear c53b1
        try clear c53b2
        try clear c54
        try clear c54b0
        try clear c54b1
        try clear c55
        try clear c55b0
        try clear c55b1
        try clear c56
        try clear c56b0
        try clear c56b1
        try clear c56b2
        try clear c57
        try clear c57b0
        try clear c57b1
        try clear c58
        try clear c58b0
        try clear c58b1
        try clear c58b2
        try clear c59
        try clear c59b0
        try clear c59b1
        try clear c60
        try clear c60b0
        try clear c60b1
        try clear c60b2
        try clear c63
        try clear p64
        try clear c65
        try clear c67
        try clear c68
        try clear c68b0
        try clear c68b1
        try clear c69
        try clear c69b0
        try clear c69b1
        try clear c75
        try clear c76
        try clear c82
        try clear c83
        try clear c87
        try clear c89
        try clear c89b0
        try clear c90
        try clear c90b0
        try clear c91
        try clear c91b0
        try clear c93
        try clear c93b0
        try clear c94
        try clear c94b0
        try clear c94b1
        try clear c96
        try clear c96b0
        try clear c97
        try clear c98
        try clear c100
        try clear c101
        try clear hcz102_0
        try clear hcz102_1
        try clear hcz20_0
        try clear hcz20_1
        try clear hcz23_0
        try clear hcz23_1
        try clear hcz25_0
        try clear hcz25_1
        try clear hcz27_0
        try clear hcz27_1
        try clear hcz29_0
        try clear hcz29_1
        try clear hcz31_0
        try clear hcz31_1
        try clear hcz36_0
        try clear hcz36_1
        try clear hcz38_0
        try clear hcz38_1
        try clear hcz44_0
        try clear hcz44_1
        try clear hcz46_0
        try clear hcz46_1
        try clear hcz77_0
        try clear hcz77_1
        try clear hcz80_0
        try clear hcz80_1
        try clear hcz99_0
        try clear hcz99_1
        try clear hfz102_0
        try clear hfz102_1
        try clear hfz20_0
        try clear hfz20_1
        try clear hfz23_0
        try clear hfz23_1
        try clear hfz25_0
        try clear hfz25_1
        try clear hfz27_0
        try clear hfz27_1
        try clear hfz29_0
        try clear hfz29_1
        try clear hfz31_0
        try clear hfz31_1
        try clear hfz36_0
        try clear hfz36_1
        try clear hfz38_0
        try clear hfz38_1
        try clear hfz44_0
        try clear hfz44_1
        try clear hfz46_0
        try clear hfz46_1
        try clear hfz77_0
        try clear hfz77_1
        try clear hfz80_0
        try clear hfz80_1
        try clear hfz99_0
        try clear hfz99_1
        try clear hx395_0
        try clear p2
        try clear p395
        try clear p6
        try clear p64
        try clear q395
        obtain ⟨kq, HA, HJ65, HO_7, HO_10, BK346, BK369, BK377, HB⟩ := hcut
        cases kq with
        | zero => exact absurd HA.out (by simp [laws_FnTracking.j4])
        | succ kj65 =>
         have H := HA.out
         clear HA
         simp only [laws_FnTracking.j4] at H
         by_cases c103 : t350 = true
         ·
          as_aux_lemma =>
          subst c103
          have H1 : ((laws_qAbs.f t342).bind fun t398 => (laws_FnTracking.l1 kj65 t342 t343 t351 t357 t362 t363 t342 t398 0 t343 (t343.length : Int) 0 t340 t341)) = some r := by rw [if_pos rfl] at H; exact H
          clear H
          have H := H1
          clear H1
          replace H := Option.bind_eq_some_iff.mp H
          obtain ⟨t398, A1040, H⟩ := H
          replace H : (laws_FnTracking.l1 kj65 t342 t343 t351 t357 t362 t363 t342 t398 0 t343 (t343.length : Int) 0 t340 t341) = some r := H
          have A104 := zm A1040
          clear A1040
          have H' := zm H
          clear H
          go_wp2_with (first | (go_at_call 50; (with_reducible refine (laws_qAbs.calls t342 t398 _ A104.out).mono ?_); rintro e w' ⟨rfl, ⟨nd, rfl⟩⟩; (try first | exact ⟨rfl, _, World.drewN_drewN _ _ _⟩ | exact ⟨rfl, _, Eq.trans (World.drewN_drewN _ _ _) (congrArg (World.drewN _) (Nat.add_assoc _ _ _))⟩)) | ((with_reducible refine laws_FnTracking.gq ?_); go_quiet (first | (go_at_call 50; (with_reducible refine (laws_qAbs.calls t342 t398 _ A104.out).mono ?_); rintro e w' ⟨rfl, ⟨nd, rfl⟩⟩; (try first | exact ⟨rfl, _, World.drewN_drewN _ _ _⟩ | exact ⟨rfl, _, Eq.trans (World.drewN_drewN _ _ _) (congrArg (World.drewN _) (Nat.add_assoc _ _ _))⟩)))))
          go_loopg [43, 44, 45, 273] kj65 (fun kq v43 v44 v45 v273 w' => ∃ (x43_4 : Int) (x44_4 : Int) (x45_4 : Int) (x273_4 : Int), v43 = .int .i64 x43_4 ∧ v44 = .int .i64 x44_4 ∧ v45 = .int .i64 x45_4 ∧ v273 = .int .i64 x273_4 ∧ Aside0 (laws_FnTracking.l1 kq t342 t343 t351 t357 t362 t363 x43_4 x44_4 x45_4 t343 (t343.length : Int) x273_4 t340 t341 = some r) ∧ Aside0 (kq ≤ kj65) ∧ Aside0 (Kd.R (Kd.int .i64) 3 w' w.heap.size (fun k_ => some k_ ≠ (v352 : Value).ownBlock) (.slice Ao21 t343.length co21) t343) ∧ Aside0 (Kd.R (Kd.int .i64) 3 w' w.heap.size (fun k_ => some k_ ≠ ((.slice Ao21 t343.length co21) : Value).ownBlock ∧ some k_ ≠ ((.slice Ao21 t343.length co21) : Value).ownBlock) v352 t351) ∧ Aside0 (Kd.R (Kd.int .i64) 3 w' w.heap.size (fun k_ => some k_ ≠ (v352 : Value).ownBlock) (.slice Ao21 t343.length co21) t343) ∧ Aside0 (w'.heap[gb346]? = some (.cells #[.int .i64 t340, .int .i64 t341] 47 (0, 0))) ∧ Aside0 (w'.heap[gb369]? = some (.cells #[.int .i64 t365, .int .i64 t366] 47 (0, 0))) ∧ Aside0 (w'.heap[gb377]? = some (.cells #[.int .i64 t374, .int .i64 t375] 47 (0, 0))) ∧ Aside0 (Below w.heap.size w w'))
          case atStart => exact ⟨(t342), (t398), (0), (0), (by first | rfl | (simp; done) | (simp [*]; done)), (by first | rfl | (simp; done) | (simp [*]; done)), (by first | rfl | (simp; done) | (simp [*]; done)), (by first | rfl | (simp; done) | (simp [*]; done)), H', ⟨Nat.le_refl _⟩, ⟨by (with_reducible repeat (first | apply Kd.R_alloc | apply Kd.R_drewN | apply Kd.R_drew)); exact HO_7.out⟩, ⟨by (with_reducible repeat (first | apply Kd.R_alloc | apply Kd.R_drewN | apply Kd.R_drew)); exact Kd.R_mono HO_10.out (fun _ hk => ⟨hk, hk⟩)⟩, ⟨by (with_reducible repeat (first | apply Kd.R_alloc | apply Kd.R_drewN | apply Kd.R_drew)); exact HO_7.out⟩, ⟨zk⟩, ⟨zk⟩, ⟨zk⟩, ⟨zb⟩⟩
          case round =>
           clear H'
           try clear c1
           try clear p2
           try clear c3
           try clear c3b0
           try clear p3
           try clear q3
           try clear hx3
           try clear c4
           try clear c5
           try clear c6
           try clear p6
           try clear c7
           try clear c8
           try clear c9
           try clear c10
           try clear c35
           try clear p39
           try clear q39
           try clear hx39
           try clear c42
           try clear c43
           try clear c48
           try clear c48b0
           try clear c48b1
           try clear c48b2
           try clear c50
           try clear c51
           try clear c51b0
           try clear c51b1
           try clear c51b2
           try clear c52
           try clear c52b0
           try clear c52b1
           try clear c53
           try clear c53b0
           try clear c53b1
           try clear c53b2
           try clear c54
           try clear c54b0
           try clear c54b1
           try clear c55
           try clear c55b0
           try clear c55b1
           try clear c56
           try clear c56b0
           try clear c56b1
           try clear c56b2
           try clear c57
           try clear c57b0
           try clear c57b1
           try clear c58
           try clear c58b0
           try clear c58b1
           try clear c58b2
           try clear c59
           try clear c59b0
           try clear c59b1
           try clear c60
           try clear c60b0
           try clear c60b1
           try clear c60b2
           try clear c63
           try clear p64
           try clear c65
           try clear c67
           try clear c68
           try clear c68b0
           try clear c68b1
           try clear c69
           try clear c69b0
           try clear c69b1
           try clear c75
           try clear c76
           try clear c82
           try clear c83
           try clear c87
           try clear c89
           try clear c89b0
           try clear c90
           try clear c90b0
           try clear c91
           try clear c91b0
           try clear c93
           try clear c93b0
           try clear c94
           try clear c94b0
           try clear c94b1
           try clear c96
           try clear c96b0
           try clear c97
           try clear c98
           try clear c100
           try clear c101
           try clear c103
           try clear hcz102_0
           try clear hcz102_1
           try clear hcz20_0
           try clear hcz20_1
           try clear hcz23_0
           try clear hcz23_1
           try clear hcz25_0
           try clear hcz25_1
           try clear hcz27_0
           try clear hcz27_1
           try clear hcz29_0
           try clear hcz29_1
           try clear hcz31_0
           try clear hcz31_1
           try clear hcz36_0
           try clear hcz36_1
           try clear hcz38_0
           try clear hcz38_1
           try clear hcz44_0
           try clear hcz44_1
           try clear hcz46_0
           try clear hcz46_1
           try clear hcz77_0
           try clear hcz77_1
           try clear hcz80_0
           try clear hcz80_1
           try clear hcz99_0
           try clear hcz99_1
           try clear hfz102_0
           try clear hfz102_1
           try clear hfz20_0
           try clear hfz20_1
           try clear hfz23_0
           try clear hfz23_1
           try clear hfz25_0
           try clear hfz25_1
           try clear hfz27_0
           try clear hfz27_1
           try clear hfz29_0
           try clear hfz29_1
           try clear hfz31_0
           try clear hfz31_1
           try clear hfz36_0
           try clear hfz36_1
           try clear hfz38_0
           try clear hfz38_1
           try clear hfz44_0
           try clear hfz44_1
           try clear hfz46_0
           try clear hfz46_1
           try clear hfz77_0
           try clear hfz77_1
           try clear hfz80_0
           try clear hfz80_1
           try clear hfz99_0
           try clear hfz99_1
           try clear hx395_0
           try clear p2
           try clear p3
           try clear p39
           try clear p395
           try clear p6
           try clear p64
           try clear q3
           try clear q39
           try clear q395
           obtain ⟨x43_4, x44_4, x45_4, x273_4, rfl, rfl, rfl, rfl, HA, HK4, HO_7, HO_10, HO_271, BK346, BK369, BK377, HB⟩ := hrel
           cases gk with
           | zero => exact absurd HA.out (by simp [laws_FnTracking.l1])
           | succ k4 =>
            have H := HA.out
            clear HA
            simp only [laws_FnTracking.l1] at H
            by_cases c105 : x273_4 < (t343.length : Int)
            ·
             rw [if_pos c105] at H
             have c105b0 : decide (x273_4 < (t343.length : Int)) = true := decide_eq_true c105
             clear c105
             by_cases c106 : 0 ≤ x273_4
             ·
              rw [if_pos c106] at H
              have c106b0 : decide (0 ≤ x273_4) = true := decide_eq_true c106
              clear c106
              by_cases c107 : x273_4 < (t343.length : Int)
              ·
               as_aux_lemma =>
               rw [if_pos c107] at H
               have c107b0 : decide (x273_4 < (t343.length : Int)) = true := decide_eq_true c107
               clear c107
               replace H := Option.bind_eq_some_iff.mp H
               obtain ⟨⟨t400, t401⟩, A1080, H⟩ := H
               replace H : (if t401 = true then (if x273_4 < (t351.length : Int) then (laws_FnTracking.j6 k4 t342 t343 t351 t357 t362 t363 x44_4 x45_4 x273_4 (rd t343 x273_4) t343 (t343.length : Int) x273_4 (t400 != (rd t351 x273_4)) t340 t341) else (none)) else (laws_FnTracking.j6 k4 t342 t343 t351 t357 t362 t363 x44_4 x45_4 x273_4 (rd t343 x273_4) t343 (t343.length : Int) x273_4 true t340 t341)) = some r := H
               have A108 := zm A1080
               clear A1080
               have HC109 := zm H
               clear H
               have p399 : 0 ≤ (x273_4 : Int) := zd
               have q399 : x273_4 < (t343.length : Int) := zd
               obtain ⟨ad399, e399, hx399_0⟩ := Kd.at_int (Kd.R_reads' HO_271.out).2.2 x273_4 p399 q399
               cases e399
               replace p399 := eq_true p399
               replace q399 := eq_true q399
               have hnb110 := NB346_369.out
               have hnc110 := NB369_346.out
               have hnb111 := NB346_377.out
               have hnc111 := NB377_346.out
               obtain ⟨hcz112_0, hcz112_1, hfz112_0, hfz112_1⟩ := zc2 BK346.out
               go_upto_region 41 with (first | (go_at_call 44; (with_reducible refine (impl_TrackStep.calls k4 t340 t341 x43_4 (rd t343 x273_4) t400 t401 _ A108.out).mono ?_); rintro e w113 ⟨rfl, hb⟩; have n0_ := zm (Kd.R_below (by (with_reducible repeat (first | apply Kd.R_alloc | apply Kd.R_drewN | apply Kd.R_drew)); exact HO_7.out) hb); have n1_ := zm (Kd.R_below (by (with_reducible repeat (first | apply Kd.R_alloc | apply Kd.R_drewN | apply Kd.R_drew)); exact HO_10.out) hb); have n2_ := zm (Kd.R_below (by (with_reducible repeat (first | apply Kd.R_alloc | apply Kd.R_drewN | apply Kd.R_drew)); exact HO_271.out) hb); have n3_ := zm (blk_below (g := gb346) zk hb); have n4_ := zm (blk_below (g := gb369) zk hb); have n5_ := zm (blk_below (g := gb377) zk hb); have n6_ := zm (below_step zb hb); clear HO_7; clear HO_10; clear HO_271; clear BK346; clear BK369; clear BK377; clear HB; have HO_7 := n0_; have HO_10 := n1_; have HO_271 := n2_; have BK346 := n3_; have BK369 := n4_; have BK377 := n5_; have HB := n6_; clear n0_ n1_ n2_ n3_ n4_ n5_ n6_; (try clear hb); (try clear hb2); (try clear hk); (try clear hi)))
               repeat (go_quiet (first | (go_at_call 44; (with_reducible refine (impl_TrackStep.calls k4 t340 t341 x43_4 (rd t343 x273_4) t400 t401 _ A108.out).mono ?_); rintro e w113 ⟨rfl, hb⟩; have n0_ := zm (Kd.R_below (by (with_reducible repeat (first | apply Kd.R_alloc | apply Kd.R_drewN | apply Kd.R_drew)); exact HO_7.out) hb); have n1_ := zm (Kd.R_below (by (with_reducible repeat (first | apply Kd.R_alloc | apply Kd.R_drewN | apply Kd.R_drew)); exact HO_10.out) hb); have n2_ := zm (Kd.R_below (by (with_reducible repeat (first | apply Kd.R_alloc | apply Kd.R_drewN | apply Kd.R_drew)); exact HO_271.out) hb); have n3_ := zm (blk_below (g := gb346) zk hb); have n4_ := zm (blk_below (g := gb369) zk hb); have n5_ := zm (blk_below (g := gb377) zk hb); have n6_ := zm (below_step zb hb); clear HO_7; clear HO_10; clear HO_271; clear BK346; clear BK369; clear BK377; clear HB; have HO_7 := n0_; have HO_10 := n1_; have HO_271 := n2_; have BK346 := n3_; have BK369 := n4_; have BK377 := n5_; have HB := n6_; clear n0_ n1_ n2_ n3_ n4_ n5_ n6_; (try clear hb); (try clear hb2); (try clear hk); (try clear hi))); go_upto_region 41 with (first | (go_at_call 44; (with_reducible refine (impl_TrackStep.calls k4 t340 t341 x43_4 (rd t343 x273_4) t400 t401 _ A108.out).mono ?_); rintro e w113 ⟨rfl, hb⟩; have n0_ := zm (Kd.R_below (by (with_reducible repeat (first | apply Kd.R_alloc | apply Kd.R_drewN | apply Kd.R_drew)); exact HO_7.out) hb); have n1_ := zm (Kd.R_below (by (with_reducible repeat (first | apply Kd.R_alloc | apply Kd.R_drewN | apply Kd.R_drew)); exact HO_10.out) hb); have n2_ := zm (Kd.R_below (by (with_reducible repeat (first | apply Kd.R_alloc | apply Kd.R_drewN | apply Kd.R_drew)); exact HO_271.out) hb); have n3_ := zm (blk_below (g := gb346) zk hb); have n4_ := zm (blk_below (g := gb369) zk hb); have n5_ := zm (blk_below (g := gb377) zk hb); have n6_ := zm (below_step zb hb); clear HO_7; clear HO_10; clear HO_271; clear BK346; clear BK369; clear BK377; clear HB; have HO_7 := n0_; have HO_10 := n1_; have HO_271 := n2_; have BK346 := n3_; have BK369 := n4_; have BK377 := n5_; have HB := n6_; clear n0_ n1_ n2_ n3_ n4_ n5_ n6_; (try clear hb); (try clear hb2); (try clear hk); (try clear hi))))
               (try simp only [Act.put, List.setIfInBounds_toArray, List.set_cons_zero, List.set_cons_succ])
               go_cut [294] (fun v294 wc => ∃ (kq : Nat) (x294_108 : Bool), v294 = .bool x294_108 ∧ Aside0 (laws_FnTracking.j6 kq t342 t343 t351 t357 t362 t363 x44_4 x45_4 x273_4 (rd t343 x273_4) t343 (t343.length : Int) x273_4 x294_108 t340 t341 = some r) ∧ Aside0 (kq ≤ k4) ∧ Aside0 (Kd.R (Kd.int .i64) 3 wc w.heap.size (fun k_ => some k_ ≠ (v352 : Value).ownBlock) (.slice (some ad399) t343.length co21) t343) ∧ Aside0 (Kd.R (Kd.int .i64) 3 wc w.heap.size (fun k_ => some k_ ≠ ((.slice (some ad399) t343.length co21) : Value).ownBlock ∧ some k_ ≠ ((.slice (some ad399) t343.length co21) : Value).ownBlock) v352 t351) ∧ Aside0 (Kd.R (Kd.int .i64) 3 wc w.heap.size (fun k_ => some k_ ≠ (v352 : Value).ownBlock) (.slice (some ad399) t343.length co21) t343) ∧ Aside0 (wc.heap[gb346]? = some (.cells #[.int .i64 t340, .int .i64 t341] 47 (0, 0))) ∧ Aside0 (wc.heap[gb369]? = some (.cells #[.int .i64 t365, .int .i64 t366] 47 (0, 0))) ∧ Aside0 (wc.heap[gb377]? = some (.cells #[.int .i64 t374, .int .i64 t375] 47 (0, 0))) ∧ Aside0 (Below w.heap.size w wc))
               case first =>
                have H := HC109.out
                clear HC109
                by_cases c114 : t401 = true
                ·
                 subst c114
                 have H1 : (if x273_4 < (t351.length : Int) then (laws_FnTracking.j6 k4 t342 t343 t351 t357 t362 t363 x44_4 x45_4 x273_4 (rd t343 x273_4) t343 (t343.length : Int) x273_4 (t400 != (rd t351 x273_4)) t340 t341) else (none)) = some r := by rw [if_pos rfl] at H; exact H
                 clear H
                 have H := H1
                 clear H1
                 by_cases c115 : x273_4 < (t351.length : Int)
                 ·
                  rw [if_pos c115] at H
                  have c115b0 : decide (x273_4 < (t351.length : Int)) = true := decide_eq_true c115
                  clear c115
                  (first | rw [c115b0] | (simp only [i64_w, i32_w]; rw [c115b0]) | skip)
                  have H' := zm H
                  clear H
                  obtain ⟨Ao116, co116, eo116⟩ := Kd.R_slice HO_10.out
                  subst eo116
                  have p402 : 0 ≤ (x273_4 : Int) := zd
                  have q402 : x273_4 < (t351.length : Int) := zd
                  obtain ⟨ad402, e402, hx402_0⟩ := Kd.at_int (Kd.R_reads' HO_10.out).2.2 x273_4 p402 q402
                  cases e402
                  replace p402 := eq_true p402
                  replace q402 := eq_true q402
                  go_wp2
                  repeat (go_quiet (fail); try go_wp2)
                  go_meet
                  case rel => exact ⟨_, ((t400 != (rd t351 x273_4))), (by first | rfl | (simp; done) | (simp [*]; done)), H', ⟨by have := HJ16.out; have := HJ63.out; have := HJ65.out; have := HK4.out; first | omega | exact Nat.le_refl _⟩, ⟨by (with_reducible repeat (first | apply Kd.R_alloc | apply Kd.R_drewN | apply Kd.R_drew)); exact HO_7.out⟩, ⟨by (with_reducible repeat (first | apply Kd.R_alloc | apply Kd.R_drewN | apply Kd.R_drew)); exact HO_10.out⟩, ⟨by (with_reducible repeat (first | apply Kd.R_alloc | apply Kd.R_drewN | apply Kd.R_drew)); exact HO_271.out⟩, ⟨zk⟩, ⟨zk⟩, ⟨zk⟩, ⟨zb⟩⟩
                 ·
                  rw [if_neg c115] at H
                  exact absurd H (by simp)
                ·
                 replace c114 := Bool.eq_false_iff.mpr c114
                 subst c114
                 have H1 : (laws_FnTracking.j6 k4 t342 t343 t351 t357 t362 t363 x44_4 x45_4 x273_4 (rd t343 x273_4) t343 (t343.length : Int) x273_4 true t340 t341) = some r := by rw [if_neg (show ¬ (false = true) by decide)] at H; exact H
                 clear H
                 have H := H1
                 clear H1
                 exact (laws_FnTracking.j6_t (H.trans (congrArg some hr_))).elim
               case rest =>
                clear HC109
                try clear c1
                try clear p2
                try clear c3
                try clear c3b0
                try clear p3
                try clear q3
                try clear hx3
                try clear c4
                try clear p4
                try clear q4
                try clear hx4
                try clear c5
                try clear c6
                try clear p6
                try clear c7
                try clear c8
                try clear c9
                try clear c10
                try clear c11
                try clear c35
                try clear p39
                try clear q39
                try clear hx39
                try clear p40
                try clear q40
                try clear hx40
                try clear c42
                try clear c43
                try clear c48
                try clear c48b0
                try clear c48b1
                try clear c48b2
                try clear c50
                try clear c51
                try clear c51b0
                try clear c51b1
                try clear c51b2
                try clear c52
                try clear c52b0
                try clear c52b1
                try clear c53
                try clear c53b0
                try clear c53b1
                try clear c53b2
                try clear c54
                try clear c54b0
                try clear c54b1
                try clear c55
                try clear c55b0
                try clear c55b1
                try clear c56
                try clear c56b0
                try clear c56b1
                try clear c56b2
                try clear c57
                try clear c57b0
                try clear c57b1
                try clear c58
                try clear c58b0
                try clear c58b1
                try clear c58b2
                try clear c59
                try clear c59b0
                try clear c59b1
                try clear c60
                try clear c60b0
                try clear c60b1
                try clear c60b2
                try clear c63
                try clear p64
                try clear c65
                try clear c67
                try clear c68
                try clear c68b0
                try clear c68b1
                try clear c69
                try clear c69b0
                try clear c69b1
                try clear c75
                try clear c76
                try clear c82
                try clear c83
                try clear c87
                try clear c89
                try clear c89b0
                try clear c90
                try clear c90b0
                try clear c91
                try clear c91b0
                try clear c93
                try clear c93b0
                try clear c94
                try clear c94b0
                try clear c94b1
                try clear c96
                try clear c96b0
                try clear c97
                try clear c98
                try clear c100
                try clear c101
                try clear c103
                try clear c105
                try clear c105b0
                try clear c106
                try clear c106b0
                try clear c107
                try clear c107b0
                try clear c110
                try clear c111
                try clear c114
                try clear c115
                try clear c115b0
                try clear hcz102_0
                try clear hcz102_1
                try clear hcz112_0
                try clear hcz112_1
                try clear hcz20_0
                try clear hcz20_1
                try clear hcz23_0
                try clear hcz23_1
                try clear hcz25_0
                try clear hcz25_1
                try clear hcz27_0
                try clear hcz27_1
                try clear hcz29_0
                try clear hcz29_1
                try clear hcz31_0
                try clear hcz31_1
                try clear hcz36_0
                try clear hcz36_1
                try clear hcz38_0
                try clear hcz38_1
                try clear hcz44_0
                try clear hcz44_1
                try clear hcz46_0
                try clear hcz46_1
                try clear hcz77_0
                try clear hcz77_1
                try clear hcz80_0
                try clear hcz80_1
                try clear hcz99_0
                try clear hcz99_1
                try clear hfz102_0
                try clear hfz102_1
                try clear hfz112_0
                try clear hfz112_1
                try clear hfz20_0
                try clear hfz20_1
                try clear hfz23_0
                try clear hfz23_1
                try clear hfz25_0
                try clear hfz25_1
                try clear hfz27_0
                try clear hfz27_1
                try clear hfz29_0
                try clear hfz29_1
                try clear hfz31_0
                try clear hfz31_1
                try clear hfz36_0
                try clear hfz36_1
                try clear hfz38_0
                try clear hfz38_1
                try clear hfz44_0
                try clear hfz44_1
                try clear hfz46_0
                try clear hfz46_1
                try clear hfz77_0
                try clear hfz77_1
                try clear hfz80_0
                try clear hfz80_1
                try clear hfz99_0
                try clear hfz99_1
                try clear hx395_0
                try clear hx399_0
                try clear hx402_0
                try clear p2
                try clear p3
                try clear p39
                try clear p395
                try clear p399
                try clear p402
                try clear p6
                try clear p64
                try clear q3
                try clear q39
                try clear q395
                try clear q399
                try clear q402
                obtain ⟨kq, x294_108, rfl, HA, HJ108, HO_7, HO_10, HO_271, BK346, BK369, BK377, HB⟩ := hcut
                cases kq with
                | zero => exact absurd HA.out (by simp [laws_FnTracking.j6])
                | succ kj108 =>
                 have H := HA.out
                 clear HA
                 simp only [laws_FnTracking.j6] at H
                 by_cases c117 : x294_108 = true
                 ·
                  subst c117
                  have H1 : (some false) = some r := by rw [if_pos rfl] at H; exact H
                  clear H
                  have H := H1
                  clear H1
                  exact absurd ((Option.some.inj H).trans hr_) (by decide)
                 ·
                  replace c117 := Bool.eq_false_iff.mpr c117
                  subst c117
                  have H1 : (if 0 ≤ x273_4 then (if x273_4 < (t351.length : Int) then ((laws_qAbs.f (rd t351 x273_4)).bind fun t404 => (if t404 > x44_4 then ((laws_qAbs.f (rd t351 x273_4)).bind fun t405 => (laws_FnTracking.l1 kj108 t342 t343 t351 t357 t362 t363 (rd t351 x273_4) t405 (wrap64 (x45_4 + (rd t343 x273_4))) t343 (t343.length : Int) (wrap64 (x273_4 + 1)) t340 t341)) else (laws_FnTracking.l1 kj108 t342 t343 t351 t357 t362 t363 (rd t351 x273_4) x44_4 (wrap64 (x45_4 + (rd t343 x273_4))) t343 (t343.length : Int) (wrap64 (x273_4 + 1)) t340 t341))) else (none)) else (none)) = some r := by rw [if_neg (show ¬ (false = true) by decide)] at H; exact H
                  clear H
                  have H := H1
                  clear H1
                  by_cases c118 : 0 ≤ x273_4
                  ·
                   rw [if_pos c118] at H
                   have c118b0 : decide (0 ≤ x273_4) = true := decide_eq_true c118
                   clear c118
                   by_cases c119 : x273_4 < (t351.length : Int)
                   ·
                    rw [if_pos c119] at H
                    have c119b0 : decide (x273_4 < (t351.length : Int)) = true := decide_eq_true c119
                    clear c119
                    replace H := Option.bind_eq_some_iff.mp H
                    obtain ⟨t404, A1200, H⟩ := H
                    replace H : (if t404 > x44_4 then ((laws_qAbs.f (rd t351 x273_4)).bind fun t405 => (laws_FnTracking.l1 kj108 t342 t343 t351 t357 t362 t363 (rd t351 x273_4) t405 (wrap64 (x45_4 + (rd t343 x273_4))) t343 (t343.length : Int) (wrap64 (x273_4 + 1)) t340 t341)) else (laws_FnTracking.l1 kj108 t342 t343 t351 t357 t362 t363 (rd t351 x273_4) x44_4 (wrap64 (x45_4 + (rd t343 x273_4))) t343 (t343.length : Int) (wrap64 (x273_4 + 1)) t340 t341)) = some r := H
                    have A120 := zm A1200
                    clear A1200
                    by_cases c121 : t404 > x44_4
                    ·
                     as_aux_lemma =>
                     rw [if_pos c121] at H
                     have c121b0 : decide (x44_4 < t404) = true := decide_eq_true c121
                     clear c121
                     replace H := Option.bind_eq_some_iff.mp H
                     obtain ⟨t405, A1220, H⟩ := H
                     replace H : (laws_FnTracking.l1 kj108 t342 t343 t351 t357 t362 t363 (rd t351 x273_4) t405 (wrap64 (x45_4 + (rd t343 x273_4))) t343 (t343.length : Int) (wrap64 (x273_4 + 1)) t340 t341) = some r := H
                     have A122 := zm A1220
                     clear A1220
                     have e45_ := zm (Option.some.inj (A120.out.symm.trans A122.out) : t404 = t405)
                     have H' := zm H
                     clear H
                     obtain ⟨Ao123, co123, eo123⟩ := Kd.R_slice HO_10.out
                     subst eo123
                     have p403 : 0 ≤ (x273_4 : Int) := zd
                     have q403 : x273_4 < (t351.length : Int) := zd
                     obtain ⟨ad403, e403, hx403_0⟩ := Kd.at_int (Kd.R_reads' HO_10.out).2.2 x273_4 p403 q403
                     cases e403
                     replace p403 := eq_true p403
                     replace q403 := eq_true q403
                     go_wp2_with (first | (go_at_call 50; (with_reducible refine (laws_qAbs.calls (rd t351 x273_4) t404 _ A120.out).mono ?_); rintro e w' ⟨rfl, ⟨nd, rfl⟩⟩; (try first | exact ⟨rfl, _, World.drewN_drewN _ _ _⟩ | exact ⟨rfl, _, Eq.trans (World.drewN_drewN _ _ _) (congrArg (World.drewN _) (Nat.add_assoc _ _ _))⟩)) | (go_at_call 50; (with_reducible refine (laws_qAbs.calls (rd t351 x273_4) t405 _ A122.out).mono ?_); rintro e w' ⟨rfl, ⟨nd, rfl⟩⟩; (try first | exact ⟨rfl, _, World.drewN_drewN _ _ _⟩ | exact ⟨rfl, _, Eq.trans (World.drewN_drewN _ _ _) (congrArg (World.drewN _) (Nat.add_assoc _ _ _))⟩)) | ((with_reducible refine laws_FnTracking.gq ?_); go_quiet (first | (go_at_call 50; (with_reducible refine (laws_qAbs.calls (rd t351 x273_4) t404 _ A120.out).mono ?_); rintro e w' ⟨rfl, ⟨nd, rfl⟩⟩; (try first | exact ⟨rfl, _, World.drewN_drewN _ _ _⟩ | exact ⟨rfl, _, Eq.trans (World.drewN_drewN _ _ _) (congrArg (World.drewN _) (Nat.add_assoc _ _ _))⟩)) | (go_at_call 50; (with_reducible refine (laws_qAbs.calls (rd t351 x273_4) t405 _ A122.out).mono ?_); rintro e w' ⟨rfl, ⟨nd, rfl⟩⟩; (try first | exact ⟨rfl, _, World.drewN_drewN _ _ _⟩ | exact ⟨rfl, _, Eq.trans (World.drewN_drewN _ _ _) (congrArg (World.drewN _) (Nat.add_assoc _ _ _))⟩)))))
                     go_roundg kj108
                     case measure => have := HJ16.out; have := HJ63.out; have := HJ65.out; have := HK4.out; have := HJ108.out; omega
                     case rel => exact ⟨(rd t351 x273_4), (t405), (wrap64 (x45_4 + (rd t343 x273_4))), (wrap64 (x273_4 + 1)), (by first | rfl | (simp; done) | (simp; exact e45_.out) | (rw [e45_.out]) | (simp [*]; done)), (by first | rfl | (simp; done) | (simp; exact e45_.out) | (rw [e45_.out]) | (simp [*]; done)), (by first | rfl | (simp; done) | (simp; exact e45_.out) | (rw [e45_.out]) | (simp [*]; done)), (by first | rfl | (simp; done) | (simp; exact e45_.out) | (rw [e45_.out]) | (simp [*]; done)), H', ⟨by have := HJ16.out; have := HJ63.out; have := HJ65.out; have := HK4.out; have := HJ108.out; omega⟩, ⟨by (with_reducible repeat (first | apply Kd.R_alloc | apply Kd.R_drewN | apply Kd.R_drew)); exact HO_7.out⟩, ⟨by (with_reducible repeat (first | apply Kd.R_alloc | apply Kd.R_drewN | apply Kd.R_drew)); exact HO_10.out⟩, ⟨by (with_reducible repeat (first | apply Kd.R_alloc | apply Kd.R_drewN | apply Kd.R_drew)); exact HO_271.out⟩, ⟨zk⟩, ⟨zk⟩, ⟨zk⟩, ⟨zb⟩⟩
                    ·
                     as_aux_lemma =>
                     rw [if_neg c121] at H
                     have c121b0 : decide (x44_4 < t404) = false := decide_eq_false c121
                     clear c121
                     have H' := zm H
                     clear H
                     obtain ⟨Ao124, co124, eo124⟩ := Kd.R_slice HO_10.out
                     subst eo124
                     have p403 : 0 ≤ (x273_4 : Int) := zd
                     have q403 : x273_4 < (t351.length : Int) := zd
                     obtain ⟨ad403, e403, hx403_0⟩ := Kd.at_int (Kd.R_reads' HO_10.out).2.2 x273_4 p403 q403
                     cases e403
                     replace p403 := eq_true p403
                     replace q403 := eq_true q403
                     go_wp2_with (first | (go_at_call 50; (with_reducible refine (laws_qAbs.calls (rd t351 x273_4) t404 _ A120.out).mono ?_); rintro e w' ⟨rfl, ⟨nd, rfl⟩⟩; (try first | exact ⟨rfl, _, World.drewN_drewN _ _ _⟩ | exact ⟨rfl, _, Eq.trans (World.drewN_drewN _ _ _) (congrArg (World.drewN _) (Nat.add_assoc _ _ _))⟩)) | ((with_reducible refine laws_FnTracking.gq ?_); go_quiet (first | (go_at_call 50; (with_reducible refine (laws_qAbs.calls (rd t351 x273_4) t404 _ A120.out).mono ?_); rintro e w' ⟨rfl, ⟨nd, rfl⟩⟩; (try first | exact ⟨rfl, _, World.drewN_drewN _ _ _⟩ | exact ⟨rfl, _, Eq.trans (World.drewN_drewN _ _ _) (congrArg (World.drewN _) (Nat.add_assoc _ _ _))⟩)))))
                     go_roundg kj108
                     case measure => have := HJ16.out; have := HJ63.out; have := HJ65.out; have := HK4.out; have := HJ108.out; omega
                     case rel => exact ⟨(rd t351 x273_4), (x44_4), (wrap64 (x45_4 + (rd t343 x273_4))), (wrap64 (x273_4 + 1)), (by first | rfl | (simp; done) | (simp [*]; done)), (by first | rfl | (simp; done) | (simp [*]; done)), (by first | rfl | (simp; done) | (simp [*]; done)), (by first | rfl | (simp; done) | (simp [*]; done)), H', ⟨by have := HJ16.out; have := HJ63.out; have := HJ65.out; have := HK4.out; have := HJ108.out; omega⟩, ⟨by (with_reducible repeat (first | apply Kd.R_alloc | apply Kd.R_drewN | apply Kd.R_drew)); exact HO_7.out⟩, ⟨by (with_reducible repeat (first | apply Kd.R_alloc | apply Kd.R_drewN | apply Kd.R_drew)); exact HO_10.out⟩, ⟨by (with_reducible repeat (first | apply Kd.R_alloc | apply Kd.R_drewN | apply Kd.R_drew)); exact HO_271.out⟩, ⟨zk⟩, ⟨zk⟩, ⟨zk⟩, ⟨zb⟩⟩
                   ·
                    rw [if_neg c119] at H
                    exact absurd H (by simp)
                  ·
                   rw [if_neg c118] at H
                   exact absurd H (by simp)
              ·
               rw [if_neg c107] at H
               exact absurd H (by simp)
             ·
              rw [if_neg c106] at H
              exact absurd H (by simp)
            ·
             rw [if_neg c105] at H
             have c105b0 : decide (x273_4 < (t343.length : Int)) = false := decide_eq_false c105
             clear c105
             by_cases c125 : (t351.length : Int) = (t343.length : Int)
             ·
              rw [if_pos c125] at H
              have c125b0 : ((t351.length : Int) == (t343.length : Int)) = true := beq_iff_eq.mpr c125
              have c125b1 : ((t351.length : Int) != (t343.length : Int)) = false := bne_eq_false_iff_eq.mpr c125
              have c125b2 : (t351.length == t343.length) = true := by first | simpa using c125 | (simp at c125 ⊢; omega)
              clear c125
              by_cases c126 : x44_4 = t357
              ·
               rw [if_pos c126] at H
               have c126b0 : (x44_4 == t357) = true := beq_iff_eq.mpr c126
               have c126b1 : (x44_4 != t357) = false := bne_eq_false_iff_eq.mpr c126
               clear c126
               obtain rfl := Option.some.inj H
               obtain ⟨Ao127, co127, eo127⟩ := Kd.R_slice HO_10.out
               subst eo127
               have hnb128 := NB346_369.out
               have hnc128 := NB369_346.out
               have hnb129 := NB346_377.out
               have hnc129 := NB377_346.out
               obtain ⟨hcz130_0, hcz130_1, hfz130_0, hfz130_1⟩ := zc2 BK346.out
               go_wp2
               repeat (go_quiet (fail); try go_wp2)
               go_ret
               exact ⟨zr, zb⟩
              ·
               rw [if_neg c126] at H
               have c126b0 : (x44_4 == t357) = false := beq_eq_false_iff_ne.mpr c126
               have c126b1 : (x44_4 != t357) = true := bne_iff_ne.mpr c126
               exact absurd ((Option.some.inj H).trans hr_) (by decide)
             ·
              rw [if_neg c125] at H
              have c125b0 : ((t351.length : Int) == (t343.length : Int)) = false := beq_eq_false_iff_ne.mpr c125
              have c125b1 : ((t351.length : Int) != (t343.length : Int)) = true := bne_iff_ne.mpr c125
              have c125b2 : (t351.length == t343.length) = false := by first | simpa using c125 | (simp at c125 ⊢; omega)
              exact absurd ((Option.some.inj H).trans hr_) (by decide)
         ·
          replace c103 := Bool.eq_false_iff.mpr c103
          subst c103
          have H1 : (some true) = some r := by rw [if_neg (show ¬ (false = true) by decide)] at H; exact H
          clear H
          have H := H1
          clear H1
          obtain rfl := Option.some.inj H
          go_wp2
          repeat (go_quiet (fail); try go_wp2)
          go_ret
          exact ⟨zr, zb⟩


end Go.Proofs.Ytepkedhmbfkenaa.PTk
