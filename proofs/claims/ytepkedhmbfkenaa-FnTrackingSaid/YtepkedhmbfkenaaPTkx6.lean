-- Written for this claim by a program of this session (wip/tpl/patchprint.py), not by print.sh.
import Derived.Test.YtepkedhmbfkenaaPTkx0
import Derived.Test.YtepkedhmbfkenaaPTkx1
import Derived.Test.YtepkedhmbfkenaaPTkx2
import Derived.Test.YtepkedhmbfkenaaPTkx3
import Derived.Test.YtepkedhmbfkenaaPTkx4
import Derived.Test.YtepkedhmbfkenaaPTkx5
namespace Go.Proofs.Ytepkedhmbfkenaa.PTk
open Go.RowKit Go.Proofs.YtepkedhmbfkenaaW.PrintWords Go.Proofs.YtepkedhmbfkenaaW.PrintLast Go.Proofs.YtepkedhmbfkenaaW.PrintMore
attribute [local go_sem] max2_int min2_int max_two min_two max_three min_three max_four min_four   -- for this text's walks alone
set_option linter.unusedVariables false
set_option linter.unusedSimpArgs false

/-! ### laws_qInts: function 49 -/
def laws_qInts.l0 : Nat → List Int → List Int → Int → Int → Option (Bool)
  | 0, _, _, _, _ => none
  | k + 1, x0, x1, x12, x13 => if x13 < x12 then (if 0 ≤ x13 then (if x13 < (x0.length : Int) then (if x13 < (x1.length : Int) then (if (rd x0 x13) = (rd x1 x13) then (laws_qInts.l0 k x0 x1 x12 (wrap64 (x13 + 1))) else (some false)) else (none)) else (none)) else (none)) else (some true)
def laws_qInts.f (k : Nat) (l0 : List Int) (l1 : List Int) : Option (Bool) := if (l0.length : Int) = (l1.length : Int) then (laws_qInts.l0 k l0 l1 (l0.length : Int) 0) else (some false)
theorem laws_qInts.mono_l : ∀ k, (∀ y0 y1 y2 y3, LeO (laws_qInts.l0 k y0 y1 y2 y3) (laws_qInts.l0 (k + 1) y0 y1 y2 y3))
  | 0 => fun _ _ _ _ r h => by simp [laws_qInts.l0] at h
  | k + 1 => by
    have ih0 := laws_qInts.mono_l k
    · intro y0 y1 y2 y3
      unfold laws_qInts.l0
      repeat' first
      | (with_reducible exact ih0 _ _ _ _)
      | (with_reducible exact LeO.refl _)
      | (with_reducible exact LeO.none _)
      | (with_reducible refine LeO.ite ?_ ?_)
      | (with_reducible refine LeO.bind ?_ (fun _ => ?_))
      | exact ih0 _ _ _ _
      | exact LeO.none _
      | refine LeO.ite ?_ ?_
      | refine LeO.bind ?_ (fun _ => ?_)
theorem laws_qInts.mono : ∀ a0 a1 k, LeO (laws_qInts.f k a0 a1) (laws_qInts.f (k + 1) a0 a1) := by
  intro a0 a1 k
  have ih0 := laws_qInts.mono_l k
  unfold laws_qInts.f
  repeat' first
      | (with_reducible exact ih0 _ _ _ _)
      | (with_reducible exact LeO.refl _)
      | (with_reducible exact LeO.none _)
      | (with_reducible refine LeO.ite ?_ ?_)
      | (with_reducible refine LeO.bind ?_ (fun _ => ?_))
      | exact ih0 _ _ _ _
      | exact LeO.none _
      | refine LeO.ite ?_ ?_
      | refine LeO.bind ?_ (fun _ => ?_)
set_option maxHeartbeats 8000000 in
set_option maxRecDepth 100000 in
theorem laws_qInts.calls (k : Nat) (A0 : Option Addr) (c0 : Nat) (l0 : List Int) (A1 : Option Addr) (c1 : Nat) (l1 : List Int) (r : Bool) (w : World) (hr0 : Kd.C (Kd.int .i64) w A0 l0.length l0) (hc0 : l0.length ≤ c0) (hr1 : Kd.C (Kd.int .i64) w A1 l1.length l1) (hc1 : l1.length ≤ c1) (h : laws_qInts.f k l0 l1 = some r) :
  Calls Try.prog 49 #[.slice A0 l0.length c0, .slice A1 l1.length c1] w fun e w' => e = .returned (.bool r) ∧ Drawn0 w w' := by
 have HR0 := zm hr0
 have HC0 := zm hc0
 clear hr0 hc0
 have HR1 := zm hr1
 have HC1 := zm hc1
 clear hr1 hc1
 have H : (if (l0.length : Int) = (l1.length : Int) then (laws_qInts.l0 k l0 l1 (l0.length : Int) 0) else (some false)) = some r := h
 clear h
 by_cases c3 : (l0.length : Int) = (l1.length : Int)
 ·
  rw [if_pos c3] at H
  have c3b0 : ((l0.length : Int) == (l1.length : Int)) = true := beq_iff_eq.mpr c3
  have c3b1 : ((l0.length : Int) != (l1.length : Int)) = false := bne_eq_false_iff_eq.mpr c3
  have c3b2 : (l0.length == l1.length) = true := by first | simpa using c3 | (simp at c3 ⊢; omega)
  clear c3
  have H' := zm H
  clear H
  go_enter Try.func49, Try.ntmps49
  go_wp2
  repeat (go_quiet (fail); try go_wp2)
  go_loopg [13] k (fun kq v13 w' => ∃ (x13_1 : Int), v13 = .int .i64 x13_1 ∧ Aside0 (laws_qInts.l0 kq l0 l1 (l0.length : Int) x13_1 = some r) ∧ Aside0 (kq ≤ k) ∧ Drawn0 w w')
  case atStart => exact ⟨(0), (by first | rfl | (simp; done) | (simp [*]; done)), H', ⟨Nat.le_refl _⟩, by repeat (first | exact Drawn0.refl _ | apply Drawn0.step)⟩
  case round =>
   clear H'
   try clear c1
   try clear p2
   try clear c3
   try clear c3b0
   try clear c3b1
   try clear c3b2
   obtain ⟨x13_1, rfl, HA, HK1, ⟨m1, rfl⟩⟩ := hrel
   cases gk with
   | zero => exact absurd HA.out (by simp [laws_qInts.l0])
   | succ k1 =>
    have H := HA.out
    clear HA
    simp only [laws_qInts.l0] at H
    by_cases c4 : x13_1 < (l0.length : Int)
    ·
     rw [if_pos c4] at H
     have c4b0 : decide (x13_1 < (l0.length : Int)) = true := decide_eq_true c4
     clear c4
     by_cases c5 : 0 ≤ x13_1
     ·
      rw [if_pos c5] at H
      have c5b0 : decide (0 ≤ x13_1) = true := decide_eq_true c5
      clear c5
      by_cases c6 : x13_1 < (l0.length : Int)
      ·
       rw [if_pos c6] at H
       have c6b0 : decide (x13_1 < (l0.length : Int)) = true := decide_eq_true c6
       clear c6
       by_cases c7 : x13_1 < (l1.length : Int)
       ·
        rw [if_pos c7] at H
        have c7b0 : decide (x13_1 < (l1.length : Int)) = true := decide_eq_true c7
        clear c7
        by_cases c8 : (rd l0 x13_1) = (rd l1 x13_1)
        ·
         rw [if_pos c8] at H
         have c8b0 : ((rd l0 x13_1) == (rd l1 x13_1)) = true := beq_iff_eq.mpr c8
         have c8b1 : ((rd l0 x13_1) != (rd l1 x13_1)) = false := bne_eq_false_iff_eq.mpr c8
         clear c8
         have H' := zm H
         clear H
         have p338 : 0 ≤ (x13_1 : Int) := zd
         have q338 : x13_1 < (l0.length : Int) := zd
         obtain ⟨ad338, e338, hx338_0⟩ := Kd.at_int HR0.out x13_1 p338 q338
         cases e338
         replace p338 := eq_true p338
         replace q338 := eq_true q338
         have p339 : 0 ≤ (x13_1 : Int) := zd
         have q339 : x13_1 < (l1.length : Int) := zd
         obtain ⟨ad339, e339, hx339_0⟩ := Kd.at_int HR1.out x13_1 p339 q339
         cases e339
         replace p339 := eq_true p339
         replace q339 := eq_true q339
         go_wp2
         repeat (go_quiet (fail); try go_wp2)
         go_roundg k1
         case measure => have := HK1.out; omega
         case rel => exact ⟨(wrap64 (x13_1 + 1)), (by first | rfl | (simp; done) | (simp [*]; done)), H', ⟨by have := HK1.out; omega⟩, by repeat (first | exact Drawn0.refl _ | apply Drawn0.step)⟩
        ·
         rw [if_neg c8] at H
         have c8b0 : ((rd l0 x13_1) == (rd l1 x13_1)) = false := beq_eq_false_iff_ne.mpr c8
         have c8b1 : ((rd l0 x13_1) != (rd l1 x13_1)) = true := bne_iff_ne.mpr c8
         obtain rfl := Option.some.inj H
         have p338 : 0 ≤ (x13_1 : Int) := zd
         have q338 : x13_1 < (l0.length : Int) := zd
         obtain ⟨ad338, e338, hx338_0⟩ := Kd.at_int HR0.out x13_1 p338 q338
         cases e338
         replace p338 := eq_true p338
         replace q338 := eq_true q338
         have p339 : 0 ≤ (x13_1 : Int) := zd
         have q339 : x13_1 < (l1.length : Int) := zd
         obtain ⟨ad339, e339, hx339_0⟩ := Kd.at_int HR1.out x13_1 p339 q339
         cases e339
         replace p339 := eq_true p339
         replace q339 := eq_true q339
         go_wp2
         repeat (go_quiet (fail); try go_wp2)
         go_ret
         exact ⟨by first | rfl | (simp; done) | (simp [*]; done), by repeat (first | exact Drawn0.refl _ | apply Drawn0.step)⟩
       ·
        rw [if_neg c7] at H
        exact absurd H (by simp)
      ·
       rw [if_neg c6] at H
       exact absurd H (by simp)
     ·
      rw [if_neg c5] at H
      exact absurd H (by simp)
    ·
     rw [if_neg c4] at H
     have c4b0 : decide (x13_1 < (l0.length : Int)) = false := decide_eq_false c4
     clear c4
     obtain rfl := Option.some.inj H
     go_wp2
     repeat (go_quiet (fail); try go_wp2)
     go_ret
     exact ⟨by first | rfl | (simp; done) | (simp [*]; done), by repeat (first | exact Drawn0.refl _ | apply Drawn0.step)⟩
 ·
  rw [if_neg c3] at H
  have c3b0 : ((l0.length : Int) == (l1.length : Int)) = false := beq_eq_false_iff_ne.mpr c3
  have c3b1 : ((l0.length : Int) != (l1.length : Int)) = true := bne_iff_ne.mpr c3
  have c3b2 : (l0.length == l1.length) = false := by first | simpa using c3 | (simp at c3 ⊢; omega)
  obtain rfl := Option.some.inj H
  go_enter Try.func49, Try.ntmps49
  go_wp2
  repeat (go_quiet (fail); try go_wp2)
  go_ret
  exact ⟨by first | rfl | (simp; done) | (simp [*]; done), by repeat (first | exact Drawn0.refl _ | apply Drawn0.step)⟩

/-! ### laws_qAbs: function 50 -/
def laws_qAbs.f (a0 : Int) : Option (Int) := if a0 < 0 then (some (wrap64 (-a0))) else (some a0)
set_option maxHeartbeats 8000000 in
set_option maxRecDepth 100000 in
theorem laws_qAbs.calls (a0 : Int) (r : Int) (w : World) (h : laws_qAbs.f a0 = some r) :
  Calls Try.prog 50 #[.int .i64 a0] w fun e w' => e = .returned (.int .i64 r) ∧ Drawn0 w w' := by
 have H : (if a0 < 0 then (some (wrap64 (-a0))) else (some a0)) = some r := h
 clear h
 by_cases c2 : a0 < 0
 ·
  rw [if_pos c2] at H
  have c2b0 : decide (a0 < 0) = true := decide_eq_true c2
  clear c2
  obtain rfl := Option.some.inj H
  go_enter Try.func50, Try.ntmps50
  go_wp2
  go_ret
  exact ⟨by first | rfl | (simp; done) | (simp [*]; done), by repeat (first | exact Drawn0.refl _ | apply Drawn0.step)⟩
 ·
  rw [if_neg c2] at H
  have c2b0 : decide (a0 < 0) = false := decide_eq_false c2
  clear c2
  obtain rfl := Option.some.inj H
  go_enter Try.func50, Try.ntmps50
  go_wp2
  go_ret
  exact ⟨by first | rfl | (simp; done) | (simp [*]; done), by repeat (first | exact Drawn0.refl _ | apply Drawn0.step)⟩

/-! ### laws_FnTracking: function 9 -/
mutual
def laws_FnTracking.j0 : Nat → Int → List Int → Bool → List Int → Int → Int → Int → Int → Bool → Int → Bool → Int → Int → Int → Int → Option (Bool)
  | 0, _, _, _, _, _, _, _, _, _, _, _, _, _, _, _ => none
  | k + 1, x6, x7, x9, x10, x14, x19, x20, x30, x32, x33, x206, x347000, x347001, x378000, x378001 => if x206 = true then (some false) else (if x32 = true then (laws_FnTracking.j1 k x6 x7 x9 x10 x14 x19 x20 x30 x33 (decide (x33 ≤ 100)) x347000 x347001 x378000 x378001) else (laws_FnTracking.j1 k x6 x7 x9 x10 x14 x19 x20 x30 x33 false x347000 x347001 x378000 x378001))
def laws_FnTracking.j1 : Nat → Int → List Int → Bool → List Int → Int → Int → Int → Int → Int → Bool → Int → Int → Int → Int → Option (Bool)
  | 0, _, _, _, _, _, _, _, _, _, _, _, _, _, _ => none
  | k + 1, x6, x7, x9, x10, x14, x19, x20, x30, x33, x211, x347000, x347001, x378000, x378001 => if x211 = true then (if 0 ≤ x33 then (if (x33 : Int).toNat ≤ 35184372088832 then ((some (List.replicate (x33 : Int).toNat 0 : List Int)).bind fun y383 => ((impl_TrackRun.f k x378000 x378001 x30 y383).bind fun bt386 => ((spec_TrackRun.f k x378000 x378001 x30 y383).bind fun bt390 => (if bt386.2 = true then (if bt390.2 = true then ((laws_qInts.f k bt386.1 bt390.1).bind fun t394 => (laws_FnTracking.j2 k x6 x7 x9 x10 x14 x19 x20 x30 x33 bt390.1 (!t394) x347000 x347001 x378000 x378001)) else (laws_FnTracking.j2 k x6 x7 x9 x10 x14 x19 x20 x30 x33 bt390.1 true x347000 x347001 x378000 x378001)) else (laws_FnTracking.j2 k x6 x7 x9 x10 x14 x19 x20 x30 x33 bt390.1 true x347000 x347001 x378000 x378001))))) else (none)) else (none)) else (laws_FnTracking.j4 k x6 x7 x9 x10 x14 x19 x20 x347000 x347001)
def laws_FnTracking.j4 : Nat → Int → List Int → Bool → List Int → Int → Int → Int → Int → Int → Option (Bool)
  | 0, _, _, _, _, _, _, _, _, _ => none
  | k + 1, x6, x7, x9, x10, x14, x19, x20, x347000, x347001 => if x9 = true then ((laws_qAbs.f x6).bind fun t398 => (laws_FnTracking.l1 k x6 x7 x10 x14 x19 x20 x6 t398 0 x7 (x7.length : Int) 0 x347000 x347001)) else (some true)
def laws_FnTracking.l1 : Nat → Int → List Int → List Int → Int → Int → Int → Int → Int → Int → List Int → Int → Int → Int → Int → Option (Bool)
  | 0, _, _, _, _, _, _, _, _, _, _, _, _, _, _ => none
  | k + 1, x6, x7, x10, x14, x19, x20, x43, x44, x45, x271, x272, x273, x347000, x347001 => if x273 < x272 then (if 0 ≤ x273 then (if x273 < (x271.length : Int) then ((impl_TrackStep.f k x347000 x347001 x43 (rd x271 x273)).bind fun bt400 => (if bt400.2 = true then (if x273 < (x10.length : Int) then (laws_FnTracking.j6 k x6 x7 x10 x14 x19 x20 x44 x45 x273 (rd x271 x273) x271 x272 x273 (bt400.1 != (rd x10 x273)) x347000 x347001) else (none)) else (laws_FnTracking.j6 k x6 x7 x10 x14 x19 x20 x44 x45 x273 (rd x271 x273) x271 x272 x273 true x347000 x347001))) else (none)) else (none)) else (if (x10.length : Int) = (x7.length : Int) then (if x44 = x14 then (some (x43 == (wrap64 ((wrap64 (x6 + x45)) + (wrap64 ((wrap64 (x20 - x19)) * x347001)))))) else (some false)) else (some false))
def laws_FnTracking.j6 : Nat → Int → List Int → List Int → Int → Int → Int → Int → Int → Int → Int → List Int → Int → Int → Bool → Int → Int → Option (Bool)
  | 0, _, _, _, _, _, _, _, _, _, _, _, _, _, _, _, _ => none
  | k + 1, x6, x7, x10, x14, x19, x20, x44, x45, x46, x47, x271, x272, x273, x294, x347000, x347001 => if x294 = true then (some false) else (if 0 ≤ x46 then (if x46 < (x10.length : Int) then ((laws_qAbs.f (rd x10 x46)).bind fun t404 => (if t404 > x44 then ((laws_qAbs.f (rd x10 x46)).bind fun t405 => (laws_FnTracking.l1 k x6 x7 x10 x14 x19 x20 (rd x10 x46) t405 (wrap64 (x45 + x47)) x271 x272 (wrap64 (x273 + 1)) x347000 x347001)) else (laws_FnTracking.l1 k x6 x7 x10 x14 x19 x20 (rd x10 x46) x44 (wrap64 (x45 + x47)) x271 x272 (wrap64 (x273 + 1)) x347000 x347001))) else (none)) else (none))
def laws_FnTracking.j2 : Nat → Int → List Int → Bool → List Int → Int → Int → Int → Int → Int → List Int → Bool → Int → Int → Int → Int → Option (Bool)
  | 0, _, _, _, _, _, _, _, _, _, _, _, _, _, _, _ => none
  | k + 1, x6, x7, x9, x10, x14, x19, x20, x30, x33, x38, x239, x347000, x347001, x378000, x378001 => if x239 = true then (some false) else (laws_FnTracking.l0 k x6 x7 x9 x10 x14 x19 x20 x33 x30 x38 (x38.length : Int) 0 x347000 x347001 x378000 x378001)
def laws_FnTracking.l0 : Nat → Int → List Int → Bool → List Int → Int → Int → Int → Int → Int → List Int → Int → Int → Int → Int → Int → Int → Option (Bool)
  | 0, _, _, _, _, _, _, _, _, _, _, _, _, _, _, _, _ => none
  | k + 1, x6, x7, x9, x10, x14, x19, x20, x33, x40, x241, x242, x243, x347000, x347001, x378000, x378001 => if x243 < x242 then (if 0 ≤ x243 then (if x243 < (x241.length : Int) then ((laws_qAbs.f x40).bind fun t396 => (if t396 ≤ x378000 then (some false) else (if (wrap64 (x243 + 1)) = x33 then ((laws_qAbs.f (rd x241 x243)).bind fun t397 => (if t397 > x378000 then (some false) else (laws_FnTracking.l0 k x6 x7 x9 x10 x14 x19 x20 x33 (rd x241 x243) x241 x242 (wrap64 (x243 + 1)) x347000 x347001 x378000 x378001))) else (laws_FnTracking.l0 k x6 x7 x9 x10 x14 x19 x20 x33 (rd x241 x243) x241 x242 (wrap64 (x243 + 1)) x347000 x347001 x378000 x378001)))) else (none)) else (none)) else (laws_FnTracking.j4 k x6 x7 x9 x10 x14 x19 x20 x347000 x347001)
end
def laws_FnTracking.f (k : Nat) (l0 : List Int) (l1 : List Int) : Option (Bool) := if (wrap64 ((l0.length : Int) + (l1.length : Int))) > 1048576 then (some true) else ((spec_DrawTrackRun.f k l0).bind fun bt340 => ((impl_TrackRun.f k bt340.1 bt340.2.1 bt340.2.2.1 bt340.2.2.2).bind fun bt347 => ((spec_TrackRun.f k bt340.1 bt340.2.1 bt340.2.2.1 bt340.2.2.2).bind fun bt351 => ((impl_WorstOffset.f k bt340.1 bt340.2.1 bt340.2.2.1 bt340.2.2.2).bind fun bt355 => ((spec_WorstOffset.f k bt340.1 bt340.2.1 bt340.2.2.1 bt340.2.2.2).bind fun bt357 => ((impl_MovesMade.f k bt340.1 bt340.2.1 bt340.2.2.1 bt340.2.2.2).bind fun bt359 => ((spec_MovesMade.f k bt340.1 bt340.2.1 bt340.2.2.1 bt340.2.2.2).bind fun bt362 => ((spec_DrawTrackStep.f l1).bind fun bt365 => ((impl_TrackStep.f k bt365.1 bt365.2.1 bt365.2.2.1 bt365.2.2.2).bind fun bt370 => ((spec_TrackStep.f k bt365.1 bt365.2.1 bt365.2.2.1 bt365.2.2.2).bind fun bt372 => ((spec_DrawSettlesAfter.f l1).bind fun bt374 => ((impl_SettlesAfter.f k bt374.1 bt374.2.1 bt374.2.2).bind fun bt378 => ((spec_SettlesAfter.f k bt374.1 bt374.2.1 bt374.2.2).bind fun bt380 => (if (bt347.2 != bt351.2) = true then (laws_FnTracking.j0 k bt340.2.2.1 bt340.2.2.2 bt347.2 bt351.1 bt357.1 bt362.1 bt362.2.1 bt374.2.2 bt378.2 bt380.1 true bt340.1 bt340.2.1 bt374.1 bt374.2.1) else ((laws_qInts.f k bt347.1 bt351.1).bind fun t382 => (if t382 = true then (if (bt355.2 != bt357.2) = true then (laws_FnTracking.j0 k bt340.2.2.1 bt340.2.2.2 bt347.2 bt351.1 bt357.1 bt362.1 bt362.2.1 bt374.2.2 bt378.2 bt380.1 true bt340.1 bt340.2.1 bt374.1 bt374.2.1) else (if bt355.1 = bt357.1 then (if (bt359.2.2 != bt362.2.2) = true then (laws_FnTracking.j0 k bt340.2.2.1 bt340.2.2.2 bt347.2 bt351.1 bt357.1 bt362.1 bt362.2.1 bt374.2.2 bt378.2 bt380.1 true bt340.1 bt340.2.1 bt374.1 bt374.2.1) else (if bt359.1 = bt362.1 then (if bt359.2.1 = bt362.2.1 then (if (bt370.2 != bt372.2) = true then (laws_FnTracking.j0 k bt340.2.2.1 bt340.2.2.2 bt347.2 bt351.1 bt357.1 bt362.1 bt362.2.1 bt374.2.2 bt378.2 bt380.1 true bt340.1 bt340.2.1 bt374.1 bt374.2.1) else (if bt370.1 = bt372.1 then (if (bt378.2 != bt380.2) = true then (laws_FnTracking.j0 k bt340.2.2.1 bt340.2.2.2 bt347.2 bt351.1 bt357.1 bt362.1 bt362.2.1 bt374.2.2 bt378.2 bt380.1 true bt340.1 bt340.2.1 bt374.1 bt374.2.1) else (if bt378.1 = bt380.1 then (if (bt355.2 != bt347.2) = true then (laws_FnTracking.j0 k bt340.2.2.1 bt340.2.2.2 bt347.2 bt351.1 bt357.1 bt362.1 bt362.2.1 bt374.2.2 bt378.2 bt380.1 true bt340.1 bt340.2.1 bt374.1 bt374.2.1) else (laws_FnTracking.j0 k bt340.2.2.1 bt340.2.2.2 bt347.2 bt351.1 bt357.1 bt362.1 bt362.2.1 bt374.2.2 bt378.2 bt380.1 (bt359.2.2 != bt347.2) bt340.1 bt340.2.1 bt374.1 bt374.2.1)) else (laws_FnTracking.j0 k bt340.2.2.1 bt340.2.2.2 bt347.2 bt351.1 bt357.1 bt362.1 bt362.2.1 bt374.2.2 bt378.2 bt380.1 true bt340.1 bt340.2.1 bt374.1 bt374.2.1))) else (laws_FnTracking.j0 k bt340.2.2.1 bt340.2.2.2 bt347.2 bt351.1 bt357.1 bt362.1 bt362.2.1 bt374.2.2 bt378.2 bt380.1 true bt340.1 bt340.2.1 bt374.1 bt374.2.1))) else (laws_FnTracking.j0 k bt340.2.2.1 bt340.2.2.2 bt347.2 bt351.1 bt357.1 bt362.1 bt362.2.1 bt374.2.2 bt378.2 bt380.1 true bt340.1 bt340.2.1 bt374.1 bt374.2.1)) else (laws_FnTracking.j0 k bt340.2.2.1 bt340.2.2.2 bt347.2 bt351.1 bt357.1 bt362.1 bt362.2.1 bt374.2.2 bt378.2 bt380.1 true bt340.1 bt340.2.1 bt374.1 bt374.2.1))) else (laws_FnTracking.j0 k bt340.2.2.1 bt340.2.2.2 bt347.2 bt351.1 bt357.1 bt362.1 bt362.2.1 bt374.2.2 bt378.2 bt380.1 true bt340.1 bt340.2.1 bt374.1 bt374.2.1))) else (laws_FnTracking.j0 k bt340.2.2.1 bt340.2.2.2 bt347.2 bt351.1 bt357.1 bt362.1 bt362.2.1 bt374.2.2 bt378.2 bt380.1 true bt340.1 bt340.2.1 bt374.1 bt374.2.1)))))))))))))))))
theorem laws_FnTracking.mono_l : ∀ k, (∀ y0 y1 y2 y3 y4 y5 y6 y7 y8 y9 y10 y11 y12 y13 y14, LeO (laws_FnTracking.j0 k y0 y1 y2 y3 y4 y5 y6 y7 y8 y9 y10 y11 y12 y13 y14) (laws_FnTracking.j0 (k + 1) y0 y1 y2 y3 y4 y5 y6 y7 y8 y9 y10 y11 y12 y13 y14)) ∧ (∀ y0 y1 y2 y3 y4 y5 y6 y7 y8 y9 y10 y11 y12 y13, LeO (laws_FnTracking.j1 k y0 y1 y2 y3 y4 y5 y6 y7 y8 y9 y10 y11 y12 y13) (laws_FnTracking.j1 (k + 1) y0 y1 y2 y3 y4 y5 y6 y7 y8 y9 y10 y11 y12 y13)) ∧ (∀ y0 y1 y2 y3 y4 y5 y6 y7 y8, LeO (laws_FnTracking.j4 k y0 y1 y2 y3 y4 y5 y6 y7 y8) (laws_FnTracking.j4 (k + 1) y0 y1 y2 y3 y4 y5 y6 y7 y8)) ∧ (∀ y0 y1 y2 y3 y4 y5 y6 y7 y8 y9 y10 y11 y12 y13, LeO (laws_FnTracking.l1 k y0 y1 y2 y3 y4 y5 y6 y7 y8 y9 y10 y11 y12 y13) (laws_FnTracking.l1 (k + 1) y0 y1 y2 y3 y4 y5 y6 y7 y8 y9 y10 y11 y12 y13)) ∧ (∀ y0 y1 y2 y3 y4 y5 y6 y7 y8 y9 y10 y11 y12 y13 y14 y15, LeO (laws_FnTracking.j6 k y0 y1 y2 y3 y4 y5 y6 y7 y8 y9 y10 y11 y12 y13 y14 y15) (laws_FnTracking.j6 (k + 1) y0 y1 y2 y3 y4 y5 y6 y7 y8 y9 y10 y11 y12 y13 y14 y15)) ∧ (∀ y0 y1 y2 y3 y4 y5 y6 y7 y8 y9 y10 y11 y12 y13 y14, LeO (laws_FnTracking.j2 k y0 y1 y2 y3 y4 y5 y6 y7 y8 y9 y10 y11 y12 y13 y14) (laws_FnTracking.j2 (k + 1) y0 y1 y2 y3 y4 y5 y6 y7 y8 y9 y10 y11 y12 y13 y14)) ∧ (∀ y0 y1 y2 y3 y4 y5 y6 y7 y8 y9 y10 y11 y12 y13 y14 y15, LeO (laws_FnTracking.l0 k y0 y1 y2 y3 y4 y5 y6 y7 y8 y9 y10 y11 y12 y13 y14 y15) (laws_FnTracking.l0 (k + 1) y0 y1 y2 y3 y4 y5 y6 y7 y8 y9 y10 y11 y12 y13 y14 y15))
  | 0 => ⟨fun _ _ _ _ _ _ _ _ _ _ _ _ _ _ _ r h => by simp [laws_FnTracking.j0] at h, fun _ _ _ _ _ _ _ _ _ _ _ _ _ _ r h => by simp [laws_FnTracking.j1] at h, fun _ _ _ _ _ _ _ _ _ r h => by simp [laws_FnTracking.j4] at h, fun _ _ _ _ _ _ _ _ _ _ _ _ _ _ r h => by simp [laws_FnTracking.l1] at h, fun _ _ _ _ _ _ _ _ _ _ _ _ _ _ _ _ r h => by simp [laws_FnTracking.j6] at h, fun _ _ _ _ _ _ _ _ _ _ _ _ _ _ _ r h => by simp [laws_FnTracking.j2] at h, fun _ _ _ _ _ _ _ _ _ _ _ _ _ _ _ _ r h => by simp [laws_FnTracking.l0] at h⟩
  | k + 1 => by
    obtain ⟨ih0, ih1, ih2, ih3, ih4, ih5, ih6⟩ := laws_FnTracking.mono_l k
    refine ⟨?_, ?_, ?_, ?_, ?_, ?_, ?_⟩
    · intro y0 y1 y2 y3 y4 y5 y6 y7 y8 y9 y10 y11 y12 y13 y14
      unfold laws_FnTracking.j0
      repeat' first
      | (with_reducible exact ih0 _ _ _ _ _ _ _ _ _ _ _ _ _ _ _)
      | (with_reducible exact ih1 _ _ _ _ _ _ _ _ _ _ _ _ _ _)
      | (with_reducible exact ih2 _ _ _ _ _ _ _ _ _)
      | (with_reducible exact ih3 _ _ _ _ _ _ _ _ _ _ _ _ _ _)
      | (with_reducible exact ih4 _ _ _ _ _ _ _ _ _ _ _ _ _ _ _ _)
      | (with_reducible exact ih5 _ _ _ _ _ _ _ _ _ _ _ _ _ _ _)
      | (with_reducible exact ih6 _ _ _ _ _ _ _ _ _ _ _ _ _ _ _ _)
      | (with_reducible exact impl_MovesMade.mono _ _ _ _ _)
      | (with_reducible exact impl_SettlesAfter.mono _ _ _ _)
      | (with_reducible exact impl_TrackRun.mono _ _ _ _ _)
      | (with_reducible exact impl_TrackStep.mono _ _ _ _ _)
      | (with_reducible exact impl_WorstOffset.mono _ _ _ _ _)
      | (with_reducible exact laws_qInts.mono _ _ _)
      | (with_reducible exact spec_DrawTrackRun.mono _ _)
      | (with_reducible exact spec_MovesMade.mono _ _ _ _ _)
      | (with_reducible exact spec_SettlesAfter.mono _ _ _ _)
      | (with_reducible exact spec_TrackRun.mono _ _ _ _ _)
      | (with_reducible exact spec_TrackStep.mono _ _ _ _ _)
      | (with_reducible exact spec_WorstOffset.mono _ _ _ _ _)
      | (with_reducible exact LeO.refl _)
      | (with_reducible exact LeO.none _)
      | (with_reducible refine LeO.ite ?_ ?_)
      | (with_reducible refine LeO.bind ?_ (fun _ => ?_))
      | exact ih0 _ _ _ _ _ _ _ _ _ _ _ _ _ _ _
      | exact ih1 _ _ _ _ _ _ _ _ _ _ _ _ _ _
      | exact ih2 _ _ _ _ _ _ _ _ _
      | exact ih3 _ _ _ _ _ _ _ _ _ _ _ _ _ _
      | exact ih4 _ _ _ _ _ _ _ _ _ _ _ _ _ _ _ _
      | exact ih5 _ _ _ _ _ _ _ _ _ _ _ _ _ _ _
      | exact ih6 _ _ _ _ _ _ _ _ _ _ _ _ _ _ _ _
      | exact impl_MovesMade.mono _ _ _ _ _
      | exact impl_SettlesAfter.mono _ _ _ _
      | exact impl_TrackRun.mono _ _ _ _ _
      | exact impl_TrackStep.mono _ _ _ _ _
      | exact impl_WorstOffset.mono _ _ _ _ _
      | exact laws_qInts.mono _ _ _
      | exact spec_DrawTrackRun.mono _ _
      | exact spec_MovesMade.mono _ _ _ _ _
      | exact spec_SettlesAfter.mono _ _ _ _
      | exact spec_TrackRun.mono _ _ _ _ _
      | exact spec_TrackStep.mono _ _ _ _ _
      | exact spec_WorstOffset.mono _ _ _ _ _
      | exact LeO.none _
      | refine LeO.ite ?_ ?_
      | refine LeO.bind ?_ (fun _ => ?_)
    · intro y0 y1 y2 y3 y4 y5 y6 y7 y8 y9 y10 y11 y12 y13
      unfold laws_FnTracking.j1
      repeat' first
      | (with_reducible exact ih0 _ _ _ _ _ _ _ _ _ _ _ _ _ _ _)
      | (with_reducible exact ih1 _ _ _ _ _ _ _ _ _ _ _ _ _ _)
      | (with_reducible exact ih2 _ _ _ _ _ _ _ _ _)
      | (with_reducible exact ih3 _ _ _ _ _ _ _ _ _ _ _ _ _ _)
      | (with_reducible exact ih4 _ _ _ _ _ _ _ _ _ _ _ _ _ _ _ _)
      | (with_reducible exact ih5 _ _ _ _ _ _ _ _ _ _ _ _ _ _ _)
      | (with_reducible exact ih6 _ _ _ _ _ _ _ _ _ _ _ _ _ _ _ _)
      | (with_reducible exact impl_MovesMade.mono _ _ _ _ _)
      | (with_reducible exact impl_SettlesAfter.mono _ _ _ _)
      | (with_reducible exact impl_TrackRun.mono _ _ _ _ _)
      | (with_reducible exact impl_TrackStep.mono _ _ _ _ _)
      | (with_reducible exact impl_WorstOffset.mono _ _ _ _ _)
      | (with_reducible exact laws_qInts.mono _ _ _)
      | (with_reducible exact spec_DrawTrackRun.mono _ _)
      | (with_reducible exact spec_MovesMade.mono _ _ _ _ _)
      | (with_reducible exact spec_SettlesAfter.mono _ _ _ _)
      | (with_reducible exact spec_TrackRun.mono _ _ _ _ _)
      | (with_reducible exact spec_TrackStep.mono _ _ _ _ _)
      | (with_reducible exact spec_WorstOffset.mono _ _ _ _ _)
      | (with_reducible exact LeO.refl _)
      | (with_reducible exact LeO.none _)
      | (with_reducible refine LeO.ite ?_ ?_)
      | (with_reducible refine LeO.bind ?_ (fun _ => ?_))
      | exact ih0 _ _ _ _ _ _ _ _ _ _ _ _ _ _ _
      | exact ih1 _ _ _ _ _ _ _ _ _ _ _ _ _ _
      | exact ih2 _ _ _ _ _ _ _ _ _
      | exact ih3 _ _ _ _ _ _ _ _ _ _ _ _ _ _
      | exact ih4 _ _ _ _ _ _ _ _ _ _ _ _ _ _ _ _
      | exact ih5 _ _ _ _ _ _ _ _ _ _ _ _ _ _ _
      | exact ih6 _ _ _ _ _ _ _ _ _ _ _ _ _ _ _ _
      | exact impl_MovesMade.mono _ _ _ _ _
      | exact impl_SettlesAfter.mono _ _ _ _
      | exact impl_TrackRun.mono _ _ _ _ _
      | exact impl_TrackStep.mono _ _ _ _ _
      | exact impl_WorstOffset.mono _ _ _ _ _
      | exact laws_qInts.mono _ _ _
      | exact spec_DrawTrackRun.mono _ _
      | exact spec_MovesMade.mono _ _ _ _ _
      | exact spec_SettlesAfter.mono _ _ _ _
      | exact spec_TrackRun.mono _ _ _ _ _
      | exact spec_TrackStep.mono _ _ _ _ _
      | exact spec_WorstOffset.mono _ _ _ _ _
      | exact LeO.none _
      | refine LeO.ite ?_ ?_
      | refine LeO.bind ?_ (fun _ => ?_)
    · intro y0 y1 y2 y3 y4 y5 y6 y7 y8
      unfold laws_FnTracking.j4
      repeat' first
      | (with_reducible exact ih0 _ _ _ _ _ _ _ _ _ _ _ _ _ _ _)
      | (with_reducible exact ih1 _ _ _ _ _ _ _ _ _ _ _ _ _ _)
      | (with_reducible exact ih2 _ _ _ _ _ _ _ _ _)
      | (with_reducible exact ih3 _ _ _ _ _ _ _ _ _ _ _ _ _ _)
      | (with_reducible exact ih4 _ _ _ _ _ _ _ _ _ _ _ _ _ _ _ _)
      | (with_reducible exact ih5 _ _ _ _ _ _ _ _ _ _ _ _ _ _ _)
      | (with_reducible exact ih6 _ _ _ _ _ _ _ _ _ _ _ _ _ _ _ _)
      | (with_reducible exact impl_MovesMade.mono _ _ _ _ _)
      | (with_reducible exact impl_SettlesAfter.mono _ _ _ _)
      | (with_reducible exact impl_TrackRun.mono _ _ _ _ _)
      | (with_reducible exact impl_TrackStep.mono _ _ _ _ _)
      | (with_reducible exact impl_WorstOffset.mono _ _ _ _ _)
      | (with_reducible exact laws_qInts.mono _ _ _)
      | (with_reducible exact spec_DrawTrackRun.mono _ _)
      | (with_reducible exact spec_MovesMade.mono _ _ _ _ _)
      | (with_reducible exact spec_SettlesAfter.mono _ _ _ _)
      | (with_reducible exact spec_TrackRun.mono _ _ _ _ _)
      | (with_reducible exact spec_TrackStep.mono _ _ _ _ _)
      | (with_reducible exact spec_WorstOffset.mono _ _ _ _ _)
      | (with_reducible exact LeO.refl _)
      | (with_reducible exact LeO.none _)
      | (with_reducible refine LeO.ite ?_ ?_)
      | (with_reducible refine LeO.bind ?_ (fun _ => ?_))
      | exact ih0 _ _ _ _ _ _ _ _ _ _ _ _ _ _ _
      | exact ih1 _ _ _ _ _ _ _ _ _ _ _ _ _ _
      | exact ih2 _ _ _ _ _ _ _ _ _
      | exact ih3 _ _ _ _ _ _ _ _ _ _ _ _ _ _
      | exact ih4 _ _ _ _ _ _ _ _ _ _ _ _ _ _ _ _
      | exact ih5 _ _ _ _ _ _ _ _ _ _ _ _ _ _ _
      | exact ih6 _ _ _ _ _ _ _ _ _ _ _ _ _ _ _ _
      | exact impl_MovesMade.mono _ _ _ _ _
      | exact impl_SettlesAfter.mono _ _ _ _
      | exact impl_TrackRun.mono _ _ _ _ _
      | exact impl_TrackStep.mono _ _ _ _ _
      | exact impl_WorstOffset.mono _ _ _ _ _
      | exact laws_qInts.mono _ _ _
      | exact spec_DrawTrackRun.mono _ _
      | exact spec_MovesMade.mono _ _ _ _ _
      | exact spec_SettlesAfter.mono _ _ _ _
      | exact spec_TrackRun.mono _ _ _ _ _
      | exact spec_TrackStep.mono _ _ _ _ _
      | exact spec_WorstOffset.mono _ _ _ _ _
      | exact LeO.none _
      | refine LeO.ite ?_ ?_
      | refine LeO.bind ?_ (fun _ => ?_)
    · intro y0 y1 y2 y3 y4 y5 y6 y7 y8 y9 y10 y11 y12 y13
      unfold laws_FnTracking.l1
      repeat' first
      | (with_reducible exact ih0 _ _ _ _ _ _ _ _ _ _ _ _ _ _ _)
      | (with_reducible exact ih1 _ _ _ _ _ _ _ _ _ _ _ _ _ _)
      | (with_reducible exact ih2 _ _ _ _ _ _ _ _ _)
      | (with_reducible exact ih3 _ _ _ _ _ _ _ _ _ _ _ _ _ _)
      | (with_reducible exact ih4 _ _ _ _ _ _ _ _ _ _ _ _ _ _ _ _)
      | (with_reducible exact ih5 _ _ _ _ _ _ _ _ _ _ _ _ _ _ _)
      | (with_reducible exact ih6 _ _ _ _ _ _ _ _ _ _ _ _ _ _ _ _)
      | (with_reducible exact impl_MovesMade.mono _ _ _ _ _)
      | (with_reducible exact impl_SettlesAfter.mono _ _ _ _)
      | (with_reducible exact impl_TrackRun.mono _ _ _ _ _)
      | (with_reducible exact impl_TrackStep.mono _ _ _ _ _)
      | (with_reducible exact impl_WorstOffset.mono _ _ _ _ _)
      | (with_reducible exact laws_qInts.mono _ _ _)
      | (with_reducible exact spec_DrawTrackRun.mono _ _)
      | (with_reducible exact spec_MovesMade.mono _ _ _ _ _)
      | (with_reducible exact spec_SettlesAfter.mono _ _ _ _)
      | (with_reducible exact spec_TrackRun.mono _ _ _ _ _)
      | (with_reducible exact spec_TrackStep.mono _ _ _ _ _)
      | (with_reducible exact spec_WorstOffset.mono _ _ _ _ _)
      | (with_reducible exact LeO.refl _)
      | (with_reducible exact LeO.none _)
      | (with_reducible refine LeO.ite ?_ ?_)
      | (with_reducible refine LeO.bind ?_ (fun _ => ?_))
      | exact ih0 _ _ _ _ _ _ _ _ _ _ _ _ _ _ _
      | exact ih1 _ _ _ _ _ _ _ _ _ _ _ _ _ _
      | exact ih2 _ _ _ _ _ _ _ _ _
      | exact ih3 _ _ _ _ _ _ _ _ _ _ _ _ _ _
      | exact ih4 _ _ _ _ _ _ _ _ _ _ _ _ _ _ _ _
      | exact ih5 _ _ _ _ _ _ _ _ _ _ _ _ _ _ _
      | exact ih6 _ _ _ _ _ _ _ _ _ _ _ _ _ _ _ _
      | exact impl_MovesMade.mono _ _ _ _ _
      | exact impl_SettlesAfter.mono _ _ _ _
      | exact impl_TrackRun.mono _ _ _ _ _
      | exact impl_TrackStep.mono _ _ _ _ _
      | exact impl_WorstOffset.mono _ _ _ _ _
      | exact laws_qInts.mono _ _ _
      | exact spec_DrawTrackRun.mono _ _
      | exact spec_MovesMade.mono _ _ _ _ _
      | exact spec_SettlesAfter.mono _ _ _ _
      | exact spec_TrackRun.mono _ _ _ _ _
      | exact spec_TrackStep.mono _ _ _ _ _
      | exact spec_WorstOffset.mono _ _ _ _ _
      | exact LeO.none _
      | refine LeO.ite ?_ ?_
      | refine LeO.bind ?_ (fun _ => ?_)
    · intro y0 y1 y2 y3 y4 y5 y6 y7 y8 y9 y10 y11 y12 y13 y14 y15
      unfold laws_FnTracking.j6
      repeat' first
      | (with_reducible exact ih0 _ _ _ _ _ _ _ _ _ _ _ _ _ _ _)
      | (with_reducible exact ih1 _ _ _ _ _ _ _ _ _ _ _ _ _ _)
      | (with_reducible exact ih2 _ _ _ _ _ _ _ _ _)
      | (with_reducible exact ih3 _ _ _ _ _ _ _ _ _ _ _ _ _ _)
      | (with_reducible exact ih4 _ _ _ _ _ _ _ _ _ _ _ _ _ _ _ _)
      | (with_reducible exact ih5 _ _ _ _ _ _ _ _ _ _ _ _ _ _ _)
      | (with_reducible exact ih6 _ _ _ _ _ _ _ _ _ _ _ _ _ _ _ _)
      | (with_reducible exact impl_MovesMade.mono _ _ _ _ _)
      | (with_reducible exact impl_SettlesAfter.mono _ _ _ _)
      | (with_reducible exact impl_TrackRun.mono _ _ _ _ _)
      | (with_reducible exact impl_TrackStep.mono _ _ _ _ _)
      | (with_reducible exact impl_WorstOffset.mono _ _ _ _ _)
      | (with_reducible exact laws_qInts.mono _ _ _)
      | (with_reducible exact spec_DrawTrackRun.mono _ _)
      | (with_reducible exact spec_MovesMade.mono _ _ _ _ _)
      | (with_reducible exact spec_SettlesAfter.mono _ _ _ _)
      | (with_reducible exact spec_TrackRun.mono _ _ _ _ _)
      | (with_reducible exact spec_TrackStep.mono _ _ _ _ _)
      | (with_reducible exact spec_WorstOffset.mono _ _ _ _ _)
      | (with_reducible exact LeO.refl _)
      | (with_reducible exact LeO.none _)
      | (with_reducible refine LeO.ite ?_ ?_)
      | (with_reducible refine LeO.bind ?_ (fun _ => ?_))
      | exact ih0 _ _ _ _ _ _ _ _ _ _ _ _ _ _ _
      | exact ih1 _ _ _ _ _ _ _ _ _ _ _ _ _ _
      | exact ih2 _ _ _ _ _ _ _ _ _
      | exact ih3 _ _ _ _ _ _ _ _ _ _ _ _ _ _
      | exact ih4 _ _ _ _ _ _ _ _ _ _ _ _ _ _ _ _
      | exact ih5 _ _ _ _ _ _ _ _ _ _ _ _ _ _ _
      | exact ih6 _ _ _ _ _ _ _ _ _ _ _ _ _ _ _ _
      | exact impl_MovesMade.mono _ _ _ _ _
      | exact impl_SettlesAfter.mono _ _ _ _
      | exact impl_TrackRun.mono _ _ _ _ _
      | exact impl_TrackStep.mono _ _ _ _ _
      | exact impl_WorstOffset.mono _ _ _ _ _
      | exact laws_qInts.mono _ _ _
      | exact spec_DrawTrackRun.mono _ _
      | exact spec_MovesMade.mono _ _ _ _ _
      | exact spec_SettlesAfter.mono _ _ _ _
      | exact spec_TrackRun.mono _ _ _ _ _
      | exact spec_TrackStep.mono _ _ _ _ _
      | exact spec_WorstOffset.mono _ _ _ _ _
      | exact LeO.none _
      | refine LeO.ite ?_ ?_
      | refine LeO.bind ?_ (fun _ => ?_)
    · intro y0 y1 y2 y3 y4 y5 y6 y7 y8 y9 y10 y11 y12 y13 y14
      unfold laws_FnTracking.j2
      repeat' first
      | (with_reducible exact ih0 _ _ _ _ _ _ _ _ _ _ _ _ _ _ _)
      | (with_reducible exact ih1 _ _ _ _ _ _ _ _ _ _ _ _ _ _)
      | (with_reducible exact ih2 _ _ _ _ _ _ _ _ _)
      | (with_reducible exact ih3 _ _ _ _ _ _ _ _ _ _ _ _ _ _)
      | (with_reducible exact ih4 _ _ _ _ _ _ _ _ _ _ _ _ _ _ _ _)
      | (with_reducible exact ih5 _ _ _ _ _ _ _ _ _ _ _ _ _ _ _)
      | (with_reducible exact ih6 _ _ _ _ _ _ _ _ _ _ _ _ _ _ _ _)
      | (with_reducible exact impl_MovesMade.mono _ _ _ _ _)
      | (with_reducible exact impl_SettlesAfter.mono _ _ _ _)
      | (with_reducible exact impl_TrackRun.mono _ _ _ _ _)
      | (with_reducible exact impl_TrackStep.mono _ _ _ _ _)
      | (with_reducible exact impl_WorstOffset.mono _ _ _ _ _)
      | (with_reducible exact laws_qInts.mono _ _ _)
      | (with_reducible exact spec_DrawTrackRun.mono _ _)
      | (with_reducible exact spec_MovesMade.mono _ _ _ _ _)
      | (with_reducible exact spec_SettlesAfter.mono _ _ _ _)
      | (with_reducible exact spec_TrackRun.mono _ _ _ _ _)
      | (with_reducible exact spec_TrackStep.mono _ _ _ _ _)
      | (with_reducible exact spec_WorstOffset.mono _ _ _ _ _)
      | (with_reducible exact LeO.refl _)
      | (with_reducible exact LeO.none _)
      | (with_reducible refine LeO.ite ?_ ?_)
      | (with_reducible refine LeO.bind ?_ (fun _ => ?_))
      | exact ih0 _ _ _ _ _ _ _ _ _ _ _ _ _ _ _
      | exact ih1 _ _ _ _ _ _ _ _ _ _ _ _ _ _
      | exact ih2 _ _ _ _ _ _ _ _ _
      | exact ih3 _ _ _ _ _ _ _ _ _ _ _ _ _ _
      | exact ih4 _ _ _ _ _ _ _ _ _ _ _ _ _ _ _ _
      | exact ih5 _ _ _ _ _ _ _ _ _ _ _ _ _ _ _
      | exact ih6 _ _ _ _ _ _ _ _ _ _ _ _ _ _ _ _
      | exact impl_MovesMade.mono _ _ _ _ _
      | exact impl_SettlesAfter.mono _ _ _ _
      | exact impl_TrackRun.mono _ _ _ _ _
      | exact impl_TrackStep.mono _ _ _ _ _
      | exact impl_WorstOffset.mono _ _ _ _ _
      | exact laws_qInts.mono _ _ _
      | exact spec_DrawTrackRun.mono _ _
      | exact spec_MovesMade.mono _ _ _ _ _
      | exact spec_SettlesAfter.mono _ _ _ _
      | exact spec_TrackRun.mono _ _ _ _ _
      | exact spec_TrackStep.mono _ _ _ _ _
      | exact spec_WorstOffset.mono _ _ _ _ _
      | exact LeO.none _
      | refine LeO.ite ?_ ?_
      | refine LeO.bind ?_ (fun _ => ?_)
    · intro y0 y1 y2 y3 y4 y5 y6 y7 y8 y9 y10 y11 y12 y13 y14 y15
      unfold laws_FnTracking.l0
      repeat' first
      | (with_reducible exact ih0 _ _ _ _ _ _ _ _ _ _ _ _ _ _ _)
      | (with_reducible exact ih1 _ _ _ _ _ _ _ _ _ _ _ _ _ _)
      | (with_reducible exact ih2 _ _ _ _ _ _ _ _ _)
      | (with_reducible exact ih3 _ _ _ _ _ _ _ _ _ _ _ _ _ _)
      | (with_reducible exact ih4 _ _ _ _ _ _ _ _ _ _ _ _ _ _ _ _)
      | (with_reducible exact ih5 _ _ _ _ _ _ _ _ _ _ _ _ _ _ _)
      | (with_reducible exact ih6 _ _ _ _ _ _ _ _ _ _ _ _ _ _ _ _)
      | (with_reducible exact impl_MovesMade.mono _ _ _ _ _)
      | (with_reducible exact impl_SettlesAfter.mono _ _ _ _)
      | (with_reducible exact impl_TrackRun.mono _ _ _ _ _)
      | (with_reducible exact impl_TrackStep.mono _ _ _ _ _)
      | (with_reducible exact impl_WorstOffset.mono _ _ _ _ _)
      | (with_reducible exact laws_qInts.mono _ _ _)
      | (with_reducible exact spec_DrawTrackRun.mono _ _)
      | (with_reducible exact spec_MovesMade.mono _ _ _ _ _)
      | (with_reducible exact spec_SettlesAfter.mono _ _ _ _)
      | (with_reducible exact spec_TrackRun.mono _ _ _ _ _)
      | (with_reducible exact spec_TrackStep.mono _ _ _ _ _)
      | (with_reducible exact spec_WorstOffset.mono _ _ _ _ _)
      | (with_reducible exact LeO.refl _)
      | (with_reducible exact LeO.none _)
      | (with_reducible refine LeO.ite ?_ ?_)
      | (with_reducible refine LeO.bind ?_ (fun _ => ?_))
      | exact ih0 _ _ _ _ _ _ _ _ _ _ _ _ _ _ _
      | exact ih1 _ _ _ _ _ _ _ _ _ _ _ _ _ _
      | exact ih2 _ _ _ _ _ _ _ _ _
      | exact ih3 _ _ _ _ _ _ _ _ _ _ _ _ _ _
      | exact ih4 _ _ _ _ _ _ _ _ _ _ _ _ _ _ _ _
      | exact ih5 _ _ _ _ _ _ _ _ _ _ _ _ _ _ _
      | exact ih6 _ _ _ _ _ _ _ _ _ _ _ _ _ _ _ _
      | exact impl_MovesMade.mono _ _ _ _ _
      | exact impl_SettlesAfter.mono _ _ _ _
      | exact impl_TrackRun.mono _ _ _ _ _
      | exact impl_TrackStep.mono _ _ _ _ _
      | exact impl_WorstOffset.mono _ _ _ _ _
      | exact laws_qInts.mono _ _ _
      | exact spec_DrawTrackRun.mono _ _
      | exact spec_MovesMade.mono _ _ _ _ _
      | exact spec_SettlesAfter.mono _ _ _ _
      | exact spec_TrackRun.mono _ _ _ _ _
      | exact spec_TrackStep.mono _ _ _ _ _
      | exact spec_WorstOffset.mono _ _ _ _ _
      | exact LeO.none _
      | refine LeO.ite ?_ ?_
      | refine LeO.bind ?_ (fun _ => ?_)
theorem laws_FnTracking.mono : ∀ a0 a1 k, LeO (laws_FnTracking.f k a0 a1) (laws_FnTracking.f (k + 1) a0 a1) := by
  intro a0 a1 k
  obtain ⟨ih0, ih1, ih2, ih3, ih4, ih5, ih6⟩ := laws_FnTracking.mono_l k
  unfold laws_FnTracking.f
  repeat' first
      | (with_reducible exact ih0 _ _ _ _ _ _ _ _ _ _ _ _ _ _ _)
      | (with_reducible exact ih1 _ _ _ _ _ _ _ _ _ _ _ _ _ _)
      | (with_reducible exact ih2 _ _ _ _ _ _ _ _ _)
      | (with_reducible exact ih3 _ _ _ _ _ _ _ _ _ _ _ _ _ _)
      | (with_reducible exact ih4 _ _ _ _ _ _ _ _ _ _ _ _ _ _ _ _)
      | (with_reducible exact ih5 _ _ _ _ _ _ _ _ _ _ _ _ _ _ _)
      | (with_reducible exact ih6 _ _ _ _ _ _ _ _ _ _ _ _ _ _ _ _)
      | (with_reducible exact impl_MovesMade.mono _ _ _ _ _)
      | (with_reducible exact impl_SettlesAfter.mono _ _ _ _)
      | (with_reducible exact impl_TrackRun.mono _ _ _ _ _)
      | (with_reducible exact impl_TrackStep.mono _ _ _ _ _)
      | (with_reducible exact impl_WorstOffset.mono _ _ _ _ _)
      | (with_reducible exact laws_qInts.mono _ _ _)
      | (with_reducible exact spec_DrawTrackRun.mono _ _)
      | (with_reducible exact spec_MovesMade.mono _ _ _ _ _)
      | (with_reducible exact spec_SettlesAfter.mono _ _ _ _)
      | (with_reducible exact spec_TrackRun.mono _ _ _ _ _)
      | (with_reducible exact spec_TrackStep.mono _ _ _ _ _)
      | (with_reducible exact spec_WorstOffset.mono _ _ _ _ _)
      | (with_reducible exact LeO.refl _)
      | (with_reducible exact LeO.none _)
      | (with_reducible refine LeO.ite ?_ ?_)
      | (with_reducible refine LeO.bind ?_ (fun _ => ?_))
      | exact ih0 _ _ _ _ _ _ _ _ _ _ _ _ _ _ _
      | exact ih1 _ _ _ _ _ _ _ _ _ _ _ _ _ _
      | exact ih2 _ _ _ _ _ _ _ _ _
      | exact ih3 _ _ _ _ _ _ _ _ _ _ _ _ _ _
      | exact ih4 _ _ _ _ _ _ _ _ _ _ _ _ _ _ _ _
      | exact ih5 _ _ _ _ _ _ _ _ _ _ _ _ _ _ _
      | exact ih6 _ _ _ _ _ _ _ _ _ _ _ _ _ _ _ _
      | exact impl_MovesMade.mono _ _ _ _ _
      | exact impl_SettlesAfter.mono _ _ _ _
      | exact impl_TrackRun.mono _ _ _ _ _
      | exact impl_TrackStep.mono _ _ _ _ _
      | exact impl_WorstOffset.mono _ _ _ _ _
      | exact laws_qInts.mono _ _ _
      | exact spec_DrawTrackRun.mono _ _
      | exact spec_MovesMade.mono _ _ _ _ _
      | exact spec_SettlesAfter.mono _ _ _ _
      | exact spec_TrackRun.mono _ _ _ _ _
      | exact spec_TrackStep.mono _ _ _ _ _
      | exact spec_WorstOffset.mono _ _ _ _ _
      | exact LeO.none _
      | refine LeO.ite ?_ ?_
      | refine LeO.bind ?_ (fun _ => ?_)
theorem laws_FnTracking.gq {P : Program} {i : Nat} {ops : Array Oper} {Q : Exit → Act → World → Prop} {a : Act} {W : World} (h : (Code.region i ops true).wp P Q a W) : (Code.region i ops true).wp P Q a W := h

end Go.Proofs.Ytepkedhmbfkenaa.PTk
