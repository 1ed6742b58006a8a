-- Written for this claim by a program of this session (wip/tpl/patchprint.py), not by print.sh.
import Derived.Test.YtepkedhmbfkenaaPTbx0
import Derived.Test.YtepkedhmbfkenaaPTbx1
import Derived.Test.YtepkedhmbfkenaaPTbx4
import Derived.Test.YtepkedhmbfkenaaPTbx9
import Derived.Test.YtepkedhmbfkenaaPTbx10
import Derived.Test.YtepkedhmbfkenaaPTbx11
namespace Go.Proofs.Ytepkedhmbfkenaa.PTb
open Go.RowKit Go.Proofs.YtepkedhmbfkenaaW.PrintWords Go.Proofs.YtepkedhmbfkenaaW.PrintLast Go.Proofs.YtepkedhmbfkenaaW.PrintMore
attribute [local go_sem] max2_int min2_int max_two min_two max_three min_three max_four min_four   -- for this text's walks alone
set_option linter.unusedVariables false
set_option linter.unusedSimpArgs false

/-! ### impl_LeastGain: function 72 -/
mutual
def impl_LeastGain.j0 : Nat → Int → Int → List Int → Int → Bool → Option (Int × Bool)
  | 0, _, _, _, _, _ => none
  | k + 1, x0, x1, x2, x3, x23 => if x23 = true then (some (0, false)) else (impl_LeastGain.l0 k x0 x1 x2 x3 1)
def impl_LeastGain.l0 : Nat → Int → Int → List Int → Int → Int → Option (Int × Bool)
  | 0, _, _, _, _, _ => none
  | k + 1, x0, x1, x2, x3, x10 => if x10 ≤ 100 then ((impl_WorstOffset.f k x0 x10 x1 x2).bind fun bt556 => (if bt556.2 = true then (if bt556.1 ≤ x3 then (some (x10, true)) else (impl_LeastGain.l0 k x0 x1 x2 x3 (wrap64 (x10 + 1)))) else (impl_LeastGain.l0 k x0 x1 x2 x3 (wrap64 (x10 + 1))))) else (some (0, false))
end
def impl_LeastGain.f (k : Nat) (a0 : Int) (a1 : Int) (l2 : List Int) (a3 : Int) : Option (Int × Bool) := (impl_isRun.f k a0 1 a1 l2).bind fun t554 => (if t554 = true then ((impl_isLimit.f a3).bind fun t555 => (impl_LeastGain.j0 k a0 a1 l2 a3 (!t555))) else (impl_LeastGain.j0 k a0 a1 l2 a3 true))
theorem impl_LeastGain.mono_l : ∀ k, (∀ y0 y1 y2 y3 y4, LeO (impl_LeastGain.j0 k y0 y1 y2 y3 y4) (impl_LeastGain.j0 (k + 1) y0 y1 y2 y3 y4)) ∧ (∀ y0 y1 y2 y3 y4, LeO (impl_LeastGain.l0 k y0 y1 y2 y3 y4) (impl_LeastGain.l0 (k + 1) y0 y1 y2 y3 y4))
  | 0 => ⟨fun _ _ _ _ _ r h => by simp [impl_LeastGain.j0] at h, fun _ _ _ _ _ r h => by simp [impl_LeastGain.l0] at h⟩
  | k + 1 => by
    obtain ⟨ih0, ih1⟩ := impl_LeastGain.mono_l k
    refine ⟨?_, ?_⟩
    · intro y0 y1 y2 y3 y4
      unfold impl_LeastGain.j0
      repeat' first
      | (with_reducible exact ih0 _ _ _ _ _)
      | (with_reducible exact ih1 _ _ _ _ _)
      | (with_reducible exact impl_WorstOffset.mono _ _ _ _ _)
      | (with_reducible exact impl_isRun.mono _ _ _ _ _)
      | (with_reducible exact LeO.refl _)
      | (with_reducible exact LeO.none _)
      | (with_reducible refine LeO.ite ?_ ?_)
      | (with_reducible refine LeO.bind ?_ (fun _ => ?_))
      | exact ih0 _ _ _ _ _
      | exact ih1 _ _ _ _ _
      | exact impl_WorstOffset.mono _ _ _ _ _
      | exact impl_isRun.mono _ _ _ _ _
      | exact LeO.none _
      | refine LeO.ite ?_ ?_
      | refine LeO.bind ?_ (fun _ => ?_)
    · intro y0 y1 y2 y3 y4
      unfold impl_LeastGain.l0
      repeat' first
      | (with_reducible exact ih0 _ _ _ _ _)
      | (with_reducible exact ih1 _ _ _ _ _)
      | (with_reducible exact impl_WorstOffset.mono _ _ _ _ _)
      | (with_reducible exact impl_isRun.mono _ _ _ _ _)
      | (with_reducible exact LeO.refl _)
      | (with_reducible exact LeO.none _)
      | (with_reducible refine LeO.ite ?_ ?_)
      | (with_reducible refine LeO.bind ?_ (fun _ => ?_))
      | exact ih0 _ _ _ _ _
      | exact ih1 _ _ _ _ _
      | exact impl_WorstOffset.mono _ _ _ _ _
      | exact impl_isRun.mono _ _ _ _ _
      | exact LeO.none _
      | refine LeO.ite ?_ ?_
      | refine LeO.bind ?_ (fun _ => ?_)
theorem impl_LeastGain.mono : ∀ a0 a1 a2 a3 k, LeO (impl_LeastGain.f k a0 a1 a2 a3) (impl_LeastGain.f (k + 1) a0 a1 a2 a3) := by
  intro a0 a1 a2 a3 k
  obtain ⟨ih0, ih1⟩ := impl_LeastGain.mono_l k
  unfold impl_LeastGain.f
  repeat' first
      | (with_reducible exact ih0 _ _ _ _ _)
      | (with_reducible exact ih1 _ _ _ _ _)
      | (with_reducible exact impl_WorstOffset.mono _ _ _ _ _)
      | (with_reducible exact impl_isRun.mono _ _ _ _ _)
      | (with_reducible exact LeO.refl _)
      | (with_reducible exact LeO.none _)
      | (with_reducible refine LeO.ite ?_ ?_)
      | (with_reducible refine LeO.bind ?_ (fun _ => ?_))
      | exact ih0 _ _ _ _ _
      | exact ih1 _ _ _ _ _
      | exact impl_WorstOffset.mono _ _ _ _ _
      | exact impl_isRun.mono _ _ _ _ _
      | exact LeO.none _
      | refine LeO.ite ?_ ?_
      | refine LeO.bind ?_ (fun _ => ?_)
set_option maxHeartbeats 8000000 in
set_option maxRecDepth 100000 in
theorem impl_LeastGain.calls (k : Nat) (a0 : Int) (a1 : Int) (A2 : Option Addr) (c2 : Nat) (l2 : List Int) (a3 : Int) (r1 : Int) (r2 : Bool) (w : World) (hr2 : Kd.C (Kd.int .i64) w A2 l2.length l2) (hc2 : l2.length ≤ c2) (h : impl_LeastGain.f k a0 a1 l2 a3 = some (r1, r2)) :
  Calls Try.prog 72 #[.int .i64 a0, .int .i64 a1, .slice A2 l2.length c2, .int .i64 a3] w fun e w' => e = .returned (.tuple #[.int .i64 r1, .bool r2]) ∧ Below w.heap.size w w' := by
 have hu47 := Try.underlying47
 have HR2 := zm hr2
 have HC2 := zm hc2
 clear hr2 hc2
 have HB := zm (Below.refl w.heap.size w)
 have H : ((impl_isRun.f k a0 1 a1 l2).bind fun t554 => (if t554 = true then ((impl_isLimit.f a3).bind fun t555 => (impl_LeastGain.j0 k a0 a1 l2 a3 (!t555))) else (impl_LeastGain.j0 k a0 a1 l2 a3 true))) = some (r1, r2) := h
 clear h
 have HC5 := zm H
 clear H
 go_enter Try.func72, Try.ntmps72
 go_upto_region 1 with (fail)
 go_cut [23] (fun v23 wc => ∃ (kq : Nat) (x23_4 : Bool), v23 = .bool x23_4 ∧ Aside0 (impl_LeastGain.j0 kq a0 a1 l2 a3 x23_4 = some (r1, r2)) ∧ Aside0 (kq ≤ k) ∧ Aside0 (Below w.heap.size w wc))
 case first =>
  have H := HC5.out
  clear HC5
  replace H := Option.bind_eq_some_iff.mp H
  obtain ⟨t554, A60, H⟩ := H
  (try dsimp only at H)
  have A6 := zm A60
  clear A60
  by_cases c7 : t554 = true
  ·
   subst c7
   have H1 : ((impl_isLimit.f a3).bind fun t555 => (impl_LeastGain.j0 k a0 a1 l2 a3 (!t555))) = some (r1, r2) := by rw [if_pos rfl] at H; exact H
   clear H
   have H := H1
   clear H1
   replace H := Option.bind_eq_some_iff.mp H
   obtain ⟨t555, A80, H⟩ := H
   (try dsimp only at H)
   have A8 := zm A80
   clear A80
   have H' := zm H
   clear H
   go_wp2_with (first | ((with_reducible refine gate_callee (f := 115) rfl ?_); refine goesA_ (some 17) Try.func115 #[.agg #[.int .i64 a0, .int .i64 1], .int .i64 a1, .slice A2 l2.length c2] rfl ?_; (with_reducible refine (impl_isRun.calls k a0 1 a1 _ _ l2 true _ ?side1 ?side2 A6.out).mono ?_); (case side1 => repeat (first | exact (Kd.C_below HR2.out HB.out) | (with_reducible refine Kd.C_alloc ?_ _) | (with_reducible refine Kd.C_drewN ?_ _) | (with_reducible refine Kd.C_drew ?_))); (case side2 => exact HC2.out); rintro e w9 ⟨rfl, hb⟩; refine ⟨_, rfl, ?_⟩; have n0_ := zm (below_step zb hb); clear HB; have HB := n0_; clear n0_; (try clear hb); (try clear hb2); (try clear hk); (try clear hi)) | (go_at_call 105; (with_reducible refine (impl_isLimit.calls a3 t555 _ A8.out).mono ?_); rintro e w' ⟨rfl, ⟨nd, rfl⟩⟩))
   go_meet
   case rel => exact ⟨_, (!t555), (by first | rfl | (simp; done) | (simp [*]; done)), H', ⟨by first | omega | exact Nat.le_refl _⟩, ⟨zb⟩⟩
  ·
   replace c7 := Bool.eq_false_iff.mpr c7
   subst c7
   have H1 : (impl_LeastGain.j0 k a0 a1 l2 a3 true) = some (r1, r2) := by rw [if_neg (show ¬ (false = true) by decide)] at H; exact H
   clear H
   have H := H1
   clear H1
   have H' := zm H
   clear H
   go_wp2_with (first | ((with_reducible refine gate_callee (f := 115) rfl ?_); refine goesA_ (some 17) Try.func115 #[.agg #[.int .i64 a0, .int .i64 1], .int .i64 a1, .slice A2 l2.length c2] rfl ?_; (with_reducible refine (impl_isRun.calls k a0 1 a1 _ _ l2 false _ ?side1 ?side2 A6.out).mono ?_); (case side1 => repeat (first | exact (Kd.C_below HR2.out HB.out) | (with_reducible refine Kd.C_alloc ?_ _) | (with_reducible refine Kd.C_drewN ?_ _) | (with_reducible refine Kd.C_drew ?_))); (case side2 => exact HC2.out); rintro e w10 ⟨rfl, hb⟩; refine ⟨_, rfl, ?_⟩; have n0_ := zm (below_step zb hb); clear HB; have HB := n0_; clear n0_; (try clear hb); (try clear hb2); (try clear hk); (try clear hi)))
   go_meet
   case rel => exact ⟨_, (true), (by first | rfl | (simp; done) | (simp [*]; done)), H', ⟨by first | omega | exact Nat.le_refl _⟩, ⟨zb⟩⟩
 case rest =>
  clear HC5
  (try clear c1); (try clear c2); (try clear p2); (try clear c7)
  obtain ⟨kq, x23_4, rfl, HA, HJ4, HB⟩ := hcut
  cases kq with
  | zero => exact absurd HA.out (by simp [impl_LeastGain.j0])
  | succ kj4 =>
   have H := HA.out
   clear HA
   simp only [impl_LeastGain.j0] at H
   by_cases c11 : x23_4 = true
   ·
    subst c11
    have H1 : (some (0, false)) = some (r1, r2) := by rw [if_pos rfl] at H; exact H
    clear H
    have H := H1
    clear H1
    simp only [Option.some.injEq, Prod.mk.injEq] at H
    obtain ⟨rfl, rfl⟩ := H
    go_wp2
    go_ret2
    exact ⟨zr, zb⟩
   ·
    replace c11 := Bool.eq_false_iff.mpr c11
    subst c11
    have H1 : (impl_LeastGain.l0 kj4 a0 a1 l2 a3 1) = some (r1, r2) := by rw [if_neg (show ¬ (false = true) by decide)] at H; exact H
    clear H
    have H := H1
    clear H1
    have H' := zm H
    clear H
    go_wp2
    go_loopg [10] kj4 (fun kq v10 w' => ∃ (x10_2 : Int), v10 = .int .i64 x10_2 ∧ Aside0 (impl_LeastGain.l0 kq a0 a1 l2 a3 x10_2 = some (r1, r2)) ∧ Aside0 (kq ≤ kj4) ∧ Aside0 (Below w.heap.size w w'))
    case atStart => exact ⟨(1), (by first | rfl | (simp; done) | (simp [*]; done)), H', ⟨Nat.le_refl _⟩, ⟨zb⟩⟩
    case round =>
     clear H'
     (try clear c1); (try clear c2); (try clear p2); (try clear c7); (try clear c11); (try clear p2)
     obtain ⟨x10_2, rfl, HA, HK2, HB⟩ := hrel
     cases gk with
     | zero => exact absurd HA.out (by simp [impl_LeastGain.l0])
     | succ k2 =>
      have H := HA.out
      clear HA
      simp only [impl_LeastGain.l0] at H
      by_cases c12 : x10_2 ≤ 100
      ·
       rw [if_pos c12] at H
       have c12b0 : decide (x10_2 ≤ 100) = true := decide_eq_true c12
       clear c12
       replace H := Option.bind_eq_some_iff.mp H
       obtain ⟨⟨t556, t557⟩, A130, H⟩ := H
       (try dsimp only at H)
       have A13 := zm A130
       clear A130
       by_cases c14 : t557 = true
       ·
        subst c14
        have H1 : (if t556 ≤ a3 then (some (x10_2, true)) else (impl_LeastGain.l0 k2 a0 a1 l2 a3 (wrap64 (x10_2 + 1)))) = some (r1, r2) := by rw [if_pos rfl] at H; exact H
        clear H
        have H := H1
        clear H1
        by_cases c15 : t556 ≤ a3
        ·
         rw [if_pos c15] at H
         have c15b0 : decide (t556 ≤ a3) = true := decide_eq_true c15
         clear c15
         simp only [Option.some.injEq, Prod.mk.injEq] at H
         obtain ⟨rfl, rfl⟩ := H
         go_wp2_with (first | ((with_reducible refine gate_callee (f := 39) rfl ?_); refine goesA_ (some 34) Try.func39 #[.agg #[.int .i64 a0, .int .i64 x10_2], .int .i64 a1, .slice A2 l2.length c2] rfl ?_; (with_reducible refine (impl_WorstOffset.calls k2 a0 x10_2 a1 _ _ l2 t556 true _ ?side1 ?side2 A13.out).mono ?_); (case side1 => repeat (first | exact (Kd.C_below HR2.out HB.out) | (with_reducible refine Kd.C_alloc ?_ _) | (with_reducible refine Kd.C_drewN ?_ _) | (with_reducible refine Kd.C_drew ?_))); (case side2 => exact HC2.out); rintro e w16 ⟨rfl, hb⟩; refine ⟨_, rfl, ?_⟩; have n0_ := zm (below_step zb hb); clear HB; have HB := n0_; clear n0_; (try clear hb); (try clear hb2); (try clear hk); (try clear hi)))
         go_ret2
         exact ⟨zr, zb⟩
        ·
         rw [if_neg c15] at H
         have c15b0 : decide (t556 ≤ a3) = false := decide_eq_false c15
         clear c15
         have H' := zm H
         clear H
         go_wp2_with (first | ((with_reducible refine gate_callee (f := 39) rfl ?_); refine goesA_ (some 34) Try.func39 #[.agg #[.int .i64 a0, .int .i64 x10_2], .int .i64 a1, .slice A2 l2.length c2] rfl ?_; (with_reducible refine (impl_WorstOffset.calls k2 a0 x10_2 a1 _ _ l2 t556 true _ ?side1 ?side2 A13.out).mono ?_); (case side1 => repeat (first | exact (Kd.C_below HR2.out HB.out) | (with_reducible refine Kd.C_alloc ?_ _) | (with_reducible refine Kd.C_drewN ?_ _) | (with_reducible refine Kd.C_drew ?_))); (case side2 => exact HC2.out); rintro e w17 ⟨rfl, hb⟩; refine ⟨_, rfl, ?_⟩; have n0_ := zm (below_step zb hb); clear HB; have HB := n0_; clear n0_; (try clear hb); (try clear hb2); (try clear hk); (try clear hi)))
         go_roundg k2
         case measure => have := HJ4.out; have := HK2.out; omega
         case rel => exact ⟨(wrap64 (x10_2 + 1)), (by first | rfl | (simp; done) | (simp [*]; done)), H', ⟨by have := HJ4.out; have := HK2.out; omega⟩, ⟨zb⟩⟩
       ·
        replace c14 := Bool.eq_false_iff.mpr c14
        subst c14
        have H1 : (impl_LeastGain.l0 k2 a0 a1 l2 a3 (wrap64 (x10_2 + 1))) = some (r1, r2) := by rw [if_neg (show ¬ (false = true) by decide)] at H; exact H
        clear H
        have H := H1
        clear H1
        have H' := zm H
        clear H
        go_wp2_with (first | ((with_reducible refine gate_callee (f := 39) rfl ?_); refine goesA_ (some 34) Try.func39 #[.agg #[.int .i64 a0, .int .i64 x10_2], .int .i64 a1, .slice A2 l2.length c2] rfl ?_; (with_reducible refine (impl_WorstOffset.calls k2 a0 x10_2 a1 _ _ l2 t556 false _ ?side1 ?side2 A13.out).mono ?_); (case side1 => repeat (first | exact (Kd.C_below HR2.out HB.out) | (with_reducible refine Kd.C_alloc ?_ _) | (with_reducible refine Kd.C_drewN ?_ _) | (with_reducible refine Kd.C_drew ?_))); (case side2 => exact HC2.out); rintro e w18 ⟨rfl, hb⟩; refine ⟨_, rfl, ?_⟩; have n0_ := zm (below_step zb hb); clear HB; have HB := n0_; clear n0_; (try clear hb); (try clear hb2); (try clear hk); (try clear hi)))
        go_roundg k2
        case measure => have := HJ4.out; have := HK2.out; omega
        case rel => exact ⟨(wrap64 (x10_2 + 1)), (by first | rfl | (simp; done) | (simp [*]; done)), H', ⟨by have := HJ4.out; have := HK2.out; omega⟩, ⟨zb⟩⟩
      ·
       rw [if_neg c12] at H
       have c12b0 : decide (x10_2 ≤ 100) = false := decide_eq_false c12
       clear c12
       simp only [Option.some.injEq, Prod.mk.injEq] at H
       obtain ⟨rfl, rfl⟩ := H
       go_wp2
       go_ret2
       exact ⟨zr, zb⟩

/-! ### spec_LeastGain: function 73 -/
mutual
def spec_LeastGain.j0 : Nat → Int → Int → List Int → Int → Bool → Option (Int × Bool)
  | 0, _, _, _, _, _ => none
  | k + 1, x0, x1, x2, x3, x23 => if x23 = true then (some (0, false)) else (spec_LeastGain.l0 k x0 x1 x2 x3 1)
def spec_LeastGain.l0 : Nat → Int → Int → List Int → Int → Int → Option (Int × Bool)
  | 0, _, _, _, _, _ => none
  | k + 1, x0, x1, x2, x3, x10 => if x10 ≤ 100 then ((spec_tkWorst.f k x0 x10 x1 x2).bind fun bt560 => (if bt560.2 = true then (if bt560.1 ≤ x3 then (some (x10, true)) else (spec_LeastGain.l0 k x0 x1 x2 x3 (wrap64 (x10 + 1)))) else (spec_LeastGain.l0 k x0 x1 x2 x3 (wrap64 (x10 + 1))))) else (some (0, false))
end
def spec_LeastGain.f (k : Nat) (a0 : Int) (a1 : Int) (l2 : List Int) (a3 : Int) : Option (Int × Bool) := (spec_tkAsked.f k a0 1 a1 l2).bind fun t558 => (if t558 = true then ((spec_l1In.f a3 0 2000).bind fun t559 => (spec_LeastGain.j0 k a0 a1 l2 a3 (!t559))) else (spec_LeastGain.j0 k a0 a1 l2 a3 true))
theorem spec_LeastGain.mono_l : ∀ k, (∀ y0 y1 y2 y3 y4, LeO (spec_LeastGain.j0 k y0 y1 y2 y3 y4) (spec_LeastGain.j0 (k + 1) y0 y1 y2 y3 y4)) ∧ (∀ y0 y1 y2 y3 y4, LeO (spec_LeastGain.l0 k y0 y1 y2 y3 y4) (spec_LeastGain.l0 (k + 1) y0 y1 y2 y3 y4))
  | 0 => ⟨fun _ _ _ _ _ r h => by simp [spec_LeastGain.j0] at h, fun _ _ _ _ _ r h => by simp [spec_LeastGain.l0] at h⟩
  | k + 1 => by
    obtain ⟨ih0, ih1⟩ := spec_LeastGain.mono_l k
    refine ⟨?_, ?_⟩
    · intro y0 y1 y2 y3 y4
      unfold spec_LeastGain.j0
      repeat' first
      | (with_reducible exact ih0 _ _ _ _ _)
      | (with_reducible exact ih1 _ _ _ _ _)
      | (with_reducible exact spec_tkAsked.mono _ _ _ _ _)
      | (with_reducible exact spec_tkWorst.mono _ _ _ _ _)
      | (with_reducible exact LeO.refl _)
      | (with_reducible exact LeO.none _)
      | (with_reducible refine LeO.ite ?_ ?_)
      | (with_reducible refine LeO.bind ?_ (fun _ => ?_))
      | exact ih0 _ _ _ _ _
      | exact ih1 _ _ _ _ _
      | exact spec_tkAsked.mono _ _ _ _ _
      | exact spec_tkWorst.mono _ _ _ _ _
      | exact LeO.none _
      | refine LeO.ite ?_ ?_
      | refine LeO.bind ?_ (fun _ => ?_)
    · intro y0 y1 y2 y3 y4
      unfold spec_LeastGain.l0
      repeat' first
      | (with_reducible exact ih0 _ _ _ _ _)
      | (with_reducible exact ih1 _ _ _ _ _)
      | (with_reducible exact spec_tkAsked.mono _ _ _ _ _)
      | (with_reducible exact spec_tkWorst.mono _ _ _ _ _)
      | (with_reducible exact LeO.refl _)
      | (with_reducible exact LeO.none _)
      | (with_reducible refine LeO.ite ?_ ?_)
      | (with_reducible refine LeO.bind ?_ (fun _ => ?_))
      | exact ih0 _ _ _ _ _
      | exact ih1 _ _ _ _ _
      | exact spec_tkAsked.mono _ _ _ _ _
      | exact spec_tkWorst.mono _ _ _ _ _
      | exact LeO.none _
      | refine LeO.ite ?_ ?_
      | refine LeO.bind ?_ (fun _ => ?_)
theorem spec_LeastGain.mono : ∀ a0 a1 a2 a3 k, LeO (spec_LeastGain.f k a0 a1 a2 a3) (spec_LeastGain.f (k + 1) a0 a1 a2 a3) := by
  intro a0 a1 a2 a3 k
  obtain ⟨ih0, ih1⟩ := spec_LeastGain.mono_l k
  unfold spec_LeastGain.f
  repeat' first
      | (with_reducible exact ih0 _ _ _ _ _)
      | (with_reducible exact ih1 _ _ _ _ _)
      | (with_reducible exact spec_tkAsked.mono _ _ _ _ _)
      | (with_reducible exact spec_tkWorst.mono _ _ _ _ _)
      | (with_reducible exact LeO.refl _)
      | (with_reducible exact LeO.none _)
      | (with_reducible refine LeO.ite ?_ ?_)
      | (with_reducible refine LeO.bind ?_ (fun _ => ?_))
      | exact ih0 _ _ _ _ _
      | exact ih1 _ _ _ _ _
      | exact spec_tkAsked.mono _ _ _ _ _
      | exact spec_tkWorst.mono _ _ _ _ _
      | exact LeO.none _
      | refine LeO.ite ?_ ?_
      | refine LeO.bind ?_ (fun _ => ?_)
set_option maxHeartbeats 8000000 in
set_option maxRecDepth 100000 in
theorem spec_LeastGain.calls (k : Nat) (a0 : Int) (a1 : Int) (A2 : Option Addr) (c2 : Nat) (l2 : List Int) (a3 : Int) (r1 : Int) (r2 : Bool) (w : World) (hr2 : Kd.C (Kd.int .i64) w A2 l2.length l2) (hc2 : l2.length ≤ c2) (h : spec_LeastGain.f k a0 a1 l2 a3 = some (r1, r2)) :
  Calls Try.prog 73 #[.int .i64 a0, .int .i64 a1, .slice A2 l2.length c2, .int .i64 a3] w fun e w' => e = .returned (.tuple #[.int .i64 r1, .bool r2]) ∧ Below w.heap.size w w' := by
 have hu47 := Try.underlying47
 have HR2 := zm hr2
 have HC2 := zm hc2
 clear hr2 hc2
 have HB := zm (Below.refl w.heap.size w)
 have H : ((spec_tkAsked.f k a0 1 a1 l2).bind fun t558 => (if t558 = true then ((spec_l1In.f a3 0 2000).bind fun t559 => (spec_LeastGain.j0 k a0 a1 l2 a3 (!t559))) else (spec_LeastGain.j0 k a0 a1 l2 a3 true))) = some (r1, r2) := h
 clear h
 have HC5 := zm H
 clear H
 go_enter Try.func73, Try.ntmps73
 go_upto_region 1 with (fail)
 go_cut [23] (fun v23 wc => ∃ (kq : Nat) (x23_4 : Bool), v23 = .bool x23_4 ∧ Aside0 (spec_LeastGain.j0 kq a0 a1 l2 a3 x23_4 = some (r1, r2)) ∧ Aside0 (kq ≤ k) ∧ Aside0 (Below w.heap.size w wc))
 case first =>
  have H := HC5.out
  clear HC5
  replace H := Option.bind_eq_some_iff.mp H
  obtain ⟨t558, A60, H⟩ := H
  (try dsimp only at H)
  have A6 := zm A60
  clear A60
  by_cases c7 : t558 = true
  ·
   subst c7
   have H1 : ((spec_l1In.f a3 0 2000).bind fun t559 => (spec_LeastGain.j0 k a0 a1 l2 a3 (!t559))) = some (r1, r2) := by rw [if_pos rfl] at H; exact H
   clear H
   have H := H1
   clear H1
   replace H := Option.bind_eq_some_iff.mp H
   obtain ⟨t559, A80, H⟩ := H
   (try dsimp only at H)
   have A8 := zm A80
   clear A80
   have H' := zm H
   clear H
   go_wp2_with (first | ((with_reducible refine gate_callee (f := 117) rfl ?_); refine goesA_ (some 17) Try.func117 #[.agg #[.int .i64 a0, .int .i64 1], .int .i64 a1, .slice A2 l2.length c2] rfl ?_; (with_reducible refine (spec_tkAsked.calls k a0 1 a1 _ _ l2 true _ ?side1 ?side2 A6.out).mono ?_); (case side1 => repeat (first | exact (Kd.C_below HR2.out HB.out) | (with_reducible refine Kd.C_alloc ?_ _) | (with_reducible refine Kd.C_drewN ?_ _) | (with_reducible refine Kd.C_drew ?_))); (case side2 => exact HC2.out); rintro e w9 ⟨rfl, hb⟩; refine ⟨_, rfl, ?_⟩; have n0_ := zm (below_step zb hb); clear HB; have HB := n0_; clear n0_; (try clear hb); (try clear hb2); (try clear hk); (try clear hi)) | (go_at_call 101; (with_reducible refine (spec_l1In.calls a3 0 2000 t559 _ A8.out).mono ?_); rintro e w' ⟨rfl, ⟨nd, rfl⟩⟩))
   go_meet
   case rel => exact ⟨_, (!t559), (by first | rfl | (simp; done) | (simp [*]; done)), H', ⟨by first | omega | exact Nat.le_refl _⟩, ⟨zb⟩⟩
  ·
   replace c7 := Bool.eq_false_iff.mpr c7
   subst c7
   have H1 : (spec_LeastGain.j0 k a0 a1 l2 a3 true) = some (r1, r2) := by rw [if_neg (show ¬ (false = true) by decide)] at H; exact H
   clear H
   have H := H1
   clear H1
   have H' := zm H
   clear H
   go_wp2_with (first | ((with_reducible refine gate_callee (f := 117) rfl ?_); refine goesA_ (some 17) Try.func117 #[.agg #[.int .i64 a0, .int .i64 1], .int .i64 a1, .slice A2 l2.length c2] rfl ?_; (with_reducible refine (spec_tkAsked.calls k a0 1 a1 _ _ l2 false _ ?side1 ?side2 A6.out).mono ?_); (case side1 => repeat (first | exact (Kd.C_below HR2.out HB.out) | (with_reducible refine Kd.C_alloc ?_ _) | (with_reducible refine Kd.C_drewN ?_ _) | (with_reducible refine Kd.C_drew ?_))); (case side2 => exact HC2.out); rintro e w10 ⟨rfl, hb⟩; refine ⟨_, rfl, ?_⟩; have n0_ := zm (below_step zb hb); clear HB; have HB := n0_; clear n0_; (try clear hb); (try clear hb2); (try clear hk); (try clear hi)))
   go_meet
   case rel => exact ⟨_, (true), (by first | rfl | (simp; done) | (simp [*]; done)), H', ⟨by first | omega | exact Nat.le_refl _⟩, ⟨zb⟩⟩
 case rest =>
  clear HC5
  (try clear c1); (try clear c2); (try clear p2); (try clear c7)
  obtain ⟨kq, x23_4, rfl, HA, HJ4, HB⟩ := hcut
  cases kq with
  | zero => exact absurd HA.out (by simp [spec_LeastGain.j0])
  | succ kj4 =>
   have H := HA.out
   clear HA
   simp only [spec_LeastGain.j0] at H
   by_cases c11 : x23_4 = true
   ·
    subst c11
    have H1 : (some (0, false)) = some (r1, r2) := by rw [if_pos rfl] at H; exact H
    clear H
    have H := H1
    clear H1
    simp only [Option.some.injEq, Prod.mk.injEq] at H
    obtain ⟨rfl, rfl⟩ := H
    go_wp2
    go_ret2
    exact ⟨zr, zb⟩
   ·
    replace c11 := Bool.eq_false_iff.mpr c11
    subst c11
    have H1 : (spec_LeastGain.l0 kj4 a0 a1 l2 a3 1) = some (r1, r2) := by rw [if_neg (show ¬ (false = true) by decide)] at H; exact H
    clear H
    have H := H1
    clear H1
    have H' := zm H
    clear H
    go_wp2
    go_loopg [10] kj4 (fun kq v10 w' => ∃ (x10_2 : Int), v10 = .int .i64 x10_2 ∧ Aside0 (spec_LeastGain.l0 kq a0 a1 l2 a3 x10_2 = some (r1, r2)) ∧ Aside0 (kq ≤ kj4) ∧ Aside0 (Below w.heap.size w w'))
    case atStart => exact ⟨(1), (by first | rfl | (simp; done) | (simp [*]; done)), H', ⟨Nat.le_refl _⟩, ⟨zb⟩⟩
    case round =>
     clear H'
     (try clear c1); (try clear c2); (try clear p2); (try clear c7); (try clear c11); (try clear p2)
     obtain ⟨x10_2, rfl, HA, HK2, HB⟩ := hrel
     cases gk with
     | zero => exact absurd HA.out (by simp [spec_LeastGain.l0])
     | succ k2 =>
      have H := HA.out
      clear HA
      simp only [spec_LeastGain.l0] at H
      by_cases c12 : x10_2 ≤ 100
      ·
       rw [if_pos c12] at H
       have c12b0 : decide (x10_2 ≤ 100) = true := decide_eq_true c12
       clear c12
       replace H := Option.bind_eq_some_iff.mp H
       obtain ⟨⟨t560, t561⟩, A130, H⟩ := H
       (try dsimp only at H)
       have A13 := zm A130
       clear A130
       by_cases c14 : t561 = true
       ·
        subst c14
        have H1 : (if t560 ≤ a3 then (some (x10_2, true)) else (spec_LeastGain.l0 k2 a0 a1 l2 a3 (wrap64 (x10_2 + 1)))) = some (r1, r2) := by rw [if_pos rfl] at H; exact H
        clear H
        have H := H1
        clear H1
        by_cases c15 : t560 ≤ a3
        ·
         rw [if_pos c15] at H
         have c15b0 : decide (t560 ≤ a3) = true := decide_eq_true c15
         clear c15
         simp only [Option.some.injEq, Prod.mk.injEq] at H
         obtain ⟨rfl, rfl⟩ := H
         go_wp2_with (first | ((with_reducible refine gate_callee (f := 119) rfl ?_); refine goesA_ (some 34) Try.func119 #[.agg #[.int .i64 a0, .int .i64 x10_2], .int .i64 a1, .slice A2 l2.length c2] rfl ?_; (with_reducible refine (spec_tkWorst.calls k2 a0 x10_2 a1 _ _ l2 t560 true _ ?side1 ?side2 A13.out).mono ?_); (case side1 => repeat (first | exact (Kd.C_below HR2.out HB.out) | (with_reducible refine Kd.C_alloc ?_ _) | (with_reducible refine Kd.C_drewN ?_ _) | (with_reducible refine Kd.C_drew ?_))); (case side2 => exact HC2.out); rintro e w16 ⟨rfl, hb⟩; refine ⟨_, rfl, ?_⟩; have n0_ := zm (below_step zb hb); clear HB; have HB := n0_; clear n0_; (try clear hb); (try clear hb2); (try clear hk); (try clear hi)))
         go_ret2
         exact ⟨zr, zb⟩
        ·
         rw [if_neg c15] at H
         have c15b0 : decide (t560 ≤ a3) = false := decide_eq_false c15
         clear c15
         have H' := zm H
         clear H
         go_wp2_with (first | ((with_reducible refine gate_callee (f := 119) rfl ?_); refine goesA_ (some 34) Try.func119 #[.agg #[.int .i64 a0, .int .i64 x10_2], .int .i64 a1, .slice A2 l2.length c2] rfl ?_; (with_reducible refine (spec_tkWorst.calls k2 a0 x10_2 a1 _ _ l2 t560 true _ ?side1 ?side2 A13.out).mono ?_); (case side1 => repeat (first | exact (Kd.C_below HR2.out HB.out) | (with_reducible refine Kd.C_alloc ?_ _) | (with_reducible refine Kd.C_drewN ?_ _) | (with_reducible refine Kd.C_drew ?_))); (case side2 => exact HC2.out); rintro e w17 ⟨rfl, hb⟩; refine ⟨_, rfl, ?_⟩; have n0_ := zm (below_step zb hb); clear HB; have HB := n0_; clear n0_; (try clear hb); (try clear hb2); (try clear hk); (try clear hi)))
         go_roundg k2
         case measure => have := HJ4.out; have := HK2.out; omega
         case rel => exact ⟨(wrap64 (x10_2 + 1)), (by first | rfl | (simp; done) | (simp [*]; done)), H', ⟨by have := HJ4.out; have := HK2.out; omega⟩, ⟨zb⟩⟩
       ·
        replace c14 := Bool.eq_false_iff.mpr c14
        subst c14
        have H1 : (spec_LeastGain.l0 k2 a0 a1 l2 a3 (wrap64 (x10_2 + 1))) = some (r1, r2) := by rw [if_neg (show ¬ (false = true) by decide)] at H; exact H
        clear H
        have H := H1
        clear H1
        have H' := zm H
        clear H
        go_wp2_with (first | ((with_reducible refine gate_callee (f := 119) rfl ?_); refine goesA_ (some 34) Try.func119 #[.agg #[.int .i64 a0, .int .i64 x10_2], .int .i64 a1, .slice A2 l2.length c2] rfl ?_; (with_reducible refine (spec_tkWorst.calls k2 a0 x10_2 a1 _ _ l2 t560 false _ ?side1 ?side2 A13.out).mono ?_); (case side1 => repeat (first | exact (Kd.C_below HR2.out HB.out) | (with_reducible refine Kd.C_alloc ?_ _) | (with_reducible refine Kd.C_drewN ?_ _) | (with_reducible refine Kd.C_drew ?_))); (case side2 => exact HC2.out); rintro e w18 ⟨rfl, hb⟩; refine ⟨_, rfl, ?_⟩; have n0_ := zm (below_step zb hb); clear HB; have HB := n0_; clear n0_; (try clear hb); (try clear hb2); (try clear hk); (try clear hi)))
        go_roundg k2
        case measure => have := HJ4.out; have := HK2.out; omega
        case rel => exact ⟨(wrap64 (x10_2 + 1)), (by first | rfl | (simp; done) | (simp [*]; done)), H', ⟨by have := HJ4.out; have := HK2.out; omega⟩, ⟨zb⟩⟩
      ·
       rw [if_neg c12] at H
       have c12b0 : decide (x10_2 ≤ 100) = false := decide_eq_false c12
       clear c12
       simp only [Option.some.injEq, Prod.mk.injEq] at H
       obtain ⟨rfl, rfl⟩ := H
       go_wp2
       go_ret2
       exact ⟨zr, zb⟩

/-! ### spec_DrawDrivenOut: function 74 -/
def spec_DrawDrivenOut.f (l0 : List Int) : Option (Int × Int × Int × Int) := (spec_l1Cur_controller.f l0 0 0).bind fun bt564 => ((spec_l1Cur_greatestDrift.f l0 bt564.2.2.1 bt564.2.2.2).bind fun bt568 => ((spec_l1Cur_pick.f l0 bt568.2.1 bt568.2.2 100).bind fun bt571 => ((spec_l1Cur_among.f l0 bt571.2.1 bt571.2.2 (([2001, (-1)] : List Int))).bind fun bt577 => ((spec_l1Cur_among.f l0 bt577.2.1 bt577.2.2 (([0, 5, 20, bt571.1, 2000, bt577.1] : List Int))).bind fun bt583 => (some (bt564.1, bt564.2.1, bt568.1, bt583.1))))))
set_option maxHeartbeats 8000000 in
set_option maxRecDepth 100000 in
theorem spec_DrawDrivenOut.calls (A0 : Option Addr) (c0 : Nat) (l0 : List Int) (r1 : Int) (r2 : Int) (r3 : Int) (r4 : Int) (w : World) (hr0 : Kd.C (Kd.int .u8) w A0 l0.length l0) (hc0 : l0.length ≤ c0) (h : spec_DrawDrivenOut.f l0 = some (r1, r2, r3, r4)) :
  Calls Try.prog 74 #[.slice A0 l0.length c0] w fun e w' => e = .returned (.tuple #[.agg #[.int .i64 r1, .int .i64 r2], .int .i64 r3, .int .i64 r4]) ∧ Below w.heap.size w w' := by
 have hu47 := Try.underlying47
 have hu115 := Try.underlying115
 have HR0 := zm hr0
 have HC0 := zm hc0
 clear hr0 hc0
 have HB := zm (Below.refl w.heap.size w)
 have H : ((spec_l1Cur_controller.f l0 0 0).bind fun bt564 => ((spec_l1Cur_greatestDrift.f l0 bt564.2.2.1 bt564.2.2.2).bind fun bt568 => ((spec_l1Cur_pick.f l0 bt568.2.1 bt568.2.2 100).bind fun bt571 => ((spec_l1Cur_among.f l0 bt571.2.1 bt571.2.2 (([2001, (-1)] : List Int))).bind fun bt577 => ((spec_l1Cur_among.f l0 bt577.2.1 bt577.2.2 (([0, 5, 20, bt571.1, 2000, bt577.1] : List Int))).bind fun bt583 => (some (bt564.1, bt564.2.1, bt568.1, bt583.1))))))) = some (r1, r2, r3, r4) := h
 clear h
 replace H := Option.bind_eq_some_iff.mp H
 obtain ⟨⟨t564, t565, t566, t567⟩, A20, H⟩ := H
 (try dsimp only at H)
 have A2 := zm A20
 clear A20
 replace H := Option.bind_eq_some_iff.mp H
 obtain ⟨⟨t568, t569, t570⟩, A30, H⟩ := H
 (try dsimp only at H)
 have A3 := zm A30
 clear A30
 replace H := Option.bind_eq_some_iff.mp H
 obtain ⟨⟨t571, t572, t573⟩, A40, H⟩ := H
 (try dsimp only at H)
 have A4 := zm A40
 clear A40
 obtain ⟨y574, hy574⟩ : ∃ y_ : List Int, y_ = (([2001, (-1)] : List Int)) := ⟨_, rfl⟩
 replace H : ((spec_l1Cur_among.f l0 t572 t573 y574).bind fun bt577 => ((spec_l1Cur_among.f l0 bt577.2.1 bt577.2.2 (([0, 5, 20, t571, 2000, bt577.1] : List Int))).bind fun bt583 => (some (t564, t565, t568, bt583.1)))) = some (r1, r2, r3, r4) := by first | (rw [hy574]; with_reducible exact H) | (have H2_ := (Option.bind_some _ _).symm.trans H; rw [hy574]; with_reducible exact H2_) | (have H2_ := (Option.bind_some _ _).symm.trans H; with_reducible exact H2_) | with_reducible exact H | (rw [hy574]; exact H) | exact H
 have Ny574 := zm hy574
 clear hy574
 replace H := Option.bind_eq_some_iff.mp H
 obtain ⟨⟨t577, t578, t579⟩, A50, H⟩ := H
 (try dsimp only at H)
 have A5 := zm A50
 clear A50
 obtain ⟨y580, hy580⟩ : ∃ y_ : List Int, y_ = (([0, 5, 20, t571, 2000, t577] : List Int)) := ⟨_, rfl⟩
 replace H : ((spec_l1Cur_among.f l0 t578 t579 y580).bind fun bt583 => (some (t564, t565, t568, bt583.1))) = some (r1, r2, r3, r4) := by first | (rw [hy580]; with_reducible exact H) | (have H2_ := (Option.bind_some _ _).symm.trans H; rw [hy580]; with_reducible exact H2_) | (have H2_ := (Option.bind_some _ _).symm.trans H; with_reducible exact H2_) | with_reducible exact H | (rw [hy580]; exact H) | exact H
 have Ny580 := zm hy580
 clear hy580
 replace H := Option.bind_eq_some_iff.mp H
 obtain ⟨⟨t583, t584, t585⟩, A60, H⟩ := H
 (try dsimp only at H)
 have A6 := zm A60
 clear A60
 simp only [Option.some.injEq, Prod.mk.injEq] at H
 obtain ⟨rfl, rfl, rfl, rfl⟩ := H
 go_enter Try.func74, Try.ntmps74
 go_wp2_with (first | ((with_reducible refine gate_dst (N := 2) rfl ?_); refine box_event ?hg (N := 2) ?hd (cs := #[.int .i64 0, .int .i64 0]) (t := 47) ?hr ?_; (case hd => rfl); (case hg => rfl); (case hr => first | (go_simp; done) | (go_simp; rfl)); intro gb562 hg w7 hbox hb; have n0_ := zm (below_step zb hb); have n1_ := zm (hbox); have n2_ := zm (zs hg zb : w.heap.size ≤ gb562); have n3_ := zm (zs hg zb : w.heap.size ≤ gb562); clear HB; have HB := n0_; have BK562 := n1_; have GW562 := n2_; have GE562 := n3_; clear n0_ n1_ n2_ n3_; clear hb hbox hg) | ((with_reducible refine gate_dst (N := 8) rfl ?_); refine box_event ?hg (N := 8) ?hd (cs := #[.slice A0 l0.length c0, .int .i64 0, .int .u64 0]) (t := 115) ?hr ?_; (case hd => rfl); (case hg => rfl); (case hr => first | (go_simp; done) | (go_simp; rfl)); intro gb563 hg w8 hbox hb; have n0_ := zm (blk_below (g := gb562) zk hb); have n1_ := zm (below_step zb hb); have n2_ := zm ((show IsS115 w _ gb563 l0 0 0 from ⟨_, _, hbox, (by rw [hg]; exact (below_size zb) : w.heap.size ≤ gb563), HR0.out⟩)); have n3_ := zm (zs hg zb : w.heap.size ≤ gb563); have n4_ := zm (zs hg zb : w.heap.size ≤ gb563); have n5_ := zm (zl hg zk : gb562 ≠ gb563); have n6_ := zm (zg hg zk : gb563 ≠ gb562); clear BK562; clear HB; have BK562 := n0_; have HB := n1_; have HI563 := n2_; have GW563 := n3_; have GE563 := n4_; have NB562_563 := n5_; have NB563_562 := n6_; clear n0_ n1_ n2_ n3_ n4_ n5_ n6_; clear hb hbox hg) | ((with_reducible refine gate_callee (f := 112) rfl ?_); refine goesA_ (some 10) Try.func112 #[.pointer (some ⟨gb563, 0, none⟩)] rfl ?_; (with_reducible refine (spec_l1Cur_controller.calls gb563 l0 0 0 t564 t565 t566 t567 w _ ?side1 ?side2 A2.out).mono ?_); (case side1 => repeat (first | (with_reducible first | exact HI563.out | apply IsS115.alloc | apply IsS115.drewN | apply IsS115.drew | apply IsS115.set_1 | apply IsS115.set_2 | refine IsS115.far ?_ NB563_562.out _) | exact HI563.out)); (case side2 => repeat (first | (with_reducible first | exact HB.out | apply below_alloc | apply pw_below_drewN | apply below_drew1 | refine below_set ?_ (IsS115.ge HI563.out) | refine below_set ?_ GE562.out) | exact HB.out)); rintro e w9 ⟨rfl, hi, hb, hk⟩; refine ⟨_, rfl, ?_⟩; have n0_ := zm (KeepBut.blk hk (g' := gb562) (o := .cells #[.int .i64 0, .int .i64 0] 47 (0, 0)) zk NB562_563.out (by simp)); have n1_ := zm (hb); have n2_ := zm (hi); clear BK562; clear HB; clear HI563; have BK562 := n0_; have HB := n1_; have HI563 := n2_; clear n0_ n1_ n2_; (try clear hb); (try clear hb2); (try clear hk); (try clear hi)) | ((with_reducible refine gate_callee (f := 140) rfl ?_); refine goesA_ (some 12) Try.func140 #[.pointer (some ⟨gb563, 0, none⟩)] rfl ?_; (with_reducible refine (spec_l1Cur_greatestDrift.calls gb563 l0 t566 t567 t568 t569 t570 w _ ?side1 ?side2 A3.out).mono ?_); (case side1 => repeat (first | (with_reducible first | exact HI563.out | apply IsS115.alloc | apply IsS115.drewN | apply IsS115.drew | apply IsS115.set_1 | apply IsS115.set_2 | refine IsS115.far ?_ NB563_562.out _) | exact HI563.out)); (case side2 => repeat (first | (with_reducible first | exact HB.out | apply below_alloc | apply pw_below_drewN | apply below_drew1 | refine below_set ?_ (IsS115.ge HI563.out) | refine below_set ?_ GE562.out) | exact HB.out)); rintro e w10 ⟨rfl, hi, hb, hk⟩; refine ⟨_, rfl, ?_⟩; have n0_ := zm (KeepBut.blk hk (g' := gb562) (o := .cells #[.int .i64 0, .int .i64 0] 47 (0, 0)) zk NB562_563.out (by simp)); have n1_ := zm (hb); have n2_ := zm (hi); clear BK562; clear HB; clear HI563; have BK562 := n0_; have HB := n1_; have HI563 := n2_; clear n0_ n1_ n2_; (try clear hb); (try clear hb2); (try clear hk); (try clear hi)) | ((with_reducible refine gate_callee (f := 121) rfl ?_); refine goesA_ (some 15) Try.func121 #[.pointer (some ⟨gb563, 0, none⟩), .int .i64 100] rfl ?_; (with_reducible refine (spec_l1Cur_pick.calls gb563 l0 t569 t570 100 t571 t572 t573 w _ ?side1 ?side2 A4.out).mono ?_); (case side1 => repeat (first | (with_reducible first | exact HI563.out | apply IsS115.alloc | apply IsS115.drewN | apply IsS115.drew | apply IsS115.set_1 | apply IsS115.set_2 | refine IsS115.far ?_ NB563_562.out _) | exact HI563.out)); (case side2 => repeat (first | (with_reducible first | exact HB.out | apply below_alloc | apply pw_below_drewN | apply below_drew1 | refine below_set ?_ (IsS115.ge HI563.out) | refine below_set ?_ GE562.out) | exact HB.out)); rintro e w11 ⟨rfl, hi, hb, hk⟩; refine ⟨_, rfl, ?_⟩; have n0_ := zm (KeepBut.blk hk (g' := gb562) (o := .cells #[.int .i64 0, .int .i64 0] 47 (0, 0)) zk NB562_563.out (by simp)); have n1_ := zm (hb); have n2_ := zm (hi); clear BK562; clear HB; clear HI563; have BK562 := n0_; have HB := n1_; have HI563 := n2_; clear n0_ n1_ n2_; (try clear hb); (try clear hb2); (try clear hk); (try clear hi)) | ((with_reducible refine gate_dst (N := 17) rfl ?_); refine Kd.R_lit (Kd.int .i64) _ 3 ?hg (N := 17) ?hd (xs := ([2001, (-1)] : List Int)) (inner := [.int .i64 2001, .int .i64 (-1)]) (ok := fun _ => True) (okp := fun _ => True) ?hr ?hp (fun _ hk => hk) trivial (Below.refl _ _) (Nat.le_refl _) (by simp) ?_; (case hd => rfl); (case hg => rfl); (case hr => first | (go_simp; done) | (go_simp; rfl)); (case hp => exact (Reps.one (show Kd.M (Kd.int .i64) _ _ _ 2001 [.int .i64 2001] from rfl) (Reps.one (show Kd.M (Kd.int .i64) _ _ _ (-1) [.int .i64 (-1)] from rfl) (Reps.none _ _)))); intro v575 w12 ho13 hb hg_ hnew_; clear hg_ hnew_; (first | rw [← Ny574.out] at ho13 | (simp only [Int.reduceToNat] at ho13; rw [← Ny574.out] at ho13)); have n0_ := zm (Kd.R_lower ho13 (below_size zb)); have n1_ := zm (blk_below (g := gb562) zk hb); have n2_ := zm (IsS115.below z115i hb); have n3_ := zm (below_step zb hb); clear BK562; clear HI563; clear HB; have HO576 := n0_; have BK562 := n1_; have HI563 := n2_; have HB := n3_; clear n0_ n1_ n2_ n3_; clear hb ho13; obtain ⟨Ao14, co14, eo14⟩ := Kd.R_slice HO576.out; subst eo14) | ((with_reducible refine gate_callee (f := 120) rfl ?_); refine goesA_ (some 18) Try.func120 #[.pointer (some ⟨gb563, 0, none⟩), .slice Ao14 y574.length co14] rfl ?_; (with_reducible refine (spec_l1Cur_among.calls gb563 l0 t572 t573 _ _ y574 t577 t578 t579 w _ ?side1 ?side2 ?side3 ?side4 ?side5 A5.out).mono ?_); (case side1 => repeat (first | (with_reducible first | exact HI563.out | apply IsS115.alloc | apply IsS115.drewN | apply IsS115.drew | apply IsS115.set_1 | apply IsS115.set_2 | refine IsS115.far ?_ NB563_562.out _) | exact HI563.out)); (case side2 => repeat (first | (with_reducible first | exact HB.out | apply below_alloc | apply pw_below_drewN | apply below_drew1 | refine below_set ?_ (IsS115.ge HI563.out) | refine below_set ?_ GE562.out) | exact HB.out)); (case side3 => repeat (first | exact (Kd.R_reads' HO576.out).2.2 | (with_reducible refine Kd.C_alloc ?_ _) | (with_reducible refine Kd.C_drewN ?_ _) | (with_reducible refine Kd.C_drew ?_))); (case side4 => exact (Kd.R_reads' HO576.out).2.1); (case side5 => exact far_slice (IsS115.own_ne HI563.out HO576.out (by decide))); rintro e w15 ⟨rfl, hi, hb, hk⟩; refine ⟨_, rfl, ?_⟩; have n0_ := zm (KeepBut.blk hk (g' := gb562) (o := .cells #[.int .i64 0, .int .i64 0] 47 (0, 0)) zk NB562_563.out (by simp)); have n1_ := zm (Kd.R_mono (Kd.R_keep (IsS115.apart (show IsS115 w _ gb563 l0 t572 t573 from z115i) (by (with_reducible repeat (first | apply Kd.R_alloc | apply Kd.R_drewN | apply Kd.R_drew)); exact HO576.out) (by decide)) hk (fun _ h => h.2)) (fun _ h => h.1)); have n2_ := zm (hb); have n3_ := zm (hi); clear BK562; clear HO576; clear HB; clear HI563; have BK562 := n0_; have HO576 := n1_; have HB := n2_; have HI563 := n3_; clear n0_ n1_ n2_ n3_; (try clear hb); (try clear hb2); (try clear hk); (try clear hi)) | ((with_reducible refine gate_dst (N := 19) rfl ?_); refine Kd.R_lit (Kd.int .i64) _ 3 ?hg (N := 19) ?hd (xs := ([0, 5, 20, t571, 2000, t577] : List Int)) (inner := [.int .i64 0, .int .i64 5, .int .i64 20, .int .i64 t571, .int .i64 2000, .int .i64 t577]) (ok := fun _ => True) (okp := fun _ => True) ?hr ?hp (fun _ hk => hk) trivial (Below.refl _ _) (Nat.le_refl _) (by simp) ?_; (case hd => rfl); (case hg => rfl); (case hr => first | (go_simp; done) | (go_simp; rfl)); (case hp => exact (Reps.one (show Kd.M (Kd.int .i64) _ _ _ 0 [.int .i64 0] from rfl) (Reps.one (show Kd.M (Kd.int .i64) _ _ _ 5 [.int .i64 5] from rfl) (Reps.one (show Kd.M (Kd.int .i64) _ _ _ 20 [.int .i64 20] from rfl) (Reps.one (show Kd.M (Kd.int .i64) _ _ _ t571 [.int .i64 t571] from rfl) (Reps.one (show Kd.M (Kd.int .i64) _ _ _ 2000 [.int .i64 2000] from rfl) (Reps.one (show Kd.M (Kd.int .i64) _ _ _ t577 [.int .i64 t577] from rfl) (Reps.none _ _)))))))); intro v581 w16 ho17 hb hg_ hnew_; clear hg_ hnew_; (first | rw [← Ny580.out] at ho17 | (simp only [Int.reduceToNat] at ho17; rw [← Ny580.out] at ho17)); have n0_ := zm (Kd.R_elder' (by (with_reducible repeat (first | apply Kd.R_alloc | apply Kd.R_drewN | apply Kd.R_drew)); exact HO576.out) (Kd.R_base ho17) hb); have n1_ := zm (Kd.R_lower (Kd.R_new' ho17 (Kd.R_lt (by (with_reducible repeat (first | apply Kd.R_alloc | apply Kd.R_drewN | apply Kd.R_drew)); exact HO576.out))) (below_size zb)); have n2_ := zm (blk_below (g := gb562) zk hb); have n3_ := zm (IsS115.below z115i hb); have n4_ := zm (below_step zb hb); clear HO576; clear BK562; clear HI563; clear HB; have HO576 := n0_; have HO582 := n1_; have BK562 := n2_; have HI563 := n3_; have HB := n4_; clear n0_ n1_ n2_ n3_ n4_; clear hb ho17; obtain ⟨Ao18, co18, eo18⟩ := Kd.R_slice HO582.out; subst eo18) | ((with_reducible refine gate_callee (f := 120) rfl ?_); refine goesA_ (some 20) Try.func120 #[.pointer (some ⟨gb563, 0, none⟩), .slice Ao18 y580.length co18] rfl ?_; (with_reducible refine (spec_l1Cur_among.calls gb563 l0 t578 t579 _ _ y580 t583 t584 t585 w _ ?side1 ?side2 ?side3 ?side4 ?side5 A6.out).mono ?_); (case side1 => repeat (first | (with_reducible first | exact HI563.out | apply IsS115.alloc | apply IsS115.drewN | apply IsS115.drew | apply IsS115.set_1 | apply IsS115.set_2 | refine IsS115.far ?_ NB563_562.out _) | exact HI563.out)); (case side2 => repeat (first | (with_reducible first | exact HB.out | apply below_alloc | apply pw_below_drewN | apply below_drew1 | refine below_set ?_ (IsS115.ge HI563.out) | refine below_set ?_ GE562.out) | exact HB.out)); (case side3 => repeat (first | exact (Kd.R_reads' HO582.out).2.2 | (with_reducible refine Kd.C_alloc ?_ _) | (with_reducible refine Kd.C_drewN ?_ _) | (with_reducible refine Kd.C_drew ?_))); (case side4 => exact (Kd.R_reads' HO582.out).2.1); (case side5 => exact far_slice (IsS115.own_ne HI563.out HO582.out (by decide))); rintro e w19 ⟨rfl, hi, hb, hk⟩; refine ⟨_, rfl, ?_⟩; have n0_ := zm (KeepBut.blk hk (g' := gb562) (o := .cells #[.int .i64 0, .int .i64 0] 47 (0, 0)) zk NB562_563.out (by simp)); have n1_ := zm (Kd.R_mono (Kd.R_keep (IsS115.apart (show IsS115 w _ gb563 l0 t578 t579 from z115i) (by (with_reducible repeat (first | apply Kd.R_alloc | apply Kd.R_drewN | apply Kd.R_drew)); exact HO576.out) (by decide)) hk (fun _ h => h.2)) (fun _ h => h.1)); have n2_ := zm (Kd.R_mono (Kd.R_keep (IsS115.apart (show IsS115 w _ gb563 l0 t578 t579 from z115i) (by (with_reducible repeat (first | apply Kd.R_alloc | apply Kd.R_drewN | apply Kd.R_drew)); exact HO582.out) (by decide)) hk (fun _ h => h.2)) (fun _ h => h.1)); have n3_ := zm (hb); have n4_ := zm (hi); clear BK562; clear HO576; clear HO582; clear HB; clear HI563; have BK562 := n0_; have HO576 := n1_; have HO582 := n2_; have HB := n3_; have HI563 := n4_; clear n0_ n1_ n2_ n3_ n4_; (try clear hb); (try clear hb2); (try clear hk); (try clear hi); have hnb20 := NB562_563.out; have hnc20 := NB563_562.out; obtain ⟨hcz21_0, hcz21_1, hfz21_0, hfz21_1⟩ := zc2 BK562.out))
 refine bodyPost_ret (results_ctt rfl _ _ gb562 47 #[.int .i64 t564, .int .i64 t565] (0, 0) _ rfl (by (with_reducible repeat (first | refine blk_drewN ?_ _ | refine blk_drew ?_ | refine blk_alloc ?_ _)); refine blk_put (cs := #[.int .i64 t564, .int .i64 0]) ?_ 1 _ rfl; (with_reducible repeat (first | refine blk_drewN ?_ _ | refine blk_drew ?_ | refine blk_alloc ?_ _)); refine blk_put (cs := #[.int .i64 0, .int .i64 0]) ?_ 0 _ rfl; (with_reducible repeat (first | refine blk_drewN ?_ _ | refine blk_drew ?_ | refine blk_alloc ?_ _)); exact BK562.out) Try.underlying47 rfl (by kernel_rfl)) rfl ?_
 exact ⟨zr, zb⟩

/-! ### spec_DrawIsController: function 75 -/
def spec_DrawIsController.f (l0 : List Int) : Option (Int × Int) := (spec_l1Cur_controller.f l0 0 0).bind fun bt588 => (some (bt588.1, bt588.2.1))
set_option maxHeartbeats 8000000 in
set_option maxRecDepth 100000 in
theorem spec_DrawIsController.calls (A0 : Option Addr) (c0 : Nat) (l0 : List Int) (r1 : Int) (r2 : Int) (w : World) (hr0 : Kd.C (Kd.int .u8) w A0 l0.length l0) (hc0 : l0.length ≤ c0) (h : spec_DrawIsController.f l0 = some (r1, r2)) :
  Calls Try.prog 75 #[.slice A0 l0.length c0] w fun e w' => e = .returned (.agg #[.int .i64 r1, .int .i64 r2]) ∧ Below w.heap.size w w' := by
 have hu47 := Try.underlying47
 have hu115 := Try.underlying115
 have HR0 := zm hr0
 have HC0 := zm hc0
 clear hr0 hc0
 have HB := zm (Below.refl w.heap.size w)
 have H : ((spec_l1Cur_controller.f l0 0 0).bind fun bt588 => (some (bt588.1, bt588.2.1))) = some (r1, r2) := h
 clear h
 replace H := Option.bind_eq_some_iff.mp H
 obtain ⟨⟨t588, t589, t590, t591⟩, A20, H⟩ := H
 (try dsimp only at H)
 have A2 := zm A20
 clear A20
 simp only [Option.some.injEq, Prod.mk.injEq] at H
 obtain ⟨rfl, rfl⟩ := H
 go_enter Try.func75, Try.ntmps75
 go_wp2_with (first | ((with_reducible refine gate_dst (N := 2) rfl ?_); refine box_event ?hg (N := 2) ?hd (cs := #[.int .i64 0, .int .i64 0]) (t := 47) ?hr ?_; (case hd => rfl); (case hg => rfl); (case hr => first | (go_simp; done) | (go_simp; rfl)); intro gb586 hg w3 hbox hb; have n0_ := zm (below_step zb hb); have n1_ := zm (hbox); have n2_ := zm (zs hg zb : w.heap.size ≤ gb586); have n3_ := zm (zs hg zb : w.heap.size ≤ gb586); clear HB; have HB := n0_; have BK586 := n1_; have GW586 := n2_; have GE586 := n3_; clear n0_ n1_ n2_ n3_; clear hb hbox hg) | ((with_reducible refine gate_dst (N := 6) rfl ?_); refine box_event ?hg (N := 6) ?hd (cs := #[.slice A0 l0.length c0, .int .i64 0, .int .u64 0]) (t := 115) ?hr ?_; (case hd => rfl); (case hg => rfl); (case hr => first | (go_simp; done) | (go_simp; rfl)); intro gb587 hg w4 hbox hb; have n0_ := zm (blk_below (g := gb586) zk hb); have n1_ := zm (below_step zb hb); have n2_ := zm ((show IsS115 w _ gb587 l0 0 0 from ⟨_, _, hbox, (by rw [hg]; exact (below_size zb) : w.heap.size ≤ gb587), HR0.out⟩)); have n3_ := zm (zs hg zb : w.heap.size ≤ gb587); have n4_ := zm (zs hg zb : w.heap.size ≤ gb587); have n5_ := zm (zl hg zk : gb586 ≠ gb587); have n6_ := zm (zg hg zk : gb587 ≠ gb586); clear BK586; clear HB; have BK586 := n0_; have HB := n1_; have HI587 := n2_; have GW587 := n3_; have GE587 := n4_; have NB586_587 := n5_; have NB587_586 := n6_; clear n0_ n1_ n2_ n3_ n4_ n5_ n6_; clear hb hbox hg) | ((with_reducible refine gate_callee (f := 112) rfl ?_); refine goesA_ (some 8) Try.func112 #[.pointer (some ⟨gb587, 0, none⟩)] rfl ?_; (with_reducible refine (spec_l1Cur_controller.calls gb587 l0 0 0 t588 t589 t590 t591 w _ ?side1 ?side2 A2.out).mono ?_); (case side1 => repeat (first | (with_reducible first | exact HI587.out | apply IsS115.alloc | apply IsS115.drewN | apply IsS115.drew | apply IsS115.set_1 | apply IsS115.set_2 | refine IsS115.far ?_ NB587_586.out _) | exact HI587.out)); (case side2 => repeat (first | (with_reducible first | exact HB.out | apply below_alloc | apply pw_below_drewN | apply below_drew1 | refine below_set ?_ (IsS115.ge HI587.out) | refine below_set ?_ GE586.out) | exact HB.out)); rintro e w5 ⟨rfl, hi, hb, hk⟩; refine ⟨_, rfl, ?_⟩; have n0_ := zm (KeepBut.blk hk (g' := gb586) (o := .cells #[.int .i64 0, .int .i64 0] 47 (0, 0)) zk NB586_587.out (by simp)); have n1_ := zm (hb); have n2_ := zm (hi); clear BK586; clear HB; clear HI587; have BK586 := n0_; have HB := n1_; have HI587 := n2_; clear n0_ n1_ n2_; (try clear hb); (try clear hb2); (try clear hk); (try clear hi); have hnb6 := NB586_587.out; have hnc6 := NB587_586.out; obtain ⟨hcz7_0, hcz7_1, hfz7_0, hfz7_1⟩ := zc2 BK586.out))
 refine bodyPost_ret (results_cell_row rfl _ _ gb586 47 #[.int .i64 t588, .int .i64 t589] (0, 0) _ rfl (by (with_reducible repeat (first | refine blk_drewN ?_ _ | refine blk_drew ?_ | refine blk_alloc ?_ _)); refine blk_put (cs := #[.int .i64 t588, .int .i64 0]) ?_ 1 _ rfl; (with_reducible repeat (first | refine blk_drewN ?_ _ | refine blk_drew ?_ | refine blk_alloc ?_ _)); refine blk_put (cs := #[.int .i64 0, .int .i64 0]) ?_ 0 _ rfl; (with_reducible repeat (first | refine blk_drewN ?_ _ | refine blk_drew ?_ | refine blk_alloc ?_ _)); exact BK586.out) Try.underlying47 rfl (by kernel_rfl)) rfl ?_
 exact ⟨zr, zb⟩

/-! ### spec_IsController: function 77 -/
def spec_IsController.f (a0_0 : Int) (a0_1 : Int) : Option (Bool) := (spec_tkGood.f a0_0 a0_1).bind fun t593 => (some t593)
set_option maxHeartbeats 8000000 in
set_option maxRecDepth 100000 in
theorem spec_IsController.calls (a0_0 : Int) (a0_1 : Int) (r : Bool) (w : World) (h : spec_IsController.f a0_0 a0_1 = some r) :
  Calls Try.prog 77 #[.agg #[.int .i64 a0_0, .int .i64 a0_1]] w fun e w' => e = .returned (.bool r) ∧ Below w.heap.size w w' := by
 have hu47 := Try.underlying47
 have HB := zm (Below.refl w.heap.size w)
 have H : ((spec_tkGood.f a0_0 a0_1).bind fun t593 => (some t593)) = some r := h
 clear h
 replace H := Option.bind_eq_some_iff.mp H
 obtain ⟨t593, A20, H⟩ := H
 (try dsimp only at H)
 have A2 := zm A20
 clear A20
 obtain rfl := Option.some.inj H
 go_enter Try.func77, Try.ntmps77
 go_wp2_with (first | ((with_reducible refine gate_dst (N := 1) rfl ?_); refine box_event ?hg (N := 1) ?hd (cs := #[.int .i64 a0_0, .int .i64 a0_1]) (t := 47) ?hr ?_; (case hd => rfl); (case hg => rfl); (case hr => first | (go_simp; done) | (go_simp; rfl)); intro gb592 hg w3 hbox hb; have n0_ := zm (below_step zb hb); have n1_ := zm (hbox); have n2_ := zm (zs hg zb : w.heap.size ≤ gb592); have n3_ := zm (zs hg zb : w.heap.size ≤ gb592); clear HB; have HB := n0_; have BK592 := n1_; have GW592 := n2_; have GE592 := n3_; clear n0_ n1_ n2_ n3_; clear hb hbox hg; obtain ⟨hcz4_0, hcz4_1, hfz4_0, hfz4_1⟩ := zc2 BK592.out) | ((with_reducible refine gate_callee (f := 123) rfl ?_); refine goesA_ (some 4) Try.func123 #[.agg #[.int .i64 a0_0, .int .i64 a0_1]] rfl ?_; (with_reducible refine (spec_tkGood.calls a0_0 a0_1 t593 _ A2.out).mono ?_); rintro e w5 ⟨rfl, hb⟩; refine ⟨_, rfl, ?_⟩; have n0_ := zm (blk_below (g := gb592) zk hb); have n1_ := zm (below_step zb hb); clear BK592; clear HB; have BK592 := n0_; have HB := n1_; clear n0_ n1_; (try clear hb); (try clear hb2); (try clear hk); (try clear hi)))
 go_ret
 exact ⟨zr, zb⟩

end Go.Proofs.Ytepkedhmbfkenaa.PTb
