-- Written for this claim by a program of this session (wip/tpl/patchprint.py), not by print.sh.
import Derived.Test.YtjdkdbeenggfaaaPSox0
import Derived.Test.YtjdkdbeenggfaaaPSox3
import Derived.Test.YtjdkdbeenggfaaaPSox5
namespace Go.Proofs.Ytjdkdbeenggfaaa.PSo
open Go.RowKit Go.Proofs.YtjdkdbeenggfaaaW.PrintWords Go.Proofs.YtjdkdbeenggfaaaW.PrintLast Go.Proofs.YtjdkdbeenggfaaaW.PrintMore
attribute [local go_sem] max2_int min2_int max_two min_two max_three min_three max_four min_four   -- for this text's walks alone
set_option linter.unusedVariables false
set_option linter.unusedSimpArgs false

/-! ### spec_l1Same: function 102 -/
def spec_l1Same.l0 : Nat → List Int → List Int → Int → Int → Option (Bool)
  | 0, _, _, _, _ => none
  | k + 1, x0, x1, x12, x13 => if x13 < x12 then (if 0 ≤ x13 then (if x13 < (x0.length : Int) then (if x13 < (x1.length : Int) then (if (rd x0 x13) = (rd x1 x13) then (spec_l1Same.l0 k x0 x1 x12 (wrap64 (x13 + 1))) else (some false)) else (none)) else (none)) else (none)) else (some true)
def spec_l1Same.f (k : Nat) (l0 : List Int) (l1 : List Int) : Option (Bool) := if (l0.length : Int) = (l1.length : Int) then (spec_l1Same.l0 k l0 l1 (l0.length : Int) 0) else (some false)
theorem spec_l1Same.mono_l : ∀ k, (∀ y0 y1 y2 y3, LeO (spec_l1Same.l0 k y0 y1 y2 y3) (spec_l1Same.l0 (k + 1) y0 y1 y2 y3))
  | 0 => fun _ _ _ _ r h => by simp [spec_l1Same.l0] at h
  | k + 1 => by
    have ih0 := spec_l1Same.mono_l k
    · intro y0 y1 y2 y3
      unfold spec_l1Same.l0
      repeat' first
      | (with_reducible exact ih0 _ _ _ _)
      | (with_reducible exact LeO.refl _)
      | (with_reducible exact LeO.none _)
      | (with_reducible refine LeO.ite ?_ ?_)
      | (with_reducible refine LeO.bind ?_ (fun _ => ?_))
      | exact ih0 _ _ _ _
      | exact LeO.none _
      | refine LeO.ite ?_ ?_
      | refine LeO.bind ?_ (fun _ => ?_)
theorem spec_l1Same.mono : ∀ a0 a1 k, LeO (spec_l1Same.f k a0 a1) (spec_l1Same.f (k + 1) a0 a1) := by
  intro a0 a1 k
  have ih0 := spec_l1Same.mono_l k
  unfold spec_l1Same.f
  repeat' first
      | (with_reducible exact ih0 _ _ _ _)
      | (with_reducible exact LeO.refl _)
      | (with_reducible exact LeO.none _)
      | (with_reducible refine LeO.ite ?_ ?_)
      | (with_reducible refine LeO.bind ?_ (fun _ => ?_))
      | exact ih0 _ _ _ _
      | exact LeO.none _
      | refine LeO.ite ?_ ?_
      | refine LeO.bind ?_ (fun _ => ?_)
set_option maxHeartbeats 8000000 in
set_option maxRecDepth 100000 in
theorem spec_l1Same.calls (k : Nat) (A0 : Option Addr) (c0 : Nat) (l0 : List Int) (A1 : Option Addr) (c1 : Nat) (l1 : List Int) (r : Bool) (w : World) (hr0 : Kd.C (Kd.int .i64) w A0 l0.length l0) (hc0 : l0.length ≤ c0) (hr1 : Kd.C (Kd.int .i64) w A1 l1.length l1) (hc1 : l1.length ≤ c1) (h : spec_l1Same.f k l0 l1 = some r) :
  Calls Try.prog 102 #[.slice A0 l0.length c0, .slice A1 l1.length c1] w fun e w' => e = .returned (.bool r) ∧ Drawn0 w w' := by
 have HR0 := zm hr0
 have HC0 := zm hc0
 clear hr0 hc0
 have HR1 := zm hr1
 have HC1 := zm hc1
 clear hr1 hc1
 have H : (if (l0.length : Int) = (l1.length : Int) then (spec_l1Same.l0 k l0 l1 (l0.length : Int) 0) else (some false)) = some r := h
 clear h
 by_cases c3 : (l0.length : Int) = (l1.length : Int)
 rotate_left
 ·
  rw [if_neg c3] at H
  have c3b0 : ((l0.length : Int) == (l1.length : Int)) = false := beq_eq_false_iff_ne.mpr c3
  have c3b1 : ((l0.length : Int) != (l1.length : Int)) = true := bne_iff_ne.mpr c3
  have c3b2 : (l0.length == l1.length) = false := by first | simpa using c3 | (simp at c3 ⊢; omega)
  obtain rfl := Option.some.inj H
  go_enter Try.func102, Try.ntmps102
  go_wp2
  repeat (go_quiet (fail); try go_wp2)
  go_ret
  exact ⟨by first | rfl | (simp; done) | (simp [*]; done), by repeat (first | exact Drawn0.refl _ | apply Drawn0.step)⟩

 rw [if_pos c3] at H
 have c3b0 : ((l0.length : Int) == (l1.length : Int)) = true := beq_iff_eq.mpr c3
 have c3b1 : ((l0.length : Int) != (l1.length : Int)) = false := bne_eq_false_iff_eq.mpr c3
 have c3b2 : (l0.length == l1.length) = true := by first | simpa using c3 | (simp at c3 ⊢; omega)
 clear c3
 have H' := zm H
 clear H
 go_enter Try.func102, Try.ntmps102
 go_wp2
 repeat (go_quiet (fail); try go_wp2)
 go_loopg [13] k (fun kq v13 w' => ∃ (x13_1 : Int), v13 = .int .i64 x13_1 ∧ Aside0 (spec_l1Same.l0 kq l0 l1 (l0.length : Int) x13_1 = some r) ∧ Aside0 (kq ≤ k) ∧ Drawn0 w w')
 case atStart => exact ⟨(0), (by first | rfl | (simp; done) | (simp [*]; done)), H', ⟨Nat.le_refl _⟩, by repeat (first | exact Drawn0.refl _ | apply Drawn0.step)⟩
 case round =>
  clear H'
  (try clear c1); (try clear p2); (try clear c3); (try clear c3b0); (try clear c3b1); (try clear c3b2)
  obtain ⟨x13_1, rfl, HA, HK1, ⟨m1, rfl⟩⟩ := hrel
  cases gk with
  | zero => exact absurd HA.out (by simp [spec_l1Same.l0])
  | succ k1 =>
   have H := HA.out
   clear HA
   simp only [spec_l1Same.l0] at H
   by_cases c4 : x13_1 < (l0.length : Int)
   rotate_left
   ·
    rw [if_neg c4] at H
    have c4b0 : decide (x13_1 < (l0.length : Int)) = false := decide_eq_false c4
    clear c4
    obtain rfl := Option.some.inj H
    go_wp2
    repeat (go_quiet (fail); try go_wp2)
    go_ret
    exact ⟨by first | rfl | (simp; done) | (simp [*]; done), by repeat (first | exact Drawn0.refl _ | apply Drawn0.step)⟩
   rw [if_pos c4] at H
   have c4b0 : decide (x13_1 < (l0.length : Int)) = true := decide_eq_true c4
   clear c4
   by_cases c5 : 0 ≤ x13_1
   rotate_left
   ·
    rw [if_neg c5] at H
    exact absurd H (by simp)
   rw [if_pos c5] at H
   have c5b0 : decide (0 ≤ x13_1) = true := decide_eq_true c5
   clear c5
   by_cases c6 : x13_1 < (l0.length : Int)
   rotate_left
   ·
    rw [if_neg c6] at H
    exact absurd H (by simp)
   rw [if_pos c6] at H
   have c6b0 : decide (x13_1 < (l0.length : Int)) = true := decide_eq_true c6
   clear c6
   by_cases c7 : x13_1 < (l1.length : Int)
   rotate_left
   ·
    rw [if_neg c7] at H
    exact absurd H (by simp)
   rw [if_pos c7] at H
   have c7b0 : decide (x13_1 < (l1.length : Int)) = true := decide_eq_true c7
   clear c7
   by_cases c8 : (rd l0 x13_1) = (rd l1 x13_1)
   rotate_left
   ·
    rw [if_neg c8] at H
    have c8b0 : ((rd l0 x13_1) == (rd l1 x13_1)) = false := beq_eq_false_iff_ne.mpr c8
    have c8b1 : ((rd l0 x13_1) != (rd l1 x13_1)) = true := bne_iff_ne.mpr c8
    obtain rfl := Option.some.inj H
    have p159 : 0 ≤ (x13_1 : Int) := zd
    have q159 : x13_1 < (l0.length : Int) := zd
    obtain ⟨ad159, e159, hx159_0⟩ := Kd.at_int HR0.out x13_1 p159 q159
    cases e159
    replace p159 := eq_true p159
    replace q159 := eq_true q159
    have p160 : 0 ≤ (x13_1 : Int) := zd
    have q160 : x13_1 < (l1.length : Int) := zd
    obtain ⟨ad160, e160, hx160_0⟩ := Kd.at_int HR1.out x13_1 p160 q160
    cases e160
    replace p160 := eq_true p160
    replace q160 := eq_true q160
    go_wp2
    repeat (go_quiet (fail); try go_wp2)
    go_ret
    exact ⟨by first | rfl | (simp; done) | (simp [*]; done), by repeat (first | exact Drawn0.refl _ | apply Drawn0.step)⟩
   rw [if_pos c8] at H
   have c8b0 : ((rd l0 x13_1) == (rd l1 x13_1)) = true := beq_iff_eq.mpr c8
   have c8b1 : ((rd l0 x13_1) != (rd l1 x13_1)) = false := bne_eq_false_iff_eq.mpr c8
   clear c8
   have H' := zm H
   clear H
   have p159 : 0 ≤ (x13_1 : Int) := zd
   have q159 : x13_1 < (l0.length : Int) := zd
   obtain ⟨ad159, e159, hx159_0⟩ := Kd.at_int HR0.out x13_1 p159 q159
   cases e159
   replace p159 := eq_true p159
   replace q159 := eq_true q159
   have p160 : 0 ≤ (x13_1 : Int) := zd
   have q160 : x13_1 < (l1.length : Int) := zd
   obtain ⟨ad160, e160, hx160_0⟩ := Kd.at_int HR1.out x13_1 p160 q160
   cases e160
   replace p160 := eq_true p160
   replace q160 := eq_true q160
   go_wp2
   repeat (go_quiet (fail); try go_wp2)
   go_roundg k1
   case measure => have := HK1.out; omega
   case rel => exact ⟨(wrap64 (x13_1 + 1)), (by first | rfl | (simp; done) | (simp [*]; done)), H', ⟨by have := HK1.out; omega⟩, by repeat (first | exact Drawn0.refl _ | apply Drawn0.step)⟩
/-! ### spec_SheetOfEvents: function 52 -/
mutual
def spec_SheetOfEvents.l0 : Nat → List (List Int) → List Int → Int → Int → Option ((List (S87)) × Bool)
  | 0, _, _, _, _ => none
  | k + 1, x0, x5, x19, x20 => if x20 < x19 then (if 0 ≤ x20 then (if x20 < (x5.length : Int) then (spec_SheetOfEvents.l0 k x0 (x5.set (x20 : Int).toNat (-1)) x19 (wrap64 (x20 + 1))) else (none)) else (none)) else (spec_SheetOfEvents.l1 k x0 ([] : List (S87)) x5 x0 (x0.length : Int) 0)
def spec_SheetOfEvents.l1 : Nat → List (List Int) → List (S87) → List Int → List (List Int) → Int → Int → Option ((List (S87)) × Bool)
  | 0, _, _, _, _, _, _ => none
  | k + 1, x0, x4, x5, x27, x28, x29 => if x29 < x28 then (if 0 ≤ x29 then (if x29 < (x27.length : Int) then (if ((rd_L1 x27 x29).length : Int) = 3 then (if 0 < ((rd_L1 x27 x29).length : Int) then ((spec_rdStep.f (rd (rd_L1 x27 x29) 0)).bind fun t167 => (if t167 = true then (if 1 < ((rd_L1 x27 x29).length : Int) then ((spec_l1In.f (rd (rd_L1 x27 x29) 1) 0 19).bind fun t169 => (if t169 = true then (if 2 < ((rd_L1 x27 x29).length : Int) then ((spec_l1In.f (rd (rd_L1 x27 x29) 2) 0 1).bind fun t171 => (if t171 = true then (if 0 ≤ (rd (rd_L1 x27 x29) 1) then (if (rd (rd_L1 x27 x29) 1) < (x5.length : Int) then (spec_SheetOfEvents.j2 k x0 x4 x5 (rd_L1 x27 x29) x27 x28 x29 ((decide ((rd x5 (rd (rd_L1 x27 x29) 1)) ≥ 0)) == ((rd (rd_L1 x27 x29) 2) == 1))) else (none)) else (none)) else (spec_SheetOfEvents.j2 k x0 x4 x5 (rd_L1 x27 x29) x27 x28 x29 true))) else (none)) else (spec_SheetOfEvents.j2 k x0 x4 x5 (rd_L1 x27 x29) x27 x28 x29 true))) else (none)) else (spec_SheetOfEvents.j2 k x0 x4 x5 (rd_L1 x27 x29) x27 x28 x29 true))) else (none)) else (spec_SheetOfEvents.j2 k x0 x4 x5 (rd_L1 x27 x29) x27 x28 x29 true)) else (none)) else (none)) else ((spec_shSorted.f k x4).bind fun bt188 => (if bt188.2 = true then ((spec_rdEvents.f k bt188.1).bind fun t192 => (if (t192.length : Int) = (x0.length : Int) then (spec_SheetOfEvents.l2 k x0 bt188.1 t192 (t192.length : Int) 0) else (some (([] : List (S87)), false)))) else (some (([] : List (S87)), false))))
def spec_SheetOfEvents.j2 : Nat → List (List Int) → List (S87) → List Int → List Int → List (List Int) → Int → Int → Bool → Option ((List (S87)) × Bool)
  | 0, _, _, _, _, _, _, _, _ => none
  | k + 1, x0, x4, x5, x8, x27, x28, x29, x70 => if x70 = true then (some (([] : List (S87)), false)) else (if 2 < (x8.length : Int) then (if (rd x8 2) = 1 then (if 1 < (x8.length : Int) then (if 0 < (x8.length : Int) then (if 0 ≤ (rd x8 1) then (if (rd x8 1) < (x5.length : Int) then (spec_SheetOfEvents.l1 k x0 x4 (x5.set ((rd x8 1) : Int).toNat (rd x8 0)) x27 x28 (wrap64 (x29 + 1))) else (none)) else (none)) else (none)) else (none)) else (if 1 < (x8.length : Int) then (if 0 ≤ (rd x8 1) then (if (rd x8 1) < (x5.length : Int) then (if 0 < (x8.length : Int) then (if x4.length < 5864062014805 then (spec_SheetOfEvents.l1 k x0 (x4 ++ [(⟨rd x8 1, rd x5 (rd x8 1), rd x8 0⟩ : S87)]) (x5.set ((rd x8 1) : Int).toNat (-1)) x27 x28 (wrap64 (x29 + 1))) else (none)) else (none)) else (none)) else (none)) else (none))) else (none))
def spec_SheetOfEvents.l2 : Nat → List (List Int) → List (S87) → List (List Int) → Int → Int → Option ((List (S87)) × Bool)
  | 0, _, _, _, _, _ => none
  | k + 1, x0, x9, x119, x120, x121 => if x121 < x120 then (if 0 ≤ x121 then (if x121 < (x119.length : Int) then (if x121 < (x0.length : Int) then ((spec_l1Same.f k (rd_L1 x119 x121) (rd_L1 x0 x121)).bind fun t197 => (if t197 = true then (spec_SheetOfEvents.l2 k x0 x9 x119 x120 (wrap64 (x121 + 1))) else (some (([] : List (S87)), false)))) else (none)) else (none)) else (none)) else (some (x9, true))
end
def spec_SheetOfEvents.f (k : Nat) (l0 : List (List Int)) : Option ((List (S87)) × Bool) := if (l0.length : Int) > 120 then (some (([] : List (S87)), false)) else (if 20 ≤ 35184372088832 then ((some (List.replicate 20 0 : List Int)).bind fun y161 => (spec_SheetOfEvents.l0 k l0 y161 (y161.length : Int) 0)) else (none))
theorem spec_SheetOfEvents.mono_l : ∀ k, (∀ y0 y1 y2 y3, LeO (spec_SheetOfEvents.l0 k y0 y1 y2 y3) (spec_SheetOfEvents.l0 (k + 1) y0 y1 y2 y3)) ∧ (∀ y0 y1 y2 y3 y4 y5, LeO (spec_SheetOfEvents.l1 k y0 y1 y2 y3 y4 y5) (spec_SheetOfEvents.l1 (k + 1) y0 y1 y2 y3 y4 y5)) ∧ (∀ y0 y1 y2 y3 y4 y5 y6 y7, LeO (spec_SheetOfEvents.j2 k y0 y1 y2 y3 y4 y5 y6 y7) (spec_SheetOfEvents.j2 (k + 1) y0 y1 y2 y3 y4 y5 y6 y7)) ∧ (∀ y0 y1 y2 y3 y4, LeO (spec_SheetOfEvents.l2 k y0 y1 y2 y3 y4) (spec_SheetOfEvents.l2 (k + 1) y0 y1 y2 y3 y4))
  | 0 => ⟨fun _ _ _ _ r h => by simp [spec_SheetOfEvents.l0] at h, fun _ _ _ _ _ _ r h => by simp [spec_SheetOfEvents.l1] at h, fun _ _ _ _ _ _ _ _ r h => by simp [spec_SheetOfEvents.j2] at h, fun _ _ _ _ _ r h => by simp [spec_SheetOfEvents.l2] at h⟩
  | k + 1 => by
    obtain ⟨ih0, ih1, ih2, ih3⟩ := spec_SheetOfEvents.mono_l k
    refine ⟨?_, ?_, ?_, ?_⟩
    · intro y0 y1 y2 y3
      unfold spec_SheetOfEvents.l0
      repeat' first
      | (with_reducible exact ih0 _ _ _ _)
      | (with_reducible exact ih1 _ _ _ _ _ _)
      | (with_reducible exact ih2 _ _ _ _ _ _ _ _)
      | (with_reducible exact ih3 _ _ _ _ _)
      | (with_reducible exact spec_l1Same.mono _ _ _)
      | (with_reducible exact spec_rdEvents.mono _ _)
      | (with_reducible exact spec_shSorted.mono _ _)
      | (with_reducible exact LeO.refl _)
      | (with_reducible exact LeO.none _)
      | (with_reducible refine LeO.ite ?_ ?_)
      | (with_reducible refine LeO.bind ?_ (fun _ => ?_))
      | exact ih0 _ _ _ _
      | exact ih1 _ _ _ _ _ _
      | exact ih2 _ _ _ _ _ _ _ _
      | exact ih3 _ _ _ _ _
      | exact spec_l1Same.mono _ _ _
      | exact spec_rdEvents.mono _ _
      | exact spec_shSorted.mono _ _
      | exact LeO.none _
      | refine LeO.ite ?_ ?_
      | refine LeO.bind ?_ (fun _ => ?_)
    · intro y0 y1 y2 y3 y4 y5
      unfold spec_SheetOfEvents.l1
      repeat' first
      | (with_reducible exact ih0 _ _ _ _)
      | (with_reducible exact ih1 _ _ _ _ _ _)
      | (with_reducible exact ih2 _ _ _ _ _ _ _ _)
      | (with_reducible exact ih3 _ _ _ _ _)
      | (with_reducible exact spec_l1Same.mono _ _ _)
      | (with_reducible exact spec_rdEvents.mono _ _)
      | (with_reducible exact spec_shSorted.mono _ _)
      | (with_reducible exact LeO.refl _)
      | (with_reducible exact LeO.none _)
      | (with_reducible refine LeO.ite ?_ ?_)
      | (with_reducible refine LeO.bind ?_ (fun _ => ?_))
      | exact ih0 _ _ _ _
      | exact ih1 _ _ _ _ _ _
      | exact ih2 _ _ _ _ _ _ _ _
      | exact ih3 _ _ _ _ _
      | exact spec_l1Same.mono _ _ _
      | exact spec_rdEvents.mono _ _
      | exact spec_shSorted.mono _ _
      | exact LeO.none _
      | refine LeO.ite ?_ ?_
      | refine LeO.bind ?_ (fun _ => ?_)
    · intro y0 y1 y2 y3 y4 y5 y6 y7
      unfold spec_SheetOfEvents.j2
      repeat' first
      | (with_reducible exact ih0 _ _ _ _)
      | (with_reducible exact ih1 _ _ _ _ _ _)
      | (with_reducible exact ih2 _ _ _ _ _ _ _ _)
      | (with_reducible exact ih3 _ _ _ _ _)
      | (with_reducible exact spec_l1Same.mono _ _ _)
      | (with_reducible exact spec_rdEvents.mono _ _)
      | (with_reducible exact spec_shSorted.mono _ _)
      | (with_reducible exact LeO.refl _)
      | (with_reducible exact LeO.none _)
      | (with_reducible refine LeO.ite ?_ ?_)
      | (with_reducible refine LeO.bind ?_ (fun _ => ?_))
      | exact ih0 _ _ _ _
      | exact ih1 _ _ _ _ _ _
      | exact ih2 _ _ _ _ _ _ _ _
      | exact ih3 _ _ _ _ _
      | exact spec_l1Same.mono _ _ _
      | exact spec_rdEvents.mono _ _
      | exact spec_shSorted.mono _ _
      | exact LeO.none _
      | refine LeO.ite ?_ ?_
      | refine LeO.bind ?_ (fun _ => ?_)
    · intro y0 y1 y2 y3 y4
      unfold spec_SheetOfEvents.l2
      repeat' first
      | (with_reducible exact ih0 _ _ _ _)
      | (with_reducible exact ih1 _ _ _ _ _ _)
      | (with_reducible exact ih2 _ _ _ _ _ _ _ _)
      | (with_reducible exact ih3 _ _ _ _ _)
      | (with_reducible exact spec_l1Same.mono _ _ _)
      | (with_reducible exact spec_rdEvents.mono _ _)
      | (with_reducible exact spec_shSorted.mono _ _)
      | (with_reducible exact LeO.refl _)
      | (with_reducible exact LeO.none _)
      | (with_reducible refine LeO.ite ?_ ?_)
      | (with_reducible refine LeO.bind ?_ (fun _ => ?_))
      | exact ih0 _ _ _ _
      | exact ih1 _ _ _ _ _ _
      | exact ih2 _ _ _ _ _ _ _ _
      | exact ih3 _ _ _ _ _
      | exact spec_l1Same.mono _ _ _
      | exact spec_rdEvents.mono _ _
      | exact spec_shSorted.mono _ _
      | exact LeO.none _
      | refine LeO.ite ?_ ?_
      | refine LeO.bind ?_ (fun _ => ?_)
theorem spec_SheetOfEvents.mono : ∀ a0 k, LeO (spec_SheetOfEvents.f k a0) (spec_SheetOfEvents.f (k + 1) a0) := by
  intro a0 k
  obtain ⟨ih0, ih1, ih2, ih3⟩ := spec_SheetOfEvents.mono_l k
  unfold spec_SheetOfEvents.f
  repeat' first
      | (with_reducible exact ih0 _ _ _ _)
      | (with_reducible exact ih1 _ _ _ _ _ _)
      | (with_reducible exact ih2 _ _ _ _ _ _ _ _)
      | (with_reducible exact ih3 _ _ _ _ _)
      | (with_reducible exact spec_l1Same.mono _ _ _)
      | (with_reducible exact spec_rdEvents.mono _ _)
      | (with_reducible exact spec_shSorted.mono _ _)
      | (with_reducible exact LeO.refl _)
      | (with_reducible exact LeO.none _)
      | (with_reducible refine LeO.ite ?_ ?_)
      | (with_reducible refine LeO.bind ?_ (fun _ => ?_))
      | exact ih0 _ _ _ _
      | exact ih1 _ _ _ _ _ _
      | exact ih2 _ _ _ _ _ _ _ _
      | exact ih3 _ _ _ _ _
      | exact spec_l1Same.mono _ _ _
      | exact spec_rdEvents.mono _ _
      | exact spec_shSorted.mono _ _
      | exact LeO.none _
      | refine LeO.ite ?_ ?_
      | refine LeO.bind ?_ (fun _ => ?_)
def spec_SheetOfEvents.T13 : Bool × List (List Nat × List Nat) := (true, [([], []), ([0], [0]), ([1], [1]), ([2], [2]), ([3], [3]), ([4, 3], [3, 4]), ([5, 3], [3, 5]), ([6, 3, 3], [3, 6]), ([7, 3], [3, 7]), ([3, 8], [3, 8]), ([9, 7], [9]), ([10], [10]), ([11, 10], [10, 11]), ([12, 10], [10, 12]), ([13, 10, 10], [10, 13]), ([14, 10], [10, 14]), ([10, 15], [10, 15]), ([16, 14], [16]), ([17], [17]), ([18, 17], [17, 18]), ([19, 17], [17, 19]), ([20, 17, 17], [17, 20]), ([21, 17], [17, 21]), ([17, 22], [17, 22]), ([23, 21], [23]), ([24], [24]), ([24], [24]), ([26, 24], [24, 26]), ([27, 24], [24, 27]), ([25, 28, 24], [24, 25, 28]), ([29, 24], [24, 29]), ([30, 24], [24, 30]), ([24], [24]), ([32, 24], [24, 32]), ([33, 24], [24, 33]), ([34, 24], [24, 34]), ([31, 35, 24], [24, 31, 35]), ([24, 36], [24, 36])])
def spec_SheetOfEvents.B13 : List Nat := [0, 1, 3, 7, 15, 31, 63, 127, 255, 511, 1023, 2047, 4095, 8191, 16383, 32767, 65535, 131071, 262143, 524287, 1048575, 2097151, 4194303, 8388607, 16777215, 33554431, 33554431, 100663295, 234881023, 536870911, 1073741823, 2147483647, 33554431, 4328521727, 12918456319, 30098325503, 68719476735, 137438953471]
theorem spec_SheetOfEvents.tab13 : rtab .any (opsOf Try.f52 13) = spec_SheetOfEvents.T13 := by kernel_rfl
theorem spec_SheetOfEvents.bits13 : waitsOk spec_SheetOfEvents.T13.2 spec_SheetOfEvents.B13 = true := by kernel_rfl
def spec_SheetOfEvents.T16 : Bool × List (List Nat × List Nat) := (true, [([], []), ([], []), ([1], [1]), ([2], [2]), ([], []), ([4], [4]), ([5], [5]), ([0, 3, 0, 1, 2, 3, 4, 5, 6], [0, 3]), ([7, 6, 0, 1, 2, 3, 4, 5, 6], [6, 7])])
def spec_SheetOfEvents.B16 : List Nat := [0, 0, 2, 6, 0, 16, 48, 127, 255]
theorem spec_SheetOfEvents.tab16 : rtab .any (opsOf Try.f52 16) = spec_SheetOfEvents.T16 := by kernel_rfl
theorem spec_SheetOfEvents.bits16 : waitsOk spec_SheetOfEvents.T16.2 spec_SheetOfEvents.B16 = true := by kernel_rfl
def spec_SheetOfEvents.T17 : Bool × List (List Nat × List Nat) := (true, [([], []), ([], []), ([1], [1]), ([2], [2]), ([], []), ([], []), ([5], [5]), ([6], [6]), ([4, 7], [4, 7]), ([8], [8]), ([], []), ([10], [10]), ([11], [11]), ([3, 9, 12], [3, 9, 12]), ([13], [13]), ([0, 14], [0, 14]), ([15, 15, 0, 1, 2, 3, 4, 5, 6, 7, 8, 9, 10, 11, 12, 13, 14, 15], [0, 15])])
def spec_SheetOfEvents.B17 : List Nat := [0, 0, 2, 6, 0, 0, 32, 96, 240, 496, 0, 1024, 3072, 8190, 16382, 32767, 65535]
theorem spec_SheetOfEvents.tab17 : rtab .any (opsOf Try.f52 17) = spec_SheetOfEvents.T17 := by kernel_rfl
theorem spec_SheetOfEvents.bits17 : waitsOk spec_SheetOfEvents.T17.2 spec_SheetOfEvents.B17 = true := by kernel_rfl

end Go.Proofs.Ytjdkdbeenggfaaa.PSo
