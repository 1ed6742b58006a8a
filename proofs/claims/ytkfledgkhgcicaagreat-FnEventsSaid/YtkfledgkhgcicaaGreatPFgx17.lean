import Derived.Test.YtkfledgkhgcicaaGreatPFgx0
import Derived.Test.YtkfledgkhgcicaaGreatPFgx2
import Derived.Test.YtkfledgkhgcicaaGreatPFgx4
import Derived.Test.YtkfledgkhgcicaaGreatPFgx10
import Derived.Test.YtkfledgkhgcicaaGreatPFgx16
namespace Go.Proofs.YtkfledgkhgcicaaGreat.PFg
open Go.RowKit Go.Proofs.YtkfledgkhgcicaaGreatW.PrintWords Go.Proofs.YtkfledgkhgcicaaGreatW.PrintLast Go.Proofs.YtkfledgkhgcicaaGreatW.PrintMore
attribute [local go_sem] P8 P5 E5 E8 M4 M0 P6 P7   -- for this text's walks alone
set_option linter.unusedVariables false
set_option linter.unusedSimpArgs false
def M3.l0 : Nat → List Int → List Int → Int → Int → Option (Bool)
  | 0, _, _, _, _ => none
  | k + 1, x0, x1, x12, x13 => if x13 < x12 then (if 0 ≤ x13 then (if x13 < (x0.length : Int) then (if x13 < (x1.length : Int) then (if (rd x0 x13) = (rd x1 x13) then (M3.l0 k x0 x1 x12 (wrap64 (x13 + 1))) else (some false)) else (none)) else (none)) else (none)) else (some true)
def M3.f (k : Nat) (l0 : List Int) (l1 : List Int) : Option (Bool) := if (l0.length : Int) = (l1.length : Int) then (M3.l0 k l0 l1 (l0.length : Int) 0) else (some false)
set_option maxHeartbeats 8000000 in
set_option maxRecDepth 100000 in
theorem M3.calls (k : Nat) (A0 : Option Addr) (c0 : Nat) (l0 : List Int) (A1 : Option Addr) (c1 : Nat) (l1 : List Int) (r : Bool) (w : World) (hr0 : Kd.C (Kd.int .i64) w A0 l0.length l0) (hc0 : l0.length ≤ c0) (hr1 : Kd.C (Kd.int .i64) w A1 l1.length l1) (hc1 : l1.length ≤ c1) (h : M3.f k l0 l1 = some r) :
  Calls Tryz.prog 44 #[.slice A0 l0.length c0, .slice A1 l1.length c1] w fun e w' => e = .returned (.bool r) ∧ G6 w w' := by
 have HR0 := zm hr0;have HC0 := zm hc0;clear hr0 hc0;have HR1 := zm hr1;have HC1 := zm hc1;clear hr1 hc1;have H : (if (l0.length : Int) = (l1.length : Int) then (M3.l0 k l0 l1 (l0.length : Int) 0) else (some false)) = some r := h;clear h;by_cases c3 : (l0.length : Int) = (l1.length : Int)
 rotate_left
 ·
  rw [if_neg c3] at H;have c3b0 : ((l0.length : Int) == (l1.length : Int)) = false := beq_eq_false_iff_ne.mpr c3;have c3b1 : ((l0.length : Int) != (l1.length : Int)) = true := bne_iff_ne.mpr c3;have c3b2 : (l0.length == l1.length) = false := by first | simpa using c3 | (simp at c3 ⊢; omega)
  obtain rfl := Option.some.inj H;go_enter Tryz.func44, Tryz.ntmps44;go_wp2;repeat (go_quiet (fail); try go_wp2)
  go_ret
  exact ⟨zz, zw⟩
 rw [if_pos c3] at H;have c3b0 : ((l0.length : Int) == (l1.length : Int)) = true := beq_iff_eq.mpr c3;have c3b1 : ((l0.length : Int) != (l1.length : Int)) = false := bne_eq_false_iff_eq.mpr c3;have c3b2 : (l0.length == l1.length) = true := by first | simpa using c3 | (simp at c3 ⊢; omega)
 clear c3;have H' := zm H;clear H;go_enter Tryz.func44, Tryz.ntmps44;go_wp2;repeat (go_quiet (fail); try go_wp2)
 go_loopg [13] k (fun kq v13 w' => ∃ (x13_1 : Int), v13 = .int .i64 x13_1 ∧ z8 (M3.l0 kq l0 l1 (l0.length : Int) x13_1 = some r) ∧ z8 (kq ≤ k) ∧ G6 w w')
 case atStart => exact ⟨(0), zz, H', ⟨Nat.le_refl _⟩, zw⟩
 case round =>
  clear H';(try clear p2); (try clear c3b0); (try clear c3b1); (try clear c3b2);obtain ⟨x13_1, rfl, HA, HK1, ⟨m1, rfl⟩⟩ := hrel;cases gk with
  | zero => exact absurd HA.out (by simp [M3.l0])
  | succ k1 =>
   have H := HA.out;clear HA;simp only [M3.l0] at H;by_cases c4 : x13_1 < (l0.length : Int)
   rotate_left
   ·
    rw [if_neg c4] at H;have c4b0 := decide_eq_false c4;clear c4;obtain rfl := Option.some.inj H;go_wp2;repeat (go_quiet (fail); try go_wp2)
    go_ret
    exact ⟨zz, zw⟩
   rw [if_pos c4] at H;have c4b0 := decide_eq_true c4;clear c4;obtain ⟨c5, H⟩ := zJ H;have c5b0 := decide_eq_true c5;clear c5;obtain ⟨c6, H⟩ := zJ H;have c6b0 := decide_eq_true c6;clear c6;obtain ⟨c7, H⟩ := zJ H;have c7b0 := decide_eq_true c7;clear c7;by_cases c8 : (rd l0 x13_1) = (rd l1 x13_1)
   rotate_left
   ·
    rw [if_neg c8] at H;have c8b0 : ((rd l0 x13_1) == (rd l1 x13_1)) = false := beq_eq_false_iff_ne.mpr c8;have c8b1 : ((rd l0 x13_1) != (rd l1 x13_1)) = true := bne_iff_ne.mpr c8;obtain rfl := Option.some.inj H;have p541 : 0 ≤ (x13_1 : Int) := zd;have q541 : x13_1 < (l0.length : Int) := zd;obtain ⟨ad541, e541, hx541_0⟩ := Kd.Y9 HR0.out x13_1 p541 q541;cases e541;replace p541 := eq_true p541;replace q541 := eq_true q541;have p542 : 0 ≤ (x13_1 : Int) := zd;have q542 : x13_1 < (l1.length : Int) := zd;obtain ⟨ad542, e542, hx542_0⟩ := Kd.Y9 HR1.out x13_1 p542 q542;cases e542;replace p542 := eq_true p542;replace q542 := eq_true q542;go_wp2;repeat (go_quiet (fail); try go_wp2)
    go_ret
    exact ⟨zz, zw⟩
   rw [if_pos c8] at H;have c8b0 : ((rd l0 x13_1) == (rd l1 x13_1)) = true := beq_iff_eq.mpr c8;have c8b1 : ((rd l0 x13_1) != (rd l1 x13_1)) = false := bne_eq_false_iff_eq.mpr c8;clear c8;have H' := zm H;clear H;have p541 : 0 ≤ (x13_1 : Int) := zd;have q541 : x13_1 < (l0.length : Int) := zd;obtain ⟨ad541, e541, hx541_0⟩ := Kd.Y9 HR0.out x13_1 p541 q541;cases e541;replace p541 := eq_true p541;replace q541 := eq_true q541;have p542 : 0 ≤ (x13_1 : Int) := zd;have q542 : x13_1 < (l1.length : Int) := zd;obtain ⟨ad542, e542, hx542_0⟩ := Kd.Y9 HR1.out x13_1 p542 q542;cases e542;replace p542 := eq_true p542;replace q542 := eq_true q542;go_wp2;repeat (go_quiet (fail); try go_wp2)
   go_roundg k1
   case measure => have := HK1.out; omega
   case rel => exact ⟨(wrap64 (x13_1 + 1)), zz, H', ⟨by have := HK1.out; omega⟩, zw⟩
mutual
def d9.l0 : Nat → List (List Int) → List Int → Int → Int → Option ((List (S48)) × Bool)
  | 0, _, _, _, _ => none
  | k + 1, x0, x5, x19, x20 => if x20 < x19 then (if 0 ≤ x20 then (if x20 < (x5.length : Int) then (d9.l0 k x0 (x5.set (x20 : Int).toNat (-1)) x19 (wrap64 (x20 + 1))) else (none)) else (none)) else (d9.l1 k x0 ([] : List (S48)) x5 x0 (x0.length : Int) 0)
def d9.l1 : Nat → List (List Int) → List (S48) → List Int → List (List Int) → Int → Int → Option ((List (S48)) × Bool)
  | 0, _, _, _, _, _, _ => none
  | k + 1, x0, x4, x5, x27, x28, x29 => if x29 < x28 then (if 0 ≤ x29 then (if x29 < (x27.length : Int) then (if ((y8 x27 x29).length : Int) = 3 then (if 0 < ((y8 x27 x29).length : Int) then ((q0h.f (rd (y8 x27 x29) 0)).bind fun t549 => (if t549 = true then (if 1 < ((y8 x27 x29).length : Int) then ((K9.f (rd (y8 x27 x29) 1) 0 19).bind fun t551 => (if t551 = true then (if 2 < ((y8 x27 x29).length : Int) then ((K9.f (rd (y8 x27 x29) 2) 0 1).bind fun t553 => (if t553 = true then (if 0 ≤ (rd (y8 x27 x29) 1) then (if (rd (y8 x27 x29) 1) < (x5.length : Int) then (d9.j2 k x0 x4 x5 (y8 x27 x29) x27 x28 x29 ((decide ((rd x5 (rd (y8 x27 x29) 1)) ≥ 0)) == ((rd (y8 x27 x29) 2) == 1))) else (none)) else (none)) else (d9.j2 k x0 x4 x5 (y8 x27 x29) x27 x28 x29 true))) else (none)) else (d9.j2 k x0 x4 x5 (y8 x27 x29) x27 x28 x29 true))) else (none)) else (d9.j2 k x0 x4 x5 (y8 x27 x29) x27 x28 x29 true))) else (none)) else (d9.j2 k x0 x4 x5 (y8 x27 x29) x27 x28 x29 true)) else (none)) else (none)) else ((Q4.f k x4).bind fun bt570 => (if bt570.2 = true then ((Q5.f k bt570.1).bind fun t574 => (if (t574.length : Int) = (x0.length : Int) then (d9.l2 k x0 bt570.1 t574 (t574.length : Int) 0) else (some (([] : List (S48)), false)))) else (some (([] : List (S48)), false))))
def d9.j2 : Nat → List (List Int) → List (S48) → List Int → List Int → List (List Int) → Int → Int → Bool → Option ((List (S48)) × Bool)
  | 0, _, _, _, _, _, _, _, _ => none
  | k + 1, x0, x4, x5, x8, x27, x28, x29, x70 => if x70 = true then (some (([] : List (S48)), false)) else (if 2 < (x8.length : Int) then (if (rd x8 2) = 1 then (if 1 < (x8.length : Int) then (if 0 < (x8.length : Int) then (if 0 ≤ (rd x8 1) then (if (rd x8 1) < (x5.length : Int) then (d9.l1 k x0 x4 (x5.set ((rd x8 1) : Int).toNat (rd x8 0)) x27 x28 (wrap64 (x29 + 1))) else (none)) else (none)) else (none)) else (none)) else (if 1 < (x8.length : Int) then (if 0 ≤ (rd x8 1) then (if (rd x8 1) < (x5.length : Int) then (if 0 < (x8.length : Int) then (if x4.length < 5864062014805 then (d9.l1 k x0 (x4 ++ [(⟨rd x8 1, rd x5 (rd x8 1), rd x8 0⟩ : S48)]) (x5.set ((rd x8 1) : Int).toNat (-1)) x27 x28 (wrap64 (x29 + 1))) else (none)) else (none)) else (none)) else (none)) else (none))) else (none))
def d9.l2 : Nat → List (List Int) → List (S48) → List (List Int) → Int → Int → Option ((List (S48)) × Bool)
  | 0, _, _, _, _, _ => none
  | k + 1, x0, x9, x119, x120, x121 => if x121 < x120 then (if 0 ≤ x121 then (if x121 < (x119.length : Int) then (if x121 < (x0.length : Int) then ((M3.f k (y8 x119 x121) (y8 x0 x121)).bind fun t579 => (if t579 = true then (d9.l2 k x0 x9 x119 x120 (wrap64 (x121 + 1))) else (some (([] : List (S48)), false)))) else (none)) else (none)) else (none)) else (some (x9, true))
end
def d9.f (k : Nat) (l0 : List (List Int)) : Option ((List (S48)) × Bool) := if (l0.length : Int) > 120 then (some (([] : List (S48)), false)) else (if 20 ≤ 35184372088832 then ((some (List.replicate 20 0 : List Int)).bind fun y543 => (d9.l0 k l0 y543 (y543.length : Int) 0)) else (none))
def d9.T13 : Bool × List (List Nat × List Nat) := (true, [([], []), ([0], [0]), ([1], [1]), ([2], [2]), ([3], [3]), ([4, 3], [3, 4]), ([5, 3], [3, 5]), ([6, 3, 3], [3, 6]), ([7, 3], [3, 7]), ([3, 8], [3, 8]), ([9, 7], [9]), ([10], [10]), ([11, 10], [10, 11]), ([12, 10], [10, 12]), ([13, 10, 10], [10, 13]), ([14, 10], [10, 14]), ([10, 15], [10, 15]), ([16, 14], [16]), ([17], [17]), ([18, 17], [17, 18]), ([19, 17], [17, 19]), ([20, 17, 17], [17, 20]), ([21, 17], [17, 21]), ([17, 22], [17, 22]), ([23, 21], [23]), ([24], [24]), ([24], [24]), ([26, 24], [24, 26]), ([27, 24], [24, 27]), ([25, 28, 24], [24, 25, 28]), ([29, 24], [24, 29]), ([30, 24], [24, 30]), ([24], [24]), ([32, 24], [24, 32]), ([33, 24], [24, 33]), ([34, 24], [24, 34]), ([31, 35, 24], [24, 31, 35]), ([24, 36], [24, 36])])
def d9.B13 : List Nat := [0, 1, 3, 7, 15, 31, 63, 127, 255, 511, 1023, 2047, 4095, 8191, 16383, 32767, 65535, 131071, 262143, 524287, 1048575, 2097151, 4194303, 8388607, 16777215, 33554431, 33554431, 100663295, 234881023, 536870911, 1073741823, 2147483647, 33554431, 4328521727, 12918456319, 30098325503, 68719476735, 137438953471]
theorem d9.q5d : I5 .any (opsOf Tryz.f21 13) = d9.T13 := by kernel_rfl
theorem d9.q44 : q04 d9.T13.2 d9.B13 = true := by kernel_rfl
def d9.T16 : Bool × List (List Nat × List Nat) := (true, [([], []), ([], []), ([1], [1]), ([2], [2]), ([], []), ([4], [4]), ([5], [5]), ([0, 3, 0, 1, 2, 3, 4, 5, 6], [0, 3]), ([7, 6, 0, 1, 2, 3, 4, 5, 6], [6, 7])])
def d9.B16 : List Nat := [0, 0, 2, 6, 0, 16, 48, 127, 255]
theorem d9.v9v : I5 .any (opsOf Tryz.f21 16) = d9.T16 := by kernel_rfl
theorem d9.v8r : q04 d9.T16.2 d9.B16 = true := by kernel_rfl
def d9.T17 : Bool × List (List Nat × List Nat) := (true, [([], []), ([], []), ([1], [1]), ([2], [2]), ([], []), ([], []), ([5], [5]), ([6], [6]), ([4, 7], [4, 7]), ([8], [8]), ([], []), ([10], [10]), ([11], [11]), ([3, 9, 12], [3, 9, 12]), ([13], [13]), ([0, 14], [0, 14]), ([15, 15, 0, 1, 2, 3, 4, 5, 6, 7, 8, 9, 10, 11, 12, 13, 14, 15], [0, 15])])
def d9.B17 : List Nat := [0, 0, 2, 6, 0, 0, 32, 96, 240, 496, 0, 1024, 3072, 8190, 16382, 32767, 65535]
theorem d9.v9j : I5 .any (opsOf Tryz.f21 17) = d9.T17 := by kernel_rfl
theorem d9.v95 : q04 d9.T17.2 d9.B17 = true := by kernel_rfl
end Go.Proofs.YtkfledgkhgcicaaGreat.PFg
