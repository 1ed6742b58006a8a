import Derived.Test.YtjdkdbeenggfaaaPErx0
import Derived.Test.YtjdkdbeenggfaaaPErx2
import Derived.Test.YtjdkdbeenggfaaaPErx4
import Derived.Test.YtjdkdbeenggfaaaPErx21
import Derived.Test.YtjdkdbeenggfaaaPErx22
namespace Go.Proofs.Ytjdkdbeenggfaaa.PEr
open Go.RowKit Go.Proofs.YtjdkdbeenggfaaaW.PrintWords Go.Proofs.YtjdkdbeenggfaaaW.PrintLast Go.Proofs.YtjdkdbeenggfaaaW.PrintMore
attribute [local go_sem] max2_int min2_int max_two min_two max_three min_three max_four min_four   -- for this text's walks alone
set_option linter.unusedVariables false
set_option linter.unusedSimpArgs false
def Q4.l0 : Nat → Int → Int → Int → Int → List ByteArray → Int → Int → Option (Int)
  | 0, _, _, _, _, _, _, _ => none
  | k + 1, x1, x2, x3, x9, x13, x14, x15 => if x15 < x14 then (if 0 ≤ x15 then (if x15 < (x13.length : Int) then (if x2 = 0 then (none) else (if 0 ≤ x1 then (if x1 < ((rdOf ByteArray.empty x13 x15).size : Int) then (if (bt (rdOf ByteArray.empty x13 x15) x1) = 111 then (if ((Int.tmod x15 x2) = x3) then (if (bt (rdOf ByteArray.empty x13 x15) x1) = 46 then (if (Int.tmod x15 x2) = x3 then (Q4.l0 k x1 x2 x3 (wrap64 (x9 + 1)) x13 x14 (wrap64 (x15 + 1))) else (Q4.l0 k x1 x2 x3 x9 x13 x14 (wrap64 (x15 + 1)))) else (Q4.l0 k x1 x2 x3 x9 x13 x14 (wrap64 (x15 + 1)))) else (Q4.l0 k x1 x2 x3 (wrap64 (x9 + 1)) x13 x14 (wrap64 (x15 + 1)))) else (if (bt (rdOf ByteArray.empty x13 x15) x1) = 46 then (if (Int.tmod x15 x2) = x3 then (Q4.l0 k x1 x2 x3 (wrap64 (x9 + 1)) x13 x14 (wrap64 (x15 + 1))) else (Q4.l0 k x1 x2 x3 x9 x13 x14 (wrap64 (x15 + 1)))) else (Q4.l0 k x1 x2 x3 x9 x13 x14 (wrap64 (x15 + 1))))) else (none)) else (none))) else (none)) else (none)) else (some x9)
def Q4.f (k : Nat) (l0 : List ByteArray) (a1 : Int) (a2 : Int) (a3 : Int) : Option (Int) := Q4.l0 k a1 a2 a3 0 l0 (l0.length : Int) 0
set_option maxHeartbeats 8000000 in
set_option maxRecDepth 100000 in
theorem Q4.calls (k : Nat) (A0 : Option Addr) (c0 : Nat) (l0 : List ByteArray) (a1 : Int) (a2 : Int) (a3 : Int) (r : Int) (w : World) (hr0 : Kd.C Kd.string w A0 l0.length l0) (hc0 : l0.length ≤ c0) (h : Q4.f k l0 a1 a2 a3 = some r) :
  Calls Try.prog 93 #[.slice A0 l0.length c0, .int .i64 a1, .int .i64 a2, .int .i64 a3] w fun e w' => e = .returned (.int .i64 r) ∧ Drawn0 w w' := by
 have HR0 := zm hr0;have HC0 := zm hc0;clear hr0 hc0;have H : (Q4.l0 k a1 a2 a3 0 l0 (l0.length : Int) 0) = some r := h;clear h;have H' := zm H;clear H;go_enter Try.func93, Try.ntmps93;go_wp2;go_loopg [9, 15] k (fun kq v9 v15 w' => ∃ (x9_1 : Int) (x15_1 : Int), v9 = .int .i64 x9_1 ∧ v15 = .int .i64 x15_1 ∧ Aside0 (Q4.l0 kq a1 a2 a3 x9_1 l0 (l0.length : Int) x15_1 = some r) ∧ Aside0 (kq ≤ k) ∧ Drawn0 w w')
 case atStart => exact ⟨(0), (0), zz, zz, H', ⟨Nat.le_refl _⟩, zw⟩
 case round =>
  clear H';try clear p2
  obtain ⟨x9_1, x15_1, rfl, rfl, HA, HK1, ⟨m1, rfl⟩⟩ := hrel;cases gk with
  | zero => exact absurd HA.out (by simp [Q4.l0])
  | succ k1 =>
   have H := HA.out;clear HA;simp only [Q4.l0] at H;by_cases c5 : x15_1 < (l0.length : Int)
   rotate_left
   ·
    rw [if_neg c5] at H;have c5b0 := decide_eq_false c5;clear c5;obtain rfl := Option.some.inj H;go_wp2;go_ret
    exact ⟨zz, zw⟩
   rw [if_pos c5] at H;have c5b0 := decide_eq_true c5;clear c5;obtain ⟨c6, H⟩ := zJ H;have c6b0 := decide_eq_true c6;clear c6;obtain ⟨c7, H⟩ := zJ H;have c7b0 := decide_eq_true c7;clear c7;by_cases c8 : a2 = 0
   ·
    rw [if_pos c8] at H;exact absurd H (by simp)
   rw [if_neg c8] at H;have c8b0 : (a2 == 0) = false := beq_eq_false_iff_ne.mpr c8;have c8b1 : (a2 != 0) = true := bne_iff_ne.mpr c8;obtain ⟨c9, H⟩ := zJ H;have c9b0 := decide_eq_true c9;clear c9;obtain ⟨c10, H⟩ := zJ H;have c10b0 := decide_eq_true c10;clear c10;by_cases c12 : (bt (rdOf ByteArray.empty l0 x15_1) a1) = 111
   rotate_left
   ·
    rw [if_neg c12] at H;have c12b0 : ((bt (rdOf ByteArray.empty l0 x15_1) a1) == 111) = false := beq_eq_false_iff_ne.mpr c12;have c12b1 : ((bt (rdOf ByteArray.empty l0 x15_1) a1) != 111) = true := bne_iff_ne.mpr c12;by_cases c18 : (bt (rdOf ByteArray.empty l0 x15_1) a1) = 46
    rotate_left
    ·
     rw [if_neg c18] at H;have c18b0 : ((bt (rdOf ByteArray.empty l0 x15_1) a1) == 46) = false := beq_eq_false_iff_ne.mpr c18;have c18b1 : ((bt (rdOf ByteArray.empty l0 x15_1) a1) != 46) = true := bne_iff_ne.mpr c18;have H' := zm H;clear H;have p685 : 0 ≤ (x15_1 : Int) := zd;have q685 : x15_1 < (l0.length : Int) := zd;obtain ⟨ad685, e685, hx685_0⟩ := Kd.at_string HR0.out x15_1 p685 q685;cases e685;replace p685 := eq_true p685;replace q685 := eq_true q685;have p11 : 0 ≤ (a1 : Int) := zd;have q11 : a1 < ((rdOf ByteArray.empty l0 x15_1).size : Int) := zd;have hx11 := bt_at (rdOf ByteArray.empty l0 x15_1) a1;replace p11 := eq_true p11;replace q11 := eq_true q11;have p17 : 0 ≤ (a1 : Int) := zd;have q17 : a1 < ((rdOf ByteArray.empty l0 x15_1).size : Int) := zd;have hx17 := bt_at (rdOf ByteArray.empty l0 x15_1) a1;replace p17 := eq_true p17;replace q17 := eq_true q17;go_wp2;go_roundg k1
     case measure => have := HK1.out; omega
     case rel => exact ⟨(x9_1), (wrap64 (x15_1 + 1)), zz, zz, H', ⟨by have := HK1.out; omega⟩, zw⟩
    rw [if_pos c18] at H;have c18b0 : ((bt (rdOf ByteArray.empty l0 x15_1) a1) == 46) = true := beq_iff_eq.mpr c18;have c18b1 : ((bt (rdOf ByteArray.empty l0 x15_1) a1) != 46) = false := bne_eq_false_iff_eq.mpr c18;clear c18;by_cases c19 : (Int.tmod x15_1 a2) = a3
    rotate_left
    ·
     rw [if_neg c19] at H;have c19b0 : ((Int.tmod x15_1 a2) == a3) = false := beq_eq_false_iff_ne.mpr c19;have c19b1 : ((Int.tmod x15_1 a2) != a3) = true := bne_iff_ne.mpr c19;have H' := zm H;clear H;have p685 : 0 ≤ (x15_1 : Int) := zd;have q685 : x15_1 < (l0.length : Int) := zd;obtain ⟨ad685, e685, hx685_0⟩ := Kd.at_string HR0.out x15_1 p685 q685;cases e685;replace p685 := eq_true p685;replace q685 := eq_true q685;have p11 : 0 ≤ (a1 : Int) := zd;have q11 : a1 < ((rdOf ByteArray.empty l0 x15_1).size : Int) := zd;have hx11 := bt_at (rdOf ByteArray.empty l0 x15_1) a1;replace p11 := eq_true p11;replace q11 := eq_true q11;have p17 : 0 ≤ (a1 : Int) := zd;have q17 : a1 < ((rdOf ByteArray.empty l0 x15_1).size : Int) := zd;have hx17 := bt_at (rdOf ByteArray.empty l0 x15_1) a1;replace p17 := eq_true p17;replace q17 := eq_true q17;go_wp2;go_roundg k1
     case measure => have := HK1.out; omega
     case rel => exact ⟨(x9_1), (wrap64 (x15_1 + 1)), zz, zz, H', ⟨by have := HK1.out; omega⟩, zw⟩
    rw [if_pos c19] at H;have c19b0 : ((Int.tmod x15_1 a2) == a3) = true := beq_iff_eq.mpr c19;have c19b1 : ((Int.tmod x15_1 a2) != a3) = false := bne_eq_false_iff_eq.mpr c19;clear c19;have H' := zm H;clear H;have p685 : 0 ≤ (x15_1 : Int) := zd;have q685 : x15_1 < (l0.length : Int) := zd;obtain ⟨ad685, e685, hx685_0⟩ := Kd.at_string HR0.out x15_1 p685 q685;cases e685;replace p685 := eq_true p685;replace q685 := eq_true q685;have p11 : 0 ≤ (a1 : Int) := zd;have q11 : a1 < ((rdOf ByteArray.empty l0 x15_1).size : Int) := zd;have hx11 := bt_at (rdOf ByteArray.empty l0 x15_1) a1;replace p11 := eq_true p11;replace q11 := eq_true q11;have p17 : 0 ≤ (a1 : Int) := zd;have q17 : a1 < ((rdOf ByteArray.empty l0 x15_1).size : Int) := zd;have hx17 := bt_at (rdOf ByteArray.empty l0 x15_1) a1;replace p17 := eq_true p17;replace q17 := eq_true q17;go_wp2;go_roundg k1
    case measure => have := HK1.out; omega
    case rel => exact ⟨(wrap64 (x9_1 + 1)), (wrap64 (x15_1 + 1)), zz, zz, H', ⟨by have := HK1.out; omega⟩, zw⟩
   rw [if_pos c12] at H;have c12b0 : ((bt (rdOf ByteArray.empty l0 x15_1) a1) == 111) = true := beq_iff_eq.mpr c12;have c12b1 : ((bt (rdOf ByteArray.empty l0 x15_1) a1) != 111) = false := bne_eq_false_iff_eq.mpr c12;clear c12;by_cases c13 : ((Int.tmod x15_1 a2) = a3)
   rotate_left
   ·
    rw [if_neg c13] at H;have c13b0 : ((Int.tmod x15_1 a2) == a3) = false := beq_eq_false_iff_ne.mpr c13;have c13b1 : ((Int.tmod x15_1 a2) != a3) = true := bne_iff_ne.mpr c13;have H' := zm H;clear H;have p685 : 0 ≤ (x15_1 : Int) := zd;have q685 : x15_1 < (l0.length : Int) := zd;obtain ⟨ad685, e685, hx685_0⟩ := Kd.at_string HR0.out x15_1 p685 q685;cases e685;replace p685 := eq_true p685;replace q685 := eq_true q685;have p11 : 0 ≤ (a1 : Int) := zd;have q11 : a1 < ((rdOf ByteArray.empty l0 x15_1).size : Int) := zd;have hx11 := bt_at (rdOf ByteArray.empty l0 x15_1) a1;replace p11 := eq_true p11;replace q11 := eq_true q11;go_wp2;go_roundg k1
    case measure => have := HK1.out; omega
    case rel => exact ⟨(wrap64 (x9_1 + 1)), (wrap64 (x15_1 + 1)), zz, zz, H', ⟨by have := HK1.out; omega⟩, zw⟩
   rw [if_pos c13] at H;have c13b0 : ((Int.tmod x15_1 a2) == a3) = true := beq_iff_eq.mpr c13;have c13b1 : ((Int.tmod x15_1 a2) != a3) = false := bne_eq_false_iff_eq.mpr c13;clear c13;by_cases c15 : (bt (rdOf ByteArray.empty l0 x15_1) a1) = 46
   rotate_left
   ·
    rw [if_neg c15] at H;have c15b0 : ((bt (rdOf ByteArray.empty l0 x15_1) a1) == 46) = false := beq_eq_false_iff_ne.mpr c15;have c15b1 : ((bt (rdOf ByteArray.empty l0 x15_1) a1) != 46) = true := bne_iff_ne.mpr c15;have H' := zm H;clear H;have p685 : 0 ≤ (x15_1 : Int) := zd;have q685 : x15_1 < (l0.length : Int) := zd;obtain ⟨ad685, e685, hx685_0⟩ := Kd.at_string HR0.out x15_1 p685 q685;cases e685;replace p685 := eq_true p685;replace q685 := eq_true q685;have p11 : 0 ≤ (a1 : Int) := zd;have q11 : a1 < ((rdOf ByteArray.empty l0 x15_1).size : Int) := zd;have hx11 := bt_at (rdOf ByteArray.empty l0 x15_1) a1;replace p11 := eq_true p11;replace q11 := eq_true q11;have p14 : 0 ≤ (a1 : Int) := zd;have q14 : a1 < ((rdOf ByteArray.empty l0 x15_1).size : Int) := zd;have hx14 := bt_at (rdOf ByteArray.empty l0 x15_1) a1;replace p14 := eq_true p14;replace q14 := eq_true q14;go_wp2;go_roundg k1
    case measure => have := HK1.out; omega
    case rel => exact ⟨(x9_1), (wrap64 (x15_1 + 1)), zz, zz, H', ⟨by have := HK1.out; omega⟩, zw⟩
   exact absurd (c15.symm.trans (beq_iff_eq.mp c12b0)) (by decide)
def J8.l0 : Nat → List ByteArray → Int → Int → Int → Int → Int → Option (Int × Int × Bool)
  | 0, _, _, _, _, _, _ => none
  | k + 1, x0, x1, x2, x9, x10, x11 => if x11 < x2 then ((Q4.f k x0 x1 x2 x11).bind fun t687 => (if x10 < 0 then (J8.l0 k x0 x1 x2 x11 t687 (wrap64 (x11 + 1))) else (if t687 < x10 then (J8.l0 k x0 x1 x2 x11 t687 (wrap64 (x11 + 1))) else (J8.l0 k x0 x1 x2 x9 x10 (wrap64 (x11 + 1)))))) else (some (x9, x10, true))
def J8.f (k : Nat) (l0 : List ByteArray) (a1 : Int) (a2 : Int) : Option (Int × Int × Bool) := (D9.f k l0 a1 a2).bind fun t686 => (if t686 = true then (J8.l0 k l0 a1 a2 0 (-1) 0) else (some (0, 0, false)))
set_option maxHeartbeats 8000000 in
set_option maxRecDepth 100000 in
theorem J8.calls (k : Nat) (A0 : Option Addr) (c0 : Nat) (l0 : List ByteArray) (a1 : Int) (a2 : Int) (r1 : Int) (r2 : Int) (r3 : Bool) (w : World) (hr0 : Kd.C Kd.string w A0 l0.length l0) (hc0 : l0.length ≤ c0) (h : J8.f k l0 a1 a2 = some (r1, r2, r3)) :
  Calls Try.prog 42 #[.slice A0 l0.length c0, .int .i64 a1, .int .i64 a2] w fun e w' => e = .returned (.tuple #[.int .i64 r1, .int .i64 r2, .bool r3]) ∧ Drawn0 w w' := by
 have HR0 := zm hr0;have HC0 := zm hc0;clear hr0 hc0;have H : ((D9.f k l0 a1 a2).bind fun t686 => (if t686 = true then (J8.l0 k l0 a1 a2 0 (-1) 0) else (some (0, 0, false)))) = some (r1, r2, r3) := h;clear h;obtain ⟨t686, A4, H⟩ := zI H;(try dsimp only at H);by_cases c5 : t686 = true
 rotate_left
 ·
  replace c5 := Bool.eq_false_iff.mpr c5;subst c5;rw [if_neg (show ¬ (false = true) by decide)] at H;simp only [Option.some.injEq, Prod.mk.injEq] at H;obtain ⟨rfl, rfl, rfl⟩ := H;go_enter Try.func42, Try.ntmps42;go_wp2_with (first | ((with_reducible refine gate_callee (f := 92) rfl ?_); refine goesA_ (some 16) Try.func92 #[.slice A0 l0.length c0, .int .i64 a1, .int .i64 a2] rfl ?_; (with_reducible refine (D9.calls k _ _ l0 a1 a2 false _ ?side1 ?side2 A4.out).mono ?_); (case side1 => exact zF HR0.out); (case side2 => exact HC0.out); rintro e w' ⟨rfl, ⟨nd, rfl⟩⟩; refine ⟨_, rfl, ?_⟩))
  go_ret3
  exact ⟨zz, zw⟩
 subst c5;rw [if_pos rfl] at H;have H' := zm H;clear H;go_enter Try.func42, Try.ntmps42;go_wp2_with (first | ((with_reducible refine gate_callee (f := 92) rfl ?_); refine goesA_ (some 16) Try.func92 #[.slice A0 l0.length c0, .int .i64 a1, .int .i64 a2] rfl ?_; (with_reducible refine (D9.calls k _ _ l0 a1 a2 true _ ?side1 ?side2 A4.out).mono ?_); (case side1 => exact zF HR0.out); (case side2 => exact HC0.out); rintro e w' ⟨rfl, ⟨nd, rfl⟩⟩; refine ⟨_, rfl, ?_⟩))
 go_loopg [9, 10, 11] k (fun kq v9 v10 v11 w' => ∃ (x9_1 : Int) (x10_1 : Int) (x11_1 : Int), v9 = .int .i64 x9_1 ∧ v10 = .int .i64 x10_1 ∧ v11 = .int .i64 x11_1 ∧ Aside0 (J8.l0 kq l0 a1 a2 x9_1 x10_1 x11_1 = some (r1, r2, r3)) ∧ Aside0 (kq ≤ k) ∧ Drawn0 w w')
 case atStart => exact ⟨(0), ((-1)), (0), zz, zz, zz, H', ⟨Nat.le_refl _⟩, zw⟩
 case round =>
  clear H';(try clear p2);obtain ⟨x9_1, x10_1, x11_1, rfl, rfl, rfl, HA, HK1, ⟨m1, rfl⟩⟩ := hrel;cases gk with
  | zero => exact absurd HA.out (by simp [J8.l0])
  | succ k1 =>
   have H := HA.out;clear HA;simp only [J8.l0] at H;by_cases c6 : x11_1 < a2
   rotate_left
   ·
    rw [if_neg c6] at H;have c6b0 := decide_eq_false c6;clear c6;simp only [Option.some.injEq, Prod.mk.injEq] at H;obtain ⟨rfl, rfl, rfl⟩ := H;go_wp2;go_ret3
    exact ⟨zz, zw⟩
   rw [if_pos c6] at H;have c6b0 := decide_eq_true c6;clear c6;obtain ⟨t687, A7, H⟩ := zI H;(try dsimp only at H);by_cases c8 : x10_1 < 0
   ·
    rw [if_pos c8] at H;have c8b0 := decide_eq_true c8;clear c8;have H' := zm H;clear H;go_wp2_with (first | ((with_reducible refine gate_callee (f := 93) rfl ?_); refine goesA_ (some 27) Try.func93 #[.slice A0 l0.length c0, .int .i64 a1, .int .i64 a2, .int .i64 x11_1] rfl ?_; (with_reducible refine (Q4.calls k1 _ _ l0 a1 a2 x11_1 t687 _ ?side1 ?side2 A7.out).mono ?_); (case side1 => exact zF HR0.out); (case side2 => exact HC0.out); rintro e w' ⟨rfl, ⟨nd, rfl⟩⟩; refine ⟨_, rfl, ?_⟩))
    go_roundg k1
    case measure => have := HK1.out; omega
    case rel => exact ⟨(x11_1), (t687), (wrap64 (x11_1 + 1)), zz, zz, zz, H', ⟨by have := HK1.out; omega⟩, zw⟩
   rw [if_neg c8] at H;have c8b0 := decide_eq_false c8;clear c8;by_cases c9 : t687 < x10_1
   rotate_left
   ·
    rw [if_neg c9] at H;have c9b0 := decide_eq_false c9;clear c9;have H' := zm H;clear H;go_wp2_with (first | ((with_reducible refine gate_callee (f := 93) rfl ?_); refine goesA_ (some 27) Try.func93 #[.slice A0 l0.length c0, .int .i64 a1, .int .i64 a2, .int .i64 x11_1] rfl ?_; (with_reducible refine (Q4.calls k1 _ _ l0 a1 a2 x11_1 t687 _ ?side1 ?side2 A7.out).mono ?_); (case side1 => exact zF HR0.out); (case side2 => exact HC0.out); rintro e w' ⟨rfl, ⟨nd, rfl⟩⟩; refine ⟨_, rfl, ?_⟩))
    go_roundg k1
    case measure => have := HK1.out; omega
    case rel => exact ⟨(x9_1), (x10_1), (wrap64 (x11_1 + 1)), zz, zz, zz, H', ⟨by have := HK1.out; omega⟩, zw⟩
   rw [if_pos c9] at H;have c9b0 := decide_eq_true c9;clear c9;have H' := zm H;clear H;go_wp2_with (first | ((with_reducible refine gate_callee (f := 93) rfl ?_); refine goesA_ (some 27) Try.func93 #[.slice A0 l0.length c0, .int .i64 a1, .int .i64 a2, .int .i64 x11_1] rfl ?_; (with_reducible refine (Q4.calls k1 _ _ l0 a1 a2 x11_1 t687 _ ?side1 ?side2 A7.out).mono ?_); (case side1 => exact zF HR0.out); (case side2 => exact HC0.out); rintro e w' ⟨rfl, ⟨nd, rfl⟩⟩; refine ⟨_, rfl, ?_⟩))
   go_roundg k1
   case measure => have := HK1.out; omega
   case rel => exact ⟨(x11_1), (t687), (wrap64 (x11_1 + 1)), zz, zz, zz, H', ⟨by have := HK1.out; omega⟩, zw⟩
def X6.f (k : Nat) (l0 : List Int) : Option (List ByteArray × Int × Int × Int) := (l8.f k l0 0 0).bind fun bt689 => ((j5.f l0 bt689.2.2.2.1 bt689.2.2.2.2 16).bind fun bt696 => ((j5.f l0 bt696.2.1 bt696.2.2 (wrap64 (bt689.2.2.1 + (wrap64 (Int.tdiv bt696.1 15))))).bind fun bt699 => ((j5.f l0 bt699.2.1 bt699.2.2 24).bind fun bt702 => (some (bt689.1, bt689.2.1, bt689.2.2.1, wrap64 (bt699.1 - (wrap64 (Int.tdiv bt702.1 23))))))))
set_option maxHeartbeats 8000000 in
set_option maxRecDepth 100000 in
theorem X6.calls (k : Nat) (A0 : Option Addr) (c0 : Nat) (l0 : List Int) (r1 : List ByteArray) (r2 : Int) (r3 : Int) (r4 : Int) (w : World) (hr0 : Kd.C (Kd.int .u8) w A0 l0.length l0) (hc0 : l0.length ≤ c0) (h : X6.f k l0 = some (r1, r2, r3, r4)) :
  Calls Try.prog 43 #[.slice A0 l0.length c0] w fun e w' => ∃ v0_ : Value, e = .returned (.tuple #[v0_, .int .i64 r2, .int .i64 r3, .int .i64 r4]) ∧ Kd.R Kd.string 9 w' w.heap.size (fun _ => True) v0_ r1 ∧ Below w.heap.size w w' := by
 have hu71 := Try.underlying71;have HR0 := zm hr0;have HC0 := zm hc0;clear hr0 hc0;have HB := zm (Below.refl w.heap.size w);have H : ((l8.f k l0 0 0).bind fun bt689 => ((j5.f l0 bt689.2.2.2.1 bt689.2.2.2.2 16).bind fun bt696 => ((j5.f l0 bt696.2.1 bt696.2.2 (wrap64 (bt689.2.2.1 + (wrap64 (Int.tdiv bt696.1 15))))).bind fun bt699 => ((j5.f l0 bt699.2.1 bt699.2.2 24).bind fun bt702 => (some (bt689.1, bt689.2.1, bt689.2.2.1, wrap64 (bt699.1 - (wrap64 (Int.tdiv bt702.1 23))))))))) = some (r1, r2, r3, r4) := h;clear h;obtain ⟨⟨t689, t692, t693, t694, t695⟩, A2, H⟩ := zI H;(try dsimp only at H);obtain ⟨⟨t696, t697, t698⟩, A3, H⟩ := zI H;(try dsimp only at H);obtain ⟨⟨t699, t700, t701⟩, A4, H⟩ := zI H;(try dsimp only at H);obtain ⟨⟨t702, t703, t704⟩, A5, H⟩ := zI H;(try dsimp only at H);simp only [Option.some.injEq, Prod.mk.injEq] at H;obtain ⟨rfl, rfl, rfl, rfl⟩ := H;go_enter Try.func43, Try.ntmps43;go_wp2_with (first | ((with_reducible refine gate_dst (N := 12) rfl ?_); refine box_event ?hg (N := 12) ?hd (cs := #[.slice A0 l0.length c0, .int .i64 0, .int .u64 0]) (t := 71) ?hr ?_; (case hd => rfl); (case hg => rfl); (case hr => first | (go_simp; done) | (go_simp; rfl)); intro gb688 hg w6 hbox hb; have n0_ := zm (below_step zb hb); have HI688 := zm ((show j4 w _ gb688 l0 0 0 from ⟨_, _, hbox, (by rw [hg]; exact (below_size zb) : w.heap.size ≤ gb688), HR0.out⟩)); have GW688 := zm (zs hg zb : w.heap.size ≤ gb688); have GE688 := zm (zs hg zb : w.heap.size ≤ gb688); replace HB := n0_; clear n0_; clear hb hbox hg) | ((with_reducible refine gate_callee (f := 89) rfl ?_); refine goesA_ (some 15) Try.func89 #[.pointer (some ⟨gb688, 0, none⟩)] rfl ?_; (with_reducible refine (l8.calls k gb688 l0 0 0 t689 t692 t693 t694 t695 w _ ?side1 ?side2 A2.out).mono ?_); (case side1 => exact y8); (case side2 => exact zb); rintro e w7 ⟨v690, rfl, ho0, hi, hb, hk⟩; refine ⟨_, rfl, ?_⟩; have HO691 := zm (Kd.R_lower ho0 (below_size zb)); replace HB := zm (hb); replace HI688 := zm (hi); (try clear hb); (try clear hk); (try clear hi); (try clear ho0)) | ((with_reducible refine gate_callee (f := 94) rfl ?_); refine goesA_ (some 25) Try.func94 #[.pointer (some ⟨gb688, 0, none⟩), .int .i64 16] rfl ?_; (with_reducible refine (j5.calls gb688 l0 t694 t695 16 t696 t697 t698 w _ ?side1 ?side2 A3.out).mono ?_); (case side1 => exact y8); (case side2 => exact zb); rintro e w8 ⟨rfl, hi, hb, hk⟩; refine ⟨_, rfl, ?_⟩; replace HO691 := zm (Kd.R_mono (Kd.R_keep (j4.apart (show j4 w _ gb688 l0 t694 t695 from y8) (zP HO691.out) (by decide)) hk (fun _ h => h.2)) (fun _ h => h.1)); replace HB := zm (hb); replace HI688 := zm (hi); (try clear hb); (try clear hk); (try clear hi)) | ((with_reducible refine gate_callee (f := 94) rfl ?_); refine goesA_ (some 28) Try.func94 #[.pointer (some ⟨gb688, 0, none⟩), .int .i64 (wrap64 (t693 + (wrap64 (Int.tdiv t696 15))))] rfl ?_; (with_reducible refine (j5.calls gb688 l0 t697 t698 (wrap64 (t693 + (wrap64 (Int.tdiv t696 15)))) t699 t700 t701 w _ ?side1 ?side2 A4.out).mono ?_); (case side1 => exact y8); (case side2 => exact zb); rintro e w9 ⟨rfl, hi, hb, hk⟩; refine ⟨_, rfl, ?_⟩; replace HO691 := zm (Kd.R_mono (Kd.R_keep (j4.apart (show j4 w _ gb688 l0 t697 t698 from y8) (zP HO691.out) (by decide)) hk (fun _ h => h.2)) (fun _ h => h.1)); replace HB := zm (hb); replace HI688 := zm (hi); (try clear hb); (try clear hk); (try clear hi)) | ((with_reducible refine gate_callee (f := 94) rfl ?_); refine goesA_ (some 30) Try.func94 #[.pointer (some ⟨gb688, 0, none⟩), .int .i64 24] rfl ?_; (with_reducible refine (j5.calls gb688 l0 t700 t701 24 t702 t703 t704 w _ ?side1 ?side2 A5.out).mono ?_); (case side1 => exact y8); (case side2 => exact zb); rintro e w10 ⟨rfl, hi, hb, hk⟩; refine ⟨_, rfl, ?_⟩; replace HO691 := zm (Kd.R_mono (Kd.R_keep (j4.apart (show j4 w _ gb688 l0 t700 t701 from y8) (zP HO691.out) (by decide)) hk (fun _ h => h.2)) (fun _ h => h.1)); replace HB := zm (hb); replace HI688 := zm (hi); (try clear hb); (try clear hk); (try clear hi)))
 refine bodyPost_ret (results_list (rs := [.tmp 2, .tmp 3, .tmp 4, .tmp 5]) rfl (by simp) (.tmp (.tmp (.tmp (.tmp .nil))))) rfl ?_
 exact ⟨_, zr, zP HO691.out, zb⟩
def Y4.f (k : Nat) (l0 : List ByteArray) (a1 : Int) (a2 : Int) (a3 : Int) : Option (Int × Bool) := (D5.f k l0 a1 a2).bind fun t705 => (if t705 = true then (if a3 < 0 then (some (0, false)) else (if a3 ≥ a2 then (some (0, false)) else ((o8.f k l0 a1 a2 a3).bind fun t706 => (some (t706, true))))) else (some (0, false)))
set_option maxHeartbeats 8000000 in
set_option maxRecDepth 100000 in
theorem Y4.calls (k : Nat) (A0 : Option Addr) (c0 : Nat) (l0 : List ByteArray) (a1 : Int) (a2 : Int) (a3 : Int) (r1 : Int) (r2 : Bool) (w : World) (hr0 : Kd.C Kd.string w A0 l0.length l0) (hc0 : l0.length ≤ c0) (h : Y4.f k l0 a1 a2 a3 = some (r1, r2)) :
  Calls Try.prog 44 #[.slice A0 l0.length c0, .int .i64 a1, .int .i64 a2, .int .i64 a3] w fun e w' => e = .returned (.tuple #[.int .i64 r1, .bool r2]) ∧ Drawn0 w w' := by
 have HR0 := zm hr0;have HC0 := zm hc0;clear hr0 hc0;have H : ((D5.f k l0 a1 a2).bind fun t705 => (if t705 = true then (if a3 < 0 then (some (0, false)) else (if a3 ≥ a2 then (some (0, false)) else ((o8.f k l0 a1 a2 a3).bind fun t706 => (some (t706, true))))) else (some (0, false)))) = some (r1, r2) := h;clear h;obtain ⟨t705, A5, H⟩ := zI H;(try dsimp only at H);by_cases c6 : t705 = true
 rotate_left
 ·
  replace c6 := Bool.eq_false_iff.mpr c6;subst c6;rw [if_neg (show ¬ (false = true) by decide)] at H;simp only [Option.some.injEq, Prod.mk.injEq] at H;obtain ⟨rfl, rfl⟩ := H;go_enter Try.func44, Try.ntmps44;go_wp2_with (first | ((with_reducible refine gate_callee (f := 90) rfl ?_); refine goesA_ (some 13) Try.func90 #[.slice A0 l0.length c0, .int .i64 a1, .int .i64 a2] rfl ?_; (with_reducible refine (D5.calls k _ _ l0 a1 a2 false _ ?side1 ?side2 A5.out).mono ?_); (case side1 => exact zF HR0.out); (case side2 => exact HC0.out); rintro e w' ⟨rfl, ⟨nd, rfl⟩⟩; refine ⟨_, rfl, ?_⟩))
  go_ret2
  exact ⟨zz, zw⟩
 subst c6;rw [if_pos rfl] at H;by_cases c7 : a3 < 0
 ·
  rw [if_pos c7] at H;have c7b0 := decide_eq_true c7;clear c7;simp only [Option.some.injEq, Prod.mk.injEq] at H;obtain ⟨rfl, rfl⟩ := H;go_enter Try.func44, Try.ntmps44;go_wp2_with (first | ((with_reducible refine gate_callee (f := 90) rfl ?_); refine goesA_ (some 13) Try.func90 #[.slice A0 l0.length c0, .int .i64 a1, .int .i64 a2] rfl ?_; (with_reducible refine (D5.calls k _ _ l0 a1 a2 true _ ?side1 ?side2 A5.out).mono ?_); (case side1 => exact zF HR0.out); (case side2 => exact HC0.out); rintro e w' ⟨rfl, ⟨nd, rfl⟩⟩; refine ⟨_, rfl, ?_⟩))
  go_ret2
  exact ⟨zz, zw⟩
 rw [if_neg c7] at H;have c7b0 := decide_eq_false c7;clear c7;by_cases c8 : a3 ≥ a2
 ·
  rw [if_pos c8] at H;have c8b0 : decide (a2 ≤ a3) = true := decide_eq_true c8;clear c8;simp only [Option.some.injEq, Prod.mk.injEq] at H;obtain ⟨rfl, rfl⟩ := H;go_enter Try.func44, Try.ntmps44;go_wp2_with (first | ((with_reducible refine gate_callee (f := 90) rfl ?_); refine goesA_ (some 13) Try.func90 #[.slice A0 l0.length c0, .int .i64 a1, .int .i64 a2] rfl ?_; (with_reducible refine (D5.calls k _ _ l0 a1 a2 true _ ?side1 ?side2 A5.out).mono ?_); (case side1 => exact zF HR0.out); (case side2 => exact HC0.out); rintro e w' ⟨rfl, ⟨nd, rfl⟩⟩; refine ⟨_, rfl, ?_⟩))
  go_ret2
  exact ⟨zz, zw⟩
 rw [if_neg c8] at H;have c8b0 : decide (a2 ≤ a3) = false := decide_eq_false c8;clear c8;obtain ⟨t706, A9, H⟩ := zI H;(try dsimp only at H);simp only [Option.some.injEq, Prod.mk.injEq] at H;obtain ⟨rfl, rfl⟩ := H;go_enter Try.func44, Try.ntmps44;go_wp2_with (first | ((with_reducible refine gate_callee (f := 90) rfl ?_); refine goesA_ (some 13) Try.func90 #[.slice A0 l0.length c0, .int .i64 a1, .int .i64 a2] rfl ?_; (with_reducible refine (D5.calls k _ _ l0 a1 a2 true _ ?side1 ?side2 A5.out).mono ?_); (case side1 => exact zF HR0.out); (case side2 => exact HC0.out); rintro e w' ⟨rfl, ⟨nd, rfl⟩⟩; refine ⟨_, rfl, ?_⟩) | ((with_reducible refine gate_callee (f := 91) rfl ?_); refine goesA_ (some 28) Try.func91 #[.slice A0 l0.length c0, .int .i64 a1, .int .i64 a2, .int .i64 a3] rfl ?_; (with_reducible refine (o8.calls k _ _ l0 a1 a2 a3 t706 _ ?side1 ?side2 A9.out).mono ?_); (case side1 => exact zF HR0.out); (case side2 => exact HC0.out); rintro e w' ⟨rfl, ⟨nd, rfl⟩⟩; refine ⟨_, rfl, ?_⟩))
 go_ret2
 exact ⟨zz, zw⟩
def Y5.f (k : Nat) (l0 : List ByteArray) (a1 : Int) (a2 : Int) (a3 : Int) : Option (Int × Bool) := (D9.f k l0 a1 a2).bind fun t707 => (if t707 = true then ((V5.f a3 0 (wrap64 (a2 - 1))).bind fun t708 => (if t708 = true then ((Q4.f k l0 a1 a2 a3).bind fun t709 => (some (t709, true))) else (some (0, false)))) else (some (0, false)))
set_option maxHeartbeats 8000000 in
set_option maxRecDepth 100000 in
theorem Y5.calls (k : Nat) (A0 : Option Addr) (c0 : Nat) (l0 : List ByteArray) (a1 : Int) (a2 : Int) (a3 : Int) (r1 : Int) (r2 : Bool) (w : World) (hr0 : Kd.C Kd.string w A0 l0.length l0) (hc0 : l0.length ≤ c0) (h : Y5.f k l0 a1 a2 a3 = some (r1, r2)) :
  Calls Try.prog 45 #[.slice A0 l0.length c0, .int .i64 a1, .int .i64 a2, .int .i64 a3] w fun e w' => e = .returned (.tuple #[.int .i64 r1, .bool r2]) ∧ Drawn0 w w' := by
 have HR0 := zm hr0;have HC0 := zm hc0;clear hr0 hc0;have H : ((D9.f k l0 a1 a2).bind fun t707 => (if t707 = true then ((V5.f a3 0 (wrap64 (a2 - 1))).bind fun t708 => (if t708 = true then ((Q4.f k l0 a1 a2 a3).bind fun t709 => (some (t709, true))) else (some (0, false)))) else (some (0, false)))) = some (r1, r2) := h;clear h;obtain ⟨t707, A5, H⟩ := zI H;(try dsimp only at H);by_cases c6 : t707 = true
 rotate_left
 ·
  replace c6 := Bool.eq_false_iff.mpr c6;subst c6;rw [if_neg (show ¬ (false = true) by decide)] at H;simp only [Option.some.injEq, Prod.mk.injEq] at H;obtain ⟨rfl, rfl⟩ := H;go_enter Try.func45, Try.ntmps45;go_wp2_with (first | ((with_reducible refine gate_callee (f := 92) rfl ?_); refine goesA_ (some 13) Try.func92 #[.slice A0 l0.length c0, .int .i64 a1, .int .i64 a2] rfl ?_; (with_reducible refine (D9.calls k _ _ l0 a1 a2 false _ ?side1 ?side2 A5.out).mono ?_); (case side1 => exact zF HR0.out); (case side2 => exact HC0.out); rintro e w' ⟨rfl, ⟨nd, rfl⟩⟩; refine ⟨_, rfl, ?_⟩))
  go_ret2
  exact ⟨zz, zw⟩
 subst c6;rw [if_pos rfl] at H;obtain ⟨t708, A7, H⟩ := zI H;(try dsimp only at H);by_cases c8 : t708 = true
 rotate_left
 ·
  replace c8 := Bool.eq_false_iff.mpr c8;subst c8;rw [if_neg (show ¬ (false = true) by decide)] at H;simp only [Option.some.injEq, Prod.mk.injEq] at H;obtain ⟨rfl, rfl⟩ := H;go_enter Try.func45, Try.ntmps45;go_wp2_with (first | ((with_reducible refine gate_callee (f := 92) rfl ?_); refine goesA_ (some 13) Try.func92 #[.slice A0 l0.length c0, .int .i64 a1, .int .i64 a2] rfl ?_; (with_reducible refine (D9.calls k _ _ l0 a1 a2 true _ ?side1 ?side2 A5.out).mono ?_); (case side1 => exact zF HR0.out); (case side2 => exact HC0.out); rintro e w' ⟨rfl, ⟨nd, rfl⟩⟩; refine ⟨_, rfl, ?_⟩) | (go_at_call 95; (with_reducible refine (V5.calls a3 0 (wrap64 (a2 - 1)) false _ A7.out).mono ?_); rintro e w' ⟨rfl, ⟨nd, rfl⟩⟩))
  go_ret2
  exact ⟨zz, zw⟩
 subst c8;rw [if_pos rfl] at H;obtain ⟨t709, A9, H⟩ := zI H;(try dsimp only at H);simp only [Option.some.injEq, Prod.mk.injEq] at H;obtain ⟨rfl, rfl⟩ := H;go_enter Try.func45, Try.ntmps45;go_wp2_with (first | ((with_reducible refine gate_callee (f := 92) rfl ?_); refine goesA_ (some 13) Try.func92 #[.slice A0 l0.length c0, .int .i64 a1, .int .i64 a2] rfl ?_; (with_reducible refine (D9.calls k _ _ l0 a1 a2 true _ ?side1 ?side2 A5.out).mono ?_); (case side1 => exact zF HR0.out); (case side2 => exact HC0.out); rintro e w' ⟨rfl, ⟨nd, rfl⟩⟩; refine ⟨_, rfl, ?_⟩) | (go_at_call 95; (with_reducible refine (V5.calls a3 0 (wrap64 (a2 - 1)) true _ A7.out).mono ?_); rintro e w' ⟨rfl, ⟨nd, rfl⟩⟩) | ((with_reducible refine gate_callee (f := 93) rfl ?_); refine goesA_ (some 26) Try.func93 #[.slice A0 l0.length c0, .int .i64 a1, .int .i64 a2, .int .i64 a3] rfl ?_; (with_reducible refine (Q4.calls k _ _ l0 a1 a2 a3 t709 _ ?side1 ?side2 A9.out).mono ?_); (case side1 => exact zF HR0.out); (case side2 => exact HC0.out); rintro e w' ⟨rfl, ⟨nd, rfl⟩⟩; refine ⟨_, rfl, ?_⟩))
 go_ret2
 exact ⟨zz, zw⟩
end Go.Proofs.Ytjdkdbeenggfaaa.PEr
