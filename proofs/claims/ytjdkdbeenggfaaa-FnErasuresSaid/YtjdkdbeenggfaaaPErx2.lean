import Derived.Test.YtjdkdbeenggfaaaPErx0
import Derived.Test.YtjdkdbeenggfaaaPErx1
namespace Go.Proofs.Ytjdkdbeenggfaaa.PEr
open Go.RowKit Go.Proofs.YtjdkdbeenggfaaaW.PrintWords Go.Proofs.YtjdkdbeenggfaaaW.PrintLast Go.Proofs.YtjdkdbeenggfaaaW.PrintMore
attribute [local go_sem] max2_int min2_int max_two min_two max_three min_three max_four min_four   -- for this text's walks alone
set_option linter.unusedVariables false
set_option linter.unusedSimpArgs false
def V4.l0 : Nat → Int → Int → List Int → Int → Int → Option (Int × Int)
  | 0, _, _, _, _, _ => none
  | k + 1, x6, x7, x12, x13, x14 => if x14 < x13 then (if 0 ≤ x14 then (if x14 < (x12.length : Int) then (if (rd x12 x14) = 111 then (V4.l0 k (wrap64 (x6 + 1)) x7 x12 x13 (wrap64 (x14 + 1))) else (if (rd x12 x14) = 63 then (V4.l0 k x6 (wrap64 (x7 + 1)) x12 x13 (wrap64 (x14 + 1))) else (V4.l0 k x6 x7 x12 x13 (wrap64 (x14 + 1))))) else (none)) else (none)) else (some (x6, x7))
def V4.f (k : Nat) (l0 : List ByteArray) (a1 : Int) : Option (Int × Int) := (J4.f k l0 a1).bind fun t180 => (V4.l0 k 0 0 t180 (t180.length : Int) 0)
set_option maxHeartbeats 8000000 in
set_option maxRecDepth 100000 in
theorem V4.calls (k : Nat) (A0 : Option Addr) (c0 : Nat) (l0 : List ByteArray) (a1 : Int) (r1 : Int) (r2 : Int) (w : World) (hr0 : Kd.C Kd.string w A0 l0.length l0) (hc0 : l0.length ≤ c0) (h : V4.f k l0 a1 = some (r1, r2)) :
  Calls Try.prog 58 #[.slice A0 l0.length c0, .int .i64 a1] w fun e w' => e = .returned (.tuple #[.int .i64 r1, .int .i64 r2]) ∧ Below w.heap.size w w' := by
 have HR0 := zm hr0;have HC0 := zm hc0;clear hr0 hc0;have HB := zm (Below.refl w.heap.size w);have H : ((J4.f k l0 a1).bind fun t180 => (V4.l0 k 0 0 t180 (t180.length : Int) 0)) = some (r1, r2) := h;clear h;obtain ⟨t180, A3, H⟩ := zI H;(try dsimp only at H);have H' := zm H;clear H;go_enter Try.func58, Try.ntmps58;go_wp2_with (first | ((with_reducible refine gate_callee (f := 110) rfl ?_); refine goesA_ (some 12) Try.func110 #[.slice A0 l0.length c0, .int .i64 a1] rfl ?_; (with_reducible refine (J4.calls k _ _ l0 a1 t180 _ ?side1 ?side2 A3.out).mono ?_); (case side1 => exact zF HR0.out); (case side2 => exact HC0.out); rintro e w4 ⟨v181, rfl, ho0, hb⟩; refine ⟨_, rfl, ?_⟩; have HO182 := zm (Fz.R_lower ho0 (below_size zb)); replace HB := zm (below_step zb hb); (try clear hb); (try clear ho0); obtain ⟨Ao5, co5, eo5⟩ := Fz.R_slice HO182.out; subst eo5))
 go_loopg [6, 7, 14] k (fun kq v6 v7 v14 w' => ∃ (x6_1 : Int) (x7_1 : Int) (x14_1 : Int), v6 = .int .i64 x6_1 ∧ v7 = .int .i64 x7_1 ∧ v14 = .int .i64 x14_1 ∧ Aside0 (V4.l0 kq x6_1 x7_1 t180 (t180.length : Int) x14_1 = some (r1, r2)) ∧ Aside0 (kq ≤ k) ∧ Aside0 (Fz w' w.heap.size (.slice Ao5 t180.length co5) t180) ∧ Aside0 (Below w.heap.size w w'))
 case atStart => exact ⟨(0), (0), (0), zz, zz, zz, H', ⟨Nat.le_refl _⟩, ⟨by (with_reducible repeat (first | apply Fz.R_alloc | apply Fz.R_drewN | apply Fz.R_drew)); exact HO182.out⟩, ⟨zb⟩⟩
 case round =>
  clear H';(try clear p2);obtain ⟨x6_1, x7_1, x14_1, rfl, rfl, rfl, HA, HK1, HO_12, HB⟩ := hrel;cases gk with
  | zero => exact absurd HA.out (by simp [V4.l0])
  | succ k1 =>
   have H := HA.out;clear HA;simp only [V4.l0] at H;by_cases c6 : x14_1 < (t180.length : Int)
   rotate_left
   ·
    rw [if_neg c6] at H;have c6b0 := decide_eq_false c6;clear c6;simp only [Option.some.injEq, Prod.mk.injEq] at H;obtain ⟨rfl, rfl⟩ := H;go_wp2;go_ret2
    exact ⟨zr, zb⟩
   rw [if_pos c6] at H;have c6b0 := decide_eq_true c6;clear c6;obtain ⟨c7, H⟩ := zJ H;have c7b0 := decide_eq_true c7;clear c7;obtain ⟨c8, H⟩ := zJ H;have c8b0 := decide_eq_true c8;clear c8;by_cases c9 : (rd t180 x14_1) = 111
   ·
    rw [if_pos c9] at H;have c9b0 : ((rd t180 x14_1) == 111) = true := beq_iff_eq.mpr c9;have c9b1 : ((rd t180 x14_1) != 111) = false := bne_eq_false_iff_eq.mpr c9;clear c9;have H' := zm H;clear H;have p183 : 0 ≤ (x14_1 : Int) := zd;have q183 : x14_1 < (t180.length : Int) := zd;obtain ⟨ad183, e183, hx183_0⟩ := Kd.at_int (Fz.R_reads' HO_12.out).2.2 x14_1 p183 q183;cases e183;replace p183 := eq_true p183;replace q183 := eq_true q183;go_wp2;go_roundg k1
    case measure => have := HK1.out; omega
    case rel => exact ⟨(wrap64 (x6_1 + 1)), (x7_1), (wrap64 (x14_1 + 1)), zz, zz, zz, H', ⟨by have := HK1.out; omega⟩, ⟨by (with_reducible repeat (first | apply Fz.R_alloc | apply Fz.R_drewN | apply Fz.R_drew)); exact HO_12.out⟩, ⟨zb⟩⟩
   rw [if_neg c9] at H;have c9b0 : ((rd t180 x14_1) == 111) = false := beq_eq_false_iff_ne.mpr c9;have c9b1 : ((rd t180 x14_1) != 111) = true := bne_iff_ne.mpr c9;by_cases c10 : (rd t180 x14_1) = 63
   rotate_left
   ·
    rw [if_neg c10] at H;have c10b0 : ((rd t180 x14_1) == 63) = false := beq_eq_false_iff_ne.mpr c10;have c10b1 : ((rd t180 x14_1) != 63) = true := bne_iff_ne.mpr c10;have H' := zm H;clear H;have p183 : 0 ≤ (x14_1 : Int) := zd;have q183 : x14_1 < (t180.length : Int) := zd;obtain ⟨ad183, e183, hx183_0⟩ := Kd.at_int (Fz.R_reads' HO_12.out).2.2 x14_1 p183 q183;cases e183;replace p183 := eq_true p183;replace q183 := eq_true q183;go_wp2;go_roundg k1
    case measure => have := HK1.out; omega
    case rel => exact ⟨(x6_1), (x7_1), (wrap64 (x14_1 + 1)), zz, zz, zz, H', ⟨by have := HK1.out; omega⟩, ⟨by (with_reducible repeat (first | apply Fz.R_alloc | apply Fz.R_drewN | apply Fz.R_drew)); exact HO_12.out⟩, ⟨zb⟩⟩
   rw [if_pos c10] at H;have c10b0 : ((rd t180 x14_1) == 63) = true := beq_iff_eq.mpr c10;have c10b1 : ((rd t180 x14_1) != 63) = false := bne_eq_false_iff_eq.mpr c10;clear c10;have H' := zm H;clear H;have p183 : 0 ≤ (x14_1 : Int) := zd;have q183 : x14_1 < (t180.length : Int) := zd;obtain ⟨ad183, e183, hx183_0⟩ := Kd.at_int (Fz.R_reads' HO_12.out).2.2 x14_1 p183 q183;cases e183;replace p183 := eq_true p183;replace q183 := eq_true q183;go_wp2;go_roundg k1
   case measure => have := HK1.out; omega
   case rel => exact ⟨(x6_1), (wrap64 (x7_1 + 1)), (wrap64 (x14_1 + 1)), zz, zz, zz, H', ⟨by have := HK1.out; omega⟩, ⟨by (with_reducible repeat (first | apply Fz.R_alloc | apply Fz.R_drewN | apply Fz.R_drew)); exact HO_12.out⟩, ⟨zb⟩⟩
def X3.l0 : Nat → List ByteArray → Int → Int → Option (Bool)
  | 0, _, _, _ => none
  | k + 1, x0, x12, x13 => if x13 < x12 then ((V4.f k x0 x13).bind fun bt108 => (if (Int.tmod bt108.1 2) = 0 then (if bt108.2 > 0 then (some false) else (X3.l0 k x0 x12 (wrap64 (x13 + 1)))) else (some false))) else (some true)
def X3.f (k : Nat) (l0 : List ByteArray) : Option (Bool) := if 0 < (l0.length : Int) then (X3.l0 k l0 (wrap64 ((l0.length : Int) + ((rdOf ByteArray.empty l0 0).size : Int))) 0) else (none)
set_option maxHeartbeats 8000000 in
set_option maxRecDepth 100000 in
theorem X3.calls (k : Nat) (A0 : Option Addr) (c0 : Nat) (l0 : List ByteArray) (r : Bool) (w : World) (hr0 : Kd.C Kd.string w A0 l0.length l0) (hc0 : l0.length ≤ c0) (h : X3.f k l0 = some r) :
  Calls Try.prog 65 #[.slice A0 l0.length c0] w fun e w' => e = .returned (.bool r) ∧ Below w.heap.size w w' := by
 have HR0 := zm hr0;have HC0 := zm hc0;clear hr0 hc0;have HB := zm (Below.refl w.heap.size w);have H : (if 0 < (l0.length : Int) then (X3.l0 k l0 (wrap64 ((l0.length : Int) + ((rdOf ByteArray.empty l0 0).size : Int))) 0) else (none)) = some r := h;clear h;obtain ⟨c2, H⟩ := zJ H;have c2b0 := decide_eq_true c2;have c2b1 : decide (0 < l0.length) = true := decide_eq_true (by omega);clear c2;have H' := zm H;clear H;have p107 : 0 ≤ (0 : Int) := (by omega);have q107 : 0 < (l0.length : Int) := zd;obtain ⟨ad107, e107, hx107_0⟩ := Kd.at_string HR0.out 0 p107 q107;cases e107;have qi107 : (0 < l0.length) = True := eq_true (by omega)
 (try rw [show ((0 : Int)).toNat = 0 from rfl] at hx107_0);(try rw [Addr.add_zero'] at hx107_0);replace p107 := eq_true p107;replace q107 := eq_true q107;go_enter Try.func65, Try.ntmps65;go_wp2;go_loopg [13] k (fun kq v13 w' => ∃ (x13_1 : Int), v13 = .int .i64 x13_1 ∧ Aside0 (X3.l0 kq l0 (wrap64 ((l0.length : Int) + ((rdOf ByteArray.empty l0 0).size : Int))) x13_1 = some r) ∧ Aside0 (kq ≤ k) ∧ Aside0 (Below w.heap.size w w'))
 case atStart => exact ⟨(0), zz, H', ⟨Nat.le_refl _⟩, ⟨zb⟩⟩
 case round =>
  clear H';(try clear p1); (try clear q1); (try clear hx1); (try clear qi1); (try clear c2b0); (try clear c2b1); (try clear p2); (try clear hx107_0); (try clear p107); (try clear q107);obtain ⟨x13_1, rfl, HA, HK1, HB⟩ := hrel;cases gk with
  | zero => exact absurd HA.out (by simp [X3.l0])
  | succ k1 =>
   have H := HA.out;clear HA;simp only [X3.l0] at H;by_cases c3 : x13_1 < (wrap64 ((l0.length : Int) + ((rdOf ByteArray.empty l0 0).size : Int)))
   rotate_left
   ·
    rw [if_neg c3] at H;have c3b0 := decide_eq_false c3;clear c3;obtain rfl := Option.some.inj H;go_wp2;go_ret
    exact ⟨zr, zb⟩
   rw [if_pos c3] at H;have c3b0 := decide_eq_true c3;clear c3;obtain ⟨⟨t108, t109⟩, A4, H⟩ := zI H;(try dsimp only at H);by_cases c5 : (Int.tmod t108 2) = 0
   rotate_left
   ·
    rw [if_neg c5] at H;have c5b0 : ((Int.tmod t108 2) == 0) = false := beq_eq_false_iff_ne.mpr c5;have c5b1 : ((Int.tmod t108 2) != 0) = true := bne_iff_ne.mpr c5;obtain rfl := Option.some.inj H;go_wp2_with (first | ((with_reducible refine gate_callee (f := 58) rfl ?_); refine goesA_ (some 19) Try.func58 #[.slice (some ad107) l0.length c0, .int .i64 x13_1] rfl ?_; (with_reducible refine (V4.calls k1 _ _ l0 x13_1 t108 t109 _ ?side1 ?side2 A4.out).mono ?_); (case side1 => exact zC HR0.out); (case side2 => exact HC0.out); rintro e w9 ⟨rfl, hb⟩; refine ⟨_, rfl, ?_⟩; replace HB := zm (below_step zb hb); (try clear hb)))
    go_ret
    exact ⟨zr, zb⟩
   rw [if_pos c5] at H;have c5b0 : ((Int.tmod t108 2) == 0) = true := beq_iff_eq.mpr c5;have c5b1 : ((Int.tmod t108 2) != 0) = false := bne_eq_false_iff_eq.mpr c5;clear c5;by_cases c6 : t109 > 0
   ·
    rw [if_pos c6] at H;have c6b0 : decide (0 < t109) = true := decide_eq_true c6;clear c6;obtain rfl := Option.some.inj H;go_wp2_with (first | ((with_reducible refine gate_callee (f := 58) rfl ?_); refine goesA_ (some 19) Try.func58 #[.slice (some ad107) l0.length c0, .int .i64 x13_1] rfl ?_; (with_reducible refine (V4.calls k1 _ _ l0 x13_1 t108 t109 _ ?side1 ?side2 A4.out).mono ?_); (case side1 => exact zC HR0.out); (case side2 => exact HC0.out); rintro e w7 ⟨rfl, hb⟩; refine ⟨_, rfl, ?_⟩; replace HB := zm (below_step zb hb); (try clear hb)))
    go_ret
    exact ⟨zr, zb⟩
   rw [if_neg c6] at H;have c6b0 : decide (0 < t109) = false := decide_eq_false c6;clear c6;have H' := zm H;clear H;go_wp2_with (first | ((with_reducible refine gate_callee (f := 58) rfl ?_); refine goesA_ (some 19) Try.func58 #[.slice (some ad107) l0.length c0, .int .i64 x13_1] rfl ?_; (with_reducible refine (V4.calls k1 _ _ l0 x13_1 t108 t109 _ ?side1 ?side2 A4.out).mono ?_); (case side1 => exact zC HR0.out); (case side2 => exact HC0.out); rintro e w8 ⟨rfl, hb⟩; refine ⟨_, rfl, ?_⟩; replace HB := zm (below_step zb hb); (try clear hb)))
   go_roundg k1
   case measure => have := HK1.out; omega
   case rel => exact ⟨(wrap64 (x13_1 + 1)), zz, H', ⟨by have := HK1.out; omega⟩, ⟨zb⟩⟩
def R6.f (k : Nat) (l0 : List ByteArray) : Option (Bool × Bool) := (J3.f k l0).bind fun t110 => (if t110 = true then ((X3.f k l0).bind fun t111 => (some (t111, true))) else (some (false, false)))
set_option maxHeartbeats 8000000 in
set_option maxRecDepth 100000 in
theorem R6.calls (k : Nat) (A0 : Option Addr) (c0 : Nat) (l0 : List ByteArray) (r1 : Bool) (r2 : Bool) (w : World) (hr0 : Kd.C Kd.string w A0 l0.length l0) (hc0 : l0.length ≤ c0) (h : R6.f k l0 = some (r1, r2)) :
  Calls Try.prog 16 #[.slice A0 l0.length c0] w fun e w' => e = .returned (.tuple #[.bool r1, .bool r2]) ∧ Below w.heap.size w w' := by
 have HR0 := zm hr0;have HC0 := zm hc0;clear hr0 hc0;have HB := zm (Below.refl w.heap.size w);have H : ((J3.f k l0).bind fun t110 => (if t110 = true then ((X3.f k l0).bind fun t111 => (some (t111, true))) else (some (false, false)))) = some (r1, r2) := h;clear h;obtain ⟨t110, A2, H⟩ := zI H;(try dsimp only at H);by_cases c3 : t110 = true
 rotate_left
 ·
  replace c3 := Bool.eq_false_iff.mpr c3;subst c3;rw [if_neg (show ¬ (false = true) by decide)] at H;simp only [Option.some.injEq, Prod.mk.injEq] at H;obtain ⟨rfl, rfl⟩ := H;go_enter Try.func16, Try.ntmps16;go_wp2_with (first | ((with_reducible refine gate_callee (f := 21) rfl ?_); refine goesA_ (some 5) Try.func21 #[.slice A0 l0.length c0] rfl ?_; (with_reducible refine (J3.calls k _ _ l0 false _ ?side1 ?side2 A2.out).mono ?_); (case side1 => exact zF HR0.out); (case side2 => exact HC0.out); rintro e w' ⟨rfl, ⟨nd, rfl⟩⟩; refine ⟨_, rfl, ?_⟩))
  go_ret2
  exact ⟨zr, zb⟩
 subst c3;rw [if_pos rfl] at H;obtain ⟨t111, A4, H⟩ := zI H;(try dsimp only at H);simp only [Option.some.injEq, Prod.mk.injEq] at H;obtain ⟨rfl, rfl⟩ := H;go_enter Try.func16, Try.ntmps16;go_wp2_with (first | ((with_reducible refine gate_callee (f := 21) rfl ?_); refine goesA_ (some 5) Try.func21 #[.slice A0 l0.length c0] rfl ?_; (with_reducible refine (J3.calls k _ _ l0 true _ ?side1 ?side2 A2.out).mono ?_); (case side1 => exact zF HR0.out); (case side2 => exact HC0.out); rintro e w' ⟨rfl, ⟨nd, rfl⟩⟩; refine ⟨_, rfl, ?_⟩) | ((with_reducible refine gate_callee (f := 65) rfl ?_); refine goesA_ (some 8) Try.func65 #[.slice A0 l0.length c0] rfl ?_; (with_reducible refine (X3.calls k _ _ l0 t111 _ ?side1 ?side2 A4.out).mono ?_); (case side1 => exact zF HR0.out); (case side2 => exact HC0.out); rintro e w5 ⟨rfl, hb⟩; refine ⟨_, rfl, ?_⟩; replace HB := zm (below_step zb hb); (try clear hb)))
 go_ret2
 exact ⟨zr, zb⟩
def V6.l0 : Nat → List ByteArray → List ByteArray → Int → Int → Option (Bool)
  | 0, _, _, _, _ => none
  | k + 1, x0, x1, x12, x13 => if x13 < x12 then (if 0 ≤ x13 then (if x13 < (x0.length : Int) then (if x13 < (x1.length : Int) then (if (rdOf ByteArray.empty x0 x13).toList = (rdOf ByteArray.empty x1 x13).toList then (V6.l0 k x0 x1 x12 (wrap64 (x13 + 1))) else (some false)) else (none)) else (none)) else (none)) else (some true)
def V6.f (k : Nat) (l0 : List ByteArray) (l1 : List ByteArray) : Option (Bool) := if (l0.length : Int) = (l1.length : Int) then (V6.l0 k l0 l1 (l0.length : Int) 0) else (some false)
set_option maxHeartbeats 8000000 in
set_option maxRecDepth 100000 in
theorem V6.calls (k : Nat) (A0 : Option Addr) (c0 : Nat) (l0 : List ByteArray) (A1 : Option Addr) (c1 : Nat) (l1 : List ByteArray) (r : Bool) (w : World) (hr0 : Kd.C Kd.string w A0 l0.length l0) (hc0 : l0.length ≤ c0) (hr1 : Kd.C Kd.string w A1 l1.length l1) (hc1 : l1.length ≤ c1) (h : V6.f k l0 l1 = some r) :
  Calls Try.prog 20 #[.slice A0 l0.length c0, .slice A1 l1.length c1] w fun e w' => e = .returned (.bool r) ∧ Drawn0 w w' := by
 have HR0 := zm hr0;have HC0 := zm hc0;clear hr0 hc0;have HR1 := zm hr1;have HC1 := zm hc1;clear hr1 hc1;have H : (if (l0.length : Int) = (l1.length : Int) then (V6.l0 k l0 l1 (l0.length : Int) 0) else (some false)) = some r := h;clear h;by_cases c3 : (l0.length : Int) = (l1.length : Int)
 rotate_left
 ·
  rw [if_neg c3] at H;have c3b0 : ((l0.length : Int) == (l1.length : Int)) = false := beq_eq_false_iff_ne.mpr c3;have c3b1 : ((l0.length : Int) != (l1.length : Int)) = true := bne_iff_ne.mpr c3;have c3b2 : (l0.length == l1.length) = false := by first | simpa using c3 | (simp at c3 ⊢; omega)
  obtain rfl := Option.some.inj H;go_enter Try.func20, Try.ntmps20;go_wp2;repeat (go_quiet (fail); try go_wp2)
  go_ret
  exact ⟨zz, zw⟩
 rw [if_pos c3] at H;have c3b0 : ((l0.length : Int) == (l1.length : Int)) = true := beq_iff_eq.mpr c3;have c3b1 : ((l0.length : Int) != (l1.length : Int)) = false := bne_eq_false_iff_eq.mpr c3;have c3b2 : (l0.length == l1.length) = true := by first | simpa using c3 | (simp at c3 ⊢; omega)
 clear c3;have H' := zm H;clear H;go_enter Try.func20, Try.ntmps20;go_wp2;repeat (go_quiet (fail); try go_wp2)
 go_loopg [13] k (fun kq v13 w' => ∃ (x13_1 : Int), v13 = .int .i64 x13_1 ∧ Aside0 (V6.l0 kq l0 l1 (l0.length : Int) x13_1 = some r) ∧ Aside0 (kq ≤ k) ∧ Drawn0 w w')
 case atStart => exact ⟨(0), zz, H', ⟨Nat.le_refl _⟩, zw⟩
 case round =>
  clear H';(try clear p2); (try clear c3b0); (try clear c3b1); (try clear c3b2);obtain ⟨x13_1, rfl, HA, HK1, ⟨m1, rfl⟩⟩ := hrel;cases gk with
  | zero => exact absurd HA.out (by simp [V6.l0])
  | succ k1 =>
   have H := HA.out;clear HA;simp only [V6.l0] at H;by_cases c4 : x13_1 < (l0.length : Int)
   rotate_left
   ·
    rw [if_neg c4] at H;have c4b0 := decide_eq_false c4;clear c4;obtain rfl := Option.some.inj H;go_wp2;repeat (go_quiet (fail); try go_wp2)
    go_ret
    exact ⟨zz, zw⟩
   rw [if_pos c4] at H;have c4b0 := decide_eq_true c4;clear c4;obtain ⟨c5, H⟩ := zJ H;have c5b0 := decide_eq_true c5;clear c5;obtain ⟨c6, H⟩ := zJ H;have c6b0 := decide_eq_true c6;clear c6;obtain ⟨c7, H⟩ := zJ H;have c7b0 := decide_eq_true c7;clear c7;by_cases c8 : (rdOf ByteArray.empty l0 x13_1).toList = (rdOf ByteArray.empty l1 x13_1).toList
   rotate_left
   ·
    rw [if_neg c8] at H;have c8b0 : ((rdOf ByteArray.empty l0 x13_1).toList == (rdOf ByteArray.empty l1 x13_1).toList) = false := beq_eq_false_iff_ne.mpr c8;have c8b1 : ((rdOf ByteArray.empty l0 x13_1).toList != (rdOf ByteArray.empty l1 x13_1).toList) = true := bne_iff_ne.mpr c8;obtain rfl := Option.some.inj H;have p112 : 0 ≤ (x13_1 : Int) := zd;have q112 : x13_1 < (l0.length : Int) := zd;obtain ⟨ad112, e112, hx112_0⟩ := Kd.at_string HR0.out x13_1 p112 q112;cases e112;replace p112 := eq_true p112;replace q112 := eq_true q112;have p113 : 0 ≤ (x13_1 : Int) := zd;have q113 : x13_1 < (l1.length : Int) := zd;obtain ⟨ad113, e113, hx113_0⟩ := Kd.at_string HR1.out x13_1 p113 q113;cases e113;replace p113 := eq_true p113;replace q113 := eq_true q113;go_wp2;repeat (go_quiet (fail); try go_wp2)
    go_ret
    exact ⟨zz, zw⟩
   rw [if_pos c8] at H;have c8b0 : ((rdOf ByteArray.empty l0 x13_1).toList == (rdOf ByteArray.empty l1 x13_1).toList) = true := beq_iff_eq.mpr c8;have c8b1 : ((rdOf ByteArray.empty l0 x13_1).toList != (rdOf ByteArray.empty l1 x13_1).toList) = false := bne_eq_false_iff_eq.mpr c8;clear c8;have H' := zm H;clear H;have p112 : 0 ≤ (x13_1 : Int) := zd;have q112 : x13_1 < (l0.length : Int) := zd;obtain ⟨ad112, e112, hx112_0⟩ := Kd.at_string HR0.out x13_1 p112 q112;cases e112;replace p112 := eq_true p112;replace q112 := eq_true q112;have p113 : 0 ≤ (x13_1 : Int) := zd;have q113 : x13_1 < (l1.length : Int) := zd;obtain ⟨ad113, e113, hx113_0⟩ := Kd.at_string HR1.out x13_1 p113 q113;cases e113;replace p113 := eq_true p113;replace q113 := eq_true q113;go_wp2;repeat (go_quiet (fail); try go_wp2)
   go_roundg k1
   case measure => have := HK1.out; omega
   case rel => exact ⟨(wrap64 (x13_1 + 1)), zz, H', ⟨by have := HK1.out; omega⟩, zw⟩
def V5.f (a0 : Int) (a1 : Int) (a2 : Int) : Option (Bool) := if a0 ≥ a1 then (some (decide (a0 ≤ a2))) else (some false)
set_option maxHeartbeats 8000000 in
set_option maxRecDepth 100000 in
theorem V5.calls (a0 : Int) (a1 : Int) (a2 : Int) (r : Bool) (w : World) (h : V5.f a0 a1 a2 = some r) :
  Calls Try.prog 95 #[.int .i64 a0, .int .i64 a1, .int .i64 a2] w fun e w' => e = .returned (.bool r) ∧ Drawn0 w w' := by
 have H : (if a0 ≥ a1 then (some (decide (a0 ≤ a2))) else (some false)) = some r := h;clear h;by_cases c4 : a0 ≥ a1
 ·
  rw [if_pos c4] at H;have c4b0 : decide (a1 ≤ a0) = true := decide_eq_true c4;clear c4;obtain rfl := Option.some.inj H;go_enter Try.func95, Try.ntmps95;go_wp2;go_ret
  exact ⟨zz, zw⟩
 rw [if_neg c4] at H;have c4b0 : decide (a1 ≤ a0) = false := decide_eq_false c4;clear c4;obtain rfl := Option.some.inj H;go_enter Try.func95, Try.ntmps95;go_wp2;go_ret
 exact ⟨zz, zw⟩
end Go.Proofs.Ytjdkdbeenggfaaa.PEr
