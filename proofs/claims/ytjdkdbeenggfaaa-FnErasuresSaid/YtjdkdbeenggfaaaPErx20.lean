import Derived.Test.YtjdkdbeenggfaaaPErx0
import Derived.Test.YtjdkdbeenggfaaaPErx2
namespace Go.Proofs.Ytjdkdbeenggfaaa.PEr
open Go.RowKit Go.Proofs.YtjdkdbeenggfaaaW.PrintWords Go.Proofs.YtjdkdbeenggfaaaW.PrintLast Go.Proofs.YtjdkdbeenggfaaaW.PrintMore
attribute [local go_sem] max2_int min2_int max_two min_two max_three min_three max_four min_four   -- for this text's walks alone
set_option linter.unusedVariables false
set_option linter.unusedSimpArgs false
mutual
def V3.l0 : Nat → List ByteArray → List ByteArray → Int → Int → Option (Bool)
  | 0, _, _, _, _ => none
  | k + 1, x0, x6, x7, x8 => if x8 < x7 then (if 0 ≤ x8 then (if x8 < (x6.length : Int) then (if 0 < (x0.length : Int) then (if ((rdOf ByteArray.empty x6 x8).size : Int) = ((rdOf ByteArray.empty x0 0).size : Int) then (V3.l1 k x0 (rdOf ByteArray.empty x6 x8) 0 x6 x7 x8) else (some false)) else (none)) else (none)) else (none)) else ((V5.f (x0.length : Int) 1 60).bind fun t598 => (if t598 = true then (if 0 < (x0.length : Int) then ((V5.f ((rdOf ByteArray.empty x0 0).size : Int) 1 20).bind fun t600 => (some t600)) else (none)) else (some false)))
def V3.l1 : Nat → List ByteArray → ByteArray → Int → List ByteArray → Int → Int → Option (Bool)
  | 0, _, _, _, _, _, _ => none
  | k + 1, x0, x4, x5, x6, x7, x8 => if x5 < (x4.size : Int) then (if 0 ≤ x5 then (if (bt x4 x5) = 46 then (V3.l1 k x0 x4 (wrap64 (x5 + 1)) x6 x7 x8) else (if (bt x4 x5) = 111 then (V3.l1 k x0 x4 (wrap64 (x5 + 1)) x6 x7 x8) else (if (bt x4 x5) = 63 then (V3.l1 k x0 x4 (wrap64 (x5 + 1)) x6 x7 x8) else (some false)))) else (none)) else (V3.l0 k x0 x6 x7 (wrap64 (x8 + 1)))
end
def V3.f (k : Nat) (l0 : List ByteArray) : Option (Bool) := V3.l0 k l0 l0 (l0.length : Int) 0
set_option maxHeartbeats 8000000 in
set_option maxRecDepth 100000 in
theorem V3.calls (k : Nat) (A0 : Option Addr) (c0 : Nat) (l0 : List ByteArray) (r : Bool) (w : World) (hr0 : Kd.C Kd.string w A0 l0.length l0) (hc0 : l0.length ≤ c0) (h : V3.f k l0 = some r) :
  Calls Try.prog 127 #[.slice A0 l0.length c0] w fun e w' => e = .returned (.bool r) ∧ Drawn0 w w' := by
 have HR0 := zm hr0;have HC0 := zm hc0;clear hr0 hc0;have H : (V3.l0 k l0 l0 (l0.length : Int) 0) = some r := h;clear h;have H' := zm H;clear H;go_enter Try.func127, Try.ntmps127;go_wp2;go_loopg [8] k (fun kq v8 w' => ∃ (x8_1 : Int), v8 = .int .i64 x8_1 ∧ Aside0 (V3.l0 kq l0 l0 (l0.length : Int) x8_1 = some r) ∧ Aside0 (kq ≤ k) ∧ Drawn0 w w')
 case atStart => exact ⟨(0), zz, H', ⟨Nat.le_refl _⟩, zw⟩
 case round =>
  clear H';obtain ⟨x8_1, rfl, HA, HK1, ⟨m1, rfl⟩⟩ := hrel;cases gk with
  | zero => exact absurd HA.out (by simp [V3.l0])
  | succ k1 =>
   have H := HA.out;clear HA;simp only [V3.l0] at H;by_cases c2 : x8_1 < (l0.length : Int)
   rotate_left
   ·
    rw [if_neg c2] at H;have c2b0 := decide_eq_false c2;clear c2;obtain ⟨t598, A15, H⟩ := zI H;(try dsimp only at H);by_cases c16 : t598 = true
    rotate_left
    ·
     replace c16 := Bool.eq_false_iff.mpr c16;subst c16;rw [if_neg (show ¬ (false = true) by decide)] at H;obtain rfl := Option.some.inj H;go_wp2_with (first | ((with_reducible refine gate_callee (f := 95) rfl ?_); refine goesA_ (some 44) Try.func95 #[.int .i64 (l0.length : Int), .int .i64 1, .int .i64 60] rfl ?_; (with_reducible refine (V5.calls (l0.length : Int) 1 60 false _ A15.out).mono ?_); rintro e w' ⟨rfl, ⟨nd, rfl⟩⟩; refine ⟨_, rfl, ?_⟩))
     go_ret
     exact ⟨zz, zw⟩
    subst c16;rw [if_pos rfl] at H;obtain ⟨c17, H⟩ := zJ H;have c17b0 := decide_eq_true c17;have c17b1 : decide (0 < l0.length) = true := decide_eq_true (by omega);clear c17;obtain ⟨t600, A18, H⟩ := zI H;(try dsimp only at H);obtain rfl := Option.some.inj H;go_wp2_with (first | ((with_reducible refine gate_callee (f := 95) rfl ?_); refine goesA_ (some 44) Try.func95 #[.int .i64 (l0.length : Int), .int .i64 1, .int .i64 60] rfl ?_; (with_reducible refine (V5.calls (l0.length : Int) 1 60 true _ A15.out).mono ?_); rintro e w' ⟨rfl, ⟨nd, rfl⟩⟩; refine ⟨_, rfl, ?_⟩; have p599 : 0 ≤ (0 : Int) := (by omega); have q599 : 0 < (l0.length : Int) := zd; obtain ⟨ad599, e599, hx599_0⟩ := Kd.at_string HR0.out 0 p599 q599; cases e599; have qi599 : (0 < l0.length) = True := eq_true (by omega); (try rw [show ((0 : Int)).toNat = 0 from rfl] at hx599_0); (try rw [Addr.add_zero'] at hx599_0); replace p599 := eq_true p599; replace q599 := eq_true q599) | (go_at_call 95; (with_reducible refine (V5.calls ((rdOf ByteArray.empty l0 0).size : Int) 1 20 t600 _ A18.out).mono ?_); rintro e w' ⟨rfl, ⟨nd, rfl⟩⟩))
    go_ret
    exact ⟨zz, zw⟩
   rw [if_pos c2] at H;have c2b0 := decide_eq_true c2;clear c2;obtain ⟨c3, H⟩ := zJ H;have c3b0 := decide_eq_true c3;clear c3;obtain ⟨c4, H⟩ := zJ H;have c4b0 := decide_eq_true c4;clear c4;obtain ⟨c5, H⟩ := zJ H;have c5b0 := decide_eq_true c5;have c5b1 : decide (0 < l0.length) = true := decide_eq_true (by omega);clear c5;by_cases c6 : ((rdOf ByteArray.empty l0 x8_1).size : Int) = ((rdOf ByteArray.empty l0 0).size : Int)
   rotate_left
   ·
    rw [if_neg c6] at H;have c6b0 : (((rdOf ByteArray.empty l0 x8_1).size : Int) == ((rdOf ByteArray.empty l0 0).size : Int)) = false := beq_eq_false_iff_ne.mpr c6;have c6b1 : (((rdOf ByteArray.empty l0 x8_1).size : Int) != ((rdOf ByteArray.empty l0 0).size : Int)) = true := bne_iff_ne.mpr c6;have c6b2 : ((rdOf ByteArray.empty l0 x8_1).size == (rdOf ByteArray.empty l0 0).size) = false := by first | simpa using c6 | (simp at c6 ⊢; omega)
    obtain rfl := Option.some.inj H;have p601 : 0 ≤ (x8_1 : Int) := zd;have q601 : x8_1 < (l0.length : Int) := zd;obtain ⟨ad601, e601, hx601_0⟩ := Kd.at_string HR0.out x8_1 p601 q601;cases e601;replace p601 := eq_true p601;replace q601 := eq_true q601;have p602 : 0 ≤ (0 : Int) := (by omega);have q602 : 0 < (l0.length : Int) := zd;obtain ⟨ad602, e602, hx602_0⟩ := Kd.at_string HR0.out 0 p602 q602;obtain rfl : ad601 = ad602 := (by injection e602)
    skip
    have qi602 : (0 < l0.length) = True := eq_true (by omega)
    (try rw [show ((0 : Int)).toNat = 0 from rfl] at hx602_0);(try rw [Addr.add_zero'] at hx602_0);replace p602 := eq_true p602;replace q602 := eq_true q602;go_wp2;go_ret
    exact ⟨zz, zw⟩
   rw [if_pos c6] at H;have c6b0 : (((rdOf ByteArray.empty l0 x8_1).size : Int) == ((rdOf ByteArray.empty l0 0).size : Int)) = true := beq_iff_eq.mpr c6;have c6b1 : (((rdOf ByteArray.empty l0 x8_1).size : Int) != ((rdOf ByteArray.empty l0 0).size : Int)) = false := bne_eq_false_iff_eq.mpr c6;have c6b2 : ((rdOf ByteArray.empty l0 x8_1).size == (rdOf ByteArray.empty l0 0).size) = true := by first | simpa using c6 | (simp at c6 ⊢; omega)
   clear c6;have H' := zm H;clear H;have p601 : 0 ≤ (x8_1 : Int) := zd;have q601 : x8_1 < (l0.length : Int) := zd;obtain ⟨ad601, e601, hx601_0⟩ := Kd.at_string HR0.out x8_1 p601 q601;cases e601;replace p601 := eq_true p601;replace q601 := eq_true q601;have p602 : 0 ≤ (0 : Int) := (by omega);have q602 : 0 < (l0.length : Int) := zd;obtain ⟨ad602, e602, hx602_0⟩ := Kd.at_string HR0.out 0 p602 q602;obtain rfl : ad601 = ad602 := (by injection e602)
   skip
   have qi602 : (0 < l0.length) = True := eq_true (by omega)
   (try rw [show ((0 : Int)).toNat = 0 from rfl] at hx602_0);(try rw [Addr.add_zero'] at hx602_0);replace p602 := eq_true p602;replace q602 := eq_true q602;go_wp2;go_loopg [5] k1 (fun kq v5 w' => ∃ (x5_2 : Int), v5 = .int .i64 x5_2 ∧ Aside0 (V3.l1 kq l0 (rdOf ByteArray.empty l0 x8_1) x5_2 l0 (l0.length : Int) x8_1 = some r) ∧ Aside0 (kq ≤ k1) ∧ Drawn0 w w')
   case atStart => exact ⟨(0), zz, H', ⟨Nat.le_refl _⟩, zw⟩
   case round =>
    clear H';(try clear c2b0); (try clear p2); (try clear c3b0); (try clear c4b0); (try clear c5b0); (try clear c5b1); (try clear c6b0); (try clear c6b1); (try clear c6b2); (try clear p6); (try clear q6); (try clear hx6); (try clear qi6); (try clear hx601_0); (try clear hx602_0); (try clear p601); (try clear p602); (try clear q601); (try clear q602);obtain ⟨x5_2, rfl, HA, HK2, ⟨m2, rfl⟩⟩ := hrel;cases gk with
    | zero => exact absurd HA.out (by simp [V3.l1])
    | succ k2 =>
     have H := HA.out;clear HA;simp only [V3.l1] at H;by_cases c7 : x5_2 < ((rdOf ByteArray.empty l0 x8_1).size : Int)
     rotate_left
     ·
      rw [if_neg c7] at H;have c7b0 := decide_eq_false c7;clear c7;have H' := zm H;clear H;go_wp2;go_roundg k2
      case measure => have := HK1.out; have := HK2.out; omega
      case rel => exact ⟨(wrap64 (x8_1 + 1)), zz, H', ⟨by have := HK1.out; have := HK2.out; omega⟩, zw⟩
     rw [if_pos c7] at H;have c7b0 := decide_eq_true c7;clear c7;obtain ⟨c8, H⟩ := zJ H;have c8b0 := decide_eq_true c8;clear c8;by_cases c10 : (bt (rdOf ByteArray.empty l0 x8_1) x5_2) = 46
     ·
      rw [if_pos c10] at H;have c10b0 : ((bt (rdOf ByteArray.empty l0 x8_1) x5_2) == 46) = true := beq_iff_eq.mpr c10;have c10b1 : ((bt (rdOf ByteArray.empty l0 x8_1) x5_2) != 46) = false := bne_eq_false_iff_eq.mpr c10;clear c10;have H' := zm H;clear H;have p9 : 0 ≤ (x5_2 : Int) := zd;have q9 : x5_2 < ((rdOf ByteArray.empty l0 x8_1).size : Int) := zd;have hx9 := bt_at (rdOf ByteArray.empty l0 x8_1) x5_2;replace p9 := eq_true p9;replace q9 := eq_true q9;go_wp2;go_roundg k2
      case measure => have := HK1.out; have := HK2.out; omega
      case rel => exact ⟨(wrap64 (x5_2 + 1)), zz, H', ⟨by have := HK1.out; have := HK2.out; omega⟩, zw⟩
     rw [if_neg c10] at H;have c10b0 : ((bt (rdOf ByteArray.empty l0 x8_1) x5_2) == 46) = false := beq_eq_false_iff_ne.mpr c10;have c10b1 : ((bt (rdOf ByteArray.empty l0 x8_1) x5_2) != 46) = true := bne_iff_ne.mpr c10;by_cases c12 : (bt (rdOf ByteArray.empty l0 x8_1) x5_2) = 111
     ·
      rw [if_pos c12] at H;have c12b0 : ((bt (rdOf ByteArray.empty l0 x8_1) x5_2) == 111) = true := beq_iff_eq.mpr c12;have c12b1 : ((bt (rdOf ByteArray.empty l0 x8_1) x5_2) != 111) = false := bne_eq_false_iff_eq.mpr c12;clear c12;have H' := zm H;clear H;have p9 : 0 ≤ (x5_2 : Int) := zd;have q9 : x5_2 < ((rdOf ByteArray.empty l0 x8_1).size : Int) := zd;have hx9 := bt_at (rdOf ByteArray.empty l0 x8_1) x5_2;replace p9 := eq_true p9;replace q9 := eq_true q9;have p11 : 0 ≤ (x5_2 : Int) := zd;have q11 : x5_2 < ((rdOf ByteArray.empty l0 x8_1).size : Int) := zd;have hx11 := bt_at (rdOf ByteArray.empty l0 x8_1) x5_2;replace p11 := eq_true p11;replace q11 := eq_true q11;go_wp2;go_roundg k2
      case measure => have := HK1.out; have := HK2.out; omega
      case rel => exact ⟨(wrap64 (x5_2 + 1)), zz, H', ⟨by have := HK1.out; have := HK2.out; omega⟩, zw⟩
     rw [if_neg c12] at H;have c12b0 : ((bt (rdOf ByteArray.empty l0 x8_1) x5_2) == 111) = false := beq_eq_false_iff_ne.mpr c12;have c12b1 : ((bt (rdOf ByteArray.empty l0 x8_1) x5_2) != 111) = true := bne_iff_ne.mpr c12;by_cases c14 : (bt (rdOf ByteArray.empty l0 x8_1) x5_2) = 63
     rotate_left
     ·
      rw [if_neg c14] at H;have c14b0 : ((bt (rdOf ByteArray.empty l0 x8_1) x5_2) == 63) = false := beq_eq_false_iff_ne.mpr c14;have c14b1 : ((bt (rdOf ByteArray.empty l0 x8_1) x5_2) != 63) = true := bne_iff_ne.mpr c14;obtain rfl := Option.some.inj H;have p9 : 0 ≤ (x5_2 : Int) := zd;have q9 : x5_2 < ((rdOf ByteArray.empty l0 x8_1).size : Int) := zd;have hx9 := bt_at (rdOf ByteArray.empty l0 x8_1) x5_2;replace p9 := eq_true p9;replace q9 := eq_true q9;have p11 : 0 ≤ (x5_2 : Int) := zd;have q11 : x5_2 < ((rdOf ByteArray.empty l0 x8_1).size : Int) := zd;have hx11 := bt_at (rdOf ByteArray.empty l0 x8_1) x5_2;replace p11 := eq_true p11;replace q11 := eq_true q11;have p13 : 0 ≤ (x5_2 : Int) := zd;have q13 : x5_2 < ((rdOf ByteArray.empty l0 x8_1).size : Int) := zd;have hx13 := bt_at (rdOf ByteArray.empty l0 x8_1) x5_2;replace p13 := eq_true p13;replace q13 := eq_true q13;go_wp2;go_ret
      exact ⟨zz, zw⟩
     rw [if_pos c14] at H;have c14b0 : ((bt (rdOf ByteArray.empty l0 x8_1) x5_2) == 63) = true := beq_iff_eq.mpr c14;have c14b1 : ((bt (rdOf ByteArray.empty l0 x8_1) x5_2) != 63) = false := bne_eq_false_iff_eq.mpr c14;clear c14;have H' := zm H;clear H;have p9 : 0 ≤ (x5_2 : Int) := zd;have q9 : x5_2 < ((rdOf ByteArray.empty l0 x8_1).size : Int) := zd;have hx9 := bt_at (rdOf ByteArray.empty l0 x8_1) x5_2;replace p9 := eq_true p9;replace q9 := eq_true q9;have p11 : 0 ≤ (x5_2 : Int) := zd;have q11 : x5_2 < ((rdOf ByteArray.empty l0 x8_1).size : Int) := zd;have hx11 := bt_at (rdOf ByteArray.empty l0 x8_1) x5_2;replace p11 := eq_true p11;replace q11 := eq_true q11;have p13 : 0 ≤ (x5_2 : Int) := zd;have q13 : x5_2 < ((rdOf ByteArray.empty l0 x8_1).size : Int) := zd;have hx13 := bt_at (rdOf ByteArray.empty l0 x8_1) x5_2;replace p13 := eq_true p13;replace q13 := eq_true q13;go_wp2;go_roundg k2
     case measure => have := HK1.out; have := HK2.out; omega
     case rel => exact ⟨(wrap64 (x5_2 + 1)), zz, H', ⟨by have := HK1.out; have := HK2.out; omega⟩, zw⟩
end Go.Proofs.Ytjdkdbeenggfaaa.PEr
