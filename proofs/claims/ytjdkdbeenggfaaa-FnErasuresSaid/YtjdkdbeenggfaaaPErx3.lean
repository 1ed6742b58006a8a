import Derived.Test.YtjdkdbeenggfaaaPErx0
import Derived.Test.YtjdkdbeenggfaaaPErx2
namespace Go.Proofs.Ytjdkdbeenggfaaa.PEr
open Go.RowKit Go.Proofs.YtjdkdbeenggfaaaW.PrintWords Go.Proofs.YtjdkdbeenggfaaaW.PrintLast Go.Proofs.YtjdkdbeenggfaaaW.PrintMore
attribute [local go_sem] max2_int min2_int max_two min_two max_three min_three max_four min_four   -- for this text's walks alone
set_option linter.unusedVariables false
set_option linter.unusedSimpArgs false
mutual
def l7.l0 : Nat → List ByteArray → Int → Int → ByteArray → List ByteArray → Int → Int → Option (Bool)
  | 0, _, _, _, _, _, _, _ => none
  | k + 1, x0, x1, x2, x3, x14, x15, x16 => if x16 < x15 then (if 0 ≤ x16 then (if x16 < (x14.length : Int) then (if 0 < (x0.length : Int) then (if ((rdOf ByteArray.empty x14 x16).size : Int) = ((rdOf ByteArray.empty x0 0).size : Int) then (l7.l1 k x0 x1 x2 x3 (rdOf ByteArray.empty x14 x16) 0 x14 x15 x16) else (some false)) else (none)) else (none)) else (none)) else ((V5.f (x0.length : Int) x1 x2).bind fun t114 => (if t114 = true then (if 0 < (x0.length : Int) then ((V5.f ((rdOf ByteArray.empty x0 0).size : Int) x1 x2).bind fun t116 => (some t116)) else (none)) else (some false)))
def l7.l1 : Nat → List ByteArray → Int → Int → ByteArray → ByteArray → Int → List ByteArray → Int → Int → Option (Bool)
  | 0, _, _, _, _, _, _, _, _, _ => none
  | k + 1, x0, x1, x2, x3, x10, x11, x14, x15, x16 => if x11 < (x10.size : Int) then (l7.l2 k x0 x1 x2 x3 x10 x11 false 0 x14 x15 x16) else (l7.l0 k x0 x1 x2 x3 x14 x15 (wrap64 (x16 + 1)))
def l7.l2 : Nat → List ByteArray → Int → Int → ByteArray → ByteArray → Int → Bool → Int → List ByteArray → Int → Int → Option (Bool)
  | 0, _, _, _, _, _, _, _, _, _, _, _ => none
  | k + 1, x0, x1, x2, x3, x10, x11, x12, x13, x14, x15, x16 => if x13 < (x3.size : Int) then (if x12 = true then (l7.l2 k x0 x1 x2 x3 x10 x11 true (wrap64 (x13 + 1)) x14 x15 x16) else (if 0 ≤ x11 then (if x11 < (x10.size : Int) then (if 0 ≤ x13 then (l7.l2 k x0 x1 x2 x3 x10 x11 ((bt x10 x11) == (bt x3 x13)) (wrap64 (x13 + 1)) x14 x15 x16) else (none)) else (none)) else (none))) else (if x12 = true then (l7.l1 k x0 x1 x2 x3 x10 (wrap64 (x11 + 1)) x14 x15 x16) else (some false))
end
def l7.f (k : Nat) (l0 : List ByteArray) (a1 : Int) (a2 : Int) (a3 : ByteArray) : Option (Bool) := l7.l0 k l0 a1 a2 a3 l0 (l0.length : Int) 0
theorem l7.gq {P : Program} {i : Nat} {ops : Array Oper} {Q : Exit → Act → World → Prop} {a : Act} {W : World} (h : (Code.region i ops true).wp P Q a W) : (Code.region i ops true).wp P Q a W := h
set_option maxHeartbeats 8000000 in
set_option maxRecDepth 100000 in
theorem l7.calls (k : Nat) (A0 : Option Addr) (c0 : Nat) (l0 : List ByteArray) (a1 : Int) (a2 : Int) (a3 : ByteArray) (r : Bool) (w : World) (hr0 : Kd.C Kd.string w A0 l0.length l0) (hc0 : l0.length ≤ c0) (h : l7.f k l0 a1 a2 a3 = some r) :
  Calls Try.prog 60 #[.slice A0 l0.length c0, .int .i64 a1, .int .i64 a2, .string a3] w fun e w' => e = .returned (.bool r) ∧ Drawn0 w w' := by
 have HR0 := zm hr0;have HC0 := zm hc0;clear hr0 hc0;have H : (l7.l0 k l0 a1 a2 a3 l0 (l0.length : Int) 0) = some r := h;clear h;have H' := zm H;clear H;go_enter Try.func60, Try.ntmps60;go_wp2;repeat (go_quiet (fail); try go_wp2)
 go_loopg [16] k (fun kq v16 w' => ∃ (x16_1 : Int), v16 = .int .i64 x16_1 ∧ Aside0 (l7.l0 kq l0 a1 a2 a3 l0 (l0.length : Int) x16_1 = some r) ∧ Aside0 (kq ≤ k) ∧ Drawn0 w w')
 case atStart => exact ⟨(0), zz, H', ⟨Nat.le_refl _⟩, zw⟩
 case round =>
  clear H';try clear p2
  obtain ⟨x16_1, rfl, HA, HK1, ⟨m1, rfl⟩⟩ := hrel;cases gk with
  | zero => exact absurd HA.out (by simp [l7.l0])
  | succ k1 =>
   have H := HA.out;clear HA;simp only [l7.l0] at H;by_cases c5 : x16_1 < (l0.length : Int)
   rotate_left
   ·
    rw [if_neg c5] at H;have c5b0 := decide_eq_false c5;clear c5;obtain ⟨t114, A19, H⟩ := zI H;(try dsimp only at H);by_cases c20 : t114 = true
    rotate_left
    ·
     replace c20 := Bool.eq_false_iff.mpr c20;subst c20;rw [if_neg (show ¬ (false = true) by decide)] at H;obtain rfl := Option.some.inj H;go_wp2_with (first | (go_at_call 95; (with_reducible refine (V5.calls (l0.length : Int) a1 a2 false _ A19.out).mono ?_); rintro e w' ⟨rfl, ⟨nd, rfl⟩⟩; (try first | exact ⟨rfl, _, World.drewN_drewN _ _ _⟩ | exact ⟨rfl, _, Eq.trans (World.drewN_drewN _ _ _) (congrArg (World.drewN _) (Nat.add_assoc _ _ _))⟩)) | ((with_reducible refine l7.gq ?_); go_quiet (first | (go_at_call 95; (with_reducible refine (V5.calls (l0.length : Int) a1 a2 false _ A19.out).mono ?_); rintro e w' ⟨rfl, ⟨nd, rfl⟩⟩; (try first | exact ⟨rfl, _, World.drewN_drewN _ _ _⟩ | exact ⟨rfl, _, Eq.trans (World.drewN_drewN _ _ _) (congrArg (World.drewN _) (Nat.add_assoc _ _ _))⟩)))))
     go_ret
     exact ⟨zz, zw⟩
    subst c20;rw [if_pos rfl] at H;obtain ⟨c21, H⟩ := zJ H;have c21b0 := decide_eq_true c21;have c21b1 : decide (0 < l0.length) = true := decide_eq_true (by omega);clear c21;obtain ⟨t116, A22, H⟩ := zI H;(try dsimp only at H);obtain rfl := Option.some.inj H;go_wp2_with (first | (go_at_call 95; (with_reducible refine (V5.calls (l0.length : Int) a1 a2 true _ A19.out).mono ?_); rintro e w' ⟨rfl, ⟨nd, rfl⟩⟩; (try first | exact ⟨rfl, _, World.drewN_drewN _ _ _⟩ | exact ⟨rfl, _, Eq.trans (World.drewN_drewN _ _ _) (congrArg (World.drewN _) (Nat.add_assoc _ _ _))⟩); have p115 : 0 ≤ (0 : Int) := (by omega); have q115 : 0 < (l0.length : Int) := zd; obtain ⟨ad115, e115, hx115_0⟩ := Kd.at_string HR0.out 0 p115 q115; cases e115; have qi115 : (0 < l0.length) = True := eq_true (by omega); (try rw [show ((0 : Int)).toNat = 0 from rfl] at hx115_0); (try rw [Addr.add_zero'] at hx115_0); replace p115 := eq_true p115; replace q115 := eq_true q115) | (go_at_call 95; (with_reducible refine (V5.calls ((rdOf ByteArray.empty l0 0).size : Int) a1 a2 t116 _ A22.out).mono ?_); rintro e w' ⟨rfl, ⟨nd, rfl⟩⟩; (try first | exact ⟨rfl, _, World.drewN_drewN _ _ _⟩ | exact ⟨rfl, _, Eq.trans (World.drewN_drewN _ _ _) (congrArg (World.drewN _) (Nat.add_assoc _ _ _))⟩)) | ((with_reducible refine l7.gq ?_); go_quiet (first | (go_at_call 95; (with_reducible refine (V5.calls (l0.length : Int) a1 a2 true _ A19.out).mono ?_); rintro e w' ⟨rfl, ⟨nd, rfl⟩⟩; (try first | exact ⟨rfl, _, World.drewN_drewN _ _ _⟩ | exact ⟨rfl, _, Eq.trans (World.drewN_drewN _ _ _) (congrArg (World.drewN _) (Nat.add_assoc _ _ _))⟩); have p115 : 0 ≤ (0 : Int) := (by omega); have q115 : 0 < (l0.length : Int) := zd; obtain ⟨ad115, e115, hx115_0⟩ := Kd.at_string HR0.out 0 p115 q115; cases e115; have qi115 : (0 < l0.length) = True := eq_true (by omega); (try rw [show ((0 : Int)).toNat = 0 from rfl] at hx115_0); (try rw [Addr.add_zero'] at hx115_0); replace p115 := eq_true p115; replace q115 := eq_true q115) | (go_at_call 95; (with_reducible refine (V5.calls ((rdOf ByteArray.empty l0 0).size : Int) a1 a2 t116 _ A22.out).mono ?_); rintro e w' ⟨rfl, ⟨nd, rfl⟩⟩; (try first | exact ⟨rfl, _, World.drewN_drewN _ _ _⟩ | exact ⟨rfl, _, Eq.trans (World.drewN_drewN _ _ _) (congrArg (World.drewN _) (Nat.add_assoc _ _ _))⟩)))))
    go_ret
    exact ⟨zz, zw⟩
   rw [if_pos c5] at H;have c5b0 := decide_eq_true c5;clear c5;obtain ⟨c6, H⟩ := zJ H;have c6b0 := decide_eq_true c6;clear c6;obtain ⟨c7, H⟩ := zJ H;have c7b0 := decide_eq_true c7;clear c7;obtain ⟨c8, H⟩ := zJ H;have c8b0 := decide_eq_true c8;have c8b1 : decide (0 < l0.length) = true := decide_eq_true (by omega);clear c8;by_cases c9 : ((rdOf ByteArray.empty l0 x16_1).size : Int) = ((rdOf ByteArray.empty l0 0).size : Int)
   rotate_left
   ·
    rw [if_neg c9] at H;have c9b0 : (((rdOf ByteArray.empty l0 x16_1).size : Int) == ((rdOf ByteArray.empty l0 0).size : Int)) = false := beq_eq_false_iff_ne.mpr c9;have c9b1 : (((rdOf ByteArray.empty l0 x16_1).size : Int) != ((rdOf ByteArray.empty l0 0).size : Int)) = true := bne_iff_ne.mpr c9;have c9b2 : ((rdOf ByteArray.empty l0 x16_1).size == (rdOf ByteArray.empty l0 0).size) = false := by first | simpa using c9 | (simp at c9 ⊢; omega)
    obtain rfl := Option.some.inj H;have p117 : 0 ≤ (x16_1 : Int) := zd;have q117 : x16_1 < (l0.length : Int) := zd;obtain ⟨ad117, e117, hx117_0⟩ := Kd.at_string HR0.out x16_1 p117 q117;cases e117;replace p117 := eq_true p117;replace q117 := eq_true q117;have p118 : 0 ≤ (0 : Int) := (by omega);have q118 : 0 < (l0.length : Int) := zd;obtain ⟨ad118, e118, hx118_0⟩ := Kd.at_string HR0.out 0 p118 q118;obtain rfl : ad117 = ad118 := (by injection e118)
    skip
    have qi118 : (0 < l0.length) = True := eq_true (by omega)
    (try rw [show ((0 : Int)).toNat = 0 from rfl] at hx118_0);(try rw [Addr.add_zero'] at hx118_0);replace p118 := eq_true p118;replace q118 := eq_true q118;go_wp2;repeat (go_quiet (fail); try go_wp2)
    go_ret
    exact ⟨zz, zw⟩
   rw [if_pos c9] at H;have c9b0 : (((rdOf ByteArray.empty l0 x16_1).size : Int) == ((rdOf ByteArray.empty l0 0).size : Int)) = true := beq_iff_eq.mpr c9;have c9b1 : (((rdOf ByteArray.empty l0 x16_1).size : Int) != ((rdOf ByteArray.empty l0 0).size : Int)) = false := bne_eq_false_iff_eq.mpr c9;have c9b2 : ((rdOf ByteArray.empty l0 x16_1).size == (rdOf ByteArray.empty l0 0).size) = true := by first | simpa using c9 | (simp at c9 ⊢; omega)
   clear c9;have H' := zm H;clear H;have p117 : 0 ≤ (x16_1 : Int) := zd;have q117 : x16_1 < (l0.length : Int) := zd;obtain ⟨ad117, e117, hx117_0⟩ := Kd.at_string HR0.out x16_1 p117 q117;cases e117;replace p117 := eq_true p117;replace q117 := eq_true q117;have p118 : 0 ≤ (0 : Int) := (by omega);have q118 : 0 < (l0.length : Int) := zd;obtain ⟨ad118, e118, hx118_0⟩ := Kd.at_string HR0.out 0 p118 q118;obtain rfl : ad117 = ad118 := (by injection e118)
   skip
   have qi118 : (0 < l0.length) = True := eq_true (by omega)
   (try rw [show ((0 : Int)).toNat = 0 from rfl] at hx118_0);(try rw [Addr.add_zero'] at hx118_0);replace p118 := eq_true p118;replace q118 := eq_true q118;go_wp2;repeat (go_quiet (fail); try go_wp2)
   go_loopg [11] k1 (fun kq v11 w' => ∃ (x11_2 : Int), v11 = .int .i64 x11_2 ∧ Aside0 (l7.l1 kq l0 a1 a2 a3 (rdOf ByteArray.empty l0 x16_1) x11_2 l0 (l0.length : Int) x16_1 = some r) ∧ Aside0 (kq ≤ k1) ∧ Drawn0 w w')
   case atStart => exact ⟨(0), zz, H', ⟨Nat.le_refl _⟩, zw⟩
   case round =>
    clear H';(try clear p1); (try clear q1); (try clear hx1); (try clear qi1); (try clear p2); (try clear c5b0); (try clear c6b0); (try clear c7b0); (try clear c8b0); (try clear c8b1); (try clear c9b0); (try clear c9b1); (try clear c9b2); (try clear hx117_0); (try clear hx118_0); (try clear p117); (try clear p118); (try clear p2); (try clear q117); (try clear q118);obtain ⟨x11_2, rfl, HA, HK2, ⟨m2, rfl⟩⟩ := hrel;cases gk with
    | zero => exact absurd HA.out (by simp [l7.l1])
    | succ k2 =>
     have H := HA.out;clear HA;simp only [l7.l1] at H;by_cases c10 : x11_2 < ((rdOf ByteArray.empty l0 x16_1).size : Int)
     rotate_left
     ·
      rw [if_neg c10] at H;have c10b0 := decide_eq_false c10;clear c10;have H' := zm H;clear H;go_wp2;repeat (go_quiet (fail); try go_wp2)
      go_roundg k2
      case measure => have := HK1.out; have := HK2.out; omega
      case rel => exact ⟨(wrap64 (x16_1 + 1)), zz, H', ⟨by have := HK1.out; have := HK2.out; omega⟩, zw⟩
     rw [if_pos c10] at H;have c10b0 := decide_eq_true c10;clear c10;have H' := zm H;clear H;go_wp2;repeat (go_quiet (fail); try go_wp2)
     go_loopg [12, 13] k2 (fun kq v12 v13 w' => ∃ (x12_3 : Bool) (x13_3 : Int), v12 = .bool x12_3 ∧ v13 = .int .i64 x13_3 ∧ Aside0 (l7.l2 kq l0 a1 a2 a3 (rdOf ByteArray.empty l0 x16_1) x11_2 x12_3 x13_3 l0 (l0.length : Int) x16_1 = some r) ∧ Aside0 (kq ≤ k2) ∧ Drawn0 w w')
     case atStart => exact ⟨(false), (0), zz, zz, H', ⟨Nat.le_refl _⟩, zw⟩
     case round =>
      clear H';(try clear p1); (try clear q1); (try clear hx1); (try clear qi1); (try clear p2); (try clear c5b0); (try clear c6b0); (try clear c7b0); (try clear c8b0); (try clear c8b1); (try clear c9b0); (try clear c9b1); (try clear c9b2); (try clear c10b0); (try clear hx117_0); (try clear hx118_0); (try clear p1); (try clear p117); (try clear p118); (try clear p2); (try clear q1); (try clear q117); (try clear q118);obtain ⟨x12_3, x13_3, rfl, rfl, HA, HK3, ⟨m3, rfl⟩⟩ := hrel;cases gk with
      | zero => exact absurd HA.out (by simp [l7.l2])
      | succ k3 =>
       have H := HA.out;clear HA;simp only [l7.l2] at H;by_cases c11 : x13_3 < (a3.size : Int)
       rotate_left
       ·
        rw [if_neg c11] at H;have c11b0 := decide_eq_false c11;clear c11;by_cases c18 : x12_3 = true
        rotate_left
        ·
         replace c18 := Bool.eq_false_iff.mpr c18;subst c18;rw [if_neg (show ¬ (false = true) by decide)] at H;obtain rfl := Option.some.inj H;go_wp2;repeat (go_quiet (fail); try go_wp2)
         go_ret
         exact ⟨zz, zw⟩
        subst c18;rw [if_pos rfl] at H;have H' := zm H;clear H;go_wp2;repeat (go_quiet (fail); try go_wp2)
        go_roundg k3
        case measure => have := HK1.out; have := HK2.out; have := HK3.out; omega
        case rel => exact ⟨(wrap64 (x11_2 + 1)), zz, H', ⟨by have := HK1.out; have := HK2.out; have := HK3.out; omega⟩, zw⟩
       rw [if_pos c11] at H;have c11b0 := decide_eq_true c11;clear c11;by_cases c12 : x12_3 = true
       ·
        subst c12;rw [if_pos rfl] at H;have H' := zm H;clear H;go_wp2;repeat (go_quiet (fail); try go_wp2)
        go_roundg k3
        case measure => have := HK1.out; have := HK2.out; have := HK3.out; omega
        case rel => exact ⟨(true), (wrap64 (x13_3 + 1)), zz, zz, H', ⟨by have := HK1.out; have := HK2.out; have := HK3.out; omega⟩, zw⟩
       replace c12 := Bool.eq_false_iff.mpr c12;subst c12;rw [if_neg (show ¬ (false = true) by decide)] at H;obtain ⟨c13, H⟩ := zJ H;have c13b0 := decide_eq_true c13;clear c13;obtain ⟨c14, H⟩ := zJ H;have c14b0 := decide_eq_true c14;clear c14;obtain ⟨c16, H⟩ := zJ H;have c16b0 := decide_eq_true c16;clear c16;have H' := zm H;clear H;have p15 : 0 ≤ (x11_2 : Int) := zd;have q15 : x11_2 < ((rdOf ByteArray.empty l0 x16_1).size : Int) := zd;have hx15 := bt_at (rdOf ByteArray.empty l0 x16_1) x11_2;replace p15 := eq_true p15;replace q15 := eq_true q15;have p17 : 0 ≤ (x13_3 : Int) := zd;have q17 : x13_3 < (a3.size : Int) := zd;have hx17 := bt_at a3 x13_3;replace p17 := eq_true p17;replace q17 := eq_true q17;go_wp2;repeat (go_quiet (fail); try go_wp2)
       go_roundg k3
       case measure => have := HK1.out; have := HK2.out; have := HK3.out; omega
       case rel => exact ⟨(((bt (rdOf ByteArray.empty l0 x16_1) x11_2) == (bt a3 x13_3))), (wrap64 (x13_3 + 1)), zz, zz, H', ⟨by have := HK1.out; have := HK2.out; have := HK3.out; omega⟩, zw⟩
def H5.f (a0 : Int) : Option (ByteArray) := if (Int.tmod a0 2) = 0 then (some (⟨#[46]⟩ : ByteArray)) else (some (⟨#[111]⟩ : ByteArray))
set_option maxHeartbeats 8000000 in
set_option maxRecDepth 100000 in
theorem H5.calls (a0 : Int) (r : ByteArray) (w : World) (h : H5.f a0 = some r) :
  Calls Try.prog 61 #[.int .i64 a0] w fun e w' => e = .returned (.string r) ∧ Drawn0 w w' := by
 have H : (if (Int.tmod a0 2) = 0 then (some (⟨#[46]⟩ : ByteArray)) else (some (⟨#[111]⟩ : ByteArray))) = some r := h;clear h;by_cases c2 : (Int.tmod a0 2) = 0
 rotate_left
 ·
  rw [if_neg c2] at H;have c2b0 : ((Int.tmod a0 2) == 0) = false := beq_eq_false_iff_ne.mpr c2;have c2b1 : ((Int.tmod a0 2) != 0) = true := bne_iff_ne.mpr c2;obtain rfl := Option.some.inj H;go_enter Try.func61, Try.ntmps61;go_wp2;go_ret
  exact ⟨zz, zw⟩
 rw [if_pos c2] at H;have c2b0 : ((Int.tmod a0 2) == 0) = true := beq_iff_eq.mpr c2;have c2b1 : ((Int.tmod a0 2) != 0) = false := bne_eq_false_iff_eq.mpr c2;clear c2;obtain rfl := Option.some.inj H;go_enter Try.func61, Try.ntmps61;go_wp2;go_ret
 exact ⟨zz, zw⟩
def Q8.l0 : Nat → ByteArray → Int → Int → Int → Option (Int)
  | 0, _, _, _, _ => none
  | k + 1, x0, x1, x5, x6 => if x6 < (x0.size : Int) then (if 0 ≤ x6 then (if (bt x0 x6) = x1 then (Q8.l0 k x0 x1 (wrap64 (x5 + 1)) (wrap64 (x6 + 1))) else (Q8.l0 k x0 x1 x5 (wrap64 (x6 + 1)))) else (none)) else (some x5)
def Q8.f (k : Nat) (a0 : ByteArray) (a1 : Int) : Option (Int) := Q8.l0 k a0 a1 0 0
set_option maxHeartbeats 8000000 in
set_option maxRecDepth 100000 in
theorem Q8.calls (k : Nat) (a0 : ByteArray) (a1 : Int) (r : Int) (w : World) (h : Q8.f k a0 a1 = some r) :
  Calls Try.prog 62 #[.string a0, .int .u8 a1] w fun e w' => e = .returned (.int .i64 r) ∧ Drawn0 w w' := by
 have H : (Q8.l0 k a0 a1 0 0) = some r := h;clear h;have H' := zm H;clear H;go_enter Try.func62, Try.ntmps62;go_wp2;go_loopg [5, 6] k (fun kq v5 v6 w' => ∃ (x5_1 : Int) (x6_1 : Int), v5 = .int .i64 x5_1 ∧ v6 = .int .i64 x6_1 ∧ Aside0 (Q8.l0 kq a0 a1 x5_1 x6_1 = some r) ∧ Aside0 (kq ≤ k) ∧ Drawn0 w w')
 case atStart => exact ⟨(0), (0), zz, zz, H', ⟨Nat.le_refl _⟩, zw⟩
 case round =>
  clear H';try clear p2
  obtain ⟨x5_1, x6_1, rfl, rfl, HA, HK1, ⟨m1, rfl⟩⟩ := hrel;cases gk with
  | zero => exact absurd HA.out (by simp [Q8.l0])
  | succ k1 =>
   have H := HA.out;clear HA;simp only [Q8.l0] at H;by_cases c3 : x6_1 < (a0.size : Int)
   rotate_left
   ·
    rw [if_neg c3] at H;have c3b0 := decide_eq_false c3;clear c3;obtain rfl := Option.some.inj H;go_wp2;go_ret
    exact ⟨zz, zw⟩
   rw [if_pos c3] at H;have c3b0 := decide_eq_true c3;clear c3;obtain ⟨c4, H⟩ := zJ H;have c4b0 := decide_eq_true c4;clear c4;by_cases c6 : (bt a0 x6_1) = a1
   rotate_left
   ·
    rw [if_neg c6] at H;have c6b0 : ((bt a0 x6_1) == a1) = false := beq_eq_false_iff_ne.mpr c6;have c6b1 : ((bt a0 x6_1) != a1) = true := bne_iff_ne.mpr c6;have H' := zm H;clear H;have p5 : 0 ≤ (x6_1 : Int) := zd;have q5 : x6_1 < (a0.size : Int) := zd;have hx5 := bt_at a0 x6_1;replace p5 := eq_true p5;replace q5 := eq_true q5;go_wp2;go_roundg k1
    case measure => have := HK1.out; omega
    case rel => exact ⟨(x5_1), (wrap64 (x6_1 + 1)), zz, zz, H', ⟨by have := HK1.out; omega⟩, zw⟩
   rw [if_pos c6] at H;have c6b0 : ((bt a0 x6_1) == a1) = true := beq_iff_eq.mpr c6;have c6b1 : ((bt a0 x6_1) != a1) = false := bne_eq_false_iff_eq.mpr c6;clear c6;have H' := zm H;clear H;have p5 : 0 ≤ (x6_1 : Int) := zd;have q5 : x6_1 < (a0.size : Int) := zd;have hx5 := bt_at a0 x6_1;replace p5 := eq_true p5;replace q5 := eq_true q5;go_wp2;go_roundg k1
   case measure => have := HK1.out; omega
   case rel => exact ⟨(wrap64 (x5_1 + 1)), (wrap64 (x6_1 + 1)), zz, zz, H', ⟨by have := HK1.out; omega⟩, zw⟩
def J5.l0 : Nat → List ByteArray → Int → ByteArray → List ByteArray → Int → Int → Option (ByteArray)
  | 0, _, _, _, _, _, _ => none
  | k + 1, x0, x1, x5, x16, x17, x18 => if x18 < x17 then (if 0 ≤ x18 then (if x18 < (x16.length : Int) then (if 0 ≤ (wrap64 (x1 - (x0.length : Int))) then (if (wrap64 (x1 - (x0.length : Int))) ≤ (wrap64 ((wrap64 (x1 - (x0.length : Int))) + 1)) then (if (wrap64 ((wrap64 (x1 - (x0.length : Int))) + 1)) ≤ ((rdOf ByteArray.empty x16 x18).size : Int) then (if x5.size + ((rdOf ByteArray.empty x16 x18).extract ((wrap64 (x1 - (x0.length : Int))) : Int).toNat ((wrap64 ((wrap64 (x1 - (x0.length : Int))) + 1)) : Int).toNat).size ≤ 9223372036854775807 then (J5.l0 k x0 x1 (x5 ++ ((rdOf ByteArray.empty x16 x18).extract ((wrap64 (x1 - (x0.length : Int))) : Int).toNat ((wrap64 ((wrap64 (x1 - (x0.length : Int))) + 1)) : Int).toNat)) x16 x17 (wrap64 (x18 + 1))) else (none)) else (none)) else (none)) else (none)) else (none)) else (none)) else (some x5)
def J5.f (k : Nat) (l0 : List ByteArray) (a1 : Int) : Option (ByteArray) := if a1 < (l0.length : Int) then (if 0 ≤ a1 then (some (rdOf ByteArray.empty l0 a1)) else (none)) else (J5.l0 k l0 a1 (⟨#[]⟩ : ByteArray) l0 (l0.length : Int) 0)
set_option maxHeartbeats 8000000 in
set_option maxRecDepth 100000 in
theorem J5.calls (k : Nat) (A0 : Option Addr) (c0 : Nat) (l0 : List ByteArray) (a1 : Int) (r : ByteArray) (w : World) (hr0 : Kd.C Kd.string w A0 l0.length l0) (hc0 : l0.length ≤ c0) (h : J5.f k l0 a1 = some r) :
  Calls Try.prog 63 #[.slice A0 l0.length c0, .int .i64 a1] w fun e w' => e = .returned (.string r) ∧ Drawn0 w w' := by
 have HR0 := zm hr0;have HC0 := zm hc0;clear hr0 hc0;have H : (if a1 < (l0.length : Int) then (if 0 ≤ a1 then (some (rdOf ByteArray.empty l0 a1)) else (none)) else (J5.l0 k l0 a1 (⟨#[]⟩ : ByteArray) l0 (l0.length : Int) 0)) = some r := h;clear h;by_cases c3 : a1 < (l0.length : Int)
 ·
  rw [if_pos c3] at H;have c3b0 := decide_eq_true c3;clear c3;obtain ⟨c4, H⟩ := zJ H;have c4b0 := decide_eq_true c4;clear c4;obtain rfl := Option.some.inj H;have p119 : 0 ≤ (a1 : Int) := zd;have q119 : a1 < (l0.length : Int) := zd;obtain ⟨ad119, e119, hx119_0⟩ := Kd.at_string HR0.out a1 p119 q119;cases e119;replace p119 := eq_true p119;replace q119 := eq_true q119;go_enter Try.func63, Try.ntmps63;go_wp2;go_ret
  exact ⟨zz, zw⟩
 rw [if_neg c3] at H;have c3b0 := decide_eq_false c3;clear c3;have H' := zm H;clear H;go_enter Try.func63, Try.ntmps63;go_wp2;go_loopg [5, 18] k (fun kq v5 v18 w' => ∃ (x5_1 : ByteArray) (x18_1 : Int), v5 = .string x5_1 ∧ v18 = .int .i64 x18_1 ∧ Aside0 (J5.l0 kq l0 a1 x5_1 l0 (l0.length : Int) x18_1 = some r) ∧ Aside0 (kq ≤ k) ∧ Drawn0 w w')
 case atStart => exact ⟨((⟨#[]⟩ : ByteArray)), (0), zz, zz, H', ⟨Nat.le_refl _⟩, zw⟩
 case round =>
  clear H';(try clear p1); (try clear q1); (try clear hx1); (try clear p2); (try clear c3b0); (try clear c4b0); (try clear hx119_0); (try clear p119); (try clear q119);obtain ⟨x5_1, x18_1, rfl, rfl, HA, HK1, ⟨m1, rfl⟩⟩ := hrel;cases gk with
  | zero => exact absurd HA.out (by simp [J5.l0])
  | succ k1 =>
   have H := HA.out;clear HA;simp only [J5.l0] at H;by_cases c5 : x18_1 < (l0.length : Int)
   rotate_left
   ·
    rw [if_neg c5] at H;have c5b0 := decide_eq_false c5;clear c5;obtain rfl := Option.some.inj H;go_wp2;go_ret
    exact ⟨zz, zw⟩
   rw [if_pos c5] at H;have c5b0 := decide_eq_true c5;clear c5;obtain ⟨c6, H⟩ := zJ H;have c6b0 := decide_eq_true c6;clear c6;obtain ⟨c7, H⟩ := zJ H;have c7b0 := decide_eq_true c7;clear c7;obtain ⟨ji8, hji8⟩ : ∃ j_ : Int, (wrap64 (a1 - (l0.length : Int))) = j_ := ⟨_, rfl⟩;replace H : (if 0 ≤ (ji8) then (if (ji8) ≤ (wrap64 ((ji8) + 1)) then (if (wrap64 ((ji8) + 1)) ≤ ((rdOf ByteArray.empty l0 x18_1).size : Int) then (if x5_1.size + ((rdOf ByteArray.empty l0 x18_1).extract ((ji8) : Int).toNat ((wrap64 ((ji8) + 1)) : Int).toNat).size ≤ 9223372036854775807 then (J5.l0 k1 l0 a1 (x5_1 ++ ((rdOf ByteArray.empty l0 x18_1).extract ((ji8) : Int).toNat ((wrap64 ((ji8) + 1)) : Int).toNat)) l0 (l0.length : Int) (wrap64 (x18_1 + 1))) else (none)) else (none)) else (none)) else (none)) = some r := by first | (rw [hji8] at H; exact H) | (simp only [hji8] at H ⊢; exact H)
   have hji8w : (IntKind.i64.wrap (a1 - (l0.length : Int))) = ji8 := (i64_w _).trans hji8
   obtain ⟨c9, H⟩ := zJ H;have c9b0 := eq_true c9;have c9b1 := decide_eq_true c9;clear c9;obtain ⟨c10, H⟩ := zJ H;have c10b0 := eq_true c10;have c10b1 := decide_eq_true c10;obtain ⟨c11, H⟩ := zJ H;have c11b0 := eq_true c11;have c11b1 := decide_eq_true c11;obtain ⟨c12, H⟩ := zJ H;have c12b0 := eq_true c12;have c12b1 := decide_eq_true c12;try have c12b2 : (9223372036854775807 < x5_1.size + ((rdOf ByteArray.empty l0 x18_1).extract ((ji8) : Int).toNat ((wrap64 ((ji8) + 1)) : Int).toNat).size) = False := eq_false (Nat.not_lt.2 c12)
   have H' := zm H;clear H;have p120 : 0 ≤ (x18_1 : Int) := zd;have q120 : x18_1 < (l0.length : Int) := zd;obtain ⟨ad120, e120, hx120_0⟩ := Kd.at_string HR0.out x18_1 p120 q120;cases e120;replace p120 := eq_true p120;replace q120 := eq_true q120;go_wp2;go_roundg k1
   case measure => have := HK1.out; omega
   case rel => exact ⟨(x5_1 ++ ((rdOf ByteArray.empty l0 x18_1).extract ((ji8) : Int).toNat ((wrap64 ((ji8) + 1)) : Int).toNat)), (wrap64 (x18_1 + 1)), (by first | rfl | (simp; done) | (simp only [← hji8] <;> (first | rfl | simp)) | (simp [*]; done)), zz, H', ⟨by have := HK1.out; omega⟩, zw⟩
end Go.Proofs.Ytjdkdbeenggfaaa.PEr
