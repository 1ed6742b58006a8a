import Derived.Test.YtkfledgkhgcicaaGreatPFgx0
import Derived.Test.YtkfledgkhgcicaaGreatPFgx1
import Derived.Test.YtkfledgkhgcicaaGreatPFgx7
import Derived.Test.YtkfledgkhgcicaaGreatPFgx8
import Derived.Test.YtkfledgkhgcicaaGreatPFgx12
namespace Go.Proofs.YtkfledgkhgcicaaGreat.PFg
open Go.RowKit Go.Proofs.YtkfledgkhgcicaaGreatW.PrintWords Go.Proofs.YtkfledgkhgcicaaGreatW.PrintLast Go.Proofs.YtkfledgkhgcicaaGreatW.PrintMore
attribute [local go_sem] P8 P5 E5 E8 M4 M0 P6 P7   -- for this text's walks alone
set_option linter.unusedVariables false
set_option linter.unusedSimpArgs false
attribute [local go_sem high] j03
def Z7.l0 : Nat → List (List Int) → List (List Int) → Int → Int → Option (Bool)
  | 0, _, _, _, _ => none
  | k + 1, x0, x1, x12, x13 => if x13 < x12 then (if 0 ≤ x13 then (if x13 < (x0.length : Int) then (if x13 < (x1.length : Int) then ((K5.f k (y8 x0 x13) (y8 x1 x13)).bind fun t450 => (if t450 = true then (Z7.l0 k x0 x1 x12 (wrap64 (x13 + 1))) else (some false))) else (none)) else (none)) else (none)) else (some true)
def Z7.f (k : Nat) (l0 : List (List Int)) (l1 : List (List Int)) : Option (Bool) := if (l0.length : Int) = (l1.length : Int) then (Z7.l0 k l0 l1 (l0.length : Int) 0) else (some false)
theorem Z7.gq {P : Program} {i : Nat} {ops : Array Oper} {Q : Exit → Act → World → Prop} {a : Act} {W : World} (h : (Code.region i ops true).wp P Q a W) : (Code.region i ops true).wp P Q a W := h
set_option maxHeartbeats 8000000 in
set_option maxRecDepth 100000 in
theorem Z7.calls (k : Nat) (A0 : Option Addr) (c0 : Nat) (l0 : List (List Int)) (A1 : Option Addr) (c1 : Nat) (l1 : List (List Int)) (r : Bool) (w : World) (hr0 : Kd.C (Kd.slice 3 (Kd.int .i64)) w A0 l0.length l0) (hc0 : l0.length ≤ c0) (hr1 : Kd.C (Kd.slice 3 (Kd.int .i64)) w A1 l1.length l1) (hc1 : l1.length ≤ c1) (h : Z7.f k l0 l1 = some r) :
  Calls Tryz.prog 14 #[.slice A0 l0.length c0, .slice A1 l1.length c1] w fun e w' => e = .returned (.bool r) ∧ G6 w w' := by
 have HR0 := zm hr0;have HC0 := zm hc0;clear hr0 hc0;have HR1 := zm hr1;have HC1 := zm hc1;clear hr1 hc1;have H : (if (l0.length : Int) = (l1.length : Int) then (Z7.l0 k l0 l1 (l0.length : Int) 0) else (some false)) = some r := h;clear h;by_cases c3 : (l0.length : Int) = (l1.length : Int)
 rotate_left
 ·
  rw [if_neg c3] at H;have c3b0 : ((l0.length : Int) == (l1.length : Int)) = false := beq_eq_false_iff_ne.mpr c3;have c3b1 : ((l0.length : Int) != (l1.length : Int)) = true := bne_iff_ne.mpr c3;have c3b2 : (l0.length == l1.length) = false := by first | simpa using c3 | (simp at c3 ⊢; omega)
  obtain rfl := Option.some.inj H;go_enter Tryz.func14, Tryz.ntmps14;go_wp2;repeat (go_quiet (fail); try go_wp2)
  go_ret
  exact ⟨zz, zw⟩
 rw [if_pos c3] at H;have c3b0 : ((l0.length : Int) == (l1.length : Int)) = true := beq_iff_eq.mpr c3;have c3b1 : ((l0.length : Int) != (l1.length : Int)) = false := bne_eq_false_iff_eq.mpr c3;have c3b2 : (l0.length == l1.length) = true := by first | simpa using c3 | (simp at c3 ⊢; omega)
 clear c3;have H' := zm H;clear H;go_enter Tryz.func14, Tryz.ntmps14;go_wp2;repeat (go_quiet (fail); try go_wp2)
 go_loopg [13] k (fun kq v13 w' => ∃ (x13_1 : Int), v13 = .int .i64 x13_1 ∧ z8 (Z7.l0 kq l0 l1 (l0.length : Int) x13_1 = some r) ∧ z8 (kq ≤ k) ∧ G6 w w')
 case atStart => exact ⟨(0), zz, H', ⟨Nat.le_refl _⟩, zw⟩
 case round =>
  clear H';(try clear p2); (try clear c3b0); (try clear c3b1); (try clear c3b2);obtain ⟨x13_1, rfl, HA, HK1, ⟨m1, rfl⟩⟩ := hrel;cases gk with
  | zero => exact absurd HA.out (by simp [Z7.l0])
  | succ k1 =>
   have H := HA.out;clear HA;simp only [Z7.l0] at H;by_cases c4 : x13_1 < (l0.length : Int)
   rotate_left
   ·
    rw [if_neg c4] at H;have c4b0 := decide_eq_false c4;clear c4;obtain rfl := Option.some.inj H;go_wp2;repeat (go_quiet (fail); try go_wp2)
    go_ret
    exact ⟨zz, zw⟩
   rw [if_pos c4] at H;have c4b0 := decide_eq_true c4;clear c4;obtain ⟨c5, H⟩ := zJ H;have c5b0 := decide_eq_true c5;clear c5;obtain ⟨c6, H⟩ := zJ H;have c6b0 := decide_eq_true c6;clear c6;obtain ⟨c7, H⟩ := zJ H;have c7b0 := decide_eq_true c7;clear c7;obtain ⟨t450, A8, H⟩ := zI H;(try dsimp only at H);by_cases c9 : t450 = true
   rotate_left
   ·
    replace c9 := Bool.eq_false_iff.mpr c9;subst c9;rw [if_neg (show ¬ (false = true) by decide)] at H;obtain rfl := Option.some.inj H;have p448 : 0 ≤ (x13_1 : Int) := zd;have q448 : x13_1 < (l0.length : Int) := zd;obtain ⟨ad448, A448_0, c448_0, e448, hx448_0, hl448_0, hi448_0⟩ := q0g HR0.out x13_1 p448 q448;cases e448;have HR448_0 := zm hi448_0;have HC448_0 := zm hl448_0;clear hi448_0 hl448_0;replace p448 := eq_true p448;replace q448 := eq_true q448;have p449 : 0 ≤ (x13_1 : Int) := zd;have q449 : x13_1 < (l1.length : Int) := zd;obtain ⟨ad449, A449_0, c449_0, e449, hx449_0, hl449_0, hi449_0⟩ := q0g HR1.out x13_1 p449 q449;cases e449;have HR449_0 := zm hi449_0;have HC449_0 := zm hl449_0;clear hi449_0 hl449_0;replace p449 := eq_true p449;replace q449 := eq_true q449;go_wp2_with (first | (go_at_call 32; (with_reducible refine (K5.calls k1 _ _ (y8 l0 x13_1) _ _ (y8 l1 x13_1) false _ ?side1 ?side2 ?side3 ?side4 A8.out).mono ?_); (case side1 => exact zF HR448_0.out); (case side2 => exact HC448_0.out); (case side3 => exact zF HR449_0.out); (case side4 => exact HC449_0.out); rintro e w' ⟨rfl, ⟨nd, rfl⟩⟩; (try first | exact ⟨rfl, _, World.drewN_drewN _ _ _⟩ | exact ⟨rfl, _, Eq.trans (World.drewN_drewN _ _ _) (congrArg (World.drewN _) (Nat.add_assoc _ _ _))⟩)) | ((with_reducible refine Z7.gq ?_); go_quiet (first | (go_at_call 32; (with_reducible refine (K5.calls k1 _ _ (y8 l0 x13_1) _ _ (y8 l1 x13_1) false _ ?side1 ?side2 ?side3 ?side4 A8.out).mono ?_); (case side1 => exact zF HR448_0.out); (case side2 => exact HC448_0.out); (case side3 => exact zF HR449_0.out); (case side4 => exact HC449_0.out); rintro e w' ⟨rfl, ⟨nd, rfl⟩⟩; (try first | exact ⟨rfl, _, World.drewN_drewN _ _ _⟩ | exact ⟨rfl, _, Eq.trans (World.drewN_drewN _ _ _) (congrArg (World.drewN _) (Nat.add_assoc _ _ _))⟩)))))
    go_ret
    exact ⟨zz, zw⟩
   subst c9;rw [if_pos rfl] at H;have H' := zm H;clear H;have p448 : 0 ≤ (x13_1 : Int) := zd;have q448 : x13_1 < (l0.length : Int) := zd;obtain ⟨ad448, A448_0, c448_0, e448, hx448_0, hl448_0, hi448_0⟩ := q0g HR0.out x13_1 p448 q448;cases e448;have HR448_0 := zm hi448_0;have HC448_0 := zm hl448_0;clear hi448_0 hl448_0;replace p448 := eq_true p448;replace q448 := eq_true q448;have p449 : 0 ≤ (x13_1 : Int) := zd;have q449 : x13_1 < (l1.length : Int) := zd;obtain ⟨ad449, A449_0, c449_0, e449, hx449_0, hl449_0, hi449_0⟩ := q0g HR1.out x13_1 p449 q449;cases e449;have HR449_0 := zm hi449_0;have HC449_0 := zm hl449_0;clear hi449_0 hl449_0;replace p449 := eq_true p449;replace q449 := eq_true q449;go_wp2_with (first | (go_at_call 32; (with_reducible refine (K5.calls k1 _ _ (y8 l0 x13_1) _ _ (y8 l1 x13_1) true _ ?side1 ?side2 ?side3 ?side4 A8.out).mono ?_); (case side1 => exact zF HR448_0.out); (case side2 => exact HC448_0.out); (case side3 => exact zF HR449_0.out); (case side4 => exact HC449_0.out); rintro e w' ⟨rfl, ⟨nd, rfl⟩⟩; (try first | exact ⟨rfl, _, World.drewN_drewN _ _ _⟩ | exact ⟨rfl, _, Eq.trans (World.drewN_drewN _ _ _) (congrArg (World.drewN _) (Nat.add_assoc _ _ _))⟩)) | ((with_reducible refine Z7.gq ?_); go_quiet (first | (go_at_call 32; (with_reducible refine (K5.calls k1 _ _ (y8 l0 x13_1) _ _ (y8 l1 x13_1) true _ ?side1 ?side2 ?side3 ?side4 A8.out).mono ?_); (case side1 => exact zF HR448_0.out); (case side2 => exact HC448_0.out); (case side3 => exact zF HR449_0.out); (case side4 => exact HC449_0.out); rintro e w' ⟨rfl, ⟨nd, rfl⟩⟩; (try first | exact ⟨rfl, _, World.drewN_drewN _ _ _⟩ | exact ⟨rfl, _, Eq.trans (World.drewN_drewN _ _ _) (congrArg (World.drewN _) (Nat.add_assoc _ _ _))⟩)))))
   go_roundg k1
   case measure => have := HK1.out; omega
   case rel => exact ⟨(wrap64 (x13_1 + 1)), zz, H', ⟨by have := HK1.out; omega⟩, zw⟩
def Y6.l0 : Nat → List (S48) → List (S48) → Int → Int → Option (Bool)
  | 0, _, _, _, _ => none
  | k + 1, x0, x1, x12, x13 => if x13 < x12 then (if 0 ≤ x13 then (if x13 < (x0.length : Int) then (if x13 < (x1.length : Int) then (if (!(((q8 x0 x13).f0) == ((q8 x1 x13).f0)) || (!(((q8 x0 x13).f1) == ((q8 x1 x13).f1)) || (!(((q8 x0 x13).f2) == ((q8 x1 x13).f2))))) = true then (some false) else (Y6.l0 k x0 x1 x12 (wrap64 (x13 + 1)))) else (none)) else (none)) else (none)) else (some true)
def Y6.f (k : Nat) (l0 : List (S48)) (l1 : List (S48)) : Option (Bool) := if (l0.length : Int) = (l1.length : Int) then (Y6.l0 k l0 l1 (l0.length : Int) 0) else (some false)
set_option maxHeartbeats 8000000 in
set_option maxRecDepth 100000 in
theorem Y6.calls (k : Nat) (A0 : Option Addr) (c0 : Nat) (l0 : List (S48)) (A1 : Option Addr) (c1 : Nat) (l1 : List (S48)) (r : Bool) (w : World) (hr0 : Kd.C k48 w A0 l0.length l0) (hc0 : l0.length ≤ c0) (hr1 : Kd.C k48 w A1 l1.length l1) (hc1 : l1.length ≤ c1) (h : Y6.f k l0 l1 = some r) :
  Calls Tryz.prog 19 #[.slice A0 l0.length c0, .slice A1 l1.length c1] w fun e w' => e = .returned (.bool r) ∧ G6 w w' := by
 have hu48 := Tryz.underlying48;have HR0 := zm hr0;have HC0 := zm hc0;clear hr0 hc0;have HR1 := zm hr1;have HC1 := zm hc1;clear hr1 hc1;have H : (if (l0.length : Int) = (l1.length : Int) then (Y6.l0 k l0 l1 (l0.length : Int) 0) else (some false)) = some r := h;clear h;by_cases c3 : (l0.length : Int) = (l1.length : Int)
 rotate_left
 ·
  rw [if_neg c3] at H;have c3b0 : ((l0.length : Int) == (l1.length : Int)) = false := beq_eq_false_iff_ne.mpr c3;have c3b1 : ((l0.length : Int) != (l1.length : Int)) = true := bne_iff_ne.mpr c3;have c3b2 : (l0.length == l1.length) = false := by first | simpa using c3 | (simp at c3 ⊢; omega)
  obtain rfl := Option.some.inj H;go_enter Tryz.func19, Tryz.ntmps19;go_wp2;repeat (go_quiet (fail); try go_wp2)
  go_ret
  exact ⟨zz, zw⟩
 rw [if_pos c3] at H;have c3b0 : ((l0.length : Int) == (l1.length : Int)) = true := beq_iff_eq.mpr c3;have c3b1 : ((l0.length : Int) != (l1.length : Int)) = false := bne_eq_false_iff_eq.mpr c3;have c3b2 : (l0.length == l1.length) = true := by first | simpa using c3 | (simp at c3 ⊢; omega)
 clear c3;have H' := zm H;clear H;go_enter Tryz.func19, Tryz.ntmps19;go_wp2;repeat (go_quiet (fail); try go_wp2)
 go_loopg [13] k (fun kq v13 w' => ∃ (x13_1 : Int), v13 = .int .i64 x13_1 ∧ z8 (Y6.l0 kq l0 l1 (l0.length : Int) x13_1 = some r) ∧ z8 (kq ≤ k) ∧ G6 w w')
 case atStart => exact ⟨(0), zz, H', ⟨Nat.le_refl _⟩, zw⟩
 case round =>
  clear H';(try clear p2); (try clear c3b0); (try clear c3b1); (try clear c3b2);obtain ⟨x13_1, rfl, HA, HK1, ⟨m1, rfl⟩⟩ := hrel;cases gk with
  | zero => exact absurd HA.out (by simp [Y6.l0])
  | succ k1 =>
   have H := HA.out;clear HA;simp only [Y6.l0] at H;by_cases c4 : x13_1 < (l0.length : Int)
   rotate_left
   ·
    rw [if_neg c4] at H;have c4b0 := decide_eq_false c4;clear c4;obtain rfl := Option.some.inj H;go_wp2;repeat (go_quiet (fail); try go_wp2)
    go_ret
    exact ⟨zz, zw⟩
   rw [if_pos c4] at H;have c4b0 := decide_eq_true c4;clear c4;obtain ⟨c5, H⟩ := zJ H;have c5b0 := decide_eq_true c5;clear c5;obtain ⟨c6, H⟩ := zJ H;have c6b0 := decide_eq_true c6;clear c6;obtain ⟨c7, H⟩ := zJ H;have c7b0 := decide_eq_true c7;clear c7;by_cases c8 : (!(((q8 l0 x13_1).f0) == ((q8 l1 x13_1).f0)) || (!(((q8 l0 x13_1).f1) == ((q8 l1 x13_1).f1)) || (!(((q8 l0 x13_1).f2) == ((q8 l1 x13_1).f2))))) = true
   ·
    rw [if_pos c8] at H;have c8b0 : (!(((q8 l0 x13_1).f0) == ((q8 l1 x13_1).f0)) || (!(((q8 l0 x13_1).f1) == ((q8 l1 x13_1).f1)) || (!(((q8 l0 x13_1).f2) == ((q8 l1 x13_1).f2))))) = true := c8;clear c8;obtain rfl := Option.some.inj H;have p451 : 0 ≤ (x13_1 : Int) := zd;have q451 : x13_1 < (l0.length : Int) := zd;obtain ⟨ad451, e451, hx451_0, hx451_1, hx451_2⟩ := H9 HR0.out x13_1 p451 q451;cases e451;replace p451 := eq_true p451;replace q451 := eq_true q451;have p452 : 0 ≤ (x13_1 : Int) := zd;have q452 : x13_1 < (l1.length : Int) := zd;obtain ⟨ad452, e452, hx452_0, hx452_1, hx452_2⟩ := H9 HR1.out x13_1 p452 q452;cases e452;replace p452 := eq_true p452;replace q452 := eq_true q452;go_wp2;repeat (go_quiet (fail); try go_wp2)
    go_ret
    exact ⟨zz, zw⟩
   rw [if_neg c8] at H;have c8b0 : (!(((q8 l0 x13_1).f0) == ((q8 l1 x13_1).f0)) || (!(((q8 l0 x13_1).f1) == ((q8 l1 x13_1).f1)) || (!(((q8 l0 x13_1).f2) == ((q8 l1 x13_1).f2))))) = false := by simpa using c8
   clear c8;have H' := zm H;clear H;have p451 : 0 ≤ (x13_1 : Int) := zd;have q451 : x13_1 < (l0.length : Int) := zd;obtain ⟨ad451, e451, hx451_0, hx451_1, hx451_2⟩ := H9 HR0.out x13_1 p451 q451;cases e451;replace p451 := eq_true p451;replace q451 := eq_true q451;have p452 : 0 ≤ (x13_1 : Int) := zd;have q452 : x13_1 < (l1.length : Int) := zd;obtain ⟨ad452, e452, hx452_0, hx452_1, hx452_2⟩ := H9 HR1.out x13_1 p452 q452;cases e452;replace p452 := eq_true p452;replace q452 := eq_true q452;go_wp2;repeat (go_quiet (fail); try go_wp2)
   go_roundg k1
   case measure => have := HK1.out; omega
   case rel => exact ⟨(wrap64 (x13_1 + 1)), zz, H', ⟨by have := HK1.out; omega⟩, zw⟩
def F8.f (k : Nat) (l0_0 : List (S48)) (a0_1 : Int) (l0_2 : List Int) (l1_0 : List (S48)) (a1_1 : Int) (l1_2 : List Int) : Option (Bool) := (Y6.f k l0_0 l1_0).bind fun t455 => (if t455 = true then (if a0_1 = a1_1 then ((K5.f k l0_2 l1_2).bind fun t456 => (some t456)) else (some false)) else (some false))
set_option maxHeartbeats 8000000 in
set_option maxRecDepth 100000 in
theorem F8.calls (k : Nat) (A0_0 : Option Addr) (c0_0 : Nat) (l0_0 : List (S48)) (a0_1 : Int) (A0_2 : Option Addr) (c0_2 : Nat) (l0_2 : List Int) (A1_0 : Option Addr) (c1_0 : Nat) (l1_0 : List (S48)) (a1_1 : Int) (A1_2 : Option Addr) (c1_2 : Nat) (l1_2 : List Int) (r : Bool) (w : World) (hr0_0 : Kd.C k48 w A0_0 l0_0.length l0_0) (hc0_0 : l0_0.length ≤ c0_0) (hr0_2 : Kd.C (Kd.int .i64) w A0_2 l0_2.length l0_2) (hc0_2 : l0_2.length ≤ c0_2) (hr1_0 : Kd.C k48 w A1_0 l1_0.length l1_0) (hc1_0 : l1_0.length ≤ c1_0) (hr1_2 : Kd.C (Kd.int .i64) w A1_2 l1_2.length l1_2) (hc1_2 : l1_2.length ≤ c1_2) (h : F8.f k l0_0 a0_1 l0_2 l1_0 a1_1 l1_2 = some r) :
  Calls Tryz.prog 15 #[.agg #[.slice A0_0 l0_0.length c0_0, .int .i64 a0_1, .slice A0_2 l0_2.length c0_2], .agg #[.slice A1_0 l1_0.length c1_0, .int .i64 a1_1, .slice A1_2 l1_2.length c1_2]] w fun e w' => e = .returned (.bool r) ∧ Below w.heap.size w w' := by
 have hu35 := Tryz.underlying35;have HR0_0 := zm hr0_0;have HC0_0 := zm hc0_0;clear hr0_0 hc0_0;have HR0_2 := zm hr0_2;have HC0_2 := zm hc0_2;clear hr0_2 hc0_2;have HR1_0 := zm hr1_0;have HC1_0 := zm hc1_0;clear hr1_0 hc1_0;have HR1_2 := zm hr1_2;have HC1_2 := zm hc1_2;clear hr1_2 hc1_2;have HB := zm (Below.refl w.heap.size w);have H : ((Y6.f k l0_0 l1_0).bind fun t455 => (if t455 = true then (if a0_1 = a1_1 then ((K5.f k l0_2 l1_2).bind fun t456 => (some t456)) else (some false)) else (some false))) = some r := h;clear h;obtain ⟨t455, A3, H⟩ := zI H;(try dsimp only at H);by_cases c4 : t455 = true
 rotate_left
 ·
  replace c4 := Bool.eq_false_iff.mpr c4;subst c4;rw [if_neg (show ¬ (false = true) by decide)] at H;obtain rfl := Option.some.inj H;go_enter Tryz.func15, Tryz.ntmps15;go_wp2_with (first | ((with_reducible refine Q6 (N := 2) rfl ?_); refine V5 ?hg (N := 2) ?hd (cs := #[.slice A0_0 l0_0.length c0_0, .int .i64 a0_1, .slice A0_2 l0_2.length c0_2]) (t := 35) ?hr ?_; (case hd => rfl); (case hg => rfl); (case hr => first | (go_simp; done) | (go_simp; rfl)); intro gb453 hg w17 hbox hb; have n0_ := zm (q9 zb hb); have BK453 := zm (hbox); have GW453 := zm (zs hg zb : w.heap.size ≤ gb453); have GE453 := zm (zs hg zb : w.heap.size ≤ gb453); replace HB := n0_; clear n0_; clear hb hbox hg) | ((with_reducible refine Q6 (N := 3) rfl ?_); refine V5 ?hg (N := 3) ?hd (cs := #[.slice A1_0 l1_0.length c1_0, .int .i64 a1_1, .slice A1_2 l1_2.length c1_2]) (t := 35) ?hr ?_; (case hd => rfl); (case hg => rfl); (case hr => first | (go_simp; done) | (go_simp; rfl)); intro gb454 hg w18 hbox hb; have n0_ := zm (o5 (g := gb453) zk hb); have n1_ := zm (q9 zb hb); have BK454 := zm (hbox); have GW454 := zm (zs hg zb : w.heap.size ≤ gb454); have GE454 := zm (zs hg zb : w.heap.size ≤ gb454); have NB453_454 := zm (zl hg zk : gb453 ≠ gb454); have NB454_453 := zm (zg hg zk : gb454 ≠ gb453); replace BK453 := n0_; replace HB := n1_; clear n0_ n1_; clear hb hbox hg; have hnb19 := NB453_454.out; have hnc19 := NB454_453.out; obtain ⟨hcz20_0, hcz20_1, hcz20_2, hfz20_0, hfz20_1, hfz20_2⟩ := zc3 BK453.out; obtain ⟨hcz21_0, hcz21_1, hcz21_2, hfz21_0, hfz21_1, hfz21_2⟩ := zc3 BK454.out) | ((with_reducible refine y7 (f := 19) rfl ?_); refine o7 (some 9) Tryz.func19 #[.slice A0_0 l0_0.length c0_0, .slice A1_0 l1_0.length c1_0] rfl ?_; (with_reducible refine (Y6.calls k _ _ l0_0 _ _ l1_0 false _ ?side1 ?side2 ?side3 ?side4 A3.out).mono ?_); (case side1 => exact zC HR0_0.out); (case side2 => exact HC0_0.out); (case side3 => exact zC HR1_0.out); (case side4 => exact HC1_0.out); rintro e w' ⟨rfl, ⟨nd, rfl⟩⟩; refine ⟨_, rfl, ?_⟩))
  go_ret
  exact ⟨zr, zb⟩
 subst c4;rw [if_pos rfl] at H;by_cases c5 : a0_1 = a1_1
 rotate_left
 ·
  rw [if_neg c5] at H;have c5b0 : (a0_1 == a1_1) = false := beq_eq_false_iff_ne.mpr c5;have c5b1 : (a0_1 != a1_1) = true := bne_iff_ne.mpr c5;obtain rfl := Option.some.inj H;go_enter Tryz.func15, Tryz.ntmps15;go_wp2_with (first | ((with_reducible refine Q6 (N := 2) rfl ?_); refine V5 ?hg (N := 2) ?hd (cs := #[.slice A0_0 l0_0.length c0_0, .int .i64 a0_1, .slice A0_2 l0_2.length c0_2]) (t := 35) ?hr ?_; (case hd => rfl); (case hg => rfl); (case hr => first | (go_simp; done) | (go_simp; rfl)); intro gb453 hg w12 hbox hb; have n0_ := zm (q9 zb hb); have BK453 := zm (hbox); have GW453 := zm (zs hg zb : w.heap.size ≤ gb453); have GE453 := zm (zs hg zb : w.heap.size ≤ gb453); replace HB := n0_; clear n0_; clear hb hbox hg) | ((with_reducible refine Q6 (N := 3) rfl ?_); refine V5 ?hg (N := 3) ?hd (cs := #[.slice A1_0 l1_0.length c1_0, .int .i64 a1_1, .slice A1_2 l1_2.length c1_2]) (t := 35) ?hr ?_; (case hd => rfl); (case hg => rfl); (case hr => first | (go_simp; done) | (go_simp; rfl)); intro gb454 hg w13 hbox hb; have n0_ := zm (o5 (g := gb453) zk hb); have n1_ := zm (q9 zb hb); have BK454 := zm (hbox); have GW454 := zm (zs hg zb : w.heap.size ≤ gb454); have GE454 := zm (zs hg zb : w.heap.size ≤ gb454); have NB453_454 := zm (zl hg zk : gb453 ≠ gb454); have NB454_453 := zm (zg hg zk : gb454 ≠ gb453); replace BK453 := n0_; replace HB := n1_; clear n0_ n1_; clear hb hbox hg; have hnb14 := NB453_454.out; have hnc14 := NB454_453.out; obtain ⟨hcz15_0, hcz15_1, hcz15_2, hfz15_0, hfz15_1, hfz15_2⟩ := zc3 BK453.out; obtain ⟨hcz16_0, hcz16_1, hcz16_2, hfz16_0, hfz16_1, hfz16_2⟩ := zc3 BK454.out) | ((with_reducible refine y7 (f := 19) rfl ?_); refine o7 (some 9) Tryz.func19 #[.slice A0_0 l0_0.length c0_0, .slice A1_0 l1_0.length c1_0] rfl ?_; (with_reducible refine (Y6.calls k _ _ l0_0 _ _ l1_0 true _ ?side1 ?side2 ?side3 ?side4 A3.out).mono ?_); (case side1 => exact zC HR0_0.out); (case side2 => exact HC0_0.out); (case side3 => exact zC HR1_0.out); (case side4 => exact HC1_0.out); rintro e w' ⟨rfl, ⟨nd, rfl⟩⟩; refine ⟨_, rfl, ?_⟩))
  go_ret
  exact ⟨zr, zb⟩
 rw [if_pos c5] at H;have c5b0 : (a0_1 == a1_1) = true := beq_iff_eq.mpr c5;have c5b1 : (a0_1 != a1_1) = false := bne_eq_false_iff_eq.mpr c5;clear c5;obtain ⟨t456, A6, H⟩ := zI H;(try dsimp only at H);obtain rfl := Option.some.inj H;go_enter Tryz.func15, Tryz.ntmps15;go_wp2_with (first | ((with_reducible refine Q6 (N := 2) rfl ?_); refine V5 ?hg (N := 2) ?hd (cs := #[.slice A0_0 l0_0.length c0_0, .int .i64 a0_1, .slice A0_2 l0_2.length c0_2]) (t := 35) ?hr ?_; (case hd => rfl); (case hg => rfl); (case hr => first | (go_simp; done) | (go_simp; rfl)); intro gb453 hg w7 hbox hb; have n0_ := zm (q9 zb hb); have BK453 := zm (hbox); have GW453 := zm (zs hg zb : w.heap.size ≤ gb453); have GE453 := zm (zs hg zb : w.heap.size ≤ gb453); replace HB := n0_; clear n0_; clear hb hbox hg) | ((with_reducible refine Q6 (N := 3) rfl ?_); refine V5 ?hg (N := 3) ?hd (cs := #[.slice A1_0 l1_0.length c1_0, .int .i64 a1_1, .slice A1_2 l1_2.length c1_2]) (t := 35) ?hr ?_; (case hd => rfl); (case hg => rfl); (case hr => first | (go_simp; done) | (go_simp; rfl)); intro gb454 hg w8 hbox hb; have n0_ := zm (o5 (g := gb453) zk hb); have n1_ := zm (q9 zb hb); have BK454 := zm (hbox); have GW454 := zm (zs hg zb : w.heap.size ≤ gb454); have GE454 := zm (zs hg zb : w.heap.size ≤ gb454); have NB453_454 := zm (zl hg zk : gb453 ≠ gb454); have NB454_453 := zm (zg hg zk : gb454 ≠ gb453); replace BK453 := n0_; replace HB := n1_; clear n0_ n1_; clear hb hbox hg; have hnb9 := NB453_454.out; have hnc9 := NB454_453.out; obtain ⟨hcz10_0, hcz10_1, hcz10_2, hfz10_0, hfz10_1, hfz10_2⟩ := zc3 BK453.out; obtain ⟨hcz11_0, hcz11_1, hcz11_2, hfz11_0, hfz11_1, hfz11_2⟩ := zc3 BK454.out) | ((with_reducible refine y7 (f := 19) rfl ?_); refine o7 (some 9) Tryz.func19 #[.slice A0_0 l0_0.length c0_0, .slice A1_0 l1_0.length c1_0] rfl ?_; (with_reducible refine (Y6.calls k _ _ l0_0 _ _ l1_0 true _ ?side1 ?side2 ?side3 ?side4 A3.out).mono ?_); (case side1 => exact zC HR0_0.out); (case side2 => exact HC0_0.out); (case side3 => exact zC HR1_0.out); (case side4 => exact HC1_0.out); rintro e w' ⟨rfl, ⟨nd, rfl⟩⟩; refine ⟨_, rfl, ?_⟩) | (go_at_call 32; (with_reducible refine (K5.calls k _ _ l0_2 _ _ l1_2 t456 _ ?side1 ?side2 ?side3 ?side4 A6.out).mono ?_); (case side1 => repeat (first | exact (Kd.O1 HR0_2.out zb) | (with_reducible refine Kd.Y4 ?_ _) | (with_reducible refine Kd.Y5 ?_ _) | (with_reducible refine Kd.X0 ?_))); (case side2 => exact HC0_2.out); (case side3 => repeat (first | exact (Kd.O1 HR1_2.out zb) | (with_reducible refine Kd.Y4 ?_ _) | (with_reducible refine Kd.Y5 ?_ _) | (with_reducible refine Kd.X0 ?_))); (case side4 => exact HC1_2.out); rintro e w' ⟨rfl, ⟨nd, rfl⟩⟩))
 go_ret
 exact ⟨zr, zb⟩
-- NOT PRINTED: function 70 (reflectlite_ValueOf)
-- NOT PRINTED: function 71 (reflectlite_Swapper)
-- NOT PRINTED: function 95 (sort_insertionSort_func)
-- NOT PRINTED: function 116 (sort_swapRange_func)
-- NOT PRINTED: function 111 (sort_rotate_func)
-- NOT PRINTED: function 96 (sort_symMerge_func)
-- NOT PRINTED: function 72 (sort_stable_func)
-- NOT PRINTED: function 73 (reflectlite_Value_Len)
-- NOT PRINTED: function 58 (sort_SliceStable)
def hlt (a b : S48) : Bool := decide (a.f1 < b.f1 ∨ (a.f1 = b.f1 ∧ a.f0 < b.f0))
def SP (d l : List S48) : Prop := d.Perm l ∧ d.Pairwise fun x y => hlt y x = false
def q4n (l : List S48) (r : List S48 × Bool) : Prop := ∀ d, SP d l → ∃ k, Q3.f k d = some r.2 ∧ r.1 = if r.2 = true then d else []
open Classical in
noncomputable def O5.f (l0 : List (S48)) : Option ((List (S48)) × Bool) := if (l0.length : Int) > 60 then some ([], false) else if h : ∃ r, q4n l0 r then some h.choose else none
instance : Inhabited S48 := ⟨z48⟩
def N7 (x : S48) : List Value := [.int .i64 x.f0, .int .i64 x.f1, .int .i64 x.f2]
theorem v7o : Go.Sort.SWO hlt := by
  constructor
  · intro x; simp [hlt]
  · intro x y z h1 h2; simp [hlt] at *; omega
  · intro x y z h1 h2; simp [hlt] at *; omega
theorem q70 (a b : S48) : U9.f a.f0 a.f1 a.f2 b.f0 b.f1 b.f2 = some (hlt a b) := by
  unfold U9.f hlt
  split
  · rename_i h; congr 1; rw [decide_eq_decide]; omega
  · rename_i h; congr 1; rw [decide_eq_decide]; omega
set_option maxHeartbeats 4000000 in
set_option maxRecDepth 100000 in
theorem v8w (blk c Bs size : Nat) (W : World) (dk : Array S48) (hsk : dk.size = size) (hs : W.cell? ⟨Bs, 0, none⟩ = some (.slice (some ⟨blk, 0, none⟩) size c)) (hH : Go.Sort.HoldsK N7 3 W blk 0 dk) (i j : Nat) (hi : i < size) (hj : j < size) (hsz : size < 4611686018427387904) :
    Calls Tryz.prog 59 #[.int .i64 i, .int .i64 j, .pointer (some ⟨Bs, 0, none⟩)] W fun e w' => e = .returned (.bool (hlt dk[i]! dk[j]!)) ∧ Below W.heap.size W w' := by
  have hu48 := Tryz.underlying48
  have cc : ∀ t, t < size → W.cell? ⟨blk, t * 3, none⟩ = some (.int .i64 dk[t]!.f0) ∧ W.cell? ⟨blk, t * 3 + 1, none⟩ = some (.int .i64 dk[t]!.f1) ∧ W.cell? ⟨blk, t * 3 + 2, none⟩ = some (.int .i64 dk[t]!.f2) := fun t ht => by
    have h0 := (hH.cell (i := t) (c := 0) (by omega) (by omega)).1
    have h1 := (hH.cell (i := t) (c := 1) (by omega) (by omega)).1
    have h2 := (hH.cell (i := t) (c := 2) (by omega) (by omega)).1
    simp only [Nat.zero_add, Nat.add_zero] at h0 h1 h2
    exact ⟨h0, h1, h2⟩
  obtain ⟨i0, i1, i2⟩ := cc i hi
  obtain ⟨j0, j1, j2⟩ := cc j hj
  have pi : ((i : Int) < (size : Int)) := by omega
  have pj : ((j : Int) < (size : Int)) := by omega
  clear cc hH
  generalize dk[i]! = x at i0 i1 i2 ⊢
  generalize dk[j]! = y at j0 j1 j2 ⊢
  have hc := U9.calls x.f0 x.f1 x.f2 y.f0 y.f1 y.f2 (hlt x y)
  have HE : z8 (U9.f x.f0 x.f1 x.f2 y.f0 y.f1 y.f2 = some (hlt x y)) := ⟨q70 _ _⟩
  go_enter Tryz.func59, Tryz.ntmps59
  go_wp2
  go_still_tail 8, (by kernel_rfl)
  change wpList _ _ _ _ _ W.drew
  have hb : Below W.heap.size W W.drew := Below.drew (Below.refl _ _)
  generalize W.drew = w2 at hb ⊢
  go_wp2_with (go_at_call 47; refine (hc w2 HE.out).mono ?_; rintro e w' ⟨rfl, hbl⟩)
  go_ret
  exact ⟨rfl, hb.trans (hbl.mono hb.size)⟩
theorem q8f (x : S48) : (N7 x).length = 3 := rfl
theorem v7m {w : World} {base : Nat} {ok : Nat → Prop} {g n cap : Nat} {l : List S48} (h : Kd.R k48 48 w base ok (.slice (some ⟨g, 0, none⟩) n cap) l) (h0 : 0 < l.length) : Go.Sort.HoldsK N7 3 w g 0 l.toArray := by
  obtain ⟨rfl, _, hC⟩ := Kd.y9 h
  obtain ⟨g', cap', e, _, _, cells, hg⟩ := Kd.q30 h h0
  obtain rfl : g = g' := by injection e with e1; injection e1 with e1; injection e1
  obtain ⟨ad, ea, hc⟩ := hC.2.2 h0
  obtain rfl : ad = ⟨g, 0, none⟩ := (Option.some.inj ea).symm
  intro t ht
  have ht' : t < l.length * 3 := by simpa using ht
  have hj : t / 3 < l.length := by omega
  obtain ⟨c, c3, hK, hv⟩ := hc (t / 3) l[t / 3] (List.getElem?_eq_getElem hj)
  obtain rfl := v0b hK
  have e1 : (Go.Sort.flatK N7 3 l.toArray)[t]! = (N7 l[t / 3])[t % 3]! := by
    rw [Go.Sort.get_flatK _ _ _ _ (by simpa using ht')]
    simp [hj]
  have hm : t % 3 < 3 := Nat.mod_lt _ (by omega)
  have hu := hv (t % 3) ((N7 l[t / 3])[t % 3]!) (by
    show (N7 l[t / 3])[t % 3]? = _
    rw [List.getElem?_eq_getElem (show t % 3 < (N7 l[t / 3]).length from hm), List.getElem!_eq_getElem?_getD, List.getElem?_eq_getElem (show t % 3 < (N7 l[t / 3]).length from hm)]; rfl)
  have ea2 : (Addr.add ⟨g, 0, none⟩ (t / 3 * 3 + t % 3)) = ⟨g, 0 + t, none⟩ := by
    rw [show t / 3 * 3 + t % 3 = t by omega]
    unfold Addr.add
    split
    · rename_i z; subst z; rfl
    · rfl
  change w.cell? (Addr.add ⟨g, 0, none⟩ (t / 3 * 3 + t % 3)) = _ at hu
  rw [ea2] at hu
  refine ⟨by rw [hu, e1]; rfl, ?_⟩
  simp [World.frozen?, hg]
theorem q6u (w : World) (base : Nat) (ok : Nat → Prop) (l : List S48) : Q9 (k48.M w base ok) 3 l (l.flatMap N7) := by
  have hl : ∀ l : List S48, (l.flatMap N7).length = l.length * 3 := fun l => by
    induction l with
    | nil => rfl
    | cons x l ih => simp only [List.flatMap_cons, List.length_append, ih, q8f, List.length_cons]; omega
  refine ⟨hl l, fun j p hp => ?_⟩
  have : ∀ (l : List S48) (j : Nat) (p : S48), l[j]? = some p → ((l.flatMap N7).drop (j * 3)).take 3 = N7 p := by
    intro l
    induction l with
    | nil => intro j p h; simp at h
    | cons x l ih =>
      intro j p h
      cases j with
      | zero => simp at h; subst h; simp [N7]
      | succ j =>
        simp at h
        rw [List.flatMap_cons, show (j + 1) * 3 = 3 + j * 3 by omega, ← List.drop_drop]
        rw [show List.drop 3 (N7 x ++ l.flatMap N7) = l.flatMap N7 from rfl]
        exact ih j p h
  rw [this l j p hp]
  exact O0 _ _ _ _
theorem v9e (d : Array S48) : (Go.Sort.flatK N7 3 d).toList = d.toList.flatMap N7 := by
  have hl : ∀ l : List S48, (l.flatMap N7).length = l.length * 3 := fun l => (q6u ⟨#[], fun _ _ => 0, 0, default, #[]⟩ 0 (fun _ => True) l).1
  apply List.ext_getElem?
  intro t
  by_cases ht : t < d.size * 3
  · have h1 := Go.Sort.get_flatK N7 3 d t ht
    have hj : t / 3 < d.size := by omega
    have hm : t % 3 < 3 := Nat.mod_lt _ (by omega)
    have e1 : (Go.Sort.flatK N7 3 d).toList[t]? = some ((Go.Sort.flatK N7 3 d)[t]!) := by
      rw [getElem!_pos _ t (by simpa using ht)]; simp [ht]
    have h2 := (q6u ⟨#[], fun _ _ => 0, 0, default, #[]⟩ 0 (fun _ => True) d.toList).2 (t / 3) d[t / 3]! (by rw [getElem!_pos d _ hj]; simp [hj])
    have h3 := q5i h2
    have e2 : (d.toList.flatMap N7)[t]? = (((d.toList.flatMap N7).drop (t / 3 * 3)).take 3)[t % 3]? := by
      rw [List.getElem?_take, if_pos hm, List.getElem?_drop, show t / 3 * 3 + t % 3 = t by omega]
    rw [e1, h1, e2, h3]
    show some (N7 d[t / 3]!)[t % 3]! = (N7 d[t / 3]!)[t % 3]?
    rw [List.getElem?_eq_getElem (show t % 3 < (N7 d[t / 3]!).length from hm), List.getElem!_eq_getElem?_getD, List.getElem?_eq_getElem (show t % 3 < (N7 d[t / 3]!).length from hm)]; rfl
  · rw [List.getElem?_eq_none (by simpa using ht), List.getElem?_eq_none (by rw [hl]; simpa using ht)]
theorem v6g {w w' : World} {base : Nat} {ok : Nat → Prop} {g n cap : Nat} {l : List S48} {d' : Array S48} (h : Kd.R k48 48 w base ok (.slice (some ⟨g, 0, none⟩) n cap) l) (hg : g < w.heap.size) (hS : Go.Proofs.St.SWK N7 3 w g 0 d' w') (hs : d'.size = l.length) :
    Kd.R k48 48 w' base ok (.slice (some ⟨g, 0, none⟩) n cap) d'.toList := by
  obtain ⟨hok, inner, ⟨hlen, hc⟩, hr⟩ := h
  obtain ⟨rfl, _⟩ : n = l.length ∧ True := by
    rcases hc with ⟨hv, _⟩ | ⟨g', cap', cur, hv, _⟩
    · cases hv
    · injection hv with h1 h2 h3; exact ⟨h2, trivial⟩
  rcases hc with ⟨hv, _⟩ | ⟨g', cap', cur, hv, hb, hh, hn, hcm, hsz, ht⟩
  · cases hv
  · injection hv with h1 h2 h3
    injection h1 with h1
    injection h1 with h1 _ _
    subst h1; subst h3
    have hb' : w'.heap[g]? = some (.cells (Go.Sort.putCells id 0 (Go.Sort.flatK N7 3 d') cur) 48 (0, 0)) := by
      have q := hS.block g hg
      rw [q]
      show (w.heap.modify g _)[g]? = _
      rw [Array.getElem?_modify, if_pos rfl, hh]; rfl
    refine ⟨hok, d'.toList.flatMap N7, ⟨by rw [(q6u w 0 (fun _ => True) d'.toList).1]; rfl, .inr ⟨g, cap, _, by simp [hs], hb, hb', by simpa [hs] using hn, hcm, by simpa [Go.Sort.putCells] using hsz, ?_⟩⟩, q6u _ _ _ _⟩
    rw [← v9e]
    apply List.ext_getElem?
    intro t
    have hcs : cur.size = cap * 3 := hsz
    by_cases ht2 : t < d'.size * 3
    · have hin : t < cur.size := by rw [hcs]; omega
      rw [List.getElem?_take, if_pos (by show t < d'.toList.length * 3; simpa using ht2)]
      simp only [Go.Sort.putCells, Array.toList_mapIdx, List.getElem?_mapIdx, Array.getElem?_toList]
      rw [Array.getElem?_eq_getElem hin]
      simp only [Option.map_some]
      rw [if_pos ⟨Nat.zero_le _, by simpa using ht2⟩, Nat.sub_zero, getElem!_pos _ t (by simpa using ht2), Array.getElem?_eq_getElem (by simpa using ht2)]
      rfl
    · rw [List.getElem?_take, if_neg (by show ¬ t < d'.toList.length * 3; simpa using ht2), List.getElem?_eq_none (by simpa using ht2)]
noncomputable def svT : TypeInfo := (Tryz.prog.info? 24).get (by kernel_rfl)
noncomputable def svE : TypeInfo := (Tryz.prog.info? 48).get (by kernel_rfl)
theorem svK (n : Nat) (h2 : 2 ≤ n) : Lib.swapperK n svE 25 = 9 := by
  have a : svE.hasPointers = false := by kernel_rfl
  have b : svE.bytes = 24 := by kernel_rfl
  have c : (n == 0) = false := by simp; omega
  have d : (n == 1) = false := by simp; omega
  simp [Lib.swapperK, a, b, c, d]
theorem v8a {d d' : Array S48} (h : Go.Sort.PermIn 0 d.size d d') : d'.toList.Perm d.toList := by
  have := h.2.2
  rwa [Array.extract_eq_self_of_le (Nat.le_refl _), Array.extract_eq_self_of_le (by rw [h.1]; exact Nat.le_refl _)] at this
theorem v8x {d : Array S48} (h : Sm.Sorted hlt (Go.Proofs.St.row d) 0 d.size) : d.toList.Pairwise fun x y => hlt y x = false := by
  rw [List.pairwise_iff_getElem]
  intro i j hi hj hij
  have := h i j (Nat.zero_le _) hij (by simpa using hj)
  unfold Go.Proofs.St.row at this
  simp only [Array.length_toList] at hi hj
  rwa [getElem!_pos d j hj, getElem!_pos d i hi] at this
theorem v0x {w : World} {base : Nat} {ok : Nat → Prop} {A : Option Addr} {n cap : Nat} {l : List S48} (Bs : Nat) (hR : Kd.R k48 48 w base ok (.slice A n cap) l) (hbase : base ≤ w.heap.size) (hBs : w.cell? ⟨Bs, 0, none⟩ = some (.slice A n cap)) (hB1 : Bs < w.heap.size) (hne : ¬ ok Bs) (h60 : l.length ≤ 60) :
    Calls Tryz.prog 58 #[.iface 24 (.slice A n cap), .func (.func 59) #[] #[.pointer (some ⟨Bs, 0, none⟩)]] w fun e w' => e = .returned (.tuple #[]) ∧ ∃ d : List S48, SP d l ∧ Kd.R k48 48 w' base ok (.slice A n cap) d ∧ w'.cell? ⟨Bs, 0, none⟩ = some (.slice A n cap) ∧ Below base w w' := by
  obtain ⟨hn, _, _⟩ := Kd.y9 hR
  by_cases h2 : 2 ≤ l.length
  · obtain ⟨g, cap', e, hbg, hg, cells, hh⟩ := Kd.q30 hR (by omega)
    injection e with e1 e2 e3
    subst e1
    subst e3
    subst hn
    have hH := v7m hR (by omega)
    have hok : ok g := hR.1 g rfl
    have hBg : Bs ≠ g := fun e => hne (e ▸ hok)
    have hless : Go.Proofs.St.q1g Tryz.prog 59 #[.pointer (some ⟨Bs, 0, none⟩)] N7 3 hlt g 0 l.toArray.size w := by
      intro W dk hS hs i j hi hj
      have hHk := Go.Proofs.St.SWK.holds hS hg hH hs
      exact v8w g cap Bs l.toArray.size W dk hs (by rw [Go.Proofs.St.SWK.cell hS ⟨Bs, 0, none⟩ hBg hB1, hBs]; simp) hHk i j hi hj (by simp; omega)
    have hc := Go.Proofs.St.v0i (c := cap) Tryz.v1y 24 48 svT svE (by kernel_rfl) (by kernel_rfl) (by kernel_rfl) (by kernel_rfl) 25 (fun _ => by kernel_rfl) (enc := N7) (k := 3) q8f (by kernel_rfl) (fun _ => by kernel_rfl)
      (fun x v hv => by simp [N7] at hv; rcases hv with rfl | rfl | rfl <;> rfl) v7o 59 _ (enters_of Tryz.func59 (by kernel_rfl) rfl) l.toArray (by simpa using h2) (by simp; omega) 94 (by rw [svK _ (by simpa using h2)]; kernel_rfl) false
      (fun args W => run_callFunc_extern Tryz.func94 (by kernel_rfl) (by kernel_rfl) (by kernel_rfl) (e := Extern.ReflectliteSwapper.swap false) (by kernel_rfl) args W) w hless hH hg
    rw [show l.toArray.size = l.length by simp] at hc
    refine hc.mono ?_
    rintro e w' ⟨rfl, d', hS, hP, hSo⟩
    have hs : d'.size = l.length := hP.1
    refine ⟨rfl, d'.toList, ⟨by simpa using v8a (d := l.toArray) (by simpa using hP), v8x (by rw [hs]; exact hSo)⟩, v6g hR hg hS hs, by rw [Go.Proofs.St.SWK.cell hS ⟨Bs, 0, none⟩ hBg hB1, hBs], ?_⟩
    refine ⟨hS.os, hS.tape, hS.output, Nat.le_trans ?_ hS.size, fun k hk => (hS.block k (by omega)).trans ?_⟩
    · rw [Go.Proofs.St.v1v]; exact Nat.le_refl _
    · show (w.heap.modify g _)[k]? = _
      rw [Array.getElem?_modify, if_neg (by omega)]
  · have tiny : ∀ f, Tryz.prog.funcs.findIdx? (·.name == "internal/reflectlite" ++ ".Swapper$" ++ toString (Lib.swapperK n svE 25)) = some f → Calls Tryz.prog 58 #[.iface 24 (.slice A n cap), .func (.func 59) #[] #[.pointer (some ⟨Bs, 0, none⟩)]] w fun e w' => e = .returned (.tuple #[]) ∧ ∃ os, w' = Go.Sort.grow w os := fun f hf =>
      Go.Proofs.Any.sort_SliceStable_tiny Tryz.v1y 24 48 svT svE (by kernel_rfl) (by kernel_rfl) (by kernel_rfl) (by kernel_rfl) 25 (fun _ => by kernel_rfl) A n cap (by omega) f hf (.func 59) #[] #[.pointer (some ⟨Bs, 0, none⟩)] w
    have hc : Calls Tryz.prog 58 #[.iface 24 (.slice A n cap), .func (.func 59) #[] #[.pointer (some ⟨Bs, 0, none⟩)]] w fun e w' => e = .returned (.tuple #[]) ∧ ∃ os, w' = Go.Sort.grow w os := by
      rcases Nat.eq_zero_or_pos n with z | z
      · refine tiny 86 ?_
        rw [z, show Lib.swapperK 0 svE 25 = 1 from rfl]; kernel_rfl
      · obtain rfl : n = 1 := by omega
        refine tiny 87 ?_
        rw [show Lib.swapperK 1 svE 25 = 2 from rfl]; kernel_rfl
    refine hc.mono ?_
    rintro e w' ⟨rfl, os, rfl⟩
    have hb : Below w.heap.size w (Go.Sort.grow w os) := ⟨rfl, rfl, rfl, by simp, fun k hk => by simp only [Go.Sort.grow]; rw [Array.getElem?_append_left hk]⟩
    refine ⟨rfl, l, ⟨List.Perm.refl _, ?_⟩, Kd.l9 hR hb, by rw [hb.cell (p := ⟨Bs, 0, none⟩) hB1, hBs], hb.mono hbase⟩
    rw [List.pairwise_iff_getElem]
    intro i j hi hj hij
    omega
set_option maxHeartbeats 4000000 in
set_option maxRecDepth 100000 in
theorem O5.calls (A0 : Option Addr) (c0 : Nat) (l0 : List (S48)) (r1 : List (S48)) (r2 : Bool) (w : World) (hr0 : Kd.C k48 w A0 l0.length l0) (hc0 : l0.length ≤ c0) (h : O5.f l0 = some (r1, r2)) :
  Calls Tryz.prog 33 #[.slice A0 l0.length c0] w fun e w' => ∃ v0_ : Value, e = .returned (.tuple #[v0_, .bool r2]) ∧ Kd.R k48 48 w' w.heap.size (fun _ => True) v0_ r1 ∧ Below w.heap.size w w' := by
  unfold O5.f at h
  by_cases c60 : (l0.length : Int) > 60
  · rw [if_pos c60] at h
    obtain ⟨rfl, rfl⟩ := Prod.mk.inj (Option.some.inj h);go_enter Tryz.func33, Tryz.ntmps33;go_wp2;go_ret2
    exact ⟨_, rfl, Kd.U8 _ _ _ _ _, Below.refl _ _⟩
  · rw [if_neg c60] at h
    have hS : q4n l0 (r1, r2) := by
      split at h
      · rename_i hx
        have := hx.choose_spec
        rwa [Option.some.inj h] at this
      · cases h
    have HS : z8 (q4n l0 (r1, r2)) := ⟨hS⟩
    clear hS h;have hcl := q1b.calls A0 c0 l0 l0 w hr0 hc0 (by unfold q1b.f; simp; omega);have c60b : decide ((60 : Int) < (l0.length : Int)) = false := decide_eq_false (by omega);have h60 : l0.length ≤ 60 := by omega
    clear c60;have arm : ∀ (w1 : World) (A : Option Addr) (cap : Nat), Kd.R k48 48 w1 w.heap.size (fun _ => True) (.slice A l0.length cap) l0 → Below w.heap.size w w1 →
        Calls Tryz.prog 58 #[.iface 24 (.slice A l0.length cap), .func (.func 59) #[] #[.pointer (some ⟨w1.heap.size, 0, none⟩)]] (w1.alloc (.cells #[.slice A l0.length cap] 24)) fun e w3 => e = .returned (.tuple #[]) ∧
          ∃ d : List S48, SP d l0 ∧ Kd.R k48 48 w3 w.heap.size (fun _ => True) (.slice A l0.length cap) d ∧ w3.cell? ⟨w1.heap.size, 0, none⟩ = some (.slice A l0.length cap) ∧ Below w.heap.size w w3 ∧ w1.heap.size < w3.heap.size := by
      intro w1 A cap hR hB;have hb : Below w1.heap.size w1 (w1.alloc (.cells #[.slice A l0.length cap] 24)) := ⟨rfl, rfl, rfl, by simp, fun q hq => by simp only [World.alloc]; rw [Array.getElem?_push_lt hq, Array.getElem?_eq_getElem hq]⟩
      have hR2 := Kd.l9 (Kd.l5 (Kd.q0f hR) (ok' := fun k => k < w1.heap.size) (fun k hk => hk.2.2.1)) hb;refine (v0x w1.heap.size hR2 (by have := hB.size; simp; omega) (by simp) (by simp) (by omega) h60).mono ?_
      rintro e w3 ⟨rfl, d, h1, h2, h3, h4⟩;refine ⟨rfl, d, h1, Kd.l5 h2 (fun _ _ => trivial), h3, (hB.trans (hb.mono hB.size)).trans h4, ?_⟩
      have := h4.size
      simp at this
      omega
    have ARM : z8 _ := ⟨arm⟩
    clear arm;have ISH : z8 (∀ (d : List S48) (A : Option Addr) (cap : Nat) (w3 : World), SP d l0 → Kd.R k48 48 w3 w.heap.size (fun _ => True) (.slice A l0.length cap) d → (r1 = if r2 = true then d else []) ∧ Calls Tryz.prog 23 #[.slice A l0.length cap] w3 fun e w' => e = .returned (.bool r2) ∧ Below w3.heap.size w3 w') := by
      refine ⟨fun d A cap w3 hSP hR3 => ?_⟩
      obtain ⟨k, hk, hr⟩ := HS.out d hSP;obtain ⟨hn, hcap, hC⟩ := Kd.y9 hR3;refine ⟨hr, ?_⟩
      have := Q3.calls k A cap d r2 w3 hC (by omega) hk
      rwa [← hn] at this
    clear HS;cases r2 with
    | false =>
      go_enter Tryz.func33, Tryz.ntmps33;go_wp2_with (first | (go_at_call 56; refine hcl.mono ?_; rintro e w1 ⟨v0, rfl, hR, hB⟩; obtain ⟨A, cap, rfl, hcap, hC⟩ := Kd.q1u hR) | (go_at_call 58; refine (ARM.out w1 A cap hR hB).mono ?_; rintro e w3 ⟨rfl, d, hSP, hR3, hB3, hb3, hlt⟩) | (go_at_call 23; refine (ISH.out d A cap w3 hSP hR3).2.mono ?_; rintro e w4 ⟨rfl, hb4⟩))
      go_ret2
      obtain rfl : r1 = [] := by simpa using (ISH.out d A cap w3 hSP hR3).1
      exact ⟨_, rfl, Kd.U8 _ _ _ _ _, hb3.trans (hb4.mono hb3.size)⟩
    | true =>
      go_enter Tryz.func33, Tryz.ntmps33;go_wp2_with (first | (go_at_call 56; refine hcl.mono ?_; rintro e w1 ⟨v0, rfl, hR, hB⟩; obtain ⟨A, cap, rfl, hcap, hC⟩ := Kd.q1u hR) | (go_at_call 58; refine (ARM.out w1 A cap hR hB).mono ?_; rintro e w3 ⟨rfl, d, hSP, hR3, hB3, hb3, hlt⟩) | (go_at_call 23; refine (ISH.out d A cap w3 hSP hR3).2.mono ?_; rintro e w4 ⟨rfl, hb4⟩; have hB4 : w4.cell? ⟨w1.heap.size, 0, none⟩ = some (.slice A l0.length cap) := (hb4.cell (p := ⟨w1.heap.size, 0, none⟩) hlt).trans hB3))
      go_ret2
      obtain rfl : r1 = d := by simpa using (ISH.out d A cap w3 hSP hR3).1
      exact ⟨_, rfl, Kd.l9 hR3 hb4, hb3.trans (hb4.mono hb3.size)⟩
-- NOT PRINTED: function 34 (slices_EqualFunc_int_int_int_int)
end Go.Proofs.YtkfledgkhgcicaaGreat.PFg
