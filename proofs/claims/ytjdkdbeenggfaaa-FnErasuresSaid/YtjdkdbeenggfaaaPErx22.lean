import Derived.Test.YtjdkdbeenggfaaaPErx0
import Derived.Test.YtjdkdbeenggfaaaPErx1
import Derived.Test.YtjdkdbeenggfaaaPErx2
import Derived.Test.YtjdkdbeenggfaaaPErx4
import Derived.Test.YtjdkdbeenggfaaaPErx20
import Derived.Test.YtjdkdbeenggfaaaPErx21
namespace Go.Proofs.Ytjdkdbeenggfaaa.PEr
open Go.RowKit Go.Proofs.YtjdkdbeenggfaaaW.PrintWords Go.Proofs.YtjdkdbeenggfaaaW.PrintLast Go.Proofs.YtjdkdbeenggfaaaW.PrintMore
attribute [local go_sem] max2_int min2_int max_two min_two max_three min_three max_four min_four   -- for this text's walks alone
set_option linter.unusedVariables false
set_option linter.unusedSimpArgs false
def K5.f (k : Nat) (l0 : List Int) : Option (List ByteArray × Int × Int) := (l8.f k l0 0 0).bind fun bt667 => (some (bt667.1, bt667.2.1, bt667.2.2.1))
set_option maxHeartbeats 8000000 in
set_option maxRecDepth 100000 in
theorem K5.calls (k : Nat) (A0 : Option Addr) (c0 : Nat) (l0 : List Int) (r1 : List ByteArray) (r2 : Int) (r3 : Int) (w : World) (hr0 : Kd.C (Kd.int .u8) w A0 l0.length l0) (hc0 : l0.length ≤ c0) (h : K5.f k l0 = some (r1, r2, r3)) :
  Calls Try.prog 40 #[.slice A0 l0.length c0] w fun e w' => ∃ v0_ : Value, e = .returned (.tuple #[v0_, .int .i64 r2, .int .i64 r3]) ∧ Kd.R Kd.string 9 w' w.heap.size (fun _ => True) v0_ r1 ∧ Below w.heap.size w w' := by
 have hu71 := Try.underlying71;have HR0 := zm hr0;have HC0 := zm hc0;clear hr0 hc0;have HB := zm (Below.refl w.heap.size w);have H : ((l8.f k l0 0 0).bind fun bt667 => (some (bt667.1, bt667.2.1, bt667.2.2.1))) = some (r1, r2, r3) := h;clear h;obtain ⟨⟨t667, t670, t671, t672, t673⟩, A2, H⟩ := zI H;(try dsimp only at H);simp only [Option.some.injEq, Prod.mk.injEq] at H;obtain ⟨rfl, rfl, rfl⟩ := H;go_enter Try.func40, Try.ntmps40;go_wp2_with (first | ((with_reducible refine gate_dst (N := 8) rfl ?_); refine box_event ?hg (N := 8) ?hd (cs := #[.slice A0 l0.length c0, .int .i64 0, .int .u64 0]) (t := 71) ?hr ?_; (case hd => rfl); (case hg => rfl); (case hr => first | (go_simp; done) | (go_simp; rfl)); intro gb666 hg w3 hbox hb; have n0_ := zm (below_step zb hb); have HI666 := zm ((show j4 w _ gb666 l0 0 0 from ⟨_, _, hbox, (by rw [hg]; exact (below_size zb) : w.heap.size ≤ gb666), HR0.out⟩)); have GW666 := zm (zs hg zb : w.heap.size ≤ gb666); have GE666 := zm (zs hg zb : w.heap.size ≤ gb666); replace HB := n0_; clear n0_; clear hb hbox hg) | ((with_reducible refine gate_callee (f := 89) rfl ?_); refine goesA_ (some 10) Try.func89 #[.pointer (some ⟨gb666, 0, none⟩)] rfl ?_; (with_reducible refine (l8.calls k gb666 l0 0 0 t667 t670 t671 t672 t673 w _ ?side1 ?side2 A2.out).mono ?_); (case side1 => exact y8); (case side2 => exact zb); rintro e w4 ⟨v668, rfl, ho0, hi, hb, hk⟩; refine ⟨_, rfl, ?_⟩; have HO669 := zm (Kd.R_lower ho0 (below_size zb)); replace HB := zm (hb); replace HI666 := zm (hi); (try clear hb); (try clear hk); (try clear hi); (try clear ho0)))
 go_ret3
 exact ⟨_, zr, zP HO669.out, zb⟩
def H6.f (k : Nat) (l0 : List ByteArray) : Option (Bool) := (o5.f k l0 1 60 20 (⟨#[46, 111, 63]⟩ : ByteArray)).bind fun t674 => (some t674)
set_option maxHeartbeats 8000000 in
set_option maxRecDepth 100000 in
theorem H6.calls (k : Nat) (A0 : Option Addr) (c0 : Nat) (l0 : List ByteArray) (r : Bool) (w : World) (hr0 : Kd.C Kd.string w A0 l0.length l0) (hc0 : l0.length ≤ c0) (h : H6.f k l0 = some r) :
  Calls Try.prog 128 #[.slice A0 l0.length c0] w fun e w' => e = .returned (.bool r) ∧ Drawn0 w w' := by
 have HR0 := zm hr0;have HC0 := zm hc0;clear hr0 hc0;have H : ((o5.f k l0 1 60 20 (⟨#[46, 111, 63]⟩ : ByteArray)).bind fun t674 => (some t674)) = some r := h;clear h;obtain ⟨t674, A2, H⟩ := zI H;(try dsimp only at H);obtain rfl := Option.some.inj H;go_enter Try.func128, Try.ntmps128;go_wp2_with (first | ((with_reducible refine gate_callee (f := 57) rfl ?_); refine goesA_ (some 4) Try.func57 #[.slice A0 l0.length c0, .int .i64 1, .int .i64 60, .int .i64 20, .string (⟨#[46, 111, 63]⟩ : ByteArray)] rfl ?_; (with_reducible refine (o5.calls k _ _ l0 1 60 20 (⟨#[46, 111, 63]⟩ : ByteArray) t674 _ ?side1 ?side2 A2.out).mono ?_); (case side1 => exact zF HR0.out); (case side2 => exact HC0.out); rintro e w' ⟨rfl, ⟨nd, rfl⟩⟩; refine ⟨_, rfl, ?_⟩))
 go_ret
 exact ⟨zz, zw⟩
def D5.f (k : Nat) (l0 : List ByteArray) (a1 : Int) (a2 : Int) : Option (Bool) := (H6.f k l0).bind fun t675 => (if t675 = true then (if a1 ≥ 0 then (if 0 < (l0.length : Int) then (if a1 < ((rdOf ByteArray.empty l0 0).size : Int) then (if a2 ≥ 2 then (some (decide (a2 ≤ 10))) else (some false)) else (some false)) else (none)) else (some false)) else (some false))
set_option maxHeartbeats 8000000 in
set_option maxRecDepth 100000 in
theorem D5.calls (k : Nat) (A0 : Option Addr) (c0 : Nat) (l0 : List ByteArray) (a1 : Int) (a2 : Int) (r : Bool) (w : World) (hr0 : Kd.C Kd.string w A0 l0.length l0) (hc0 : l0.length ≤ c0) (h : D5.f k l0 a1 a2 = some r) :
  Calls Try.prog 90 #[.slice A0 l0.length c0, .int .i64 a1, .int .i64 a2] w fun e w' => e = .returned (.bool r) ∧ Drawn0 w w' := by
 have HR0 := zm hr0;have HC0 := zm hc0;clear hr0 hc0;have H : ((H6.f k l0).bind fun t675 => (if t675 = true then (if a1 ≥ 0 then (if 0 < (l0.length : Int) then (if a1 < ((rdOf ByteArray.empty l0 0).size : Int) then (if a2 ≥ 2 then (some (decide (a2 ≤ 10))) else (some false)) else (some false)) else (none)) else (some false)) else (some false))) = some r := h;clear h;obtain ⟨t675, A4, H⟩ := zI H;(try dsimp only at H);by_cases c5 : t675 = true
 rotate_left
 ·
  replace c5 := Bool.eq_false_iff.mpr c5;subst c5;rw [if_neg (show ¬ (false = true) by decide)] at H;obtain rfl := Option.some.inj H;go_enter Try.func90, Try.ntmps90;go_wp2_with (first | ((with_reducible refine gate_callee (f := 128) rfl ?_); refine goesA_ (some 8) Try.func128 #[.slice A0 l0.length c0] rfl ?_; (with_reducible refine (H6.calls k _ _ l0 false _ ?side1 ?side2 A4.out).mono ?_); (case side1 => exact zF HR0.out); (case side2 => exact HC0.out); rintro e w' ⟨rfl, ⟨nd, rfl⟩⟩; refine ⟨_, rfl, ?_⟩))
  go_ret
  exact ⟨zz, zw⟩
 subst c5;rw [if_pos rfl] at H;by_cases c6 : a1 ≥ 0
 rotate_left
 ·
  rw [if_neg c6] at H;have c6b0 : decide (0 ≤ a1) = false := decide_eq_false c6;clear c6;obtain rfl := Option.some.inj H;go_enter Try.func90, Try.ntmps90;go_wp2_with (first | ((with_reducible refine gate_callee (f := 128) rfl ?_); refine goesA_ (some 8) Try.func128 #[.slice A0 l0.length c0] rfl ?_; (with_reducible refine (H6.calls k _ _ l0 true _ ?side1 ?side2 A4.out).mono ?_); (case side1 => exact zF HR0.out); (case side2 => exact HC0.out); rintro e w' ⟨rfl, ⟨nd, rfl⟩⟩; refine ⟨_, rfl, ?_⟩))
  go_ret
  exact ⟨zz, zw⟩
 rw [if_pos c6] at H;have c6b0 : decide (0 ≤ a1) = true := decide_eq_true c6;clear c6;obtain ⟨c7, H⟩ := zJ H;have c7b0 := decide_eq_true c7;have c7b1 : decide (0 < l0.length) = true := decide_eq_true (by omega);clear c7;by_cases c8 : a1 < ((rdOf ByteArray.empty l0 0).size : Int)
 rotate_left
 ·
  rw [if_neg c8] at H;have c8b0 := decide_eq_false c8;clear c8;obtain rfl := Option.some.inj H;go_enter Try.func90, Try.ntmps90;go_wp2_with (first | ((with_reducible refine gate_callee (f := 128) rfl ?_); refine goesA_ (some 8) Try.func128 #[.slice A0 l0.length c0] rfl ?_; (with_reducible refine (H6.calls k _ _ l0 true _ ?side1 ?side2 A4.out).mono ?_); (case side1 => exact zF HR0.out); (case side2 => exact HC0.out); rintro e w' ⟨rfl, ⟨nd, rfl⟩⟩; refine ⟨_, rfl, ?_⟩; have p676 : 0 ≤ (0 : Int) := (by omega); have q676 : 0 < (l0.length : Int) := zd; obtain ⟨ad676, e676, hx676_0⟩ := Kd.at_string HR0.out 0 p676 q676; cases e676; have qi676 : (0 < l0.length) = True := eq_true (by omega); (try rw [show ((0 : Int)).toNat = 0 from rfl] at hx676_0); (try rw [Addr.add_zero'] at hx676_0); replace p676 := eq_true p676; replace q676 := eq_true q676))
  go_ret
  exact ⟨zz, zw⟩
 rw [if_pos c8] at H;have c8b0 := decide_eq_true c8;clear c8;by_cases c9 : a2 ≥ 2
 rotate_left
 ·
  rw [if_neg c9] at H;have c9b0 : decide (2 ≤ a2) = false := decide_eq_false c9;clear c9;obtain rfl := Option.some.inj H;go_enter Try.func90, Try.ntmps90;go_wp2_with (first | ((with_reducible refine gate_callee (f := 128) rfl ?_); refine goesA_ (some 8) Try.func128 #[.slice A0 l0.length c0] rfl ?_; (with_reducible refine (H6.calls k _ _ l0 true _ ?side1 ?side2 A4.out).mono ?_); (case side1 => exact zF HR0.out); (case side2 => exact HC0.out); rintro e w' ⟨rfl, ⟨nd, rfl⟩⟩; refine ⟨_, rfl, ?_⟩; have p676 : 0 ≤ (0 : Int) := (by omega); have q676 : 0 < (l0.length : Int) := zd; obtain ⟨ad676, e676, hx676_0⟩ := Kd.at_string HR0.out 0 p676 q676; cases e676; have qi676 : (0 < l0.length) = True := eq_true (by omega); (try rw [show ((0 : Int)).toNat = 0 from rfl] at hx676_0); (try rw [Addr.add_zero'] at hx676_0); replace p676 := eq_true p676; replace q676 := eq_true q676))
  go_ret
  exact ⟨zz, zw⟩
 rw [if_pos c9] at H;have c9b0 : decide (2 ≤ a2) = true := decide_eq_true c9;clear c9;obtain rfl := Option.some.inj H;go_enter Try.func90, Try.ntmps90;go_wp2_with (first | ((with_reducible refine gate_callee (f := 128) rfl ?_); refine goesA_ (some 8) Try.func128 #[.slice A0 l0.length c0] rfl ?_; (with_reducible refine (H6.calls k _ _ l0 true _ ?side1 ?side2 A4.out).mono ?_); (case side1 => exact zF HR0.out); (case side2 => exact HC0.out); rintro e w' ⟨rfl, ⟨nd, rfl⟩⟩; refine ⟨_, rfl, ?_⟩; have p676 : 0 ≤ (0 : Int) := (by omega); have q676 : 0 < (l0.length : Int) := zd; obtain ⟨ad676, e676, hx676_0⟩ := Kd.at_string HR0.out 0 p676 q676; cases e676; have qi676 : (0 < l0.length) = True := eq_true (by omega); (try rw [show ((0 : Int)).toNat = 0 from rfl] at hx676_0); (try rw [Addr.add_zero'] at hx676_0); replace p676 := eq_true p676; replace q676 := eq_true q676))
 go_ret
 exact ⟨zz, zw⟩
mutual
def o8.l0 : Nat → Int → Int → Int → Int → List ByteArray → Int → Int → Option (Int)
  | 0, _, _, _, _, _, _, _ => none
  | k + 1, x1, x2, x3, x9, x13, x14, x15 => if x15 < x14 then (if 0 ≤ x15 then (if x15 < (x13.length : Int) then (if x15 ≥ x3 then (if x2 = 0 then (none) else (o8.j1 k x1 x2 x3 x9 (rdOf ByteArray.empty x13 x15) 46 x13 x14 x15 ((Int.tmod (wrap64 (x15 - x3)) x2) == 0))) else (o8.j1 k x1 x2 x3 x9 (rdOf ByteArray.empty x13 x15) 46 x13 x14 x15 false)) else (none)) else (none)) else (some x9)
def o8.j1 : Nat → Int → Int → Int → Int → ByteArray → Int → List ByteArray → Int → Int → Bool → Option (Int)
  | 0, _, _, _, _, _, _, _, _, _, _ => none
  | k + 1, x1, x2, x3, x9, x11, x12, x13, x14, x15, x30 => if x30 = true then (if 0 ≤ x1 then (if x1 < (x11.size : Int) then (if (bt x11 x1) = 63 then (o8.l0 k x1 x2 x3 x9 x13 x14 (wrap64 (x15 + 1))) else (if (bt x11 x1) = 111 then (o8.l0 k x1 x2 x3 x9 x13 x14 (wrap64 (x15 + 1))) else (o8.l0 k x1 x2 x3 (wrap64 (x9 + 1)) x13 x14 (wrap64 (x15 + 1))))) else (none)) else (none)) else (if 0 ≤ x1 then (if x1 < (x11.size : Int) then (if (bt x11 x1) = 63 then (o8.l0 k x1 x2 x3 x9 x13 x14 (wrap64 (x15 + 1))) else (if (bt x11 x1) = x12 then (o8.l0 k x1 x2 x3 x9 x13 x14 (wrap64 (x15 + 1))) else (o8.l0 k x1 x2 x3 (wrap64 (x9 + 1)) x13 x14 (wrap64 (x15 + 1))))) else (none)) else (none))
end
def o8.f (k : Nat) (l0 : List ByteArray) (a1 : Int) (a2 : Int) (a3 : Int) : Option (Int) := o8.l0 k a1 a2 a3 0 l0 (l0.length : Int) 0
set_option maxHeartbeats 8000000 in
set_option maxRecDepth 100000 in
theorem o8.calls (k : Nat) (A0 : Option Addr) (c0 : Nat) (l0 : List ByteArray) (a1 : Int) (a2 : Int) (a3 : Int) (r : Int) (w : World) (hr0 : Kd.C Kd.string w A0 l0.length l0) (hc0 : l0.length ≤ c0) (h : o8.f k l0 a1 a2 a3 = some r) :
  Calls Try.prog 91 #[.slice A0 l0.length c0, .int .i64 a1, .int .i64 a2, .int .i64 a3] w fun e w' => e = .returned (.int .i64 r) ∧ Drawn0 w w' := by
 have HR0 := zm hr0;have HC0 := zm hc0;clear hr0 hc0;have H : (o8.l0 k a1 a2 a3 0 l0 (l0.length : Int) 0) = some r := h;clear h;have H' := zm H;clear H;go_enter Try.func91, Try.ntmps91;go_wp2;go_loopg [9, 15] k (fun kq v9 v15 w' => ∃ (x9_1 : Int) (x15_1 : Int), v9 = .int .i64 x9_1 ∧ v15 = .int .i64 x15_1 ∧ Aside0 (o8.l0 kq a1 a2 a3 x9_1 l0 (l0.length : Int) x15_1 = some r) ∧ Aside0 (kq ≤ k) ∧ Drawn0 w w')
 case atStart => exact ⟨(0), (0), zz, zz, H', ⟨Nat.le_refl _⟩, zw⟩
 case round =>
  clear H';try clear p2
  obtain ⟨x9_1, x15_1, rfl, rfl, HA, HK1, ⟨m1, rfl⟩⟩ := hrel;cases gk with
  | zero => exact absurd HA.out (by simp [o8.l0])
  | succ k1 =>
   have H := HA.out;clear HA;simp only [o8.l0] at H;by_cases c5 : x15_1 < (l0.length : Int)
   rotate_left
   ·
    rw [if_neg c5] at H;have c5b0 := decide_eq_false c5;clear c5;obtain rfl := Option.some.inj H;go_wp2;go_ret
    exact ⟨zz, zw⟩
   rw [if_pos c5] at H;have c5b0 := decide_eq_true c5;clear c5;obtain ⟨c6, H⟩ := zJ H;have c6b0 := decide_eq_true c6;clear c6;obtain ⟨c7, H⟩ := zJ H;have c7b0 := decide_eq_true c7;clear c7;have HC8 := zm H;clear H;have p677 : 0 ≤ (x15_1 : Int) := zd;have q677 : x15_1 < (l0.length : Int) := zd;obtain ⟨ad677, e677, hx677_0⟩ := Kd.at_string HR0.out x15_1 p677 q677;cases e677;replace p677 := eq_true p677;replace q677 := eq_true q677;go_upto_region 6 with (fail)
   go_cut [30] (fun v30 wc => ∃ (kq : Nat) (x30_7 : Bool), v30 = .bool x30_7 ∧ Aside0 (o8.j1 kq a1 a2 a3 x9_1 (rdOf ByteArray.empty l0 x15_1) 46 l0 (l0.length : Int) x15_1 x30_7 = some r) ∧ Aside0 (kq ≤ k1) ∧ Drawn0 w wc)
   case first =>
    have H := HC8.out;clear HC8;by_cases c9 : x15_1 ≥ a3
    rotate_left
    ·
     rw [if_neg c9] at H;have c9b0 : decide (a3 ≤ x15_1) = false := decide_eq_false c9;clear c9;(first | rw [c9b0] | (simp only [i64_w, i32_w]; rw [c9b0]) | skip);have H' := zm H;clear H;go_wp2;go_meet
     case rel => exact ⟨_, (false), zz, H', ⟨by have := HK1.out; first | omega | exact Nat.le_refl _⟩, zw⟩
    rw [if_pos c9] at H;have c9b0 : decide (a3 ≤ x15_1) = true := decide_eq_true c9;clear c9;(first | rw [c9b0] | (simp only [i64_w, i32_w]; rw [c9b0]) | skip);by_cases c10 : a2 = 0
    ·
     rw [if_pos c10] at H;exact absurd H (by simp)
    rw [if_neg c10] at H;have c10b0 : (a2 == 0) = false := beq_eq_false_iff_ne.mpr c10;have c10b1 : (a2 != 0) = true := bne_iff_ne.mpr c10;have H' := zm H;clear H;go_wp2;go_meet
    case rel => exact ⟨_, (((Int.tmod (wrap64 (x15_1 - a3)) a2) == 0)), zz, H', ⟨by have := HK1.out; first | omega | exact Nat.le_refl _⟩, zw⟩
   case rest =>
    clear HC8;(try clear p2); (try clear c5b0); (try clear c6b0); (try clear p6); (try clear q6); (try clear hx6); (try clear c7b0); (try clear c9b0); (try clear c10b0); (try clear c10b1); (try clear hx677_0); (try clear p2); (try clear p677); (try clear q677);obtain ⟨kq, x30_7, rfl, HA, HJ7, ⟨mc7, rfl⟩⟩ := hcut;cases kq with
    | zero => exact absurd HA.out (by simp [o8.j1])
    | succ kj7 =>
     have H := HA.out;clear HA;simp only [o8.j1] at H;by_cases c11 : x30_7 = true
     ·
      subst c11;rw [if_pos rfl] at H;obtain ⟨c12, H⟩ := zJ H;have c12b0 := decide_eq_true c12;clear c12;obtain ⟨c13, H⟩ := zJ H;have c13b0 := decide_eq_true c13;clear c13;by_cases c15 : (bt (rdOf ByteArray.empty l0 x15_1) a1) = 63
      ·
       rw [if_pos c15] at H;have c15b0 : ((bt (rdOf ByteArray.empty l0 x15_1) a1) == 63) = true := beq_iff_eq.mpr c15;have c15b1 : ((bt (rdOf ByteArray.empty l0 x15_1) a1) != 63) = false := bne_eq_false_iff_eq.mpr c15;clear c15;have H' := zm H;clear H;have p14 : 0 ≤ (a1 : Int) := zd;have q14 : a1 < ((rdOf ByteArray.empty l0 x15_1).size : Int) := zd;have hx14 := bt_at (rdOf ByteArray.empty l0 x15_1) a1;replace p14 := eq_true p14;replace q14 := eq_true q14;go_wp2;go_roundg kj7
       case measure => have := HK1.out; have := HJ7.out; omega
       case rel => exact ⟨(x9_1), (wrap64 (x15_1 + 1)), zz, zz, H', ⟨by have := HK1.out; have := HJ7.out; omega⟩, zw⟩
      rw [if_neg c15] at H;have c15b0 : ((bt (rdOf ByteArray.empty l0 x15_1) a1) == 63) = false := beq_eq_false_iff_ne.mpr c15;have c15b1 : ((bt (rdOf ByteArray.empty l0 x15_1) a1) != 63) = true := bne_iff_ne.mpr c15;by_cases c17 : (bt (rdOf ByteArray.empty l0 x15_1) a1) = 111
      rotate_left
      ·
       rw [if_neg c17] at H;have c17b0 : ((bt (rdOf ByteArray.empty l0 x15_1) a1) == 111) = false := beq_eq_false_iff_ne.mpr c17;have c17b1 : ((bt (rdOf ByteArray.empty l0 x15_1) a1) != 111) = true := bne_iff_ne.mpr c17;have H' := zm H;clear H;have p14 : 0 ≤ (a1 : Int) := zd;have q14 : a1 < ((rdOf ByteArray.empty l0 x15_1).size : Int) := zd;have hx14 := bt_at (rdOf ByteArray.empty l0 x15_1) a1;replace p14 := eq_true p14;replace q14 := eq_true q14;have p16 : 0 ≤ (a1 : Int) := zd;have q16 : a1 < ((rdOf ByteArray.empty l0 x15_1).size : Int) := zd;have hx16 := bt_at (rdOf ByteArray.empty l0 x15_1) a1;replace p16 := eq_true p16;replace q16 := eq_true q16;go_wp2;go_roundg kj7
       case measure => have := HK1.out; have := HJ7.out; omega
       case rel => exact ⟨(wrap64 (x9_1 + 1)), (wrap64 (x15_1 + 1)), zz, zz, H', ⟨by have := HK1.out; have := HJ7.out; omega⟩, zw⟩
      rw [if_pos c17] at H;have c17b0 : ((bt (rdOf ByteArray.empty l0 x15_1) a1) == 111) = true := beq_iff_eq.mpr c17;have c17b1 : ((bt (rdOf ByteArray.empty l0 x15_1) a1) != 111) = false := bne_eq_false_iff_eq.mpr c17;clear c17;have H' := zm H;clear H;have p14 : 0 ≤ (a1 : Int) := zd;have q14 : a1 < ((rdOf ByteArray.empty l0 x15_1).size : Int) := zd;have hx14 := bt_at (rdOf ByteArray.empty l0 x15_1) a1;replace p14 := eq_true p14;replace q14 := eq_true q14;have p16 : 0 ≤ (a1 : Int) := zd;have q16 : a1 < ((rdOf ByteArray.empty l0 x15_1).size : Int) := zd;have hx16 := bt_at (rdOf ByteArray.empty l0 x15_1) a1;replace p16 := eq_true p16;replace q16 := eq_true q16;go_wp2;go_roundg kj7
      case measure => have := HK1.out; have := HJ7.out; omega
      case rel => exact ⟨(x9_1), (wrap64 (x15_1 + 1)), zz, zz, H', ⟨by have := HK1.out; have := HJ7.out; omega⟩, zw⟩
     replace c11 := Bool.eq_false_iff.mpr c11;subst c11;rw [if_neg (show ¬ (false = true) by decide)] at H;obtain ⟨c18, H⟩ := zJ H;have c18b0 := decide_eq_true c18;clear c18;obtain ⟨c19, H⟩ := zJ H;have c19b0 := decide_eq_true c19;clear c19;by_cases c21 : (bt (rdOf ByteArray.empty l0 x15_1) a1) = 63
     ·
      rw [if_pos c21] at H;have c21b0 : ((bt (rdOf ByteArray.empty l0 x15_1) a1) == 63) = true := beq_iff_eq.mpr c21;have c21b1 : ((bt (rdOf ByteArray.empty l0 x15_1) a1) != 63) = false := bne_eq_false_iff_eq.mpr c21;clear c21;have H' := zm H;clear H;have p20 : 0 ≤ (a1 : Int) := zd;have q20 : a1 < ((rdOf ByteArray.empty l0 x15_1).size : Int) := zd;have hx20 := bt_at (rdOf ByteArray.empty l0 x15_1) a1;replace p20 := eq_true p20;replace q20 := eq_true q20;go_wp2;go_roundg kj7
      case measure => have := HK1.out; have := HJ7.out; omega
      case rel => exact ⟨(x9_1), (wrap64 (x15_1 + 1)), zz, zz, H', ⟨by have := HK1.out; have := HJ7.out; omega⟩, zw⟩
     rw [if_neg c21] at H;have c21b0 : ((bt (rdOf ByteArray.empty l0 x15_1) a1) == 63) = false := beq_eq_false_iff_ne.mpr c21;have c21b1 : ((bt (rdOf ByteArray.empty l0 x15_1) a1) != 63) = true := bne_iff_ne.mpr c21;by_cases c23 : (bt (rdOf ByteArray.empty l0 x15_1) a1) = 46
     rotate_left
     ·
      rw [if_neg c23] at H;have c23b0 : ((bt (rdOf ByteArray.empty l0 x15_1) a1) == 46) = false := beq_eq_false_iff_ne.mpr c23;have c23b1 : ((bt (rdOf ByteArray.empty l0 x15_1) a1) != 46) = true := bne_iff_ne.mpr c23;have H' := zm H;clear H;have p20 : 0 ≤ (a1 : Int) := zd;have q20 : a1 < ((rdOf ByteArray.empty l0 x15_1).size : Int) := zd;have hx20 := bt_at (rdOf ByteArray.empty l0 x15_1) a1;replace p20 := eq_true p20;replace q20 := eq_true q20;have p22 : 0 ≤ (a1 : Int) := zd;have q22 : a1 < ((rdOf ByteArray.empty l0 x15_1).size : Int) := zd;have hx22 := bt_at (rdOf ByteArray.empty l0 x15_1) a1;replace p22 := eq_true p22;replace q22 := eq_true q22;go_wp2;go_roundg kj7
      case measure => have := HK1.out; have := HJ7.out; omega
      case rel => exact ⟨(wrap64 (x9_1 + 1)), (wrap64 (x15_1 + 1)), zz, zz, H', ⟨by have := HK1.out; have := HJ7.out; omega⟩, zw⟩
     rw [if_pos c23] at H;have c23b0 : ((bt (rdOf ByteArray.empty l0 x15_1) a1) == 46) = true := beq_iff_eq.mpr c23;have c23b1 : ((bt (rdOf ByteArray.empty l0 x15_1) a1) != 46) = false := bne_eq_false_iff_eq.mpr c23;clear c23;have H' := zm H;clear H;have p20 : 0 ≤ (a1 : Int) := zd;have q20 : a1 < ((rdOf ByteArray.empty l0 x15_1).size : Int) := zd;have hx20 := bt_at (rdOf ByteArray.empty l0 x15_1) a1;replace p20 := eq_true p20;replace q20 := eq_true q20;have p22 : 0 ≤ (a1 : Int) := zd;have q22 : a1 < ((rdOf ByteArray.empty l0 x15_1).size : Int) := zd;have hx22 := bt_at (rdOf ByteArray.empty l0 x15_1) a1;replace p22 := eq_true p22;replace q22 := eq_true q22;go_wp2;go_roundg kj7
     case measure => have := HK1.out; have := HJ7.out; omega
     case rel => exact ⟨(x9_1), (wrap64 (x15_1 + 1)), zz, zz, H', ⟨by have := HK1.out; have := HJ7.out; omega⟩, zw⟩
def Y0.l0 : Nat → List ByteArray → Int → Int → Int → Int → Int → Option (Int × Int × Bool)
  | 0, _, _, _, _, _, _ => none
  | k + 1, x0, x1, x2, x9, x10, x11 => if x11 < x2 then ((o8.f k x0 x1 x2 x11).bind fun t680 => (if t680 < x10 then (Y0.l0 k x0 x1 x2 x11 t680 (wrap64 (x11 + 1))) else (Y0.l0 k x0 x1 x2 x9 x10 (wrap64 (x11 + 1))))) else (some (x9, x10, true))
def Y0.f (k : Nat) (l0 : List ByteArray) (a1 : Int) (a2 : Int) : Option (Int × Int × Bool) := (D5.f k l0 a1 a2).bind fun t678 => (if t678 = true then ((o8.f k l0 a1 a2 0).bind fun t679 => (Y0.l0 k l0 a1 a2 0 t679 1)) else (some (0, 0, false)))
set_option maxHeartbeats 8000000 in
set_option maxRecDepth 100000 in
theorem Y0.calls (k : Nat) (A0 : Option Addr) (c0 : Nat) (l0 : List ByteArray) (a1 : Int) (a2 : Int) (r1 : Int) (r2 : Int) (r3 : Bool) (w : World) (hr0 : Kd.C Kd.string w A0 l0.length l0) (hc0 : l0.length ≤ c0) (h : Y0.f k l0 a1 a2 = some (r1, r2, r3)) :
  Calls Try.prog 41 #[.slice A0 l0.length c0, .int .i64 a1, .int .i64 a2] w fun e w' => e = .returned (.tuple #[.int .i64 r1, .int .i64 r2, .bool r3]) ∧ Drawn0 w w' := by
 have HR0 := zm hr0;have HC0 := zm hc0;clear hr0 hc0;have H : ((D5.f k l0 a1 a2).bind fun t678 => (if t678 = true then ((o8.f k l0 a1 a2 0).bind fun t679 => (Y0.l0 k l0 a1 a2 0 t679 1)) else (some (0, 0, false)))) = some (r1, r2, r3) := h;clear h;obtain ⟨t678, A4, H⟩ := zI H;(try dsimp only at H);by_cases c5 : t678 = true
 rotate_left
 ·
  replace c5 := Bool.eq_false_iff.mpr c5;subst c5;rw [if_neg (show ¬ (false = true) by decide)] at H;simp only [Option.some.injEq, Prod.mk.injEq] at H;obtain ⟨rfl, rfl, rfl⟩ := H;go_enter Try.func41, Try.ntmps41;go_wp2_with (first | ((with_reducible refine gate_callee (f := 90) rfl ?_); refine goesA_ (some 16) Try.func90 #[.slice A0 l0.length c0, .int .i64 a1, .int .i64 a2] rfl ?_; (with_reducible refine (D5.calls k _ _ l0 a1 a2 false _ ?side1 ?side2 A4.out).mono ?_); (case side1 => exact zF HR0.out); (case side2 => exact HC0.out); rintro e w' ⟨rfl, ⟨nd, rfl⟩⟩; refine ⟨_, rfl, ?_⟩))
  go_ret3
  exact ⟨zz, zw⟩
 subst c5;rw [if_pos rfl] at H;obtain ⟨t679, A6, H⟩ := zI H;(try dsimp only at H);have H' := zm H;clear H;go_enter Try.func41, Try.ntmps41;go_wp2_with (first | ((with_reducible refine gate_callee (f := 90) rfl ?_); refine goesA_ (some 16) Try.func90 #[.slice A0 l0.length c0, .int .i64 a1, .int .i64 a2] rfl ?_; (with_reducible refine (D5.calls k _ _ l0 a1 a2 true _ ?side1 ?side2 A4.out).mono ?_); (case side1 => exact zF HR0.out); (case side2 => exact HC0.out); rintro e w' ⟨rfl, ⟨nd, rfl⟩⟩; refine ⟨_, rfl, ?_⟩) | ((with_reducible refine gate_callee (f := 91) rfl ?_); refine goesA_ (some 21) Try.func91 #[.slice A0 l0.length c0, .int .i64 a1, .int .i64 a2, .int .i64 0] rfl ?_; (with_reducible refine (o8.calls k _ _ l0 a1 a2 0 t679 _ ?side1 ?side2 A6.out).mono ?_); (case side1 => exact zF HR0.out); (case side2 => exact HC0.out); rintro e w' ⟨rfl, ⟨nd, rfl⟩⟩; refine ⟨_, rfl, ?_⟩))
 go_loopg [9, 10, 11] k (fun kq v9 v10 v11 w' => ∃ (x9_1 : Int) (x10_1 : Int) (x11_1 : Int), v9 = .int .i64 x9_1 ∧ v10 = .int .i64 x10_1 ∧ v11 = .int .i64 x11_1 ∧ Aside0 (Y0.l0 kq l0 a1 a2 x9_1 x10_1 x11_1 = some (r1, r2, r3)) ∧ Aside0 (kq ≤ k) ∧ Drawn0 w w')
 case atStart => exact ⟨(0), (t679), (1), zz, zz, zz, H', ⟨Nat.le_refl _⟩, zw⟩
 case round =>
  clear H';(try clear p2);obtain ⟨x9_1, x10_1, x11_1, rfl, rfl, rfl, HA, HK1, ⟨m1, rfl⟩⟩ := hrel;cases gk with
  | zero => exact absurd HA.out (by simp [Y0.l0])
  | succ k1 =>
   have H := HA.out;clear HA;simp only [Y0.l0] at H;by_cases c7 : x11_1 < a2
   rotate_left
   ·
    rw [if_neg c7] at H;have c7b0 := decide_eq_false c7;clear c7;simp only [Option.some.injEq, Prod.mk.injEq] at H;obtain ⟨rfl, rfl, rfl⟩ := H;go_wp2;go_ret3
    exact ⟨zz, zw⟩
   rw [if_pos c7] at H;have c7b0 := decide_eq_true c7;clear c7;obtain ⟨t680, A8, H⟩ := zI H;(try dsimp only at H);by_cases c9 : t680 < x10_1
   rotate_left
   ·
    rw [if_neg c9] at H;have c9b0 := decide_eq_false c9;clear c9;have H' := zm H;clear H;go_wp2_with (first | ((with_reducible refine gate_callee (f := 91) rfl ?_); refine goesA_ (some 31) Try.func91 #[.slice A0 l0.length c0, .int .i64 a1, .int .i64 a2, .int .i64 x11_1] rfl ?_; (with_reducible refine (o8.calls k1 _ _ l0 a1 a2 x11_1 t680 _ ?side1 ?side2 A8.out).mono ?_); (case side1 => exact zF HR0.out); (case side2 => exact HC0.out); rintro e w' ⟨rfl, ⟨nd, rfl⟩⟩; refine ⟨_, rfl, ?_⟩))
    go_roundg k1
    case measure => have := HK1.out; omega
    case rel => exact ⟨(x9_1), (x10_1), (wrap64 (x11_1 + 1)), zz, zz, zz, H', ⟨by have := HK1.out; omega⟩, zw⟩
   rw [if_pos c9] at H;have c9b0 := decide_eq_true c9;clear c9;have H' := zm H;clear H;go_wp2_with (first | ((with_reducible refine gate_callee (f := 91) rfl ?_); refine goesA_ (some 31) Try.func91 #[.slice A0 l0.length c0, .int .i64 a1, .int .i64 a2, .int .i64 x11_1] rfl ?_; (with_reducible refine (o8.calls k1 _ _ l0 a1 a2 x11_1 t680 _ ?side1 ?side2 A8.out).mono ?_); (case side1 => exact zF HR0.out); (case side2 => exact HC0.out); rintro e w' ⟨rfl, ⟨nd, rfl⟩⟩; refine ⟨_, rfl, ?_⟩))
   go_roundg k1
   case measure => have := HK1.out; omega
   case rel => exact ⟨(x11_1), (t680), (wrap64 (x11_1 + 1)), zz, zz, zz, H', ⟨by have := HK1.out; omega⟩, zw⟩
def D9.f (k : Nat) (l0 : List ByteArray) (a1 : Int) (a2 : Int) : Option (Bool) := (V3.f k l0).bind fun t681 => (if t681 = true then (if 0 < (l0.length : Int) then ((V5.f a1 0 (wrap64 (((rdOf ByteArray.empty l0 0).size : Int) - 1))).bind fun t683 => (if t683 = true then ((V5.f a2 2 10).bind fun t684 => (some t684)) else (some false))) else (none)) else (some false))
set_option maxHeartbeats 8000000 in
set_option maxRecDepth 100000 in
theorem D9.calls (k : Nat) (A0 : Option Addr) (c0 : Nat) (l0 : List ByteArray) (a1 : Int) (a2 : Int) (r : Bool) (w : World) (hr0 : Kd.C Kd.string w A0 l0.length l0) (hc0 : l0.length ≤ c0) (h : D9.f k l0 a1 a2 = some r) :
  Calls Try.prog 92 #[.slice A0 l0.length c0, .int .i64 a1, .int .i64 a2] w fun e w' => e = .returned (.bool r) ∧ Drawn0 w w' := by
 have HR0 := zm hr0;have HC0 := zm hc0;clear hr0 hc0;have H : ((V3.f k l0).bind fun t681 => (if t681 = true then (if 0 < (l0.length : Int) then ((V5.f a1 0 (wrap64 (((rdOf ByteArray.empty l0 0).size : Int) - 1))).bind fun t683 => (if t683 = true then ((V5.f a2 2 10).bind fun t684 => (some t684)) else (some false))) else (none)) else (some false))) = some r := h;clear h;obtain ⟨t681, A4, H⟩ := zI H;(try dsimp only at H);by_cases c5 : t681 = true
 rotate_left
 ·
  replace c5 := Bool.eq_false_iff.mpr c5;subst c5;rw [if_neg (show ¬ (false = true) by decide)] at H;obtain rfl := Option.some.inj H;go_enter Try.func92, Try.ntmps92;go_wp2_with (first | ((with_reducible refine gate_callee (f := 127) rfl ?_); refine goesA_ (some 8) Try.func127 #[.slice A0 l0.length c0] rfl ?_; (with_reducible refine (V3.calls k _ _ l0 false _ ?side1 ?side2 A4.out).mono ?_); (case side1 => exact zF HR0.out); (case side2 => exact HC0.out); rintro e w' ⟨rfl, ⟨nd, rfl⟩⟩; refine ⟨_, rfl, ?_⟩))
  go_ret
  exact ⟨zz, zw⟩
 subst c5;rw [if_pos rfl] at H;obtain ⟨c6, H⟩ := zJ H;have c6b0 := decide_eq_true c6;have c6b1 : decide (0 < l0.length) = true := decide_eq_true (by omega);clear c6;obtain ⟨t683, A7, H⟩ := zI H;(try dsimp only at H);by_cases c8 : t683 = true
 rotate_left
 ·
  replace c8 := Bool.eq_false_iff.mpr c8;subst c8;rw [if_neg (show ¬ (false = true) by decide)] at H;obtain rfl := Option.some.inj H;go_enter Try.func92, Try.ntmps92;go_wp2_with (first | ((with_reducible refine gate_callee (f := 127) rfl ?_); refine goesA_ (some 8) Try.func127 #[.slice A0 l0.length c0] rfl ?_; (with_reducible refine (V3.calls k _ _ l0 true _ ?side1 ?side2 A4.out).mono ?_); (case side1 => exact zF HR0.out); (case side2 => exact HC0.out); rintro e w' ⟨rfl, ⟨nd, rfl⟩⟩; refine ⟨_, rfl, ?_⟩; have p682 : 0 ≤ (0 : Int) := (by omega); have q682 : 0 < (l0.length : Int) := zd; obtain ⟨ad682, e682, hx682_0⟩ := Kd.at_string HR0.out 0 p682 q682; cases e682; have qi682 : (0 < l0.length) = True := eq_true (by omega); (try rw [show ((0 : Int)).toNat = 0 from rfl] at hx682_0); (try rw [Addr.add_zero'] at hx682_0); replace p682 := eq_true p682; replace q682 := eq_true q682) | (go_at_call 95; (with_reducible refine (V5.calls a1 0 (wrap64 (((rdOf ByteArray.empty l0 0).size : Int) - 1)) false _ A7.out).mono ?_); rintro e w' ⟨rfl, ⟨nd, rfl⟩⟩))
  go_ret
  exact ⟨zz, zw⟩
 subst c8;rw [if_pos rfl] at H;obtain ⟨t684, A9, H⟩ := zI H;(try dsimp only at H);obtain rfl := Option.some.inj H;go_enter Try.func92, Try.ntmps92;go_wp2_with (first | ((with_reducible refine gate_callee (f := 127) rfl ?_); refine goesA_ (some 8) Try.func127 #[.slice A0 l0.length c0] rfl ?_; (with_reducible refine (V3.calls k _ _ l0 true _ ?side1 ?side2 A4.out).mono ?_); (case side1 => exact zF HR0.out); (case side2 => exact HC0.out); rintro e w' ⟨rfl, ⟨nd, rfl⟩⟩; refine ⟨_, rfl, ?_⟩; have p682 : 0 ≤ (0 : Int) := (by omega); have q682 : 0 < (l0.length : Int) := zd; obtain ⟨ad682, e682, hx682_0⟩ := Kd.at_string HR0.out 0 p682 q682; cases e682; have qi682 : (0 < l0.length) = True := eq_true (by omega); (try rw [show ((0 : Int)).toNat = 0 from rfl] at hx682_0); (try rw [Addr.add_zero'] at hx682_0); replace p682 := eq_true p682; replace q682 := eq_true q682) | (go_at_call 95; (with_reducible refine (V5.calls a1 0 (wrap64 (((rdOf ByteArray.empty l0 0).size : Int) - 1)) true _ A7.out).mono ?_); rintro e w' ⟨rfl, ⟨nd, rfl⟩⟩) | (go_at_call 95; (with_reducible refine (V5.calls a2 2 10 t684 _ A9.out).mono ?_); rintro e w' ⟨rfl, ⟨nd, rfl⟩⟩))
 go_ret
 exact ⟨zz, zw⟩
end Go.Proofs.Ytjdkdbeenggfaaa.PEr
