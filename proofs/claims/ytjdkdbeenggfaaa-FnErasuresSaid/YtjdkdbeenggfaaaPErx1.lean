import Derived.Test.YtjdkdbeenggfaaaPErx0
namespace Go.Proofs.Ytjdkdbeenggfaaa.PEr
open Go.RowKit Go.Proofs.YtjdkdbeenggfaaaW.PrintWords Go.Proofs.YtjdkdbeenggfaaaW.PrintLast Go.Proofs.YtjdkdbeenggfaaaW.PrintMore
attribute [local go_sem] max2_int min2_int max_two min_two max_three min_three max_four min_four   -- for this text's walks alone
set_option linter.unusedVariables false
set_option linter.unusedSimpArgs false
def strings_IndexByte.f (a0 : ByteArray) (a1 : Int) : Option (Int) := some (Go.Lib.indexByte a0.data.toList a1.toNat.toUInt8)
theorem strings_IndexByte.calls (a0 : ByteArray) (a1 : Int) (r : Int) (w : World) (h : strings_IndexByte.f a0 a1 = some r) :
    Calls Try.prog 109 #[.string a0, .int .u8 a1] w fun e w' => e = .returned (.int .i64 r) ∧ Drawn0 w w' :=
  Lib.IndexByte_calls a0 a1 r w h
mutual
def o5.j0 : Nat → List ByteArray → ByteArray → Bool → Option (Bool)
  | 0, _, _, _ => none
  | k + 1, x0, x4, x39 => if x39 = true then (some false) else (o5.l0 k x0 x4 x0 (x0.length : Int) 0)
def o5.l0 : Nat → List ByteArray → ByteArray → List ByteArray → Int → Int → Option (Bool)
  | 0, _, _, _, _, _ => none
  | k + 1, x0, x4, x40, x41, x42 => if x42 < x41 then (if 0 ≤ x42 then (if x42 < (x40.length : Int) then (if 0 < (x0.length : Int) then (if ((rdOf ByteArray.empty x40 x42).size : Int) = ((rdOf ByteArray.empty x0 0).size : Int) then (o5.l1 k x0 x4 (rdOf ByteArray.empty x40 x42) 0 x40 x41 x42) else (some false)) else (none)) else (none)) else (none)) else (some true)
def o5.l1 : Nat → List ByteArray → ByteArray → ByteArray → Int → List ByteArray → Int → Int → Option (Bool)
  | 0, _, _, _, _, _, _, _ => none
  | k + 1, x0, x4, x12, x13, x40, x41, x42 => if x13 < (x12.size : Int) then (if 0 ≤ x13 then ((strings_IndexByte.f x4 (bt x12 x13)).bind fun t105 => (if t105 < 0 then (some false) else (o5.l1 k x0 x4 x12 (wrap64 (x13 + 1)) x40 x41 x42))) else (none)) else (o5.l0 k x0 x4 x40 x41 (wrap64 (x42 + 1)))
end
def o5.f (k : Nat) (l0 : List ByteArray) (a1 : Int) (a2 : Int) (a3 : Int) (a4 : ByteArray) : Option (Bool) := if (l0.length : Int) < a1 then (o5.j0 k l0 a4 true) else (if (l0.length : Int) > a2 then (o5.j0 k l0 a4 true) else (if 0 < (l0.length : Int) then (if ((rdOf ByteArray.empty l0 0).size : Int) < a1 then (o5.j0 k l0 a4 true) else (o5.j0 k l0 a4 (decide (((rdOf ByteArray.empty l0 0).size : Int) > a3)))) else (none)))
set_option maxHeartbeats 8000000 in
set_option maxRecDepth 100000 in
theorem o5.calls (k : Nat) (A0 : Option Addr) (c0 : Nat) (l0 : List ByteArray) (a1 : Int) (a2 : Int) (a3 : Int) (a4 : ByteArray) (r : Bool) (w : World) (hr0 : Kd.C Kd.string w A0 l0.length l0) (hc0 : l0.length ≤ c0) (h : o5.f k l0 a1 a2 a3 a4 = some r) :
  Calls Try.prog 57 #[.slice A0 l0.length c0, .int .i64 a1, .int .i64 a2, .int .i64 a3, .string a4] w fun e w' => e = .returned (.bool r) ∧ Drawn0 w w' := by
 have HR0 := zm hr0;have HC0 := zm hc0;clear hr0 hc0;have H : (if (l0.length : Int) < a1 then (o5.j0 k l0 a4 true) else (if (l0.length : Int) > a2 then (o5.j0 k l0 a4 true) else (if 0 < (l0.length : Int) then (if ((rdOf ByteArray.empty l0 0).size : Int) < a1 then (o5.j0 k l0 a4 true) else (o5.j0 k l0 a4 (decide (((rdOf ByteArray.empty l0 0).size : Int) > a3)))) else (none)))) = some r := h;clear h;have HC6 := zm H;clear H;go_enter Try.func57, Try.ntmps57;go_upto_region 1 with (fail)
 go_cut [39] (fun v39 wc => ∃ (kq : Nat) (x39_5 : Bool), v39 = .bool x39_5 ∧ Aside0 (o5.j0 kq l0 a4 x39_5 = some r) ∧ Aside0 (kq ≤ k) ∧ Drawn0 w wc)
 case first =>
  have H := HC6.out;clear HC6;by_cases c7 : (l0.length : Int) < a1
  ·
   rw [if_pos c7] at H;have c7b0 := decide_eq_true c7;clear c7;(first | rw [c7b0] | (simp only [i64_w, i32_w]; rw [c7b0]) | skip);have H' := zm H;clear H;go_wp2;go_meet
   case rel => exact ⟨_, (true), zz, H', ⟨by first | omega | exact Nat.le_refl _⟩, zw⟩
  rw [if_neg c7] at H;have c7b0 := decide_eq_false c7;clear c7;(first | rw [c7b0] | (simp only [i64_w, i32_w]; rw [c7b0]) | skip);by_cases c8 : (l0.length : Int) > a2
  ·
   rw [if_pos c8] at H;have c8b0 : decide (a2 < (l0.length : Int)) = true := decide_eq_true c8;clear c8;have H' := zm H;clear H;go_wp2;go_meet
   case rel => exact ⟨_, (true), zz, H', ⟨by first | omega | exact Nat.le_refl _⟩, zw⟩
  rw [if_neg c8] at H;have c8b0 : decide (a2 < (l0.length : Int)) = false := decide_eq_false c8;clear c8;obtain ⟨c9, H⟩ := zJ H;have c9b0 := decide_eq_true c9;have c9b1 : decide (0 < l0.length) = true := decide_eq_true (by omega);clear c9;by_cases c10 : ((rdOf ByteArray.empty l0 0).size : Int) < a1
  ·
   rw [if_pos c10] at H;have c10b0 := decide_eq_true c10;clear c10;have H' := zm H;clear H;have p101 : 0 ≤ (0 : Int) := (by omega);have q101 : 0 < (l0.length : Int) := zd;obtain ⟨ad101, e101, hx101_0⟩ := Kd.at_string HR0.out 0 p101 q101;cases e101;have qi101 : (0 < l0.length) = True := eq_true (by omega)
   (try rw [show ((0 : Int)).toNat = 0 from rfl] at hx101_0);(try rw [Addr.add_zero'] at hx101_0);replace p101 := eq_true p101;replace q101 := eq_true q101;go_wp2;go_meet
   case rel => exact ⟨_, (true), zz, H', ⟨by first | omega | exact Nat.le_refl _⟩, zw⟩
  rw [if_neg c10] at H;have c10b0 := decide_eq_false c10;clear c10;have H' := zm H;clear H;have p101 : 0 ≤ (0 : Int) := (by omega);have q101 : 0 < (l0.length : Int) := zd;obtain ⟨ad101, e101, hx101_0⟩ := Kd.at_string HR0.out 0 p101 q101;cases e101;have qi101 : (0 < l0.length) = True := eq_true (by omega)
  (try rw [show ((0 : Int)).toNat = 0 from rfl] at hx101_0);(try rw [Addr.add_zero'] at hx101_0);replace p101 := eq_true p101;replace q101 := eq_true q101;have p102 : 0 ≤ (0 : Int) := (by omega);have q102 : 0 < (l0.length : Int) := zd;obtain ⟨ad102, e102, hx102_0⟩ := Kd.at_string HR0.out 0 p102 q102;obtain rfl : ad101 = ad102 := (by injection e102)
  skip
  have qi102 : (0 < l0.length) = True := eq_true (by omega)
  (try rw [show ((0 : Int)).toNat = 0 from rfl] at hx102_0);(try rw [Addr.add_zero'] at hx102_0);replace p102 := eq_true p102;replace q102 := eq_true q102;go_wp2;go_meet
  case rel => exact ⟨_, (decide (((rdOf ByteArray.empty l0 0).size : Int) > a3)), zz, H', ⟨by first | omega | exact Nat.le_refl _⟩, zw⟩
 case rest =>
  clear HC6;(try clear p1); (try clear q1); (try clear hx1); (try clear qi1); (try clear p2); (try clear c7b0); (try clear c8b0); (try clear c9b0); (try clear c9b1); (try clear c10b0); (try clear p10); (try clear q10); (try clear hx10); (try clear qi10); (try clear hx101_0); (try clear hx102_0); (try clear p101); (try clear p102); (try clear q101); (try clear q102);obtain ⟨kq, x39_5, rfl, HA, HJ5, ⟨mc5, rfl⟩⟩ := hcut;cases kq with
  | zero => exact absurd HA.out (by simp [o5.j0])
  | succ kj5 =>
   have H := HA.out;clear HA;simp only [o5.j0] at H;by_cases c11 : x39_5 = true
   ·
    subst c11;rw [if_pos rfl] at H;obtain rfl := Option.some.inj H;go_wp2;go_ret
    exact ⟨zz, zw⟩
   replace c11 := Bool.eq_false_iff.mpr c11;subst c11;rw [if_neg (show ¬ (false = true) by decide)] at H;have H' := zm H;clear H;go_wp2;go_loopg [42] kj5 (fun kq v42 w' => ∃ (x42_2 : Int), v42 = .int .i64 x42_2 ∧ Aside0 (o5.l0 kq l0 a4 l0 (l0.length : Int) x42_2 = some r) ∧ Aside0 (kq ≤ kj5) ∧ Drawn0 w w')
   case atStart => exact ⟨(0), zz, H', ⟨Nat.le_refl _⟩, zw⟩
   case round =>
    clear H';(try clear p1); (try clear q1); (try clear hx1); (try clear qi1); (try clear p2); (try clear c7b0); (try clear c8b0); (try clear c9b0); (try clear c9b1); (try clear c10b0); (try clear p10); (try clear q10); (try clear hx10); (try clear qi10); (try clear hx101_0); (try clear hx102_0); (try clear p1); (try clear p10); (try clear p101); (try clear p102); (try clear p2); (try clear q1); (try clear q10); (try clear q101); (try clear q102);obtain ⟨x42_2, rfl, HA, HK2, ⟨m2, rfl⟩⟩ := hrel;cases gk with
    | zero => exact absurd HA.out (by simp [o5.l0])
    | succ k2 =>
     have H := HA.out;clear HA;simp only [o5.l0] at H;by_cases c12 : x42_2 < (l0.length : Int)
     rotate_left
     ·
      rw [if_neg c12] at H;have c12b0 := decide_eq_false c12;clear c12;obtain rfl := Option.some.inj H;go_wp2;go_ret
      exact ⟨zz, zw⟩
     rw [if_pos c12] at H;have c12b0 := decide_eq_true c12;clear c12;obtain ⟨c13, H⟩ := zJ H;have c13b0 := decide_eq_true c13;clear c13;obtain ⟨c14, H⟩ := zJ H;have c14b0 := decide_eq_true c14;clear c14;obtain ⟨c15, H⟩ := zJ H;have c15b0 := decide_eq_true c15;have c15b1 : decide (0 < l0.length) = true := decide_eq_true (by omega);clear c15;by_cases c16 : ((rdOf ByteArray.empty l0 x42_2).size : Int) = ((rdOf ByteArray.empty l0 0).size : Int)
     rotate_left
     ·
      rw [if_neg c16] at H;have c16b0 : (((rdOf ByteArray.empty l0 x42_2).size : Int) == ((rdOf ByteArray.empty l0 0).size : Int)) = false := beq_eq_false_iff_ne.mpr c16;have c16b1 : (((rdOf ByteArray.empty l0 x42_2).size : Int) != ((rdOf ByteArray.empty l0 0).size : Int)) = true := bne_iff_ne.mpr c16;have c16b2 : ((rdOf ByteArray.empty l0 x42_2).size == (rdOf ByteArray.empty l0 0).size) = false := by first | simpa using c16 | (simp at c16 ⊢; omega)
      obtain rfl := Option.some.inj H;have p103 : 0 ≤ (x42_2 : Int) := zd;have q103 : x42_2 < (l0.length : Int) := zd;obtain ⟨ad103, e103, hx103_0⟩ := Kd.at_string HR0.out x42_2 p103 q103;cases e103;replace p103 := eq_true p103;replace q103 := eq_true q103;have p104 : 0 ≤ (0 : Int) := (by omega);have q104 : 0 < (l0.length : Int) := zd;obtain ⟨ad104, e104, hx104_0⟩ := Kd.at_string HR0.out 0 p104 q104;obtain rfl : ad103 = ad104 := (by injection e104)
      skip
      have qi104 : (0 < l0.length) = True := eq_true (by omega)
      (try rw [show ((0 : Int)).toNat = 0 from rfl] at hx104_0);(try rw [Addr.add_zero'] at hx104_0);replace p104 := eq_true p104;replace q104 := eq_true q104;go_wp2;go_ret
      exact ⟨zz, zw⟩
     rw [if_pos c16] at H;have c16b0 : (((rdOf ByteArray.empty l0 x42_2).size : Int) == ((rdOf ByteArray.empty l0 0).size : Int)) = true := beq_iff_eq.mpr c16;have c16b1 : (((rdOf ByteArray.empty l0 x42_2).size : Int) != ((rdOf ByteArray.empty l0 0).size : Int)) = false := bne_eq_false_iff_eq.mpr c16;have c16b2 : ((rdOf ByteArray.empty l0 x42_2).size == (rdOf ByteArray.empty l0 0).size) = true := by first | simpa using c16 | (simp at c16 ⊢; omega)
     clear c16;have H' := zm H;clear H;have p103 : 0 ≤ (x42_2 : Int) := zd;have q103 : x42_2 < (l0.length : Int) := zd;obtain ⟨ad103, e103, hx103_0⟩ := Kd.at_string HR0.out x42_2 p103 q103;cases e103;replace p103 := eq_true p103;replace q103 := eq_true q103;have p104 : 0 ≤ (0 : Int) := (by omega);have q104 : 0 < (l0.length : Int) := zd;obtain ⟨ad104, e104, hx104_0⟩ := Kd.at_string HR0.out 0 p104 q104;obtain rfl : ad103 = ad104 := (by injection e104)
     skip
     have qi104 : (0 < l0.length) = True := eq_true (by omega)
     (try rw [show ((0 : Int)).toNat = 0 from rfl] at hx104_0);(try rw [Addr.add_zero'] at hx104_0);replace p104 := eq_true p104;replace q104 := eq_true q104;go_wp2;go_loopg [13] k2 (fun kq v13 w' => ∃ (x13_3 : Int), v13 = .int .i64 x13_3 ∧ Aside0 (o5.l1 kq l0 a4 (rdOf ByteArray.empty l0 x42_2) x13_3 l0 (l0.length : Int) x42_2 = some r) ∧ Aside0 (kq ≤ k2) ∧ Drawn0 w w')
     case atStart => exact ⟨(0), zz, H', ⟨Nat.le_refl _⟩, zw⟩
     case round =>
      clear H';(try clear p1); (try clear q1); (try clear hx1); (try clear qi1); (try clear p2); (try clear c7b0); (try clear c8b0); (try clear c9b0); (try clear c9b1); (try clear c10b0); (try clear p10); (try clear q10); (try clear hx10); (try clear qi10); (try clear c12b0); (try clear c13b0); (try clear c14b0); (try clear c15b0); (try clear c15b1); (try clear c16b0); (try clear c16b1); (try clear c16b2); (try clear hx101_0); (try clear hx102_0); (try clear hx103_0); (try clear hx104_0); (try clear p1); (try clear p10); (try clear p101); (try clear p102); (try clear p103); (try clear p104); (try clear p2); (try clear q1); (try clear q10); (try clear q101); (try clear q102); (try clear q103); (try clear q104);obtain ⟨x13_3, rfl, HA, HK3, ⟨m3, rfl⟩⟩ := hrel;cases gk with
      | zero => exact absurd HA.out (by simp [o5.l1])
      | succ k3 =>
       have H := HA.out;clear HA;simp only [o5.l1] at H;by_cases c17 : x13_3 < ((rdOf ByteArray.empty l0 x42_2).size : Int)
       rotate_left
       ·
        rw [if_neg c17] at H;have c17b0 := decide_eq_false c17;clear c17;have H' := zm H;clear H;go_wp2;go_roundg k3
        case measure => have := HJ5.out; have := HK2.out; have := HK3.out; omega
        case rel => exact ⟨(wrap64 (x42_2 + 1)), zz, H', ⟨by have := HJ5.out; have := HK2.out; have := HK3.out; omega⟩, zw⟩
       rw [if_pos c17] at H;have c17b0 := decide_eq_true c17;clear c17;obtain ⟨c18, H⟩ := zJ H;have c18b0 := decide_eq_true c18;clear c18;obtain ⟨t105, A20, H⟩ := zI H;(try dsimp only at H);by_cases c21 : t105 < 0
       ·
        rw [if_pos c21] at H;have c21b0 := decide_eq_true c21;clear c21;obtain rfl := Option.some.inj H;have p19 : 0 ≤ (x13_3 : Int) := zd;have q19 : x13_3 < ((rdOf ByteArray.empty l0 x42_2).size : Int) := zd;have hx19 := bt_at (rdOf ByteArray.empty l0 x42_2) x13_3;replace p19 := eq_true p19;replace q19 := eq_true q19;go_wp2_with (first | ((with_reducible refine gate_callee (f := 109) rfl ?_); refine goesA_ (some 63) Try.func109 #[.string a4, .int .u8 (bt (rdOf ByteArray.empty l0 x42_2) x13_3)] rfl ?_; (with_reducible refine (strings_IndexByte.calls a4 (bt (rdOf ByteArray.empty l0 x42_2) x13_3) t105 _ A20.out).mono ?_); rintro e w' ⟨rfl, ⟨nd, rfl⟩⟩; refine ⟨_, rfl, ?_⟩))
        go_ret
        exact ⟨zz, zw⟩
       rw [if_neg c21] at H;have c21b0 := decide_eq_false c21;clear c21;have H' := zm H;clear H;have p19 : 0 ≤ (x13_3 : Int) := zd;have q19 : x13_3 < ((rdOf ByteArray.empty l0 x42_2).size : Int) := zd;have hx19 := bt_at (rdOf ByteArray.empty l0 x42_2) x13_3;replace p19 := eq_true p19;replace q19 := eq_true q19;go_wp2_with (first | ((with_reducible refine gate_callee (f := 109) rfl ?_); refine goesA_ (some 63) Try.func109 #[.string a4, .int .u8 (bt (rdOf ByteArray.empty l0 x42_2) x13_3)] rfl ?_; (with_reducible refine (strings_IndexByte.calls a4 (bt (rdOf ByteArray.empty l0 x42_2) x13_3) t105 _ A20.out).mono ?_); rintro e w' ⟨rfl, ⟨nd, rfl⟩⟩; refine ⟨_, rfl, ?_⟩))
       go_roundg k3
       case measure => have := HJ5.out; have := HK2.out; have := HK3.out; omega
       case rel => exact ⟨(wrap64 (x13_3 + 1)), zz, H', ⟨by have := HJ5.out; have := HK2.out; have := HK3.out; omega⟩, zw⟩
def J3.f (k : Nat) (l0 : List ByteArray) : Option (Bool) := (o5.f k l0 2 12 12 (⟨#[46, 111, 63]⟩ : ByteArray)).bind fun t106 => (some t106)
set_option maxHeartbeats 8000000 in
set_option maxRecDepth 100000 in
theorem J3.calls (k : Nat) (A0 : Option Addr) (c0 : Nat) (l0 : List ByteArray) (r : Bool) (w : World) (hr0 : Kd.C Kd.string w A0 l0.length l0) (hc0 : l0.length ≤ c0) (h : J3.f k l0 = some r) :
  Calls Try.prog 21 #[.slice A0 l0.length c0] w fun e w' => e = .returned (.bool r) ∧ Drawn0 w w' := by
 have HR0 := zm hr0;have HC0 := zm hc0;clear hr0 hc0;have H : ((o5.f k l0 2 12 12 (⟨#[46, 111, 63]⟩ : ByteArray)).bind fun t106 => (some t106)) = some r := h;clear h;obtain ⟨t106, A2, H⟩ := zI H;(try dsimp only at H);obtain rfl := Option.some.inj H;go_enter Try.func21, Try.ntmps21;go_wp2_with (first | ((with_reducible refine gate_callee (f := 57) rfl ?_); refine goesA_ (some 4) Try.func57 #[.slice A0 l0.length c0, .int .i64 2, .int .i64 12, .int .i64 12, .string (⟨#[46, 111, 63]⟩ : ByteArray)] rfl ?_; (with_reducible refine (o5.calls k _ _ l0 2 12 12 (⟨#[46, 111, 63]⟩ : ByteArray) t106 _ ?side1 ?side2 A2.out).mono ?_); (case side1 => exact zF HR0.out); (case side2 => exact HC0.out); rintro e w' ⟨rfl, ⟨nd, rfl⟩⟩; refine ⟨_, rfl, ?_⟩))
 go_ret
 exact ⟨zz, zw⟩
theorem J4.q3s : (Try.prog.info? 5).map (fun i => (i.zero, i.size, i.bytes)) = some (some (.int .u8 0), 1, 1) := by kernel_rfl
/-- A row of bytes that is read alone (its block may bear a mark behind its end). -/
def Fz (w : World) (base : Nat) (v : Value) (xs : List Int) : Prop := ∃ A c, v = .slice A xs.length c ∧ xs.length ≤ c ∧ Kd.C (Kd.int .u8) w A xs.length xs ∧ ∀ k, v.ownBlock = some k → base ≤ k ∧ k < w.heap.size
theorem Fz.R_slice {w : World} {base : Nat} {v : Value} {xs : List Int} (h : Fz w base v xs) : ∃ A c, v = .slice A xs.length c := by obtain ⟨A, c, e, _⟩ := h; exact ⟨A, c, e⟩
theorem Fz.R_reads' {w : World} {base n c : Nat} {A : Option Addr} {xs : List Int} (h : Fz w base (.slice A n c) xs) : n = xs.length ∧ n ≤ c ∧ Kd.C (Kd.int .u8) w A xs.length xs := by
  obtain ⟨A', c', e, hl, hc, _⟩ := h
  injection e with e1 e2 e3
  subst e1; subst e2; subst e3
  exact ⟨rfl, hl, hc⟩
theorem Fz.R_lower {w : World} {base b : Nat} {v : Value} {xs : List Int} (h : Fz w base v xs) (hb : b ≤ base) : Fz w b v xs := by
  obtain ⟨A, c, e, hl, hc, hk⟩ := h; exact ⟨A, c, e, hl, hc, fun k h2 => ⟨Nat.le_trans hb (hk k h2).1, (hk k h2).2⟩⟩
theorem Fz.R_below {w w1 : World} {base : Nat} {v : Value} {xs : List Int} (h : Fz w base v xs) (hb : Below w.heap.size w w1) : Fz w1 base v xs := by
  obtain ⟨A, c, e, hl, hc, hk⟩ := h; exact ⟨A, c, e, hl, Kd.C_below hc hb, fun k h2 => ⟨(hk k h2).1, Nat.lt_of_lt_of_le (hk k h2).2 hb.size⟩⟩
theorem Fz.R_alloc {w : World} {base : Nat} {v : Value} {xs : List Int} (h : Fz w base v xs) (o : Obj) : Fz (w.alloc o) base v xs := h.R_below (below_alloc (Below.refl _ _) o)
theorem Fz.R_drewN {w : World} {base : Nat} {v : Value} {xs : List Int} (h : Fz w base v xs) (m : Nat) : Fz (w.drewN m) base v xs := h.R_below (pw_below_drewN (Below.refl _ _) m)
theorem Fz.R_drew {w : World} {base : Nat} {v : Value} {xs : List Int} (h : Fz w base v xs) : Fz w.drew base v xs := h.R_below (below_drew1 (Below.refl _ _))
theorem Fz.q9v {w : World} {base : Nat} {ok : Nat → Prop} {v : Value} {xs : List Int} (h : Kd.R (Kd.int .u8) 5 w base ok v xs) : Fz w base v xs := by
  obtain ⟨A, c, e, hl, hc⟩ := Kd.R_reads h
  exact ⟨A, c, e, hl, hc, fun k hk => ⟨Kd.R_base h k hk, Kd.R_lt h k hk⟩⟩
theorem Fz.q8k {w W : World} (hb : Below w.heap.size w W) (s : ByteArray) (hs : s.size ≤ 9223372036854775807) : Fz (Go.Lib.bytesWorld W 5 s) w.heap.size (.slice (some ⟨W.heap.size, 0, none⟩) s.size (grownCap W s.size 0 5)) (bytesOf s) := by
  refine ⟨some ⟨W.heap.size, 0, none⟩, grownCap W s.size 0 5, by rw [bytesOf_length], by rw [bytesOf_length]; exact grownCap_ge W s.size 0 5, ?_, fun k hk => ?_⟩
  · rw [bytesOf_length]
    have h := bytes_reads W 5 s hs
    refine ⟨h.1, h.2.1, fun hp => ?_⟩
    obtain ⟨ad, e, hc⟩ := h.2.2 hp
    refine ⟨ad, e, fun j p hj => ⟨[.int .u8 p], rfl, rfl, fun i u hu => ?_⟩⟩
    have hjl : j < (bytesOf s).length := (List.getElem?_eq_some_iff.1 hj).1
    match i, hu with
    | 0, hu =>
      injection hu with hu
      subst hu
      have := hc j (by rw [← bytesOf_length s]; exact hjl)
      rw [List.getD_eq_getElem?_getD, hj] at this
      simpa [Kd.int, Kd.scalar] using this
  · simp only [Value.ownBlock, Option.some.injEq] at hk
    subst hk
    refine ⟨hb.size, ?_⟩
    rw [Go.Lib.bytesWorld_size]; omega
def J4.l0 : Nat → List ByteArray → Int → List Int → List ByteArray → Int → Int → Option (List Int)
  | 0, _, _, _, _, _, _ => none
  | k + 1, x0, x1, x5, x18, x19, x20 => if x20 < x19 then (if 0 ≤ x20 then (if x20 < (x18.length : Int) then (if 0 ≤ (wrap64 (x1 - (x0.length : Int))) then (if (wrap64 (x1 - (x0.length : Int))) < ((rdOf ByteArray.empty x18 x20).size : Int) then (if x5.length < 140737488355328 then (J4.l0 k x0 x1 (x5 ++ [bt (rdOf ByteArray.empty x18 x20) (wrap64 (x1 - (x0.length : Int)))]) x18 x19 (wrap64 (x20 + 1))) else (none)) else (none)) else (none)) else (none)) else (none)) else (some x5)
def J4.f (k : Nat) (l0 : List ByteArray) (a1 : Int) : Option (List Int) := if a1 < (l0.length : Int) then (if 0 ≤ a1 then (if (rdOf ByteArray.empty l0 a1).size ≤ 9223372036854775807 then (some (bytesOf (rdOf ByteArray.empty l0 a1))) else (none)) else (none)) else (J4.l0 k l0 a1 (([] : List Int)) l0 (l0.length : Int) 0)
set_option maxHeartbeats 8000000 in
set_option maxRecDepth 100000 in
theorem J4.calls (k : Nat) (A0 : Option Addr) (c0 : Nat) (l0 : List ByteArray) (a1 : Int) (r : List Int) (w : World) (hr0 : Kd.C Kd.string w A0 l0.length l0) (hc0 : l0.length ≤ c0) (h : J4.f k l0 a1 = some r) :
  Calls Try.prog 110 #[.slice A0 l0.length c0, .int .i64 a1] w fun e w' => ∃ v0_ : Value, e = .returned (v0_) ∧ Fz w' w.heap.size v0_ r ∧ Below w.heap.size w w' := by
 have HR0 := zm hr0;have HC0 := zm hc0;clear hr0 hc0;have HB := zm (Below.refl w.heap.size w);have H : (if a1 < (l0.length : Int) then (if 0 ≤ a1 then (if (rdOf ByteArray.empty l0 a1).size ≤ 9223372036854775807 then (some (bytesOf (rdOf ByteArray.empty l0 a1))) else (none)) else (none)) else (J4.l0 k l0 a1 (([] : List Int)) l0 (l0.length : Int) 0)) = some r := h;clear h;by_cases c3 : a1 < (l0.length : Int)
 ·
  rw [if_pos c3] at H;have c3b0 := decide_eq_true c3;clear c3;obtain ⟨c4, H⟩ := zJ H;have c4b0 := decide_eq_true c4;clear c4;by_cases c5 : (rdOf ByteArray.empty l0 a1).size ≤ 9223372036854775807
  · rw [if_pos c5] at H
    obtain rfl := Option.some.inj H;have p169 : 0 ≤ (a1 : Int) := zd;have q169 : a1 < (l0.length : Int) := zd;obtain ⟨ad169, e169, hx169_0⟩ := Kd.at_string HR0.out a1 p169 q169;cases e169;replace p169 := eq_true p169;replace q169 := eq_true q169;go_enter Try.func110, Try.ntmps110;have hkb := fun W => print_bytes (P := Try.prog) 9 22 5 Try.underlying9 Try.underlying22 Try.underlying5 (rdOf ByteArray.empty l0 a1) W
    go_wp2;go_ret
    exact ⟨_, zr, Fz.q8k (Below.refl _ _) _ c5, bytes_below (Below.refl _ _) (Nat.le_refl _) 5 _⟩
  · rw [if_neg c5] at H
    exact absurd H (by simp)
 rw [if_neg c3] at H;have c3b0 := decide_eq_false c3;clear c3;obtain ⟨y173, hy173⟩ : ∃ y_ : List Int, y_ = (([] : List Int)) := ⟨_, rfl⟩;(first | (rw [← hy173] at H; with_reducible replace H := zO H) | rw [← hy173] at H);have Ny173 := zm hy173;clear hy173;have H' := zm H;clear H;go_enter Try.func110, Try.ntmps110;go_wp2_with (first | ((with_reducible refine gate_dst (N := 17) rfl ?_); refine Kd.R_lit (Kd.int .u8) _ 5 ?hg (N := 17) ?hd (xs := ([] : List Int)) (inner := []) (ok := fun _ => True) (okp := fun _ => True) ?hr ?hp (fun _ hk => hk) trivial (Below.refl _ _) (Nat.le_refl _) (by simp) ?_; (case hd => rfl); (case hg => rfl); (case hr => first | (go_simp; done) | (go_simp; rfl)); (case hp => exact (Reps.none _ _)); intro v174 w7 ho8 hb hg_ hnew_; clear hg_ hnew_; (first | rw [← Ny173.out] at ho8 | (simp only [Int.reduceToNat] at ho8; rw [← Ny173.out] at ho8)); have HO175 := zm (Kd.R_lower ho8 (below_size zb)); replace HB := zm (below_step zb hb); clear hb ho8))
 go_loopg [5, 20] k (fun kq v5 v20 w' => ∃ (x5_1 : List Int) (x20_1 : Int), v20 = .int .i64 x20_1 ∧ Aside0 (J4.l0 kq l0 a1 x5_1 l0 (l0.length : Int) x20_1 = some r) ∧ Aside0 (kq ≤ k) ∧ Aside0 (Kd.R (Kd.int .u8) 5 w' w.heap.size (fun _ => True) v5 x5_1) ∧ Aside0 (Below w.heap.size w w'))
 case atStart => exact ⟨(y173), (0), zz, H', ⟨Nat.le_refl _⟩, ⟨zP HO175.out⟩, ⟨zb⟩⟩
 case round =>
  clear H';(try clear p1); (try clear q1); (try clear hx1); (try clear p2); (try clear c3b0); (try clear c4b0); (try clear hx169_0); (try clear p169); (try clear q169);obtain ⟨x5_1, x20_1, rfl, HA, HK1, HO_5, HB⟩ := hrel;cases gk with
  | zero => exact absurd HA.out (by simp [J4.l0])
  | succ k1 =>
   have H := HA.out;clear HA;simp only [J4.l0] at H;by_cases c9 : x20_1 < (l0.length : Int)
   rotate_left
   ·
    rw [if_neg c9] at H;have c9b0 := decide_eq_false c9;clear c9;obtain rfl := Option.some.inj H;go_wp2;go_ret
    exact ⟨_, zr, Fz.q9v (zP HO_5.out), zb⟩
   rw [if_pos c9] at H;have c9b0 := decide_eq_true c9;clear c9;obtain ⟨c10, H⟩ := zJ H;have c10b0 := decide_eq_true c10;clear c10;obtain ⟨c11, H⟩ := zJ H;have c11b0 := decide_eq_true c11;clear c11;obtain ⟨ji12, hji12⟩ : ∃ j_ : Int, (wrap64 (a1 - (l0.length : Int))) = j_ := ⟨_, rfl⟩;replace H : (if 0 ≤ (ji12) then (if (ji12) < ((rdOf ByteArray.empty l0 x20_1).size : Int) then (if x5_1.length < 140737488355328 then (J4.l0 k1 l0 a1 (x5_1 ++ [bt (rdOf ByteArray.empty l0 x20_1) (ji12)]) l0 (l0.length : Int) (wrap64 (x20_1 + 1))) else (none)) else (none)) else (none)) = some r := by first | (rw [hji12] at H; exact H) | (simp only [hji12] at H ⊢; exact H)
   have hji12w : (IntKind.i64.wrap (a1 - (l0.length : Int))) = ji12 := (i64_w _).trans hji12
   obtain ⟨c13, H⟩ := zJ H;have c13b0 := decide_eq_true c13;clear c13;obtain ⟨c14, H⟩ := zJ H;have c14b0 := decide_eq_true c14;clear c14;obtain ⟨c16, H⟩ := zJ H;have LMc16 := zm c16;clear c16;obtain ⟨y177, hy177⟩ : ∃ y_ : List Int, y_ = (x5_1 ++ [bt (rdOf ByteArray.empty l0 x20_1) (ji12)]) := ⟨_, rfl⟩;(first | (rw [← hy177] at H; with_reducible replace H := zO H) | rw [← hy177] at H);have Ny177 := zm hy177;clear hy177;have H' := zm H;clear H;have p176 : 0 ≤ (x20_1 : Int) := zd;have q176 : x20_1 < (l0.length : Int) := zd;obtain ⟨ad176, e176, hx176_0⟩ := Kd.at_string HR0.out x20_1 p176 q176;cases e176;replace hx176_0 := zx HB.out hx176_0;replace p176 := eq_true p176;replace q176 := eq_true q176;have p15 : 0 ≤ ((ji12) : Int) := zd;have q15 : (ji12) < ((rdOf ByteArray.empty l0 x20_1).size : Int) := zd;have hx15 := bt_at (rdOf ByteArray.empty l0 x20_1) (ji12);replace p15 := eq_true p15;replace q15 := eq_true q15;go_wp2_with (first | ((with_reducible refine gate_builtin (b := .append) (xs := #[.tmp 24, .tmp 31]) rfl ?_); at_builtin; refine Kd.R_append (Kd.int .u8) (w0 := w) w.heap.size rfl (.tmp 24) (.tmp 31) 22 5 (.int .u8 0) 1 rfl Try.underlying22 J4.q3s rfl (by decide) (by omega) u5 x5_1 (bt (rdOf ByteArray.empty l0 x20_1) (ji12)) [.int .u8 (bt (rdOf ByteArray.empty l0 x20_1) (ji12))] (fun _ => True) (fun _ => False) rfl rfl ?aP (fun _ hk => hk.elim) ?aF ?aO ?aB ?aS ?aL ?_; (case aP => exact rfl); (case aB => exact zb); (case aF => exact (fun _ _ => trivial)); (case aO => exact (zP HO_5.out)); (case aS => exact (below_size zb)); (case aL => have := LMc16.out; omega); intro v178 w17 ho hb hg hat; rw [← Ny177.out] at ho; replace HB := zm (hb); have HO179 := zm (ho); clear HO_5; clear ho hb hg hat))
   go_roundg k1
   case measure => have := HK1.out; omega
   case rel => exact ⟨(y177), (wrap64 (x20_1 + 1)), zz, H', ⟨by have := HK1.out; omega⟩, ⟨zP HO179.out⟩, ⟨zb⟩⟩
end Go.Proofs.Ytjdkdbeenggfaaa.PEr
