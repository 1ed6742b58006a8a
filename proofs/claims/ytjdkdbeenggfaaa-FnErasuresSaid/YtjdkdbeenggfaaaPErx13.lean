import Derived.Test.YtjdkdbeenggfaaaPErx0
import Derived.Test.YtjdkdbeenggfaaaPErx1
import Derived.Test.YtjdkdbeenggfaaaPErx3
import Derived.Test.YtjdkdbeenggfaaaPErx5
import Derived.Test.YtjdkdbeenggfaaaPErx6
import Derived.Test.YtjdkdbeenggfaaaPErx9
import Derived.Test.YtjdkdbeenggfaaaPErx11
import Derived.Test.YtjdkdbeenggfaaaPErx12
namespace Go.Proofs.Ytjdkdbeenggfaaa.PEr
open Go.RowKit Go.Proofs.YtjdkdbeenggfaaaW.PrintWords Go.Proofs.YtjdkdbeenggfaaaW.PrintLast Go.Proofs.YtjdkdbeenggfaaaW.PrintMore
attribute [local go_sem] max2_int min2_int max_two min_two max_three min_three max_four min_four   -- for this text's walks alone
set_option linter.unusedVariables false
set_option linter.unusedSimpArgs false
mutual
def o7.l0 : Nat → List ByteArray → Bool → Option (List ByteArray)
  | 0, _, _ => none
  | k + 1, x3, x4 => if x4 = true then (o7.l1 k x3 false 0) else (some x3)
def o7.l1 : Nat → List ByteArray → Bool → Int → Option (List ByteArray)
  | 0, _, _, _ => none
  | k + 1, x3, x4, x5 => (D8.f x3).bind fun t350 => (if x5 < t350 then (o7.j2 k x3 x4 x5 (!x4)) else (o7.j2 k x3 x4 x5 false))
def o7.j2 : Nat → List ByteArray → Bool → Int → Bool → Option (List ByteArray)
  | 0, _, _, _, _ => none
  | k + 1, x3, x4, x5, x19 => if x19 = true then ((J5.f k x3 x5).bind fun t351 => ((Q8.f k t351 63).bind fun t352 => (if t352 = 1 then (o7.l2 k x3 x5 t351 0) else (o7.l1 k x3 x4 (wrap64 (x5 + 1)))))) else (o7.l0 k x3 x4)
def o7.l2 : Nat → List ByteArray → Int → ByteArray → Int → Option (List ByteArray)
  | 0, _, _, _, _ => none
  | k + 1, x3, x5, x6, x7 => if 0 ≤ x7 then (if x7 < (x6.size : Int) then (if (bt x6 x7) = 63 then ((Q8.f k x6 111).bind fun t353 => ((H5.f t353).bind fun t354 => (if x5 < (x3.length : Int) then ((Y2.f x3 x5 x7 t354).bind fun t355 => (o7.l1 k t355 true (wrap64 (x5 + 1)))) else ((Y2.f x3 x7 (wrap64 (x5 - (x3.length : Int))) t354).bind fun t358 => (o7.l1 k t358 true (wrap64 (x5 + 1))))))) else (o7.l2 k x3 x5 x6 (wrap64 (x7 + 1)))) else (none)) else (none)
end
def o7.f (k : Nat) (l0 : List ByteArray) : Option (List ByteArray) := (M5.f l0).bind fun t347 => (o7.l0 k t347 true)
set_option maxHeartbeats 8000000 in
set_option maxRecDepth 100000 in
theorem o7.calls (k : Nat) (A0 : Option Addr) (c0 : Nat) (l0 : List ByteArray) (r : List ByteArray) (w : World) (hr0 : Kd.C Kd.string w A0 l0.length l0) (hc0 : l0.length ≤ c0) (h : o7.f k l0 = some r) :
  Calls Try.prog 86 #[.slice A0 l0.length c0] w fun e w' => ∃ v0_ : Value, e = .returned (v0_) ∧ Kd.R Kd.string 9 w' w.heap.size (fun _ => True) v0_ r ∧ Below w.heap.size w w' := by
 have HR0 := zm hr0;have HC0 := zm hc0;clear hr0 hc0;have HB := zm (Below.refl w.heap.size w);have H : ((M5.f l0).bind fun t347 => (o7.l0 k t347 true)) = some r := h;clear h;obtain ⟨t347, A2, H⟩ := zI H;(try dsimp only at H);have H' := zm H;clear H;go_enter Try.func86, Try.ntmps86;go_wp2_with (first | ((with_reducible refine gate_callee (f := 70) rfl ?_); refine goesA_ (some 10) Try.func70 #[.slice A0 l0.length c0] rfl ?_; (with_reducible refine (M5.calls _ _ l0 t347 _ ?side1 ?side2 A2.out).mono ?_); (case side1 => exact zF HR0.out); (case side2 => exact HC0.out); rintro e w3 ⟨v348, rfl, ho0, hb⟩; refine ⟨_, rfl, ?_⟩; have HO349 := zm (Kd.R_lower ho0 (below_size zb)); replace HB := zm (below_step zb hb); (try clear hb); (try clear ho0)))
 go_loopg [3, 4] k (fun kq v3 v4 w' => ∃ (x3_1 : List ByteArray) (x4_1 : Bool), v4 = .bool x4_1 ∧ Aside0 (o7.l0 kq x3_1 x4_1 = some r) ∧ Aside0 (kq ≤ k) ∧ Aside0 (Kd.R Kd.string 9 w' w.heap.size (fun _ => True) v3 x3_1) ∧ Aside0 (Below w.heap.size w w'))
 case atStart => exact ⟨(t347), (true), zz, H', ⟨Nat.le_refl _⟩, ⟨zP HO349.out⟩, ⟨zb⟩⟩
 case round =>
  clear H';try clear p2
  obtain ⟨x3_1, x4_1, rfl, HA, HK1, HO_3, HB⟩ := hrel;cases gk with
  | zero => exact absurd HA.out (by simp [o7.l0])
  | succ k1 =>
   have H := HA.out;clear HA;simp only [o7.l0] at H;by_cases c4 : x4_1 = true
   rotate_left
   ·
    replace c4 := Bool.eq_false_iff.mpr c4;subst c4;rw [if_neg (show ¬ (false = true) by decide)] at H;obtain rfl := Option.some.inj H;go_wp2;go_ret
    exact ⟨_, zr, zP HO_3.out, zb⟩
   subst c4;rw [if_pos rfl] at H;have H' := zm H;clear H;go_wp2;go_loopg [3, 4, 5] k1 (fun kq v3 v4 v5 w' => ∃ (x3_2 : List ByteArray) (x4_2 : Bool) (x5_2 : Int), v4 = .bool x4_2 ∧ v5 = .int .i64 x5_2 ∧ Aside0 (o7.l1 kq x3_2 x4_2 x5_2 = some r) ∧ Aside0 (kq ≤ k1) ∧ Aside0 (Kd.R Kd.string 9 w' w.heap.size (fun _ => True) v3 x3_2) ∧ Aside0 (Below w.heap.size w w'))
   case atStart => exact ⟨(x3_1), (false), (0), zz, zz, H', ⟨Nat.le_refl _⟩, ⟨zP HO_3.out⟩, ⟨zb⟩⟩
   case round =>
    clear H';(try clear p2); (try clear p2);obtain ⟨x3_2, x4_2, x5_2, rfl, rfl, HA, HK2, HO_3, HB⟩ := hrel;cases gk with
    | zero => exact absurd HA.out (by simp [o7.l1])
    | succ k2 =>
     have H := HA.out;clear HA;simp only [o7.l1] at H;have HC5 := zm H;clear H;go_upto_region 6 with (fail)
     go_cut [19] (fun v19 wc => ∃ (kq : Nat) (x19_4 : Bool), v19 = .bool x19_4 ∧ Aside0 (o7.j2 kq x3_2 x4_2 x5_2 x19_4 = some r) ∧ Aside0 (kq ≤ k2) ∧ Aside0 (Kd.R Kd.string 9 wc w.heap.size (fun _ => True) u3 x3_2) ∧ Aside0 (Below w.heap.size w wc))
     case first =>
      have H := HC5.out;clear HC5;obtain ⟨t350, A6, H⟩ := zI H;(try dsimp only at H);by_cases c7 : x5_2 < t350
      rotate_left
      ·
       rw [if_neg c7] at H;have c7b0 := decide_eq_false c7;clear c7;(first | rw [c7b0] | (simp only [i64_w, i32_w]; rw [c7b0]) | skip);have H' := zm H;clear H;obtain ⟨Ao9, co9, eo9⟩ := Kd.R_slice HO_3.out;subst eo9;go_wp2_with (first | ((with_reducible refine gate_callee (f := 114) rfl ?_); refine goesA_ (some 14) Try.func114 #[.slice Ao9 x3_2.length co9] rfl ?_; (with_reducible refine (D8.calls _ _ x3_2 t350 _ ?side1 ?side2 A6.out).mono ?_); (case side1 => exact (Kd.R_reads' (zP HO_3.out)).2.2); (case side2 => exact (Kd.R_reads' HO_3.out).2.1); rintro e w' ⟨rfl, ⟨nd, rfl⟩⟩; refine ⟨_, rfl, ?_⟩))
       go_meet
       case rel => exact ⟨_, (false), zz, H', ⟨by have := HK1.out; have := HK2.out; first | omega | exact Nat.le_refl _⟩, ⟨zP HO_3.out⟩, ⟨zb⟩⟩
      rw [if_pos c7] at H;have c7b0 := decide_eq_true c7;clear c7;(first | rw [c7b0] | (simp only [i64_w, i32_w]; rw [c7b0]) | skip);have H' := zm H;clear H;obtain ⟨Ao8, co8, eo8⟩ := Kd.R_slice HO_3.out;subst eo8;go_wp2_with (first | ((with_reducible refine gate_callee (f := 114) rfl ?_); refine goesA_ (some 14) Try.func114 #[.slice Ao8 x3_2.length co8] rfl ?_; (with_reducible refine (D8.calls _ _ x3_2 t350 _ ?side1 ?side2 A6.out).mono ?_); (case side1 => exact (Kd.R_reads' (zP HO_3.out)).2.2); (case side2 => exact (Kd.R_reads' HO_3.out).2.1); rintro e w' ⟨rfl, ⟨nd, rfl⟩⟩; refine ⟨_, rfl, ?_⟩))
      go_meet
      case rel => exact ⟨_, (!x4_2), zz, H', ⟨by have := HK1.out; have := HK2.out; first | omega | exact Nat.le_refl _⟩, ⟨zP HO_3.out⟩, ⟨zb⟩⟩
     case rest =>
      clear HC5;(try clear p2); (try clear c7b0); (try clear p2);obtain ⟨kq, x19_4, rfl, HA, HJ4, HO_3, HB⟩ := hcut;cases kq with
      | zero => exact absurd HA.out (by simp [o7.j2])
      | succ kj4 =>
       have H := HA.out;clear HA;simp only [o7.j2] at H;by_cases c10 : x19_4 = true
       rotate_left
       ·
        replace c10 := Bool.eq_false_iff.mpr c10;subst c10;rw [if_neg (show ¬ (false = true) by decide)] at H;have H' := zm H;clear H;go_wp2;go_roundg kj4
        case measure => have := HK1.out; have := HK2.out; have := HJ4.out; omega
        case rel => exact ⟨(x3_2), (x4_2), zz, H', ⟨by have := HK1.out; have := HK2.out; have := HJ4.out; omega⟩, ⟨zP HO_3.out⟩, ⟨zb⟩⟩
       subst c10;rw [if_pos rfl] at H;obtain ⟨t351, A11, H⟩ := zI H;(try dsimp only at H);obtain ⟨t352, A12, H⟩ := zI H;(try dsimp only at H);by_cases c13 : t352 = 1
       rotate_left
       ·
        rw [if_neg c13] at H;have c13b0 : (t352 == 1) = false := beq_eq_false_iff_ne.mpr c13;have c13b1 : (t352 != 1) = true := bne_iff_ne.mpr c13;have H' := zm H;clear H;obtain ⟨Ao26, co26, eo26⟩ := Kd.R_slice HO_3.out;subst eo26;go_wp2_with (first | ((with_reducible refine gate_callee (f := 63) rfl ?_); refine goesA_ (some 24) Try.func63 #[.slice Ao26 x3_2.length co26, .int .i64 x5_2] rfl ?_; (with_reducible refine (J5.calls kj4 _ _ x3_2 x5_2 t351 _ ?side1 ?side2 A11.out).mono ?_); (case side1 => exact (Kd.R_reads' (zP HO_3.out)).2.2); (case side2 => exact (Kd.R_reads' HO_3.out).2.1); rintro e w' ⟨rfl, ⟨nd, rfl⟩⟩; refine ⟨_, rfl, ?_⟩) | ((with_reducible refine gate_callee (f := 62) rfl ?_); refine goesA_ (some 26) Try.func62 #[.string t351, .int .u8 63] rfl ?_; (with_reducible refine (Q8.calls kj4 t351 63 t352 _ A12.out).mono ?_); rintro e w' ⟨rfl, ⟨nd, rfl⟩⟩; refine ⟨_, rfl, ?_⟩))
        go_roundg kj4
        case measure => have := HK1.out; have := HK2.out; have := HJ4.out; omega
        case rel => exact ⟨(x3_2), (x4_2), (wrap64 (x5_2 + 1)), zz, zz, H', ⟨by have := HK1.out; have := HK2.out; have := HJ4.out; omega⟩, ⟨zP HO_3.out⟩, ⟨zb⟩⟩
       rw [if_pos c13] at H;have c13b0 : (t352 == 1) = true := beq_iff_eq.mpr c13;have c13b1 : (t352 != 1) = false := bne_eq_false_iff_eq.mpr c13;clear c13;have H' := zm H;clear H;obtain ⟨Ao14, co14, eo14⟩ := Kd.R_slice HO_3.out;subst eo14;go_wp2_with (first | ((with_reducible refine gate_callee (f := 63) rfl ?_); refine goesA_ (some 24) Try.func63 #[.slice Ao14 x3_2.length co14, .int .i64 x5_2] rfl ?_; (with_reducible refine (J5.calls kj4 _ _ x3_2 x5_2 t351 _ ?side1 ?side2 A11.out).mono ?_); (case side1 => exact (Kd.R_reads' (zP HO_3.out)).2.2); (case side2 => exact (Kd.R_reads' HO_3.out).2.1); rintro e w' ⟨rfl, ⟨nd, rfl⟩⟩; refine ⟨_, rfl, ?_⟩) | ((with_reducible refine gate_callee (f := 62) rfl ?_); refine goesA_ (some 26) Try.func62 #[.string t351, .int .u8 63] rfl ?_; (with_reducible refine (Q8.calls kj4 t351 63 t352 _ A12.out).mono ?_); rintro e w' ⟨rfl, ⟨nd, rfl⟩⟩; refine ⟨_, rfl, ?_⟩))
       go_loopg [7] kj4 (fun kq v7 w' => ∃ (x7_4 : Int), v7 = .int .i64 x7_4 ∧ Aside0 (o7.l2 kq x3_2 x5_2 t351 x7_4 = some r) ∧ Aside0 (kq ≤ kj4) ∧ Aside0 (Kd.R Kd.string 9 w' w.heap.size (fun _ => True) (.slice Ao14 x3_2.length co14) x3_2) ∧ Aside0 (Below w.heap.size w w'))
       case atStart => exact ⟨(0), zz, H', ⟨Nat.le_refl _⟩, ⟨zP HO_3.out⟩, ⟨zb⟩⟩
       case round =>
        clear H';(try clear p2); (try clear p6); (try clear c7b0); (try clear c13b0); (try clear c13b1); (try clear p2);obtain ⟨x7_4, rfl, HA, HK4, HO_3, HB⟩ := hrel;cases gk with
        | zero => exact absurd HA.out (by simp [o7.l2])
        | succ k4 =>
         have H := HA.out;clear HA;simp only [o7.l2] at H;obtain ⟨c15, H⟩ := zJ H;have c15b0 := decide_eq_true c15;clear c15;obtain ⟨c16, H⟩ := zJ H;have c16b0 := decide_eq_true c16;clear c16;by_cases c18 : (bt t351 x7_4) = 63
         rotate_left
         ·
          rw [if_neg c18] at H;have c18b0 : ((bt t351 x7_4) == 63) = false := beq_eq_false_iff_ne.mpr c18;have c18b1 : ((bt t351 x7_4) != 63) = true := bne_iff_ne.mpr c18;have H' := zm H;clear H;have p17 : 0 ≤ (x7_4 : Int) := zd;have q17 : x7_4 < (t351.size : Int) := zd;have hx17 := bt_at t351 x7_4;replace p17 := eq_true p17;replace q17 := eq_true q17;go_wp2;go_roundg k4
          case measure => have := HK1.out; have := HK2.out; have := HJ4.out; have := HK4.out; omega
          case rel => exact ⟨(wrap64 (x7_4 + 1)), zz, H', ⟨by have := HK1.out; have := HK2.out; have := HJ4.out; have := HK4.out; omega⟩, ⟨zP HO_3.out⟩, ⟨zb⟩⟩
         rw [if_pos c18] at H;have c18b0 : ((bt t351 x7_4) == 63) = true := beq_iff_eq.mpr c18;have c18b1 : ((bt t351 x7_4) != 63) = false := bne_eq_false_iff_eq.mpr c18;clear c18;obtain ⟨t353, A19, H⟩ := zI H;(try dsimp only at H);obtain ⟨t354, A20, H⟩ := zI H;(try dsimp only at H);by_cases c21 : x5_2 < (x3_2.length : Int)
         rotate_left
         ·
          rw [if_neg c21] at H;have c21b0 := decide_eq_false c21;clear c21;obtain ⟨t358, A24, H⟩ := zI H;(try dsimp only at H);have H' := zm H;clear H;have p17 : 0 ≤ (x7_4 : Int) := zd;have q17 : x7_4 < (t351.size : Int) := zd;have hx17 := bt_at t351 x7_4;replace p17 := eq_true p17;replace q17 := eq_true q17;go_wp2_with (first | ((with_reducible refine gate_callee (f := 62) rfl ?_); refine goesA_ (some 35) Try.func62 #[.string t351, .int .u8 111] rfl ?_; (with_reducible refine (Q8.calls k4 t351 111 t353 _ A19.out).mono ?_); rintro e w' ⟨rfl, ⟨nd, rfl⟩⟩; refine ⟨_, rfl, ?_⟩) | ((with_reducible refine gate_callee (f := 61) rfl ?_); refine goesA_ (some 36) Try.func61 #[.int .i64 t353] rfl ?_; (with_reducible refine (H5.calls t353 t354 _ A20.out).mono ?_); rintro e w' ⟨rfl, ⟨nd, rfl⟩⟩; refine ⟨_, rfl, ?_⟩) | ((with_reducible refine gate_callee (f := 72) rfl ?_); refine goesA_ (some 53) Try.func72 #[.slice Ao14 x3_2.length co14, .int .i64 x7_4, .int .i64 (wrap64 (x5_2 - (x3_2.length : Int))), .string t354] rfl ?_; (with_reducible refine (Y2.calls _ _ x3_2 x7_4 (wrap64 (x5_2 - (x3_2.length : Int))) t354 t358 _ ?side1 ?side2 A24.out).mono ?_); (case side1 => exact (Kd.R_reads' (zP HO_3.out)).2.2); (case side2 => exact (Kd.R_reads' HO_3.out).2.1); rintro e w25 ⟨v359, rfl, ho0, hb⟩; refine ⟨_, rfl, ?_⟩; have n0_ := zm (Kd.R_elder' (zP HO_3.out) (Kd.R_base ho0) hb); have HO360 := zm (Kd.R_lower (Kd.R_new' ho0 (Kd.R_lt (zP HO_3.out))) (below_size zb)); replace HB := zm (below_step zb hb); replace HO_3 := n0_; clear n0_; (try clear hb); (try clear ho0)))
          go_roundg k4
          case measure => have := HK1.out; have := HK2.out; have := HJ4.out; have := HK4.out; omega
          case rel => exact ⟨(t358), (true), (wrap64 (x5_2 + 1)), zz, zz, H', ⟨by have := HK1.out; have := HK2.out; have := HJ4.out; have := HK4.out; omega⟩, ⟨zP (Kd.R_mono HO360.out (fun _ hk => trivial))⟩, ⟨zb⟩⟩
         rw [if_pos c21] at H;have c21b0 := decide_eq_true c21;clear c21;obtain ⟨t355, A22, H⟩ := zI H;(try dsimp only at H);have H' := zm H;clear H;have p17 : 0 ≤ (x7_4 : Int) := zd;have q17 : x7_4 < (t351.size : Int) := zd;have hx17 := bt_at t351 x7_4;replace p17 := eq_true p17;replace q17 := eq_true q17;go_wp2_with (first | ((with_reducible refine gate_callee (f := 62) rfl ?_); refine goesA_ (some 35) Try.func62 #[.string t351, .int .u8 111] rfl ?_; (with_reducible refine (Q8.calls k4 t351 111 t353 _ A19.out).mono ?_); rintro e w' ⟨rfl, ⟨nd, rfl⟩⟩; refine ⟨_, rfl, ?_⟩) | ((with_reducible refine gate_callee (f := 61) rfl ?_); refine goesA_ (some 36) Try.func61 #[.int .i64 t353] rfl ?_; (with_reducible refine (H5.calls t353 t354 _ A20.out).mono ?_); rintro e w' ⟨rfl, ⟨nd, rfl⟩⟩; refine ⟨_, rfl, ?_⟩) | ((with_reducible refine gate_callee (f := 72) rfl ?_); refine goesA_ (some 45) Try.func72 #[.slice Ao14 x3_2.length co14, .int .i64 x5_2, .int .i64 x7_4, .string t354] rfl ?_; (with_reducible refine (Y2.calls _ _ x3_2 x5_2 x7_4 t354 t355 _ ?side1 ?side2 A22.out).mono ?_); (case side1 => exact (Kd.R_reads' (zP HO_3.out)).2.2); (case side2 => exact (Kd.R_reads' HO_3.out).2.1); rintro e w23 ⟨v356, rfl, ho0, hb⟩; refine ⟨_, rfl, ?_⟩; have n0_ := zm (Kd.R_elder' (zP HO_3.out) (Kd.R_base ho0) hb); have HO357 := zm (Kd.R_lower (Kd.R_new' ho0 (Kd.R_lt (zP HO_3.out))) (below_size zb)); replace HB := zm (below_step zb hb); replace HO_3 := n0_; clear n0_; (try clear hb); (try clear ho0)))
         go_roundg k4
         case measure => have := HK1.out; have := HK2.out; have := HJ4.out; have := HK4.out; omega
         case rel => exact ⟨(t355), (true), (wrap64 (x5_2 + 1)), zz, zz, H', ⟨by have := HK1.out; have := HK2.out; have := HJ4.out; have := HK4.out; omega⟩, ⟨zP (Kd.R_mono HO357.out (fun _ hk => trivial))⟩, ⟨zb⟩⟩
def Z5.f (k : Nat) (l0 : List ByteArray) : Option (List ByteArray × Bool) := (Y7.f k l0).bind fun t361 => (if t361 = true then ((Q3.f k l0).bind fun t362 => (if t362 = 0 then ((o7.f k l0).bind fun t363 => (some (t363, true))) else (some (([] : List ByteArray), false)))) else (some (([] : List ByteArray), false)))
set_option maxHeartbeats 8000000 in
set_option maxRecDepth 100000 in
theorem Z5.calls (k : Nat) (A0 : Option Addr) (c0 : Nat) (l0 : List ByteArray) (r1 : List ByteArray) (r2 : Bool) (w : World) (hr0 : Kd.C Kd.string w A0 l0.length l0) (hc0 : l0.length ≤ c0) (h : Z5.f k l0 = some (r1, r2)) :
  Calls Try.prog 33 #[.slice A0 l0.length c0] w fun e w' => ∃ v0_ : Value, e = .returned (.tuple #[v0_, .bool r2]) ∧ Kd.R Kd.string 9 w' w.heap.size (fun _ => True) v0_ r1 ∧ Below w.heap.size w w' := by
 have HR0 := zm hr0;have HC0 := zm hc0;clear hr0 hc0;have HB := zm (Below.refl w.heap.size w);have H : ((Y7.f k l0).bind fun t361 => (if t361 = true then ((Q3.f k l0).bind fun t362 => (if t362 = 0 then ((o7.f k l0).bind fun t363 => (some (t363, true))) else (some (([] : List ByteArray), false)))) else (some (([] : List ByteArray), false)))) = some (r1, r2) := h;clear h;obtain ⟨t361, A2, H⟩ := zI H;(try dsimp only at H);by_cases c3 : t361 = true
 rotate_left
 ·
  replace c3 := Bool.eq_false_iff.mpr c3;subst c3;rw [if_neg (show ¬ (false = true) by decide)] at H;simp only [Option.some.injEq, Prod.mk.injEq] at H;obtain ⟨rfl, rfl⟩ := H;go_enter Try.func33, Try.ntmps33;go_wp2_with (first | ((with_reducible refine gate_callee (f := 68) rfl ?_); refine goesA_ (some 5) Try.func68 #[.slice A0 l0.length c0] rfl ?_; (with_reducible refine (Y7.calls k _ _ l0 false _ ?side1 ?side2 A2.out).mono ?_); (case side1 => exact zF HR0.out); (case side2 => exact HC0.out); rintro e w' ⟨rfl, ⟨nd, rfl⟩⟩; refine ⟨_, rfl, ?_⟩))
  go_ret2
  exact ⟨_, zr, by first | exact Kd.R_nil _ _ _ _ _ | exact Kd.N_nil _ _ _ _ _ | exact Kd.V_nil _ _ _ _ _ | exact Kd.Q_nil _ _ _ _ _ | exact Kd.S_nil _ _ _ _ _, zb⟩
 subst c3;rw [if_pos rfl] at H;obtain ⟨t362, A4, H⟩ := zI H;(try dsimp only at H);by_cases c5 : t362 = 0
 rotate_left
 ·
  rw [if_neg c5] at H;have c5b0 : (t362 == 0) = false := beq_eq_false_iff_ne.mpr c5;have c5b1 : (t362 != 0) = true := bne_iff_ne.mpr c5;simp only [Option.some.injEq, Prod.mk.injEq] at H;obtain ⟨rfl, rfl⟩ := H;go_enter Try.func33, Try.ntmps33;go_wp2_with (first | ((with_reducible refine gate_callee (f := 68) rfl ?_); refine goesA_ (some 5) Try.func68 #[.slice A0 l0.length c0] rfl ?_; (with_reducible refine (Y7.calls k _ _ l0 true _ ?side1 ?side2 A2.out).mono ?_); (case side1 => exact zF HR0.out); (case side2 => exact HC0.out); rintro e w' ⟨rfl, ⟨nd, rfl⟩⟩; refine ⟨_, rfl, ?_⟩) | (go_at_call 85; (with_reducible refine (Q3.calls k _ _ l0 t362 _ ?side1 ?side2 A4.out).mono ?_); (case side1 => exact zF HR0.out); (case side2 => exact HC0.out); rintro e w9 ⟨rfl, hb⟩; replace HB := zm (below_step zb hb); (try clear hb)))
  go_ret2
  exact ⟨_, zr, by first | exact Kd.R_nil _ _ _ _ _ | exact Kd.N_nil _ _ _ _ _ | exact Kd.V_nil _ _ _ _ _ | exact Kd.Q_nil _ _ _ _ _ | exact Kd.S_nil _ _ _ _ _, zb⟩
 rw [if_pos c5] at H;have c5b0 : (t362 == 0) = true := beq_iff_eq.mpr c5;have c5b1 : (t362 != 0) = false := bne_eq_false_iff_eq.mpr c5;clear c5;obtain ⟨t363, A6, H⟩ := zI H;(try dsimp only at H);simp only [Option.some.injEq, Prod.mk.injEq] at H;obtain ⟨rfl, rfl⟩ := H;go_enter Try.func33, Try.ntmps33;go_wp2_with (first | ((with_reducible refine gate_callee (f := 68) rfl ?_); refine goesA_ (some 5) Try.func68 #[.slice A0 l0.length c0] rfl ?_; (with_reducible refine (Y7.calls k _ _ l0 true _ ?side1 ?side2 A2.out).mono ?_); (case side1 => exact zF HR0.out); (case side2 => exact HC0.out); rintro e w' ⟨rfl, ⟨nd, rfl⟩⟩; refine ⟨_, rfl, ?_⟩) | (go_at_call 85; (with_reducible refine (Q3.calls k _ _ l0 t362 _ ?side1 ?side2 A4.out).mono ?_); (case side1 => exact zF HR0.out); (case side2 => exact HC0.out); rintro e w7 ⟨rfl, hb⟩; replace HB := zm (below_step zb hb); (try clear hb)) | ((with_reducible refine gate_callee (f := 86) rfl ?_); refine goesA_ (some 13) Try.func86 #[.slice A0 l0.length c0] rfl ?_; (with_reducible refine (o7.calls k _ _ l0 t363 _ ?side1 ?side2 A6.out).mono ?_); (case side1 => exact zC HR0.out); (case side2 => exact HC0.out); rintro e w8 ⟨v364, rfl, ho0, hb⟩; refine ⟨_, rfl, ?_⟩; have HO365 := zm (Kd.R_lower ho0 (below_size zb)); replace HB := zm (below_step zb hb); (try clear hb); (try clear ho0)))
 go_ret2
 exact ⟨_, zr, zP HO365.out, zb⟩
def Y6.f (k : Nat) (l0 : List ByteArray) : Option (Int × Bool) := (J3.f k l0).bind fun t366 => (if t366 = true then ((y7.f k l0).bind fun t367 => (if t367 < 0 then (some (0, false)) else (some (t367, true)))) else (some (0, false)))
set_option maxHeartbeats 8000000 in
set_option maxRecDepth 100000 in
theorem Y6.calls (k : Nat) (A0 : Option Addr) (c0 : Nat) (l0 : List ByteArray) (r1 : Int) (r2 : Bool) (w : World) (hr0 : Kd.C Kd.string w A0 l0.length l0) (hc0 : l0.length ≤ c0) (h : Y6.f k l0 = some (r1, r2)) :
  Calls Try.prog 34 #[.slice A0 l0.length c0] w fun e w' => e = .returned (.tuple #[.int .i64 r1, .bool r2]) ∧ Below w.heap.size w w' := by
 have HR0 := zm hr0;have HC0 := zm hc0;clear hr0 hc0;have HB := zm (Below.refl w.heap.size w);have H : ((J3.f k l0).bind fun t366 => (if t366 = true then ((y7.f k l0).bind fun t367 => (if t367 < 0 then (some (0, false)) else (some (t367, true)))) else (some (0, false)))) = some (r1, r2) := h;clear h;obtain ⟨t366, A2, H⟩ := zI H;(try dsimp only at H);by_cases c3 : t366 = true
 rotate_left
 ·
  replace c3 := Bool.eq_false_iff.mpr c3;subst c3;rw [if_neg (show ¬ (false = true) by decide)] at H;simp only [Option.some.injEq, Prod.mk.injEq] at H;obtain ⟨rfl, rfl⟩ := H;go_enter Try.func34, Try.ntmps34;go_wp2_with (first | ((with_reducible refine gate_callee (f := 21) rfl ?_); refine goesA_ (some 6) Try.func21 #[.slice A0 l0.length c0] rfl ?_; (with_reducible refine (J3.calls k _ _ l0 false _ ?side1 ?side2 A2.out).mono ?_); (case side1 => exact zF HR0.out); (case side2 => exact HC0.out); rintro e w' ⟨rfl, ⟨nd, rfl⟩⟩; refine ⟨_, rfl, ?_⟩))
  go_ret2
  exact ⟨zr, zb⟩
 subst c3;rw [if_pos rfl] at H;obtain ⟨t367, A4, H⟩ := zI H;(try dsimp only at H);by_cases c5 : t367 < 0
 rotate_left
 ·
  rw [if_neg c5] at H;have c5b0 := decide_eq_false c5;clear c5;simp only [Option.some.injEq, Prod.mk.injEq] at H;obtain ⟨rfl, rfl⟩ := H;go_enter Try.func34, Try.ntmps34;go_wp2_with (first | ((with_reducible refine gate_callee (f := 21) rfl ?_); refine goesA_ (some 6) Try.func21 #[.slice A0 l0.length c0] rfl ?_; (with_reducible refine (J3.calls k _ _ l0 true _ ?side1 ?side2 A2.out).mono ?_); (case side1 => exact zF HR0.out); (case side2 => exact HC0.out); rintro e w' ⟨rfl, ⟨nd, rfl⟩⟩; refine ⟨_, rfl, ?_⟩) | ((with_reducible refine gate_callee (f := 83) rfl ?_); refine goesA_ (some 9) Try.func83 #[.slice A0 l0.length c0] rfl ?_; (with_reducible refine (y7.calls k _ _ l0 t367 _ ?side1 ?side2 A4.out).mono ?_); (case side1 => exact zF HR0.out); (case side2 => exact HC0.out); rintro e w7 ⟨rfl, hb⟩; refine ⟨_, rfl, ?_⟩; replace HB := zm (below_step zb hb); (try clear hb)))
  go_ret2
  exact ⟨zr, zb⟩
 rw [if_pos c5] at H;have c5b0 := decide_eq_true c5;clear c5;simp only [Option.some.injEq, Prod.mk.injEq] at H;obtain ⟨rfl, rfl⟩ := H;go_enter Try.func34, Try.ntmps34;go_wp2_with (first | ((with_reducible refine gate_callee (f := 21) rfl ?_); refine goesA_ (some 6) Try.func21 #[.slice A0 l0.length c0] rfl ?_; (with_reducible refine (J3.calls k _ _ l0 true _ ?side1 ?side2 A2.out).mono ?_); (case side1 => exact zF HR0.out); (case side2 => exact HC0.out); rintro e w' ⟨rfl, ⟨nd, rfl⟩⟩; refine ⟨_, rfl, ?_⟩) | ((with_reducible refine gate_callee (f := 83) rfl ?_); refine goesA_ (some 9) Try.func83 #[.slice A0 l0.length c0] rfl ?_; (with_reducible refine (y7.calls k _ _ l0 t367 _ ?side1 ?side2 A4.out).mono ?_); (case side1 => exact zF HR0.out); (case side2 => exact HC0.out); rintro e w6 ⟨rfl, hb⟩; refine ⟨_, rfl, ?_⟩; replace HB := zm (below_step zb hb); (try clear hb)))
 go_ret2
 exact ⟨zr, zb⟩
def Y3.f (k : Nat) (l0 : List ByteArray) : Option (Int × Bool) := (Y7.f k l0).bind fun t368 => (if t368 = true then ((Q3.f k l0).bind fun t369 => (if t369 < 0 then (some (0, false)) else ((Q3.f k l0).bind fun t370 => (some (t370, true))))) else (some (0, false)))
set_option maxHeartbeats 8000000 in
set_option maxRecDepth 100000 in
theorem Y3.calls (k : Nat) (A0 : Option Addr) (c0 : Nat) (l0 : List ByteArray) (r1 : Int) (r2 : Bool) (w : World) (hr0 : Kd.C Kd.string w A0 l0.length l0) (hc0 : l0.length ≤ c0) (h : Y3.f k l0 = some (r1, r2)) :
  Calls Try.prog 35 #[.slice A0 l0.length c0] w fun e w' => e = .returned (.tuple #[.int .i64 r1, .bool r2]) ∧ Below w.heap.size w w' := by
 have HR0 := zm hr0;have HC0 := zm hc0;clear hr0 hc0;have HB := zm (Below.refl w.heap.size w);have H : ((Y7.f k l0).bind fun t368 => (if t368 = true then ((Q3.f k l0).bind fun t369 => (if t369 < 0 then (some (0, false)) else ((Q3.f k l0).bind fun t370 => (some (t370, true))))) else (some (0, false)))) = some (r1, r2) := h;clear h;obtain ⟨t368, A2, H⟩ := zI H;(try dsimp only at H);by_cases c3 : t368 = true
 rotate_left
 ·
  replace c3 := Bool.eq_false_iff.mpr c3;subst c3;rw [if_neg (show ¬ (false = true) by decide)] at H;simp only [Option.some.injEq, Prod.mk.injEq] at H;obtain ⟨rfl, rfl⟩ := H;go_enter Try.func35, Try.ntmps35;go_wp2_with (first | ((with_reducible refine gate_callee (f := 68) rfl ?_); refine goesA_ (some 5) Try.func68 #[.slice A0 l0.length c0] rfl ?_; (with_reducible refine (Y7.calls k _ _ l0 false _ ?side1 ?side2 A2.out).mono ?_); (case side1 => exact zF HR0.out); (case side2 => exact HC0.out); rintro e w' ⟨rfl, ⟨nd, rfl⟩⟩; refine ⟨_, rfl, ?_⟩))
  go_ret2
  exact ⟨zr, zb⟩
 subst c3;rw [if_pos rfl] at H;obtain ⟨t369, A4, H⟩ := zI H;(try dsimp only at H);by_cases c5 : t369 < 0
 ·
  rw [if_pos c5] at H;have c5b0 := decide_eq_true c5;clear c5;simp only [Option.some.injEq, Prod.mk.injEq] at H;obtain ⟨rfl, rfl⟩ := H;go_enter Try.func35, Try.ntmps35;go_wp2_with (first | ((with_reducible refine gate_callee (f := 68) rfl ?_); refine goesA_ (some 5) Try.func68 #[.slice A0 l0.length c0] rfl ?_; (with_reducible refine (Y7.calls k _ _ l0 true _ ?side1 ?side2 A2.out).mono ?_); (case side1 => exact zF HR0.out); (case side2 => exact HC0.out); rintro e w' ⟨rfl, ⟨nd, rfl⟩⟩; refine ⟨_, rfl, ?_⟩) | (go_at_call 85; (with_reducible refine (Q3.calls k _ _ l0 t369 _ ?side1 ?side2 A4.out).mono ?_); (case side1 => exact zF HR0.out); (case side2 => exact HC0.out); rintro e w6 ⟨rfl, hb⟩; replace HB := zm (below_step zb hb); (try clear hb)))
  go_ret2
  exact ⟨zr, zb⟩
 rw [if_neg c5] at H;have c5b0 := decide_eq_false c5;clear c5;obtain ⟨t370, A7, H⟩ := zI H;(try dsimp only at H);simp only [Option.some.injEq, Prod.mk.injEq] at H;obtain ⟨rfl, rfl⟩ := H;go_enter Try.func35, Try.ntmps35;go_wp2_with (first | ((with_reducible refine gate_callee (f := 68) rfl ?_); refine goesA_ (some 5) Try.func68 #[.slice A0 l0.length c0] rfl ?_; (with_reducible refine (Y7.calls k _ _ l0 true _ ?side1 ?side2 A2.out).mono ?_); (case side1 => exact zF HR0.out); (case side2 => exact HC0.out); rintro e w' ⟨rfl, ⟨nd, rfl⟩⟩; refine ⟨_, rfl, ?_⟩) | (go_at_call 85; (with_reducible refine (Q3.calls k _ _ l0 t369 _ ?side1 ?side2 A4.out).mono ?_); (case side1 => exact zF HR0.out); (case side2 => exact HC0.out); rintro e w8 ⟨rfl, hb⟩; replace HB := zm (below_step zb hb); (try clear hb)) | ((with_reducible refine gate_callee (f := 85) rfl ?_); refine goesA_ (some 13) Try.func85 #[.slice A0 l0.length c0] rfl ?_; (with_reducible refine (Q3.calls k _ _ l0 t370 _ ?side1 ?side2 A7.out).mono ?_); (case side1 => exact zC HR0.out); (case side2 => exact HC0.out); rintro e w9 ⟨rfl, hb⟩; refine ⟨_, rfl, ?_⟩; replace HB := zm (below_step zb hb); (try clear hb)))
 go_ret2
 exact ⟨zr, zb⟩
def Y8.f (k : Nat) (l0 : List ByteArray) : Option (List ByteArray × Bool) := (J3.f k l0).bind fun t371 => (if t371 = true then ((J6.f k l0).bind fun t372 => (some (t372, true))) else (some (([] : List ByteArray), false)))
set_option maxHeartbeats 8000000 in
set_option maxRecDepth 100000 in
theorem Y8.calls (k : Nat) (A0 : Option Addr) (c0 : Nat) (l0 : List ByteArray) (r1 : List ByteArray) (r2 : Bool) (w : World) (hr0 : Kd.C Kd.string w A0 l0.length l0) (hc0 : l0.length ≤ c0) (h : Y8.f k l0 = some (r1, r2)) :
  Calls Try.prog 36 #[.slice A0 l0.length c0] w fun e w' => ∃ v0_ : Value, e = .returned (.tuple #[v0_, .bool r2]) ∧ Kd.R Kd.string 9 w' w.heap.size (fun _ => True) v0_ r1 ∧ Below w.heap.size w w' := by
 have HR0 := zm hr0;have HC0 := zm hc0;clear hr0 hc0;have HB := zm (Below.refl w.heap.size w);have H : ((J3.f k l0).bind fun t371 => (if t371 = true then ((J6.f k l0).bind fun t372 => (some (t372, true))) else (some (([] : List ByteArray), false)))) = some (r1, r2) := h;clear h;obtain ⟨t371, A2, H⟩ := zI H;(try dsimp only at H);by_cases c3 : t371 = true
 rotate_left
 ·
  replace c3 := Bool.eq_false_iff.mpr c3;subst c3;rw [if_neg (show ¬ (false = true) by decide)] at H;simp only [Option.some.injEq, Prod.mk.injEq] at H;obtain ⟨rfl, rfl⟩ := H;go_enter Try.func36, Try.ntmps36;go_wp2_with (first | ((with_reducible refine gate_callee (f := 21) rfl ?_); refine goesA_ (some 5) Try.func21 #[.slice A0 l0.length c0] rfl ?_; (with_reducible refine (J3.calls k _ _ l0 false _ ?side1 ?side2 A2.out).mono ?_); (case side1 => exact zF HR0.out); (case side2 => exact HC0.out); rintro e w' ⟨rfl, ⟨nd, rfl⟩⟩; refine ⟨_, rfl, ?_⟩))
  go_ret2
  exact ⟨_, zr, by first | exact Kd.R_nil _ _ _ _ _ | exact Kd.N_nil _ _ _ _ _ | exact Kd.V_nil _ _ _ _ _ | exact Kd.Q_nil _ _ _ _ _ | exact Kd.S_nil _ _ _ _ _, zb⟩
 subst c3;rw [if_pos rfl] at H;obtain ⟨t372, A4, H⟩ := zI H;(try dsimp only at H);simp only [Option.some.injEq, Prod.mk.injEq] at H;obtain ⟨rfl, rfl⟩ := H;go_enter Try.func36, Try.ntmps36;go_wp2_with (first | ((with_reducible refine gate_callee (f := 21) rfl ?_); refine goesA_ (some 5) Try.func21 #[.slice A0 l0.length c0] rfl ?_; (with_reducible refine (J3.calls k _ _ l0 true _ ?side1 ?side2 A2.out).mono ?_); (case side1 => exact zF HR0.out); (case side2 => exact HC0.out); rintro e w' ⟨rfl, ⟨nd, rfl⟩⟩; refine ⟨_, rfl, ?_⟩) | ((with_reducible refine gate_callee (f := 84) rfl ?_); refine goesA_ (some 8) Try.func84 #[.slice A0 l0.length c0] rfl ?_; (with_reducible refine (J6.calls k _ _ l0 t372 _ ?side1 ?side2 A4.out).mono ?_); (case side1 => exact zF HR0.out); (case side2 => exact HC0.out); rintro e w5 ⟨v373, rfl, ho0, hb⟩; refine ⟨_, rfl, ?_⟩; have HO374 := zm (Kd.R_lower ho0 (below_size zb)); replace HB := zm (below_step zb hb); (try clear hb); (try clear ho0)))
 go_ret2
 exact ⟨_, zr, zP HO374.out, zb⟩
def K8.f (k : Nat) (l0 : List ByteArray) : Option (List ByteArray × Bool) := (Y7.f k l0).bind fun t375 => (if t375 = true then ((o7.f k l0).bind fun t376 => (some (t376, true))) else (some (([] : List ByteArray), false)))
set_option maxHeartbeats 8000000 in
set_option maxRecDepth 100000 in
theorem K8.calls (k : Nat) (A0 : Option Addr) (c0 : Nat) (l0 : List ByteArray) (r1 : List ByteArray) (r2 : Bool) (w : World) (hr0 : Kd.C Kd.string w A0 l0.length l0) (hc0 : l0.length ≤ c0) (h : K8.f k l0 = some (r1, r2)) :
  Calls Try.prog 37 #[.slice A0 l0.length c0] w fun e w' => ∃ v0_ : Value, e = .returned (.tuple #[v0_, .bool r2]) ∧ Kd.R Kd.string 9 w' w.heap.size (fun _ => True) v0_ r1 ∧ Below w.heap.size w w' := by
 have HR0 := zm hr0;have HC0 := zm hc0;clear hr0 hc0;have HB := zm (Below.refl w.heap.size w);have H : ((Y7.f k l0).bind fun t375 => (if t375 = true then ((o7.f k l0).bind fun t376 => (some (t376, true))) else (some (([] : List ByteArray), false)))) = some (r1, r2) := h;clear h;obtain ⟨t375, A2, H⟩ := zI H;(try dsimp only at H);by_cases c3 : t375 = true
 rotate_left
 ·
  replace c3 := Bool.eq_false_iff.mpr c3;subst c3;rw [if_neg (show ¬ (false = true) by decide)] at H;simp only [Option.some.injEq, Prod.mk.injEq] at H;obtain ⟨rfl, rfl⟩ := H;go_enter Try.func37, Try.ntmps37;go_wp2_with (first | ((with_reducible refine gate_callee (f := 68) rfl ?_); refine goesA_ (some 5) Try.func68 #[.slice A0 l0.length c0] rfl ?_; (with_reducible refine (Y7.calls k _ _ l0 false _ ?side1 ?side2 A2.out).mono ?_); (case side1 => exact zF HR0.out); (case side2 => exact HC0.out); rintro e w' ⟨rfl, ⟨nd, rfl⟩⟩; refine ⟨_, rfl, ?_⟩))
  go_ret2
  exact ⟨_, zr, by first | exact Kd.R_nil _ _ _ _ _ | exact Kd.N_nil _ _ _ _ _ | exact Kd.V_nil _ _ _ _ _ | exact Kd.Q_nil _ _ _ _ _ | exact Kd.S_nil _ _ _ _ _, zb⟩
 subst c3;rw [if_pos rfl] at H;obtain ⟨t376, A4, H⟩ := zI H;(try dsimp only at H);simp only [Option.some.injEq, Prod.mk.injEq] at H;obtain ⟨rfl, rfl⟩ := H;go_enter Try.func37, Try.ntmps37;go_wp2_with (first | ((with_reducible refine gate_callee (f := 68) rfl ?_); refine goesA_ (some 5) Try.func68 #[.slice A0 l0.length c0] rfl ?_; (with_reducible refine (Y7.calls k _ _ l0 true _ ?side1 ?side2 A2.out).mono ?_); (case side1 => exact zF HR0.out); (case side2 => exact HC0.out); rintro e w' ⟨rfl, ⟨nd, rfl⟩⟩; refine ⟨_, rfl, ?_⟩) | ((with_reducible refine gate_callee (f := 86) rfl ?_); refine goesA_ (some 8) Try.func86 #[.slice A0 l0.length c0] rfl ?_; (with_reducible refine (o7.calls k _ _ l0 t376 _ ?side1 ?side2 A4.out).mono ?_); (case side1 => exact zF HR0.out); (case side2 => exact HC0.out); rintro e w5 ⟨v377, rfl, ho0, hb⟩; refine ⟨_, rfl, ?_⟩; have HO378 := zm (Kd.R_lower ho0 (below_size zb)); replace HB := zm (below_step zb hb); (try clear hb); (try clear ho0)))
 go_ret2
 exact ⟨_, zr, zP HO378.out, zb⟩
def strings_Count.f (a0 a1 : ByteArray) : Option (Int) := if a1.size = 1 then some ((Go.Lib.countByte a0.data.toList a1.data[0]! : Nat) : Int) else none
theorem strings_Count.calls (a0 a1 : ByteArray) (r : Int) (w : World) (h : strings_Count.f a0 a1 = some r) :
    Calls Try.prog 125 #[.string a0, .string a1] w fun e w' => e = .returned (.int .i64 r) ∧ Drawn0 w w' :=
  Lib.Count_calls a0 a1 r w h
end Go.Proofs.Ytjdkdbeenggfaaa.PEr
