import Derived.Test.YtkfledgkhgcicaaGreatPFgx0
import Derived.Test.YtkfledgkhgcicaaGreatPFgx8
namespace Go.Proofs.YtkfledgkhgcicaaGreat.PFg
open Go.RowKit Go.Proofs.YtkfledgkhgcicaaGreatW.PrintWords Go.Proofs.YtkfledgkhgcicaaGreatW.PrintLast Go.Proofs.YtkfledgkhgcicaaGreatW.PrintMore
attribute [local go_sem] P8 P5 E5 E8 M4 M0 P6 P7   -- for this text's walks alone
set_option linter.unusedVariables false
set_option linter.unusedSimpArgs false
def cmp_isNaN_int.f (a0 : Int) : Option (Bool) := some (a0 != a0)
set_option maxHeartbeats 8000000 in
set_option maxRecDepth 100000 in
theorem cmp_isNaN_int.calls (a0 : Int) (r : Bool) (w : World) (h : cmp_isNaN_int.f a0 = some r) :
  Calls Tryz.prog 84 #[.int .i64 a0] w fun e w' => e = .returned (.bool r) ∧ G6 w w' := by
 have H : (some (a0 != a0)) = some r := h;clear h;obtain rfl := Option.some.inj H;go_enter Tryz.func84, Tryz.ntmps84;go_wp2;go_ret
 exact ⟨zz, zw⟩
def cmp_Compare_int.f (a0 : Int) (a1 : Int) : Option (Int) := (cmp_isNaN_int.f a0).bind fun t280 => ((cmp_isNaN_int.f a1).bind fun t281 => (if t280 = true then (if t281 = true then (some 0) else (some (-1))) else (if t281 = true then (some 1) else (if a0 < a1 then (some (-1)) else (if a0 > a1 then (some 1) else (some 0))))))
set_option maxHeartbeats 8000000 in
set_option maxRecDepth 100000 in
theorem cmp_Compare_int.calls (a0 : Int) (a1 : Int) (r : Int) (w : World) (h : cmp_Compare_int.f a0 a1 = some r) :
  Calls Tryz.prog 68 #[.int .i64 a0, .int .i64 a1] w fun e w' => e = .returned (.int .i64 r) ∧ G6 w w' := by
 have H : ((cmp_isNaN_int.f a0).bind fun t280 => ((cmp_isNaN_int.f a1).bind fun t281 => (if t280 = true then (if t281 = true then (some 0) else (some (-1))) else (if t281 = true then (some 1) else (if a0 < a1 then (some (-1)) else (if a0 > a1 then (some 1) else (some 0))))))) = some r := h;clear h;obtain ⟨t280, A3, H⟩ := zI H;(try dsimp only at H);obtain ⟨t281, A4, H⟩ := zI H;(try dsimp only at H);by_cases c5 : t280 = true
 ·
  subst c5;rw [if_pos rfl] at H;by_cases c6 : t281 = true
  ·
   subst c6;rw [if_pos rfl] at H;obtain rfl := Option.some.inj H;go_enter Tryz.func68, Tryz.ntmps68;go_wp2_with (first | ((with_reducible refine y7 (f := 84) rfl ?_); refine o7 (some 8) Tryz.func84 #[.int .i64 a0] rfl ?_; (with_reducible refine (cmp_isNaN_int.calls a0 true _ A3.out).mono ?_); rintro e w' ⟨rfl, ⟨nd, rfl⟩⟩; refine ⟨_, rfl, ?_⟩) | ((with_reducible refine y7 (f := 84) rfl ?_); refine o7 (some 10) Tryz.func84 #[.int .i64 a1] rfl ?_; (with_reducible refine (cmp_isNaN_int.calls a1 true _ A4.out).mono ?_); rintro e w' ⟨rfl, ⟨nd, rfl⟩⟩; refine ⟨_, rfl, ?_⟩))
   go_ret
   exact ⟨zz, zw⟩
  replace c6 := Bool.eq_false_iff.mpr c6;subst c6;rw [if_neg (show ¬ (false = true) by decide)] at H;obtain rfl := Option.some.inj H;go_enter Tryz.func68, Tryz.ntmps68;go_wp2_with (first | ((with_reducible refine y7 (f := 84) rfl ?_); refine o7 (some 8) Tryz.func84 #[.int .i64 a0] rfl ?_; (with_reducible refine (cmp_isNaN_int.calls a0 true _ A3.out).mono ?_); rintro e w' ⟨rfl, ⟨nd, rfl⟩⟩; refine ⟨_, rfl, ?_⟩) | ((with_reducible refine y7 (f := 84) rfl ?_); refine o7 (some 10) Tryz.func84 #[.int .i64 a1] rfl ?_; (with_reducible refine (cmp_isNaN_int.calls a1 false _ A4.out).mono ?_); rintro e w' ⟨rfl, ⟨nd, rfl⟩⟩; refine ⟨_, rfl, ?_⟩))
  go_ret
  exact ⟨zz, zw⟩
 replace c5 := Bool.eq_false_iff.mpr c5;subst c5;rw [if_neg (show ¬ (false = true) by decide)] at H;by_cases c7 : t281 = true
 ·
  subst c7;rw [if_pos rfl] at H;obtain rfl := Option.some.inj H;go_enter Tryz.func68, Tryz.ntmps68;go_wp2_with (first | ((with_reducible refine y7 (f := 84) rfl ?_); refine o7 (some 8) Tryz.func84 #[.int .i64 a0] rfl ?_; (with_reducible refine (cmp_isNaN_int.calls a0 false _ A3.out).mono ?_); rintro e w' ⟨rfl, ⟨nd, rfl⟩⟩; refine ⟨_, rfl, ?_⟩) | ((with_reducible refine y7 (f := 84) rfl ?_); refine o7 (some 10) Tryz.func84 #[.int .i64 a1] rfl ?_; (with_reducible refine (cmp_isNaN_int.calls a1 true _ A4.out).mono ?_); rintro e w' ⟨rfl, ⟨nd, rfl⟩⟩; refine ⟨_, rfl, ?_⟩))
  go_ret
  exact ⟨zz, zw⟩
 replace c7 := Bool.eq_false_iff.mpr c7;subst c7;rw [if_neg (show ¬ (false = true) by decide)] at H;by_cases c8 : a0 < a1
 ·
  rw [if_pos c8] at H;have c8b0 := decide_eq_true c8;clear c8;obtain rfl := Option.some.inj H;go_enter Tryz.func68, Tryz.ntmps68;go_wp2_with (first | ((with_reducible refine y7 (f := 84) rfl ?_); refine o7 (some 8) Tryz.func84 #[.int .i64 a0] rfl ?_; (with_reducible refine (cmp_isNaN_int.calls a0 false _ A3.out).mono ?_); rintro e w' ⟨rfl, ⟨nd, rfl⟩⟩; refine ⟨_, rfl, ?_⟩) | ((with_reducible refine y7 (f := 84) rfl ?_); refine o7 (some 10) Tryz.func84 #[.int .i64 a1] rfl ?_; (with_reducible refine (cmp_isNaN_int.calls a1 false _ A4.out).mono ?_); rintro e w' ⟨rfl, ⟨nd, rfl⟩⟩; refine ⟨_, rfl, ?_⟩))
  go_ret
  exact ⟨zz, zw⟩
 rw [if_neg c8] at H;have c8b0 := decide_eq_false c8;clear c8;by_cases c9 : a0 > a1
 ·
  rw [if_pos c9] at H;have c9b0 : decide (a1 < a0) = true := decide_eq_true c9;clear c9;obtain rfl := Option.some.inj H;go_enter Tryz.func68, Tryz.ntmps68;go_wp2_with (first | ((with_reducible refine y7 (f := 84) rfl ?_); refine o7 (some 8) Tryz.func84 #[.int .i64 a0] rfl ?_; (with_reducible refine (cmp_isNaN_int.calls a0 false _ A3.out).mono ?_); rintro e w' ⟨rfl, ⟨nd, rfl⟩⟩; refine ⟨_, rfl, ?_⟩) | ((with_reducible refine y7 (f := 84) rfl ?_); refine o7 (some 10) Tryz.func84 #[.int .i64 a1] rfl ?_; (with_reducible refine (cmp_isNaN_int.calls a1 false _ A4.out).mono ?_); rintro e w' ⟨rfl, ⟨nd, rfl⟩⟩; refine ⟨_, rfl, ?_⟩))
  go_ret
  exact ⟨zz, zw⟩
 rw [if_neg c9] at H;have c9b0 : decide (a1 < a0) = false := decide_eq_false c9;clear c9;obtain rfl := Option.some.inj H;go_enter Tryz.func68, Tryz.ntmps68;go_wp2_with (first | ((with_reducible refine y7 (f := 84) rfl ?_); refine o7 (some 8) Tryz.func84 #[.int .i64 a0] rfl ?_; (with_reducible refine (cmp_isNaN_int.calls a0 false _ A3.out).mono ?_); rintro e w' ⟨rfl, ⟨nd, rfl⟩⟩; refine ⟨_, rfl, ?_⟩) | ((with_reducible refine y7 (f := 84) rfl ?_); refine o7 (some 10) Tryz.func84 #[.int .i64 a1] rfl ?_; (with_reducible refine (cmp_isNaN_int.calls a1 false _ A4.out).mono ?_); rintro e w' ⟨rfl, ⟨nd, rfl⟩⟩; refine ⟨_, rfl, ?_⟩))
 go_ret
 exact ⟨zz, zw⟩
def X9.l0 : Nat → List Int → List Int → List Int → Int → Int → Option (Int)
  | 0, _, _, _, _, _ => none
  | k + 1, x0, x1, x9, x10, x11 => if x11 < x10 then (if 0 ≤ x11 then (if x11 < (x9.length : Int) then (if x11 ≥ (x1.length : Int) then (some 1) else (if x11 < (x1.length : Int) then ((cmp_Compare_int.f (rd x9 x11) (rd x1 x11)).bind fun t284 => (if t284 = 0 then (X9.l0 k x0 x1 x9 x10 (wrap64 (x11 + 1))) else (some t284))) else (none))) else (none)) else (none)) else (if (x0.length : Int) < (x1.length : Int) then (some (-1)) else (some 0))
def X9.f (k : Nat) (l0 : List Int) (l1 : List Int) : Option (Int) := X9.l0 k l0 l1 l0 (l0.length : Int) 0
set_option maxHeartbeats 8000000 in
set_option maxRecDepth 100000 in
theorem X9.calls (k : Nat) (A0 : Option Addr) (c0 : Nat) (l0 : List Int) (A1 : Option Addr) (c1 : Nat) (l1 : List Int) (r : Int) (w : World) (hr0 : Kd.C (Kd.int .i64) w A0 l0.length l0) (hc0 : l0.length ≤ c0) (hr1 : Kd.C (Kd.int .i64) w A1 l1.length l1) (hc1 : l1.length ≤ c1) (h : X9.f k l0 l1 = some r) :
  Calls Tryz.prog 49 #[.slice A0 l0.length c0, .slice A1 l1.length c1] w fun e w' => e = .returned (.int .i64 r) ∧ G6 w w' := by
 have HR0 := zm hr0;have HC0 := zm hc0;clear hr0 hc0;have HR1 := zm hr1;have HC1 := zm hc1;clear hr1 hc1;have H : (X9.l0 k l0 l1 l0 (l0.length : Int) 0) = some r := h;clear h;have H' := zm H;clear H;go_enter Tryz.func49, Tryz.ntmps49;go_wp2;go_loopg [11] k (fun kq v11 w' => ∃ (x11_1 : Int), v11 = .int .i64 x11_1 ∧ z8 (X9.l0 kq l0 l1 l0 (l0.length : Int) x11_1 = some r) ∧ z8 (kq ≤ k) ∧ G6 w w')
 case atStart => exact ⟨(0), zz, H', ⟨Nat.le_refl _⟩, zw⟩
 case round =>
  clear H';(try clear p2);obtain ⟨x11_1, rfl, HA, HK1, ⟨m1, rfl⟩⟩ := hrel;cases gk with
  | zero => exact absurd HA.out (by simp [X9.l0])
  | succ k1 =>
   have H := HA.out;clear HA;simp only [X9.l0] at H;by_cases c3 : x11_1 < (l0.length : Int)
   rotate_left
   ·
    rw [if_neg c3] at H;have c3b0 := decide_eq_false c3;clear c3;by_cases c10 : (l0.length : Int) < (l1.length : Int)
    ·
     rw [if_pos c10] at H;have c10b0 := decide_eq_true c10;have c10b1 : decide (l0.length < l1.length) = true := decide_eq_true (Int.ofNat_lt.mp c10);clear c10;obtain rfl := Option.some.inj H;go_wp2;go_ret
     exact ⟨zz, zw⟩
    rw [if_neg c10] at H;have c10b0 := decide_eq_false c10;have c10b1 : decide (l0.length < l1.length) = false := decide_eq_false (fun h => c10 (Int.ofNat_lt.mpr h));clear c10;obtain rfl := Option.some.inj H;go_wp2;go_ret
    exact ⟨zz, zw⟩
   rw [if_pos c3] at H;have c3b0 := decide_eq_true c3;clear c3;obtain ⟨c4, H⟩ := zJ H;have c4b0 := decide_eq_true c4;clear c4;obtain ⟨c5, H⟩ := zJ H;have c5b0 := decide_eq_true c5;clear c5;by_cases c6 : x11_1 ≥ (l1.length : Int)
   ·
    rw [if_pos c6] at H;have c6b0 : decide ((l1.length : Int) ≤ x11_1) = true := decide_eq_true c6;clear c6;obtain rfl := Option.some.inj H;have p282 : 0 ≤ (x11_1 : Int) := zd;have q282 : x11_1 < (l0.length : Int) := zd;obtain ⟨ad282, e282, hx282_0⟩ := Kd.Y9 HR0.out x11_1 p282 q282;cases e282;replace p282 := eq_true p282;replace q282 := eq_true q282;go_wp2;go_ret
    exact ⟨zz, zw⟩
   rw [if_neg c6] at H;have c6b0 : decide ((l1.length : Int) ≤ x11_1) = false := decide_eq_false c6;clear c6;obtain ⟨c7, H⟩ := zJ H;have c7b0 := decide_eq_true c7;clear c7;obtain ⟨t284, A8, H⟩ := zI H;(try dsimp only at H);by_cases c9 : t284 = 0
   rotate_left
   ·
    rw [if_neg c9] at H;have c9b0 : (t284 == 0) = false := beq_eq_false_iff_ne.mpr c9;have c9b1 : (t284 != 0) = true := bne_iff_ne.mpr c9;obtain rfl := Option.some.inj H;have p282 : 0 ≤ (x11_1 : Int) := zd;have q282 : x11_1 < (l0.length : Int) := zd;obtain ⟨ad282, e282, hx282_0⟩ := Kd.Y9 HR0.out x11_1 p282 q282;cases e282;replace p282 := eq_true p282;replace q282 := eq_true q282;have p283 : 0 ≤ (x11_1 : Int) := zd;have q283 : x11_1 < (l1.length : Int) := zd;obtain ⟨ad283, e283, hx283_0⟩ := Kd.Y9 HR1.out x11_1 p283 q283;cases e283;replace p283 := eq_true p283;replace q283 := eq_true q283;go_wp2_with (first | ((with_reducible refine y7 (f := 68) rfl ?_); refine o7 (some 26) Tryz.func68 #[.int .i64 (rd l0 x11_1), .int .i64 (rd l1 x11_1)] rfl ?_; (with_reducible refine (cmp_Compare_int.calls (rd l0 x11_1) (rd l1 x11_1) t284 _ A8.out).mono ?_); rintro e w' ⟨rfl, ⟨nd, rfl⟩⟩; refine ⟨_, rfl, ?_⟩))
    go_ret
    exact ⟨zz, zw⟩
   rw [if_pos c9] at H;have c9b0 : (t284 == 0) = true := beq_iff_eq.mpr c9;have c9b1 : (t284 != 0) = false := bne_eq_false_iff_eq.mpr c9;clear c9;have H' := zm H;clear H;have p282 : 0 ≤ (x11_1 : Int) := zd;have q282 : x11_1 < (l0.length : Int) := zd;obtain ⟨ad282, e282, hx282_0⟩ := Kd.Y9 HR0.out x11_1 p282 q282;cases e282;replace p282 := eq_true p282;replace q282 := eq_true q282;have p283 : 0 ≤ (x11_1 : Int) := zd;have q283 : x11_1 < (l1.length : Int) := zd;obtain ⟨ad283, e283, hx283_0⟩ := Kd.Y9 HR1.out x11_1 p283 q283;cases e283;replace p283 := eq_true p283;replace q283 := eq_true q283;go_wp2_with (first | ((with_reducible refine y7 (f := 68) rfl ?_); refine o7 (some 26) Tryz.func68 #[.int .i64 (rd l0 x11_1), .int .i64 (rd l1 x11_1)] rfl ?_; (with_reducible refine (cmp_Compare_int.calls (rd l0 x11_1) (rd l1 x11_1) t284 _ A8.out).mono ?_); rintro e w' ⟨rfl, ⟨nd, rfl⟩⟩; refine ⟨_, rfl, ?_⟩))
   go_roundg k1
   case measure => have := HK1.out; omega
   case rel => exact ⟨(wrap64 (x11_1 + 1)), zz, H', ⟨by have := HK1.out; omega⟩, zw⟩
theorem v6k (x y : Int) : cmp_Compare_int.f x y = some (Sf.q1v x y) := by
  unfold cmp_Compare_int.f cmp_isNaN_int.f Sf.q1v
  simp only [Option.bind_some, bne_self_eq_false, Bool.false_eq_true, if_false]
  by_cases h : x < y
  · rw [if_pos h, if_pos h]
  · rw [if_neg h, if_neg h]
    by_cases h2 : y < x
    · rw [if_pos h2, if_pos h2]
    · rw [if_neg h2, if_neg h2]
theorem q9g (b : List Int) : ∀ (xs ys a pa pb : List Int), a = pa ++ xs → b = pb ++ ys → pa.length = pb.length → a.length < 4611686018427387904 → X9.l0 (xs.length + 1) a b a (a.length : Int) (pa.length : Int) = some (Sf.cmpL xs ys)
  | [], ys, a, pa, pb, ha, hb, hl, _ => by
    have e1 : a.length = pa.length := by rw [ha]; simp
    have e2 : b.length = pb.length + ys.length := by rw [hb]; simp
    simp only [List.length_nil, X9.l0]
    rw [if_neg (by omega)]
    cases ys with
    | nil => rw [if_neg (by simp at e2; omega)]; rfl
    | cons y ys => rw [if_pos (by simp at e2; omega)]; rfl
  | x :: xs, ys, a, pa, pb, ha, hb, hl, hm => by
    have e1 : a.length = pa.length + (xs.length + 1) := by rw [ha]; simp
    have e2 : b.length = pb.length + ys.length := by rw [hb]; simp
    have e3 : rd a (pa.length : Int) = x := by rw [ha]; simp [rd]
    simp only [List.length_cons, X9.l0]
    rw [if_pos (by omega), if_pos (by omega), if_pos (by omega)]
    cases ys with
    | nil => rw [if_pos (by simp at e2; omega)]; rfl
    | cons y ys =>
      have e4 : rd b (pa.length : Int) = y := by rw [hb, hl]; simp [rd]
      have ew : wrap64 ((pa.length : Int) + 1) = ((pa ++ [x]).length : Int) := by
        unfold wrap64
        simp
        omega
      have ih := q9g b xs ys a (pa ++ [x]) (pb ++ [y]) (by rw [ha]; simp) (by rw [hb]; simp) (by simp [hl]) hm
      rw [if_neg (by simp at e2; omega), if_pos (by simp at e2; omega), e3, e4, v6k, ew]
      simp only [Option.bind_some, Sf.cmpL]
      by_cases h : Sf.q1v x y = 0
      · rw [if_pos h, if_pos h]; exact ih
      · rw [if_neg h, if_neg h]
def M7.f (l0 : List (List Int)) : Option (List (List Int)) := if l0.length < 4611686018427387904 ∧ (∀ x, x ∈ l0 → x.length < 4611686018427387904) then some (Sf.q36 l0) else none
theorem M7.calls (P0_ : Nat → Prop) (u9000_ : Value) (l0 : List (List Int)) (r : List (List Int)) (w0 w : World) (hB : Below w0.heap.size w0 w) (ho0 : Kd.S (Kd.slice 3 (Kd.int .i64)) 33 w w0.heap.size P0_ u9000_ l0) (h : M7.f l0 = some r) :
    Calls Tryz.prog 48 #[u9000_, .func (.func 49) #[] #[]] w fun e w' => e = .returned (.tuple #[]) ∧ Kd.S (Kd.slice 3 (Kd.int .i64)) 33 w' w0.heap.size (fun k_ => (P0_ k_ ∨ w.heap.size ≤ k_)) u9000_ r ∧ Below w0.heap.size w0 w' ∧ Kept w w' (fun k_ => P0_ k_) := by
  unfold M7.f at h
  split at h
  · rename_i hc
    obtain rfl := Option.some.inj h;refine Sf.v2u P0_ u9000_ l0 w0 w hB ho0 hc.1 (fun A B ca cb x y W hx hy h1 h2 h3 h4 => ?_)
    have e := q9g y x y x [] [] rfl rfl rfl (hc.2 x hx);refine (X9.calls (x.length + 1) A ca x B cb y (Sf.cmpL x y) W h1 h2 h3 h4 e).mono ?_
    rintro e w' ⟨he, hw⟩;exact ⟨he, hw.out⟩
  · cases h
def K4.l0 : Nat → List (List Int) → List (S48) → Int → Int → Option ((List (List Int)))
  | 0, _, _, _, _ => none
  | k + 1, x3, x7, x8, x9 => if x9 < x8 then (if 0 ≤ x9 then (if x9 < (x7.length : Int) then (if x3.length + 1 < 5864062014805 then (K4.l0 k (x3 ++ [(([(q8 x7 x9).f1, (q8 x7 x9).f0, 1] : List Int)), (([(q8 x7 x9).f2, (q8 x7 x9).f0, 0] : List Int))]) x7 x8 (wrap64 (x9 + 1))) else (none)) else (none)) else (none)) else ((M7.f x3).bind fun t193 => (some t193))
def K4.f (k : Nat) (l0 : List (S48)) : Option ((List (List Int))) := K4.l0 k (([] : List (List Int))) l0 (l0.length : Int) 0
set_option maxHeartbeats 8000000 in
set_option maxRecDepth 100000 in
theorem K4.calls (k : Nat) (A0 : Option Addr) (c0 : Nat) (l0 : List (S48)) (r : List (List Int)) (w : World) (hr0 : Kd.C k48 w A0 l0.length l0) (hc0 : l0.length ≤ c0) (h : K4.f k l0 = some r) :
  Calls Tryz.prog 24 #[.slice A0 l0.length c0] w fun e w' => ∃ v0_ : Value, e = .returned (v0_) ∧ Kd.S (Kd.slice 3 (Kd.int .i64)) 33 w' w.heap.size (fun _ => True) v0_ r ∧ Below w.heap.size w w' := by
 have hu48 := Tryz.underlying48;have HR0 := zm hr0;have HC0 := zm hc0;clear hr0 hc0;have HB := zm (Below.refl w.heap.size w);have H : (K4.l0 k (([] : List (List Int))) l0 (l0.length : Int) 0) = some r := h;clear h;obtain ⟨y179, hy179⟩ : ∃ y_ : List (List Int), y_ = (([] : List (List Int))) := ⟨_, rfl⟩;(first | (rw [← hy179] at H; with_reducible replace H := zO H) | rw [← hy179] at H);have Ny179 := zm hy179;clear hy179;have H' := zm H;clear H;go_enter Tryz.func24, Tryz.ntmps24;go_wp2_with (first | ((with_reducible refine Q6 (N := 6) rfl ?_); refine Kd.v9y (Kd.slice 3 (Kd.int .i64)) _ 33 ?hg (N := 6) ?hd (xs := ([] : List (List Int))) (inner := []) (ok := fun _ => True) (okp := fun _ => True) ?hr ?hp (fun _ hk => hk) trivial (Below.refl _ _) (Nat.le_refl _) (by simp) ?_; (case hd => rfl); (case hg => rfl); (case hr => first | (go_simp; done) | (go_simp; rfl)); (case hp => exact (Q9.none _ _)); intro v180 w2 ho3 hb hg_ hnew_; clear hg_ hnew_; (first | rw [← Ny179.out] at ho3 | (simp only [Int.reduceToNat] at ho3; rw [← Ny179.out] at ho3)); have HO181 := zm (Kd.U7 ho3 (p8 zb)); replace HB := zm (q9 zb hb); clear hb ho3))
 go_loopg [3, 9] k (fun kq v3 v9 w' => ∃ (x3_1 : List (List Int)) (x9_1 : Int), v9 = .int .i64 x9_1 ∧ z8 (K4.l0 kq x3_1 l0 (l0.length : Int) x9_1 = some r) ∧ z8 (kq ≤ k) ∧ z8 (Kd.S (Kd.slice 3 (Kd.int .i64)) 33 w' w.heap.size (fun _ => True) v3 x3_1) ∧ z8 (Below w.heap.size w w'))
 case atStart => exact ⟨(y179), (0), zz, H', ⟨Nat.le_refl _⟩, ⟨zS HO181.out⟩, ⟨zb⟩⟩
 case round =>
  clear H';try clear p2
  obtain ⟨x3_1, x9_1, rfl, HA, HK1, HO_3, HB⟩ := hrel;cases gk with
  | zero => exact absurd HA.out (by simp [K4.l0])
  | succ k1 =>
   have H := HA.out;clear HA;simp only [K4.l0] at H;by_cases c4 : x9_1 < (l0.length : Int)
   rotate_left
   ·
    rw [if_neg c4] at H;have c4b0 := decide_eq_false c4;clear c4;obtain ⟨t193, A17, H⟩ := zI H;(try dsimp only at H);obtain rfl := Option.some.inj H;obtain ⟨Ao18, co18, eo18⟩ := Kd.F4 HO_3.out;subst eo18;go_wp2_with (first | ((with_reducible refine y7 (f := 48) rfl ?_); refine o7 (some 28) Tryz.func48 #[.slice Ao18 x3_1.length co18, .func (.func 49) #[] #[]] rfl ?_; (with_reducible refine (M7.calls (fun _ => True) (.slice Ao18 x3_1.length co18) x3_1 t193 w _ ?side1 ?side2 A17.out).mono ?_); (case side1 => exact zb); (case side2 => exact (zS HO_3.out)); rintro e w19 ⟨rfl, hy0, hb, hkp⟩; refine ⟨_, rfl, ?_⟩; replace HO_3 := zm (Kd.Z8 hy0 (fun _ _ => trivial)); replace HB := zm (hb); (try clear hb); (try clear hkp); (try clear hy0)))
    go_ret
    exact ⟨_, zr, zS HO_3.out, zb⟩
   rw [if_pos c4] at H;have c4b0 := decide_eq_true c4;clear c4;obtain ⟨c5, H⟩ := zJ H;have c5b0 := decide_eq_true c5;clear c5;obtain ⟨c6, H⟩ := zJ H;have c6b0 := decide_eq_true c6;clear c6;obtain ⟨y184, hy184⟩ : ∃ y_ : List Int, y_ = (([(q8 l0 x9_1).f1, (q8 l0 x9_1).f0, 1] : List Int)) := ⟨_, rfl⟩;(first | (rw [← hy184] at H; with_reducible replace H := zO H) | rw [← hy184] at H);have Ny184 := zm hy184;clear hy184;obtain ⟨y187, hy187⟩ : ∃ y_ : List Int, y_ = (([(q8 l0 x9_1).f2, (q8 l0 x9_1).f0, 0] : List Int)) := ⟨_, rfl⟩;(first | (rw [← hy187] at H; with_reducible replace H := zO H) | rw [← hy187] at H);have Ny187 := zm hy187;clear hy187;obtain ⟨c7, H⟩ := zJ H;have LMc7 := zm c7;clear c7;obtain ⟨y190, hy190⟩ : ∃ y_ : List (List Int), y_ = (x3_1 ++ [y184, y187]) := ⟨_, rfl⟩;(first | (rw [← hy190] at H; with_reducible replace H := zO H) | rw [← hy190] at H);have Ny190 := zm hy190;clear hy190;have H' := zm H;clear H;have p182 : 0 ≤ (x9_1 : Int) := zd;have q182 : x9_1 < (l0.length : Int) := zd;obtain ⟨ad182, e182, hx182_0, hx182_1, hx182_2⟩ := H9 HR0.out x9_1 p182 q182;cases e182;replace hx182_0 := zx HB.out hx182_0;replace hx182_1 := zx HB.out hx182_1;replace hx182_2 := zx HB.out hx182_2;replace p182 := eq_true p182;replace q182 := eq_true q182;go_wp2_with (first | ((with_reducible refine Q6 (N := 5) rfl ?_); refine V5 ?hg (N := 5) ?hd (cs := #[.int .i64 0, .int .i64 0, .int .i64 0]) (t := 48) ?hr ?_; (case hd => rfl); (case hg => rfl); (case hr => first | (go_simp; done) | (go_simp; rfl)); intro gb183 hg w8 hbox hb; replace HO_3 := zm (Kd.J6 (zS HO_3.out) hb); have n1_ := zm (q9 zb hb); have BK183 := zm (hbox); have GW183 := zm (zs hg zb : w.heap.size ≤ gb183); have GE183 := zm (zs hg zb : w.heap.size ≤ gb183); replace HB := n1_; clear n1_; clear hb hbox hg; obtain ⟨hcz9_0, hcz9_1, hcz9_2, hfz9_0, hfz9_1, hfz9_2⟩ := zc3 BK183.out) | ((with_reducible refine Q6 (N := 18) rfl ?_); refine Kd.q02 (Kd.int .i64) _ 3 ?hg (N := 18) ?hd (xs := ([(q8 l0 x9_1).f1, (q8 l0 x9_1).f0, 1] : List Int)) (inner := [.int .i64 ((q8 l0 x9_1).f1), .int .i64 ((q8 l0 x9_1).f0), .int .i64 1]) (ok := fun _ => True) (okp := fun _ => True) ?hr ?hp (fun _ hk => hk) trivial (Below.refl _ _) (Nat.le_refl _) (by simp) ?_; (case hd => rfl); (case hg => rfl); (case hr => first | (go_simp; done) | (go_simp; rfl)); (case hp => exact (Q9.one (show Kd.M (Kd.int .i64) _ _ _ ((q8 l0 x9_1).f1) [.int .i64 ((q8 l0 x9_1).f1)] from rfl) (Q9.one (show Kd.M (Kd.int .i64) _ _ _ ((q8 l0 x9_1).f0) [.int .i64 ((q8 l0 x9_1).f0)] from rfl) (Q9.one (show Kd.M (Kd.int .i64) _ _ _ 1 [.int .i64 1] from rfl) (Q9.none _ _))))); intro v185 w10 ho11 hb hg_ hnew_; clear hg_ hnew_; (first | rw [← Ny184.out] at ho11 | (simp only [Int.reduceToNat] at ho11; rw [← Ny184.out] at ho11)); replace HO_3 := zm (Kd.G8 (zS ((Kd.Z8 (Kd.D7 (p := ⟨gb183, 2, none⟩) (Kd.D7 (p := ⟨gb183, 1, none⟩) (Kd.D7 (p := ⟨gb183, 0, none⟩) (Kd.I8 HO_3.out BK183.out (by decide)) (fun _ hk => hk.2) (.int .i64 ((q8 l0 x9_1).f0))) (fun _ hk => hk.2) (.int .i64 ((q8 l0 x9_1).f1))) (fun _ hk => hk.2) (.int .i64 ((q8 l0 x9_1).f2))) (fun _ h_ => h_.1)))) (Kd.J4 ho11) hb); have HO186 := zm (Kd.V4 ho11 (p8 zb)); replace BK183 := zm (o5 (g := gb183) (o := .cells #[.int .i64 ((q8 l0 x9_1).f0), .int .i64 ((q8 l0 x9_1).f1), .int .i64 ((q8 l0 x9_1).f2)] 48 (0, 0)) (by (with_reducible repeat (first | refine p9 ?_ _ | refine l6 ?_ | refine r9 ?_ _)); refine V3 (cs := #[.int .i64 ((q8 l0 x9_1).f0), .int .i64 ((q8 l0 x9_1).f1), .int .i64 0]) ?_ 2 _ rfl; (with_reducible repeat (first | refine p9 ?_ _ | refine l6 ?_ | refine r9 ?_ _)); refine V3 (cs := #[.int .i64 ((q8 l0 x9_1).f0), .int .i64 0, .int .i64 0]) ?_ 1 _ rfl; (with_reducible repeat (first | refine p9 ?_ _ | refine l6 ?_ | refine r9 ?_ _)); refine V3 (cs := #[.int .i64 0, .int .i64 0, .int .i64 0]) ?_ 0 _ rfl; (with_reducible repeat (first | refine p9 ?_ _ | refine l6 ?_ | refine r9 ?_ _)); exact BK183.out) hb); replace HB := zm (q9 zb hb); clear hb ho11; obtain ⟨hcz12_0, hcz12_1, hcz12_2, hfz12_0, hfz12_1, hfz12_2⟩ := zc3 BK183.out) | ((with_reducible refine Q6 (N := 23) rfl ?_); refine Kd.q02 (Kd.int .i64) _ 3 ?hg (N := 23) ?hd (xs := ([(q8 l0 x9_1).f2, (q8 l0 x9_1).f0, 0] : List Int)) (inner := [.int .i64 ((q8 l0 x9_1).f2), .int .i64 ((q8 l0 x9_1).f0), .int .i64 0]) (ok := fun _ => True) (okp := fun _ => True) ?hr ?hp (fun _ hk => hk) trivial (Below.refl _ _) (Nat.le_refl _) (by simp) ?_; (case hd => rfl); (case hg => rfl); (case hr => first | (go_simp; done) | (go_simp; rfl)); (case hp => exact (Q9.one (show Kd.M (Kd.int .i64) _ _ _ ((q8 l0 x9_1).f2) [.int .i64 ((q8 l0 x9_1).f2)] from rfl) (Q9.one (show Kd.M (Kd.int .i64) _ _ _ ((q8 l0 x9_1).f0) [.int .i64 ((q8 l0 x9_1).f0)] from rfl) (Q9.one (show Kd.M (Kd.int .i64) _ _ _ 0 [.int .i64 0] from rfl) (Q9.none _ _))))); intro v188 w13 ho14 hb hg_ hnew_; clear hg_ hnew_; (first | rw [← Ny187.out] at ho14 | (simp only [Int.reduceToNat] at ho14; rw [← Ny187.out] at ho14)); replace HO_3 := zm (Kd.G8 (zS HO_3.out) (Kd.J4 ho14) hb); have n1_ := zm (Kd.J3 (zP HO186.out) (Kd.J4 ho14) hb); have HO189 := zm (Kd.V4 (Kd.Y0 ho14 (Kd.J9 (zP HO186.out))) (p8 zb)); replace BK183 := zm (o5 (g := gb183) zk hb); replace HB := zm (q9 zb hb); replace HO186 := n1_; clear n1_; clear hb ho14; obtain ⟨Ao16, co16, eo16⟩ := Kd.V6 HO189.out; subst eo16; obtain ⟨AoE, coE, eoE⟩ := Kd.V6 HO186.out; subst eoE) | ((with_reducible refine G7 (b := .append) (xs := #[.tmp 13, .tmp 24]) rfl ?_); at_builtin; refine Sf.v3v (Kd.slice 3 (Kd.int .i64)) (w0 := w) w.heap.size rfl (.tmp 13) (.tmp 24) 26 33 (.slice none 0 0) 24 rfl Tryz.underlying26 q3f rfl (by decide) (by omega) u3 x3_1 y184 y187 [.slice AoE y184.length coE] [.slice Ao16 y187.length co16] (fun _ => True) (fun k_ => some k_ = (.slice AoE y184.length coE : Value).ownBlock) (fun k_ => some k_ = (.slice Ao16 y187.length co16 : Value).ownBlock) rfl rfl ?aP (fun k_ hk_ => ⟨trivial, ((Kd.q00 HO186.out (Kd.O3 HO_3.out) (by decide)).1 k_ hk_.symm).2⟩) ?aR (fun k_ hk_ => ⟨trivial, ((Kd.q00 HO189.out (Kd.O3 HO_3.out) (by decide)).1 k_ hk_.symm).2⟩) (fun k_ h1_ h2_ => (HO186.out.1 k_ h1_.symm).2 h2_) (fun _ _ => trivial) ?aO ?aB ?aS ?aL ?_; (case aP => exact Kd.q35 (Kd.l5 (Kd.q1h rfl HO186.out) (fun _ h_ => h_))); (case aR => exact Kd.q35 (Kd.l5 (Kd.q1h rfl HO189.out) (fun _ h_ => h_))); (case aB => exact zb); (case aO => exact (Kd.Z8 HO_3.out (fun k_ hk => ⟨trivial, fun e_ => hk.1.2 e_, fun e_ => hk.2 e_⟩))); (case aS => exact (p8 zb)); (case aL => have := LMc7.out; omega); intro v191 w15 ho hb hg hat; rw [← Ny190.out] at ho; replace BK183 := zm (H5 (g := gb183) (o := .cells #[.int .i64 ((q8 l0 x9_1).f0), .int .i64 ((q8 l0 x9_1).f1), .int .i64 ((q8 l0 x9_1).f2)] 48 (0, 0)) zk hg (Kd.q6d HO_3.out BK183.out (by decide))); replace HB := zm (hb); have HO192 := zm (ho); clear HO_3 HO186 HO189; clear ho hb hg hat))
   go_roundg k1
   case measure => have := HK1.out; omega
   case rel => exact ⟨(y190), (wrap64 (x9_1 + 1)), zz, H', ⟨by have := HK1.out; omega⟩, ⟨zS (Kd.Z8 HO192.out (fun _ hk => trivial))⟩, ⟨zb⟩⟩
def R9.f (k : Nat) (l0 : List (S48)) : Option ((List (List Int)) × Bool) := (Q3.f k l0).bind fun t285 => (if t285 = true then ((K4.f k l0).bind fun t286 => (some (t286, true))) else (some (([] : List (List Int)), false)))
set_option maxHeartbeats 8000000 in
set_option maxRecDepth 100000 in
theorem R9.calls (k : Nat) (A0 : Option Addr) (c0 : Nat) (l0 : List (S48)) (r1 : List (List Int)) (r2 : Bool) (w : World) (hr0 : Kd.C k48 w A0 l0.length l0) (hc0 : l0.length ≤ c0) (h : R9.f k l0 = some (r1, r2)) :
  Calls Tryz.prog 6 #[.slice A0 l0.length c0] w fun e w' => ∃ v0_ : Value, e = .returned (.tuple #[v0_, .bool r2]) ∧ Kd.S (Kd.slice 3 (Kd.int .i64)) 33 w' w.heap.size (fun _ => True) v0_ r1 ∧ Below w.heap.size w w' := by
 have HR0 := zm hr0;have HC0 := zm hc0;clear hr0 hc0;have HB := zm (Below.refl w.heap.size w);have H : ((Q3.f k l0).bind fun t285 => (if t285 = true then ((K4.f k l0).bind fun t286 => (some (t286, true))) else (some (([] : List (List Int)), false)))) = some (r1, r2) := h;clear h;obtain ⟨t285, A2, H⟩ := zI H;(try dsimp only at H);by_cases c3 : t285 = true
 rotate_left
 ·
  replace c3 := Bool.eq_false_iff.mpr c3;subst c3;rw [if_neg (show ¬ (false = true) by decide)] at H;simp only [Option.some.injEq, Prod.mk.injEq] at H;obtain ⟨rfl, rfl⟩ := H;go_enter Tryz.func6, Tryz.ntmps6;go_wp2_with (first | ((with_reducible refine y7 (f := 23) rfl ?_); refine o7 (some 5) Tryz.func23 #[.slice A0 l0.length c0] rfl ?_; (with_reducible refine (Q3.calls k _ _ l0 false _ ?side1 ?side2 A2.out).mono ?_); (case side1 => exact zF HR0.out); (case side2 => exact HC0.out); rintro e w7 ⟨rfl, hb⟩; refine ⟨_, rfl, ?_⟩; replace HB := zm (q9 zb hb); (try clear hb)))
  go_ret2
  exact ⟨_, zr, by first | exact Kd.q0t _ _ _ _ _ | exact Kd.q0r _ _ _ _ _ | exact Kd.q0q _ _ _ _ _ | exact Kd.q0s _ _ _ _ _ | exact Kd.U8 _ _ _ _ _, zb⟩
 subst c3;rw [if_pos rfl] at H;obtain ⟨t286, A4, H⟩ := zI H;(try dsimp only at H);simp only [Option.some.injEq, Prod.mk.injEq] at H;obtain ⟨rfl, rfl⟩ := H;go_enter Tryz.func6, Tryz.ntmps6;go_wp2_with (first | ((with_reducible refine y7 (f := 23) rfl ?_); refine o7 (some 5) Tryz.func23 #[.slice A0 l0.length c0] rfl ?_; (with_reducible refine (Q3.calls k _ _ l0 true _ ?side1 ?side2 A2.out).mono ?_); (case side1 => exact zF HR0.out); (case side2 => exact HC0.out); rintro e w5 ⟨rfl, hb⟩; refine ⟨_, rfl, ?_⟩; replace HB := zm (q9 zb hb); (try clear hb)) | ((with_reducible refine y7 (f := 24) rfl ?_); refine o7 (some 8) Tryz.func24 #[.slice A0 l0.length c0] rfl ?_; (with_reducible refine (K4.calls k _ _ l0 t286 _ ?side1 ?side2 A4.out).mono ?_); (case side1 => exact zC HR0.out); (case side2 => exact HC0.out); rintro e w6 ⟨v287, rfl, ho0, hb⟩; refine ⟨_, rfl, ?_⟩; have HO288 := zm (Kd.U7 ho0 (p8 zb)); replace HB := zm (q9 zb hb); (try clear hb); (try clear ho0)))
 go_ret2
 exact ⟨_, zr, zS HO288.out, zb⟩
def q1s.f (a0 : Int) (a1 : Int) : Option (Int) := if a0 > a1 then (some a0) else (some a1)
set_option maxHeartbeats 8000000 in
set_option maxRecDepth 100000 in
theorem q1s.calls (a0 : Int) (a1 : Int) (r : Int) (w : World) (h : q1s.f a0 a1 = some r) :
  Calls Tryz.prog 55 #[.int .i64 a0, .int .i64 a1] w fun e w' => e = .returned (.int .i64 r) ∧ G6 w w' := by
 have H : (if a0 > a1 then (some a0) else (some a1)) = some r := h;clear h;by_cases c3 : a0 > a1
 ·
  rw [if_pos c3] at H;have c3b0 : decide (a1 < a0) = true := decide_eq_true c3;clear c3;obtain rfl := Option.some.inj H;go_enter Tryz.func55, Tryz.ntmps55;go_wp2;go_ret
  exact ⟨zz, zw⟩
 rw [if_neg c3] at H;have c3b0 : decide (a1 < a0) = false := decide_eq_false c3;clear c3;obtain rfl := Option.some.inj H;go_enter Tryz.func55, Tryz.ntmps55;go_wp2;go_ret
 exact ⟨zz, zw⟩
def X5.l0 : Nat → Int → List (S48) → Int → Int → Option (Int)
  | 0, _, _, _, _ => none
  | k + 1, x3, x6, x7, x8 => if x8 < x7 then (if 0 ≤ x8 then (if x8 < (x6.length : Int) then ((q1s.f x3 ((q8 x6 x8).f2)).bind fun t291 => (X5.l0 k t291 x6 x7 (wrap64 (x8 + 1)))) else (none)) else (none)) else (some x3)
def X5.f (k : Nat) (l0 : List (S48)) : Option (Int) := X5.l0 k 0 l0 (l0.length : Int) 0
set_option maxHeartbeats 8000000 in
set_option maxRecDepth 100000 in
theorem X5.calls (k : Nat) (A0 : Option Addr) (c0 : Nat) (l0 : List (S48)) (r : Int) (w : World) (hr0 : Kd.C k48 w A0 l0.length l0) (hc0 : l0.length ≤ c0) (h : X5.f k l0 = some r) :
  Calls Tryz.prog 29 #[.slice A0 l0.length c0] w fun e w' => e = .returned (.int .i64 r) ∧ Below w.heap.size w w' := by
 have hu48 := Tryz.underlying48;have HR0 := zm hr0;have HC0 := zm hc0;clear hr0 hc0;have HB := zm (Below.refl w.heap.size w);have H : (X5.l0 k 0 l0 (l0.length : Int) 0) = some r := h;clear h;have H' := zm H;clear H;go_enter Tryz.func29, Tryz.ntmps29;go_wp2;go_loopg [3, 8] k (fun kq v3 v8 w' => ∃ (x3_1 : Int) (x8_1 : Int), v3 = .int .i64 x3_1 ∧ v8 = .int .i64 x8_1 ∧ z8 (X5.l0 kq x3_1 l0 (l0.length : Int) x8_1 = some r) ∧ z8 (kq ≤ k) ∧ z8 (Below w.heap.size w w'))
 case atStart => exact ⟨(0), (0), zz, zz, H', ⟨Nat.le_refl _⟩, ⟨zb⟩⟩
 case round =>
  clear H';obtain ⟨x3_1, x8_1, rfl, rfl, HA, HK1, HB⟩ := hrel;cases gk with
  | zero => exact absurd HA.out (by simp [X5.l0])
  | succ k1 =>
   have H := HA.out;clear HA;simp only [X5.l0] at H;by_cases c2 : x8_1 < (l0.length : Int)
   rotate_left
   ·
    rw [if_neg c2] at H;have c2b0 := decide_eq_false c2;clear c2;obtain rfl := Option.some.inj H;go_wp2;go_ret
    exact ⟨zr, zb⟩
   rw [if_pos c2] at H;have c2b0 := decide_eq_true c2;clear c2;obtain ⟨c3, H⟩ := zJ H;have c3b0 := decide_eq_true c3;clear c3;obtain ⟨c4, H⟩ := zJ H;have c4b0 := decide_eq_true c4;clear c4;obtain ⟨t291, A5, H⟩ := zI H;(try dsimp only at H);have H' := zm H;clear H;have p289 : 0 ≤ (x8_1 : Int) := zd;have q289 : x8_1 < (l0.length : Int) := zd;obtain ⟨ad289, e289, hx289_0, hx289_1, hx289_2⟩ := H9 HR0.out x8_1 p289 q289;cases e289;replace hx289_0 := zx HB.out hx289_0;replace hx289_1 := zx HB.out hx289_1;replace hx289_2 := zx HB.out hx289_2;replace p289 := eq_true p289;replace q289 := eq_true q289;go_wp2_with (first | ((with_reducible refine Q6 (N := 5) rfl ?_); refine V5 ?hg (N := 5) ?hd (cs := #[.int .i64 0, .int .i64 0, .int .i64 0]) (t := 48) ?hr ?_; (case hd => rfl); (case hg => rfl); (case hr => first | (go_simp; done) | (go_simp; rfl)); intro gb290 hg w6 hbox hb; have n0_ := zm (q9 zb hb); have BK290 := zm (hbox); have GW290 := zm (zs hg zb : w.heap.size ≤ gb290); have GE290 := zm (zs hg zb : w.heap.size ≤ gb290); replace HB := n0_; clear n0_; clear hb hbox hg; obtain ⟨hcz7_0, hcz7_1, hcz7_2, hfz7_0, hfz7_1, hfz7_2⟩ := zc3 BK290.out) | ((with_reducible refine y7 (f := 55) rfl ?_); refine o7 (some 15) Tryz.func55 #[.int .i64 x3_1, .int .i64 ((q8 l0 x8_1).f2)] rfl ?_; (with_reducible refine (q1s.calls x3_1 ((q8 l0 x8_1).f2) t291 _ A5.out).mono ?_); rintro e w' ⟨rfl, ⟨nd, rfl⟩⟩; refine ⟨_, rfl, ?_⟩))
   go_roundg k1
   case measure => have := HK1.out; omega
   case rel => exact ⟨(t291), (wrap64 (x8_1 + 1)), zz, zz, H', ⟨by have := HK1.out; omega⟩, ⟨zb⟩⟩
end Go.Proofs.YtkfledgkhgcicaaGreat.PFg
