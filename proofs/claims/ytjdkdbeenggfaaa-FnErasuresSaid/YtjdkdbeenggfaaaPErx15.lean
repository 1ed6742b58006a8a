import Derived.Test.YtjdkdbeenggfaaaPErx0
import Derived.Test.YtjdkdbeenggfaaaPErx2
import Derived.Test.YtjdkdbeenggfaaaPErx14
namespace Go.Proofs.Ytjdkdbeenggfaaa.PEr
open Go.RowKit Go.Proofs.YtjdkdbeenggfaaaW.PrintWords Go.Proofs.YtjdkdbeenggfaaaW.PrintLast Go.Proofs.YtjdkdbeenggfaaaW.PrintMore
attribute [local go_sem] max2_int min2_int max_two min_two max_three min_three max_four min_four   -- for this text's walks alone
set_option linter.unusedVariables false
set_option linter.unusedSimpArgs false
mutual
def Q9.l0 : Nat → List (S87) → Int → Int → List ByteArray → Int → Option (List ByteArray)
  | 0, _, _, _, _, _ => none
  | k + 1, x0, x1, x2, x7, x8 => if x8 < x2 then ((X7.f k x0 x8).bind fun t434 => (Q9.l1 k x0 x1 x2 x7 x8 t434 (⟨#[]⟩ : ByteArray) 0)) else (some x7)
def Q9.l1 : Nat → List (S87) → Int → Int → List ByteArray → Int → List Int → ByteArray → Int → Option (List ByteArray)
  | 0, _, _, _, _, _, _, _, _ => none
  | k + 1, x0, x1, x2, x7, x8, x9, x10, x11 => if x11 < x1 then ((K3.f k x9 x11).bind fun t437 => (if t437 = true then (if x10.size + 1 ≤ 9223372036854775807 then (Q9.l1 k x0 x1 x2 x7 x8 x9 (x10 ++ (⟨#[111]⟩ : ByteArray)) (wrap64 (x11 + 1))) else (none)) else (if x10.size + 1 ≤ 9223372036854775807 then (Q9.l1 k x0 x1 x2 x7 x8 x9 (x10 ++ (⟨#[46]⟩ : ByteArray)) (wrap64 (x11 + 1))) else (none)))) else (if x7.length < 8796093022208 then (Q9.l0 k x0 x1 x2 (x7 ++ [x10]) (wrap64 (x8 + 1))) else (none))
end
def Q9.f (k : Nat) (l0 : List (S87)) (a1 : Int) (a2 : Int) : Option (List ByteArray) := Q9.l0 k l0 a1 a2 ([] : List ByteArray) 0
set_option maxHeartbeats 8000000 in
set_option maxRecDepth 100000 in
theorem Q9.calls (k : Nat) (A0 : Option Addr) (c0 : Nat) (l0 : List (S87)) (a1 : Int) (a2 : Int) (r : List ByteArray) (w : World) (hr0 : Kd.C k87 w A0 l0.length l0) (hc0 : l0.length ≤ c0) (h : Q9.f k l0 a1 a2 = some r) :
  Calls Try.prog 145 #[.slice A0 l0.length c0, .int .i64 a1, .int .i64 a2] w fun e w' => ∃ v0_ : Value, e = .returned (v0_) ∧ Kd.R Kd.string 9 w' w.heap.size (fun _ => True) v0_ r ∧ Below w.heap.size w w' := by
 have HR0 := zm hr0;have HC0 := zm hc0;clear hr0 hc0;have HB := zm (Below.refl w.heap.size w);have H : (Q9.l0 k l0 a1 a2 ([] : List ByteArray) 0) = some r := h;clear h;have H' := zm H;clear H;go_enter Try.func145, Try.ntmps145;go_wp2;go_loopg [7, 8] k (fun kq v7 v8 w' => ∃ (x7_1 : List ByteArray) (x8_1 : Int), v8 = .int .i64 x8_1 ∧ Aside0 (Q9.l0 kq l0 a1 a2 x7_1 x8_1 = some r) ∧ Aside0 (kq ≤ k) ∧ Aside0 (Kd.R Kd.string 9 w' w.heap.size (fun _ => True) v7 x7_1) ∧ Aside0 (Below w.heap.size w w'))
 case atStart => exact ⟨(([] : List ByteArray)), (0), zz, H', ⟨Nat.le_refl _⟩, ⟨by first | exact Kd.R_nil _ _ _ _ _ | exact Kd.N_nil _ _ _ _ _ | exact Kd.V_nil _ _ _ _ _ | exact Kd.Q_nil _ _ _ _ _ | exact Kd.S_nil _ _ _ _ _⟩, ⟨zb⟩⟩
 case round =>
  clear H';(try clear p2);obtain ⟨x7_1, x8_1, rfl, HA, HK1, HO_7, HB⟩ := hrel;cases gk with
  | zero => exact absurd HA.out (by simp [Q9.l0])
  | succ k1 =>
   have H := HA.out;clear HA;simp only [Q9.l0] at H;by_cases c4 : x8_1 < a2
   rotate_left
   ·
    rw [if_neg c4] at H;have c4b0 := decide_eq_false c4;clear c4;obtain rfl := Option.some.inj H;go_wp2;go_ret
    exact ⟨_, zr, zP HO_7.out, zb⟩
   rw [if_pos c4] at H;have c4b0 := decide_eq_true c4;clear c4;obtain ⟨t434, A5, H⟩ := zI H;(try dsimp only at H);have H' := zm H;clear H;go_wp2_with (first | ((with_reducible refine gate_callee (f := 148) rfl ?_); refine goesA_ (some 19) Try.func148 #[.slice A0 l0.length c0, .int .i64 x8_1] rfl ?_; (with_reducible refine (X7.calls k1 _ _ l0 x8_1 t434 _ ?side1 ?side2 A5.out).mono ?_); (case side1 => exact zC HR0.out); (case side2 => exact HC0.out); rintro e w6 ⟨v435, rfl, ho0, hb⟩; refine ⟨_, rfl, ?_⟩; replace HO_7 := zm (Kd.R_below (zP HO_7.out) hb); have HO436 := zm (Kd.R_lower ho0 (below_size zb)); replace HB := zm (below_step zb hb); (try clear hb); (try clear ho0)))
   go_loopg [10, 11] k1 (fun kq v10 v11 w' => ∃ (x10_2 : ByteArray) (x11_2 : Int), v10 = .string x10_2 ∧ v11 = .int .i64 x11_2 ∧ Aside0 (Q9.l1 kq l0 a1 a2 x7_1 x8_1 t434 x10_2 x11_2 = some r) ∧ Aside0 (kq ≤ k1) ∧ Aside0 (Kd.R Kd.string 9 w' w.heap.size (fun _ => True) u7 x7_1) ∧ Aside0 (Kd.R (Kd.int .i64) 3 w' w.heap.size (fun _ => True) v435 t434) ∧ Aside0 (Below w.heap.size w w'))
   case atStart => exact ⟨((⟨#[]⟩ : ByteArray)), (0), zz, zz, H', ⟨Nat.le_refl _⟩, ⟨zP HO_7.out⟩, ⟨zP HO436.out⟩, ⟨zb⟩⟩
   case round =>
    clear H';(try clear p2); (try clear c4b0); (try clear p2);obtain ⟨x10_2, x11_2, rfl, rfl, HA, HK2, HO_7, HO_9, HB⟩ := hrel;cases gk with
    | zero => exact absurd HA.out (by simp [Q9.l1])
    | succ k2 =>
     have H := HA.out;clear HA;simp only [Q9.l1] at H;by_cases c7 : x11_2 < a1
     rotate_left
     ·
      rw [if_neg c7] at H;have c7b0 := decide_eq_false c7;clear c7;obtain ⟨c14, H⟩ := zJ H;have LMc14 := zm c14;clear c14;obtain ⟨y438, hy438⟩ : ∃ y_ : List ByteArray, y_ = (x7_1 ++ [x10_2]) := ⟨_, rfl⟩;(first | (rw [← hy438] at H; with_reducible replace H := zO H) | rw [← hy438] at H);have Ny438 := zm hy438;clear hy438;have H' := zm H;clear H;go_wp2_with (first | ((with_reducible refine gate_builtin (b := .append) (xs := #[.tmp 32, .tmp 34]) rfl ?_); at_builtin; refine Kd.R_append Kd.string (w0 := w) w.heap.size rfl (.tmp 32) (.tmp 34) 23 9 (.string ⟨#[]⟩) 16 rfl Try.underlying23 q1m rfl (by decide) (by omega) u7 x7_1 x10_2 [.string x10_2] (fun _ => True) (fun _ => False) rfl rfl ?aP (fun _ hk => hk.elim) ?aF ?aO ?aB ?aS ?aL ?_; (case aP => exact rfl); (case aB => exact zb); (case aF => exact (fun _ _ => trivial)); (case aO => exact (zP HO_7.out)); (case aS => exact (below_size zb)); (case aL => have := LMc14.out; omega); intro v439 w15 ho hb hg hat; rw [← Ny438.out] at ho; replace HO_9 := zm (Kd.R_over' (zP HO_9.out) (Kd.R_typed (zP HO_7.out)) (by decide) hg); replace HB := zm (hb); have HO440 := zm (ho); clear HO_7; clear ho hb hg hat))
      go_roundg k2
      case measure => have := HK1.out; have := HK2.out; omega
      case rel => exact ⟨(y438), (wrap64 (x8_1 + 1)), zz, H', ⟨by have := HK1.out; have := HK2.out; omega⟩, ⟨zP HO440.out⟩, ⟨zb⟩⟩
     rw [if_pos c7] at H;have c7b0 := decide_eq_true c7;clear c7;obtain ⟨t437, A8, H⟩ := zI H;(try dsimp only at H);by_cases c9 : t437 = true
     ·
      subst c9;rw [if_pos rfl] at H;obtain ⟨c10, H⟩ := zJ H;have c10b0 := eq_true c10;have c10b1 := decide_eq_true c10;try have c10b2 : (9223372036854775807 < x10_2.size + 1) = False := eq_false (Nat.not_lt.2 c10)
      have H' := zm H;clear H;obtain ⟨Ao11, co11, eo11⟩ := Kd.R_slice HO_9.out;subst eo11;go_wp2_with (first | ((with_reducible refine gate_callee (f := 168) rfl ?_); refine goesA_ (some 27) Try.func168 #[.slice Ao11 t434.length co11, .int .i64 x11_2] rfl ?_; (with_reducible refine (K3.calls k2 _ _ t434 x11_2 true _ ?side1 ?side2 A8.out).mono ?_); (case side1 => exact (Kd.R_reads' (zP HO_9.out)).2.2); (case side2 => exact (Kd.R_reads' HO_9.out).2.1); rintro e w' ⟨rfl, ⟨nd, rfl⟩⟩; refine ⟨_, rfl, ?_⟩))
      go_roundg k2
      case measure => have := HK1.out; have := HK2.out; omega
      case rel => exact ⟨(x10_2 ++ (⟨#[111]⟩ : ByteArray)), (wrap64 (x11_2 + 1)), zz, zz, H', ⟨by have := HK1.out; have := HK2.out; omega⟩, ⟨zP HO_7.out⟩, ⟨zP HO_9.out⟩, ⟨zb⟩⟩
     replace c9 := Bool.eq_false_iff.mpr c9;subst c9;rw [if_neg (show ¬ (false = true) by decide)] at H;obtain ⟨c12, H⟩ := zJ H;have c12b0 := eq_true c12;have c12b1 := decide_eq_true c12;try have c12b2 : (9223372036854775807 < x10_2.size + 1) = False := eq_false (Nat.not_lt.2 c12)
     have H' := zm H;clear H;obtain ⟨Ao13, co13, eo13⟩ := Kd.R_slice HO_9.out;subst eo13;go_wp2_with (first | ((with_reducible refine gate_callee (f := 168) rfl ?_); refine goesA_ (some 27) Try.func168 #[.slice Ao13 t434.length co13, .int .i64 x11_2] rfl ?_; (with_reducible refine (K3.calls k2 _ _ t434 x11_2 false _ ?side1 ?side2 A8.out).mono ?_); (case side1 => exact (Kd.R_reads' (zP HO_9.out)).2.2); (case side2 => exact (Kd.R_reads' HO_9.out).2.1); rintro e w' ⟨rfl, ⟨nd, rfl⟩⟩; refine ⟨_, rfl, ?_⟩))
     go_roundg k2
     case measure => have := HK1.out; have := HK2.out; omega
     case rel => exact ⟨(x10_2 ++ (⟨#[46]⟩ : ByteArray)), (wrap64 (x11_2 + 1)), zz, zz, H', ⟨by have := HK1.out; have := HK2.out; omega⟩, ⟨zP HO_7.out⟩, ⟨zP HO_9.out⟩, ⟨zb⟩⟩
def P7.f (a0_0 : Int) (a0_1 : Int) (a0_2 : Int) : Option (Bool) := (V5.f a0_0 0 19).bind fun t442 => (if t442 = true then ((V5.f a0_1 0 1999).bind fun t443 => (if t443 = true then ((V5.f a0_2 (wrap64 (a0_1 + 1)) 2000).bind fun t444 => (some t444)) else (some false))) else (some false))
set_option maxHeartbeats 8000000 in
set_option maxRecDepth 100000 in
theorem P7.calls (a0_0 : Int) (a0_1 : Int) (a0_2 : Int) (r : Bool) (w : World) (h : P7.f a0_0 a0_1 a0_2 = some r) :
  Calls Try.prog 115 #[.agg #[.int .i64 a0_0, .int .i64 a0_1, .int .i64 a0_2]] w fun e w' => e = .returned (.bool r) ∧ Below w.heap.size w w' := by
 have hu87 := Try.underlying87;have HB := zm (Below.refl w.heap.size w);have H : ((V5.f a0_0 0 19).bind fun t442 => (if t442 = true then ((V5.f a0_1 0 1999).bind fun t443 => (if t443 = true then ((V5.f a0_2 (wrap64 (a0_1 + 1)) 2000).bind fun t444 => (some t444)) else (some false))) else (some false))) = some r := h;clear h;obtain ⟨t442, A2, H⟩ := zI H;(try dsimp only at H);by_cases c3 : t442 = true
 rotate_left
 ·
  replace c3 := Bool.eq_false_iff.mpr c3;subst c3;rw [if_neg (show ¬ (false = true) by decide)] at H;obtain rfl := Option.some.inj H;go_enter Try.func115, Try.ntmps115;go_wp2_with (first | ((with_reducible refine gate_dst (N := 1) rfl ?_); refine box_event ?hg (N := 1) ?hd (cs := #[.int .i64 a0_0, .int .i64 a0_1, .int .i64 a0_2]) (t := 87) ?hr ?_; (case hd => rfl); (case hg => rfl); (case hr => first | (go_simp; done) | (go_simp; rfl)); intro gb441 hg w11 hbox hb; have n0_ := zm (below_step zb hb); have BK441 := zm (hbox); have GW441 := zm (zs hg zb : w.heap.size ≤ gb441); have GE441 := zm (zs hg zb : w.heap.size ≤ gb441); replace HB := n0_; clear n0_; clear hb hbox hg; obtain ⟨hcz12_0, hcz12_1, hcz12_2, hfz12_0, hfz12_1, hfz12_2⟩ := zc3 BK441.out) | ((with_reducible refine gate_callee (f := 95) rfl ?_); refine goesA_ (some 5) Try.func95 #[.int .i64 a0_0, .int .i64 0, .int .i64 19] rfl ?_; (with_reducible refine (V5.calls a0_0 0 19 false _ A2.out).mono ?_); rintro e w' ⟨rfl, ⟨nd, rfl⟩⟩; refine ⟨_, rfl, ?_⟩))
  go_ret
  exact ⟨zr, zb⟩
 subst c3;rw [if_pos rfl] at H;obtain ⟨t443, A4, H⟩ := zI H;(try dsimp only at H);by_cases c5 : t443 = true
 rotate_left
 ·
  replace c5 := Bool.eq_false_iff.mpr c5;subst c5;rw [if_neg (show ¬ (false = true) by decide)] at H;obtain rfl := Option.some.inj H;go_enter Try.func115, Try.ntmps115;go_wp2_with (first | ((with_reducible refine gate_dst (N := 1) rfl ?_); refine box_event ?hg (N := 1) ?hd (cs := #[.int .i64 a0_0, .int .i64 a0_1, .int .i64 a0_2]) (t := 87) ?hr ?_; (case hd => rfl); (case hg => rfl); (case hr => first | (go_simp; done) | (go_simp; rfl)); intro gb441 hg w9 hbox hb; have n0_ := zm (below_step zb hb); have BK441 := zm (hbox); have GW441 := zm (zs hg zb : w.heap.size ≤ gb441); have GE441 := zm (zs hg zb : w.heap.size ≤ gb441); replace HB := n0_; clear n0_; clear hb hbox hg; obtain ⟨hcz10_0, hcz10_1, hcz10_2, hfz10_0, hfz10_1, hfz10_2⟩ := zc3 BK441.out) | ((with_reducible refine gate_callee (f := 95) rfl ?_); refine goesA_ (some 5) Try.func95 #[.int .i64 a0_0, .int .i64 0, .int .i64 19] rfl ?_; (with_reducible refine (V5.calls a0_0 0 19 true _ A2.out).mono ?_); rintro e w' ⟨rfl, ⟨nd, rfl⟩⟩; refine ⟨_, rfl, ?_⟩) | (go_at_call 95; (with_reducible refine (V5.calls a0_1 0 1999 false _ A4.out).mono ?_); rintro e w' ⟨rfl, ⟨nd, rfl⟩⟩))
  go_ret
  exact ⟨zr, zb⟩
 subst c5;rw [if_pos rfl] at H;obtain ⟨t444, A6, H⟩ := zI H;(try dsimp only at H);obtain rfl := Option.some.inj H;go_enter Try.func115, Try.ntmps115;go_wp2_with (first | ((with_reducible refine gate_dst (N := 1) rfl ?_); refine box_event ?hg (N := 1) ?hd (cs := #[.int .i64 a0_0, .int .i64 a0_1, .int .i64 a0_2]) (t := 87) ?hr ?_; (case hd => rfl); (case hg => rfl); (case hr => first | (go_simp; done) | (go_simp; rfl)); intro gb441 hg w7 hbox hb; have n0_ := zm (below_step zb hb); have BK441 := zm (hbox); have GW441 := zm (zs hg zb : w.heap.size ≤ gb441); have GE441 := zm (zs hg zb : w.heap.size ≤ gb441); replace HB := n0_; clear n0_; clear hb hbox hg; obtain ⟨hcz8_0, hcz8_1, hcz8_2, hfz8_0, hfz8_1, hfz8_2⟩ := zc3 BK441.out) | ((with_reducible refine gate_callee (f := 95) rfl ?_); refine goesA_ (some 5) Try.func95 #[.int .i64 a0_0, .int .i64 0, .int .i64 19] rfl ?_; (with_reducible refine (V5.calls a0_0 0 19 true _ A2.out).mono ?_); rintro e w' ⟨rfl, ⟨nd, rfl⟩⟩; refine ⟨_, rfl, ?_⟩) | (go_at_call 95; (with_reducible refine (V5.calls a0_1 0 1999 true _ A4.out).mono ?_); rintro e w' ⟨rfl, ⟨nd, rfl⟩⟩) | (go_at_call 95; (with_reducible refine (V5.calls a0_2 (wrap64 (a0_1 + 1)) 2000 t444 _ A6.out).mono ?_); rintro e w' ⟨rfl, ⟨nd, rfl⟩⟩))
 go_ret
 exact ⟨zr, zb⟩
def D7.f (a0_0 : Int) (a0_1 : Int) (a0_2 : Int) (a1_0 : Int) (a1_1 : Int) (a1_2 : Int) : Option (Bool) := if a0_1 < a1_1 then (some true) else (if a0_1 = a1_1 then (some (decide (a0_0 < a1_0))) else (some false))
set_option maxHeartbeats 8000000 in
set_option maxRecDepth 100000 in
theorem D7.calls (a0_0 : Int) (a0_1 : Int) (a0_2 : Int) (a1_0 : Int) (a1_1 : Int) (a1_2 : Int) (r : Bool) (w : World) (h : D7.f a0_0 a0_1 a0_2 a1_0 a1_1 a1_2 = some r) :
  Calls Try.prog 116 #[.agg #[.int .i64 a0_0, .int .i64 a0_1, .int .i64 a0_2], .agg #[.int .i64 a1_0, .int .i64 a1_1, .int .i64 a1_2]] w fun e w' => e = .returned (.bool r) ∧ Below w.heap.size w w' := by
 have hu87 := Try.underlying87;have HB := zm (Below.refl w.heap.size w);have H : (if a0_1 < a1_1 then (some true) else (if a0_1 = a1_1 then (some (decide (a0_0 < a1_0))) else (some false))) = some r := h;clear h;by_cases c3 : a0_1 < a1_1
 ·
  rw [if_pos c3] at H;have c3b0 := decide_eq_true c3;clear c3;obtain rfl := Option.some.inj H;go_enter Try.func116, Try.ntmps116;go_wp2_with (first | ((with_reducible refine gate_dst (N := 2) rfl ?_); refine box_event ?hg (N := 2) ?hd (cs := #[.int .i64 a0_0, .int .i64 a0_1, .int .i64 a0_2]) (t := 87) ?hr ?_; (case hd => rfl); (case hg => rfl); (case hr => first | (go_simp; done) | (go_simp; rfl)); intro gb445 hg w4 hbox hb; have n0_ := zm (below_step zb hb); have BK445 := zm (hbox); have GW445 := zm (zs hg zb : w.heap.size ≤ gb445); have GE445 := zm (zs hg zb : w.heap.size ≤ gb445); replace HB := n0_; clear n0_; clear hb hbox hg) | ((with_reducible refine gate_dst (N := 3) rfl ?_); refine box_event ?hg (N := 3) ?hd (cs := #[.int .i64 a1_0, .int .i64 a1_1, .int .i64 a1_2]) (t := 87) ?hr ?_; (case hd => rfl); (case hg => rfl); (case hr => first | (go_simp; done) | (go_simp; rfl)); intro gb446 hg w5 hbox hb; have n0_ := zm (blk_below (g := gb445) zk hb); have n1_ := zm (below_step zb hb); have BK446 := zm (hbox); have GW446 := zm (zs hg zb : w.heap.size ≤ gb446); have GE446 := zm (zs hg zb : w.heap.size ≤ gb446); have NB445_446 := zm (zl hg zk : gb445 ≠ gb446); have NB446_445 := zm (zg hg zk : gb446 ≠ gb445); replace BK445 := n0_; replace HB := n1_; clear n0_ n1_; clear hb hbox hg; have hnb6 := NB445_446.out; have hnc6 := NB446_445.out; obtain ⟨hcz7_0, hcz7_1, hcz7_2, hfz7_0, hfz7_1, hfz7_2⟩ := zc3 BK445.out; obtain ⟨hcz8_0, hcz8_1, hcz8_2, hfz8_0, hfz8_1, hfz8_2⟩ := zc3 BK446.out))
  go_ret
  exact ⟨zr, zb⟩
 rw [if_neg c3] at H;have c3b0 := decide_eq_false c3;clear c3;by_cases c9 : a0_1 = a1_1
 rotate_left
 ·
  rw [if_neg c9] at H;have c9b0 : (a0_1 == a1_1) = false := beq_eq_false_iff_ne.mpr c9;have c9b1 : (a0_1 != a1_1) = true := bne_iff_ne.mpr c9;obtain rfl := Option.some.inj H;go_enter Try.func116, Try.ntmps116;go_wp2_with (first | ((with_reducible refine gate_dst (N := 2) rfl ?_); refine box_event ?hg (N := 2) ?hd (cs := #[.int .i64 a0_0, .int .i64 a0_1, .int .i64 a0_2]) (t := 87) ?hr ?_; (case hd => rfl); (case hg => rfl); (case hr => first | (go_simp; done) | (go_simp; rfl)); intro gb445 hg w15 hbox hb; have n0_ := zm (below_step zb hb); have BK445 := zm (hbox); have GW445 := zm (zs hg zb : w.heap.size ≤ gb445); have GE445 := zm (zs hg zb : w.heap.size ≤ gb445); replace HB := n0_; clear n0_; clear hb hbox hg) | ((with_reducible refine gate_dst (N := 3) rfl ?_); refine box_event ?hg (N := 3) ?hd (cs := #[.int .i64 a1_0, .int .i64 a1_1, .int .i64 a1_2]) (t := 87) ?hr ?_; (case hd => rfl); (case hg => rfl); (case hr => first | (go_simp; done) | (go_simp; rfl)); intro gb446 hg w16 hbox hb; have n0_ := zm (blk_below (g := gb445) zk hb); have n1_ := zm (below_step zb hb); have BK446 := zm (hbox); have GW446 := zm (zs hg zb : w.heap.size ≤ gb446); have GE446 := zm (zs hg zb : w.heap.size ≤ gb446); have NB445_446 := zm (zl hg zk : gb445 ≠ gb446); have NB446_445 := zm (zg hg zk : gb446 ≠ gb445); replace BK445 := n0_; replace HB := n1_; clear n0_ n1_; clear hb hbox hg; have hnb17 := NB445_446.out; have hnc17 := NB446_445.out; obtain ⟨hcz18_0, hcz18_1, hcz18_2, hfz18_0, hfz18_1, hfz18_2⟩ := zc3 BK445.out; obtain ⟨hcz19_0, hcz19_1, hcz19_2, hfz19_0, hfz19_1, hfz19_2⟩ := zc3 BK446.out))
  go_ret
  exact ⟨zr, zb⟩
 rw [if_pos c9] at H;have c9b0 : (a0_1 == a1_1) = true := beq_iff_eq.mpr c9;have c9b1 : (a0_1 != a1_1) = false := bne_eq_false_iff_eq.mpr c9;clear c9;obtain rfl := Option.some.inj H;go_enter Try.func116, Try.ntmps116;go_wp2_with (first | ((with_reducible refine gate_dst (N := 2) rfl ?_); refine box_event ?hg (N := 2) ?hd (cs := #[.int .i64 a0_0, .int .i64 a0_1, .int .i64 a0_2]) (t := 87) ?hr ?_; (case hd => rfl); (case hg => rfl); (case hr => first | (go_simp; done) | (go_simp; rfl)); intro gb445 hg w10 hbox hb; have n0_ := zm (below_step zb hb); have BK445 := zm (hbox); have GW445 := zm (zs hg zb : w.heap.size ≤ gb445); have GE445 := zm (zs hg zb : w.heap.size ≤ gb445); replace HB := n0_; clear n0_; clear hb hbox hg) | ((with_reducible refine gate_dst (N := 3) rfl ?_); refine box_event ?hg (N := 3) ?hd (cs := #[.int .i64 a1_0, .int .i64 a1_1, .int .i64 a1_2]) (t := 87) ?hr ?_; (case hd => rfl); (case hg => rfl); (case hr => first | (go_simp; done) | (go_simp; rfl)); intro gb446 hg w11 hbox hb; have n0_ := zm (blk_below (g := gb445) zk hb); have n1_ := zm (below_step zb hb); have BK446 := zm (hbox); have GW446 := zm (zs hg zb : w.heap.size ≤ gb446); have GE446 := zm (zs hg zb : w.heap.size ≤ gb446); have NB445_446 := zm (zl hg zk : gb445 ≠ gb446); have NB446_445 := zm (zg hg zk : gb446 ≠ gb445); replace BK445 := n0_; replace HB := n1_; clear n0_ n1_; clear hb hbox hg; have hnb12 := NB445_446.out; have hnc12 := NB446_445.out; obtain ⟨hcz13_0, hcz13_1, hcz13_2, hfz13_0, hfz13_1, hfz13_2⟩ := zc3 BK445.out; obtain ⟨hcz14_0, hcz14_1, hcz14_2, hfz14_0, hfz14_1, hfz14_2⟩ := zc3 BK446.out))
 go_ret
 exact ⟨zr, zb⟩
end Go.Proofs.Ytjdkdbeenggfaaa.PEr
