import Derived.Test.YtbgbmjagcdnloaaDoorPSgx0
import Derived.Test.YtbgbmjagcdnloaaDoorPSgx4
namespace Go.Proofs.YtbgbmjagcdnloaaDoor.PSg
open Go.RowKit Go.Proofs.YtbgbmjagcdnloaaDoorW.PrintWords Go.Proofs.YtbgbmjagcdnloaaDoorW.PrintLast Go.Proofs.YtbgbmjagcdnloaaDoorW.PrintMore
attribute [local go_sem] max2_int min2_int max_two min_two max_three min_three max_four min_four   -- for this text's walks alone
set_option linter.unusedVariables false
set_option linter.unusedSimpArgs false
def spec_stSegment.f (a0_0 : Int) (a0_1 : Int) : Option (Bool) := (spec_l1In.f a0_0 1 500).bind fun t206 => (if t206 = true then ((spec_l1In.f a0_1 900 1100).bind fun t207 => (some t207)) else (some false))
set_option maxHeartbeats 8000000 in
set_option maxRecDepth 100000 in
theorem spec_stSegment.calls (a0_0 : Int) (a0_1 : Int) (r : Bool) (w : World) (h : spec_stSegment.f a0_0 a0_1 = some r) :
  Calls Tryd.prog 44 #[.agg #[.int .i64 a0_0, .int .i64 a0_1]] w fun e w' => e = .returned (.bool r) ∧ Below w.heap.size w w' := by
 have hu35 := Tryd.underlying35;have HB := zm (Below.refl w.heap.size w);have H : ((spec_l1In.f a0_0 1 500).bind fun t206 => (if t206 = true then ((spec_l1In.f a0_1 900 1100).bind fun t207 => (some t207)) else (some false))) = some r := h;clear h;obtain ⟨t206, A2, H⟩ := zI H;(try dsimp only at H);by_cases c3 : t206 = true
 rotate_left
 ·
  replace c3 := Bool.eq_false_iff.mpr c3;subst c3;rw [if_neg (show ¬ (false = true) by decide)] at H;obtain rfl := Option.some.inj H;go_enter Tryd.func44, Tryd.ntmps44;go_wp2_with (first | ((with_reducible refine gate_dst (N := 1) rfl ?_); refine box_event ?hg (N := 1) ?hd (cs := #[.int .i64 a0_0, .int .i64 a0_1]) (t := 35) ?hr ?_; (case hd => rfl); (case hg => rfl); (case hr => first | (go_simp; done) | (go_simp; rfl)); intro gb205 hg w7 hbox hb; have n0_ := zm (below_step zb hb); have BK205 := zm (hbox); have GW205 := zm (zs hg zb : w.heap.size ≤ gb205); have GE205 := zm (zs hg zb : w.heap.size ≤ gb205); replace HB := n0_; clear n0_; clear hb hbox hg; obtain ⟨hcz8_0, hcz8_1, hfz8_0, hfz8_1⟩ := zc2 BK205.out) | ((with_reducible refine gate_callee (f := 43) rfl ?_); refine goesA_ (some 5) Tryd.func43 #[.int .i64 a0_0, .int .i64 1, .int .i64 500] rfl ?_; (with_reducible refine (spec_l1In.calls a0_0 1 500 false _ A2.out).mono ?_); rintro e w' ⟨rfl, ⟨nd, rfl⟩⟩; refine ⟨_, rfl, ?_⟩))
  go_ret
  exact ⟨zr, zb⟩
 subst c3;rw [if_pos rfl] at H;obtain ⟨t207, A4, H⟩ := zI H;(try dsimp only at H);obtain rfl := Option.some.inj H;go_enter Tryd.func44, Tryd.ntmps44;go_wp2_with (first | ((with_reducible refine gate_dst (N := 1) rfl ?_); refine box_event ?hg (N := 1) ?hd (cs := #[.int .i64 a0_0, .int .i64 a0_1]) (t := 35) ?hr ?_; (case hd => rfl); (case hg => rfl); (case hr => first | (go_simp; done) | (go_simp; rfl)); intro gb205 hg w5 hbox hb; have n0_ := zm (below_step zb hb); have BK205 := zm (hbox); have GW205 := zm (zs hg zb : w.heap.size ≤ gb205); have GE205 := zm (zs hg zb : w.heap.size ≤ gb205); replace HB := n0_; clear n0_; clear hb hbox hg; obtain ⟨hcz6_0, hcz6_1, hfz6_0, hfz6_1⟩ := zc2 BK205.out) | ((with_reducible refine gate_callee (f := 43) rfl ?_); refine goesA_ (some 5) Tryd.func43 #[.int .i64 a0_0, .int .i64 1, .int .i64 500] rfl ?_; (with_reducible refine (spec_l1In.calls a0_0 1 500 true _ A2.out).mono ?_); rintro e w' ⟨rfl, ⟨nd, rfl⟩⟩; refine ⟨_, rfl, ?_⟩) | (go_at_call 43; (with_reducible refine (spec_l1In.calls a0_1 900 1100 t207 _ A4.out).mono ?_); rintro e w' ⟨rfl, ⟨nd, rfl⟩⟩))
 go_ret
 exact ⟨zr, zb⟩
def spec_stSteps.l0 : Nat → Int → List (S35) → Int → Int → Option (Int)
  | 0, _, _, _, _ => none
  | k + 1, x3, x6, x7, x8 => if x8 < x7 then (if 0 ≤ x8 then (if x8 < (x6.length : Int) then (spec_stSteps.l0 k (wrap64 (x3 + ((rd_T35 x6 x8).f0))) x6 x7 (wrap64 (x8 + 1))) else (none)) else (none)) else (some x3)
def spec_stSteps.f (k : Nat) (l0 : List (S35)) : Option (Int) := spec_stSteps.l0 k 0 l0 (l0.length : Int) 0
set_option maxHeartbeats 8000000 in
set_option maxRecDepth 100000 in
theorem spec_stSteps.calls (k : Nat) (A0 : Option Addr) (c0 : Nat) (l0 : List (S35)) (r : Int) (w : World) (hr0 : Kd.C k35 w A0 l0.length l0) (hc0 : l0.length ≤ c0) (h : spec_stSteps.f k l0 = some r) :
  Calls Tryd.prog 45 #[.slice A0 l0.length c0] w fun e w' => e = .returned (.int .i64 r) ∧ Below w.heap.size w w' := by
 have hu35 := Tryd.underlying35;have HR0 := zm hr0;have HC0 := zm hc0;clear hr0 hc0;have HB := zm (Below.refl w.heap.size w);have H : (spec_stSteps.l0 k 0 l0 (l0.length : Int) 0) = some r := h;clear h;have H' := zm H;clear H;go_enter Tryd.func45, Tryd.ntmps45;go_wp2;go_loopg [3, 8] k (fun kq v3 v8 w' => ∃ (x3_1 : Int) (x8_1 : Int), v3 = .int .i64 x3_1 ∧ v8 = .int .i64 x8_1 ∧ Aside0 (spec_stSteps.l0 kq x3_1 l0 (l0.length : Int) x8_1 = some r) ∧ Aside0 (kq ≤ k) ∧ Aside0 (Below w.heap.size w w'))
 case atStart => exact ⟨(0), (0), zz, zz, H', ⟨Nat.le_refl _⟩, ⟨zb⟩⟩
 case round =>
  clear H';obtain ⟨x3_1, x8_1, rfl, rfl, HA, HK1, HB⟩ := hrel;cases gk with
  | zero => exact absurd HA.out (by simp [spec_stSteps.l0])
  | succ k1 =>
   have H := HA.out;clear HA;simp only [spec_stSteps.l0] at H;by_cases c2 : x8_1 < (l0.length : Int)
   rotate_left
   ·
    rw [if_neg c2] at H;have c2b0 := decide_eq_false c2;clear c2;obtain rfl := Option.some.inj H;go_wp2;go_ret
    exact ⟨zr, zb⟩
   rw [if_pos c2] at H;have c2b0 := decide_eq_true c2;clear c2;obtain ⟨c3, H⟩ := zJ H;have c3b0 := decide_eq_true c3;clear c3;obtain ⟨c4, H⟩ := zJ H;have c4b0 := decide_eq_true c4;clear c4;have H' := zm H;clear H;have p208 : 0 ≤ (x8_1 : Int) := zd;have q208 : x8_1 < (l0.length : Int) := zd;obtain ⟨ad208, e208, hx208_0, hx208_1⟩ := at_T35 HR0.out x8_1 p208 q208;cases e208;replace hx208_0 := zx HB.out hx208_0;replace hx208_1 := zx HB.out hx208_1;replace p208 := eq_true p208;replace q208 := eq_true q208;go_wp2_with (first | ((with_reducible refine gate_dst (N := 5) rfl ?_); refine box_event ?hg (N := 5) ?hd (cs := #[.int .i64 0, .int .i64 0]) (t := 35) ?hr ?_; (case hd => rfl); (case hg => rfl); (case hr => first | (go_simp; done) | (go_simp; rfl)); intro gb209 hg w5 hbox hb; have n0_ := zm (below_step zb hb); have BK209 := zm (hbox); have GW209 := zm (zs hg zb : w.heap.size ≤ gb209); have GE209 := zm (zs hg zb : w.heap.size ≤ gb209); replace HB := n0_; clear n0_; clear hb hbox hg; obtain ⟨hcz6_0, hcz6_1, hfz6_0, hfz6_1⟩ := zc2 BK209.out))
   go_roundg k1
   case measure => have := HK1.out; omega
   case rel => exact ⟨(wrap64 (x3_1 + ((rd_T35 l0 x8_1).f0))), (wrap64 (x8_1 + 1)), zz, zz, H', ⟨by have := HK1.out; omega⟩, ⟨zb⟩⟩
def spec_stGood.l0 : Nat → List (S35) → List (S35) → Int → Int → Option (Bool)
  | 0, _, _, _, _ => none
  | k + 1, x0, x9, x10, x11 => if x11 < x10 then (if 0 ≤ x11 then (if x11 < (x9.length : Int) then ((spec_stSegment.f ((rd_T35 x9 x11).f0) ((rd_T35 x9 x11).f1)).bind fun t213 => (if t213 = true then (spec_stGood.l0 k x0 x9 x10 (wrap64 (x11 + 1))) else (some false))) else (none)) else (none)) else ((spec_stSteps.f k x0).bind fun t214 => (some (decide (t214 ≤ 2000))))
def spec_stGood.f (k : Nat) (l0 : List (S35)) : Option (Bool) := (spec_l1In.f (l0.length : Int) 1 20).bind fun t210 => (if t210 = true then (spec_stGood.l0 k l0 l0 (l0.length : Int) 0) else (some false))
set_option maxHeartbeats 8000000 in
set_option maxRecDepth 100000 in
theorem spec_stGood.calls (k : Nat) (A0 : Option Addr) (c0 : Nat) (l0 : List (S35)) (r : Bool) (w : World) (hr0 : Kd.C k35 w A0 l0.length l0) (hc0 : l0.length ≤ c0) (h : spec_stGood.f k l0 = some r) :
  Calls Tryd.prog 23 #[.slice A0 l0.length c0] w fun e w' => e = .returned (.bool r) ∧ Below w.heap.size w w' := by
 have hu35 := Tryd.underlying35;have HR0 := zm hr0;have HC0 := zm hc0;clear hr0 hc0;have HB := zm (Below.refl w.heap.size w);have H : ((spec_l1In.f (l0.length : Int) 1 20).bind fun t210 => (if t210 = true then (spec_stGood.l0 k l0 l0 (l0.length : Int) 0) else (some false))) = some r := h;clear h;obtain ⟨t210, A2, H⟩ := zI H;(try dsimp only at H);by_cases c3 : t210 = true
 rotate_left
 ·
  replace c3 := Bool.eq_false_iff.mpr c3;subst c3;rw [if_neg (show ¬ (false = true) by decide)] at H;obtain rfl := Option.some.inj H;go_enter Tryd.func23, Tryd.ntmps23;go_wp2_with (first | ((with_reducible refine gate_callee (f := 43) rfl ?_); refine goesA_ (some 7) Tryd.func43 #[.int .i64 (l0.length : Int), .int .i64 1, .int .i64 20] rfl ?_; (with_reducible refine (spec_l1In.calls (l0.length : Int) 1 20 false _ A2.out).mono ?_); rintro e w' ⟨rfl, ⟨nd, rfl⟩⟩; refine ⟨_, rfl, ?_⟩))
  go_ret
  exact ⟨zr, zb⟩
 subst c3;rw [if_pos rfl] at H;have H' := zm H;clear H;go_enter Tryd.func23, Tryd.ntmps23;go_wp2_with (first | ((with_reducible refine gate_callee (f := 43) rfl ?_); refine goesA_ (some 7) Tryd.func43 #[.int .i64 (l0.length : Int), .int .i64 1, .int .i64 20] rfl ?_; (with_reducible refine (spec_l1In.calls (l0.length : Int) 1 20 true _ A2.out).mono ?_); rintro e w' ⟨rfl, ⟨nd, rfl⟩⟩; refine ⟨_, rfl, ?_⟩))
 go_loopg [11] k (fun kq v11 w' => ∃ (x11_1 : Int), v11 = .int .i64 x11_1 ∧ Aside0 (spec_stGood.l0 kq l0 l0 (l0.length : Int) x11_1 = some r) ∧ Aside0 (kq ≤ k) ∧ Aside0 (Below w.heap.size w w'))
 case atStart => exact ⟨(0), zz, H', ⟨Nat.le_refl _⟩, ⟨zb⟩⟩
 case round =>
  clear H';(try clear p2);obtain ⟨x11_1, rfl, HA, HK1, HB⟩ := hrel;cases gk with
  | zero => exact absurd HA.out (by simp [spec_stGood.l0])
  | succ k1 =>
   have H := HA.out;clear HA;simp only [spec_stGood.l0] at H;by_cases c4 : x11_1 < (l0.length : Int)
   rotate_left
   ·
    rw [if_neg c4] at H;have c4b0 := decide_eq_false c4;clear c4;obtain ⟨t214, A15, H⟩ := zI H;(try dsimp only at H);obtain rfl := Option.some.inj H;go_wp2_with (first | ((with_reducible refine gate_callee (f := 45) rfl ?_); refine goesA_ (some 20) Tryd.func45 #[.slice A0 l0.length c0] rfl ?_; (with_reducible refine (spec_stSteps.calls k1 _ _ l0 t214 _ ?side1 ?side2 A15.out).mono ?_); (case side1 => exact zC HR0.out); (case side2 => exact HC0.out); rintro e w16 ⟨rfl, hb⟩; refine ⟨_, rfl, ?_⟩; replace HB := zm (below_step zb hb); (try clear hb)))
    go_ret
    exact ⟨zr, zb⟩
   rw [if_pos c4] at H;have c4b0 := decide_eq_true c4;clear c4;obtain ⟨c5, H⟩ := zJ H;have c5b0 := decide_eq_true c5;clear c5;obtain ⟨c6, H⟩ := zJ H;have c6b0 := decide_eq_true c6;clear c6;obtain ⟨t213, A7, H⟩ := zI H;(try dsimp only at H);by_cases c8 : t213 = true
   rotate_left
   ·
    replace c8 := Bool.eq_false_iff.mpr c8;subst c8;rw [if_neg (show ¬ (false = true) by decide)] at H;obtain rfl := Option.some.inj H;have p211 : 0 ≤ (x11_1 : Int) := zd;have q211 : x11_1 < (l0.length : Int) := zd;obtain ⟨ad211, e211, hx211_0, hx211_1⟩ := at_T35 HR0.out x11_1 p211 q211;cases e211;replace hx211_0 := zx HB.out hx211_0;replace hx211_1 := zx HB.out hx211_1;replace p211 := eq_true p211;replace q211 := eq_true q211;go_wp2_with (first | ((with_reducible refine gate_dst (N := 4) rfl ?_); refine box_event ?hg (N := 4) ?hd (cs := #[.int .i64 0, .int .i64 0]) (t := 35) ?hr ?_; (case hd => rfl); (case hg => rfl); (case hr => first | (go_simp; done) | (go_simp; rfl)); intro gb212 hg w12 hbox hb; have n0_ := zm (below_step zb hb); have BK212 := zm (hbox); have GW212 := zm (zs hg zb : w.heap.size ≤ gb212); have GE212 := zm (zs hg zb : w.heap.size ≤ gb212); replace HB := n0_; clear n0_; clear hb hbox hg; obtain ⟨hcz13_0, hcz13_1, hfz13_0, hfz13_1⟩ := zc2 BK212.out) | ((with_reducible refine gate_callee (f := 44) rfl ?_); refine goesA_ (some 16) Tryd.func44 #[.agg #[.int .i64 ((rd_T35 l0 x11_1).f0), .int .i64 ((rd_T35 l0 x11_1).f1)]] rfl ?_; (with_reducible refine (spec_stSegment.calls ((rd_T35 l0 x11_1).f0) ((rd_T35 l0 x11_1).f1) false _ A7.out).mono ?_); rintro e w14 ⟨rfl, hb⟩; refine ⟨_, rfl, ?_⟩; replace BK212 := zm (blk_below (g := gb212) (o := .cells #[.int .i64 ((rd_T35 l0 x11_1).f0), .int .i64 ((rd_T35 l0 x11_1).f1)] 35 (0, 0)) (by (with_reducible repeat (first | refine blk_drewN ?_ _ | refine blk_drew ?_ | refine blk_alloc ?_ _)); refine blk_put (cs := #[.int .i64 ((rd_T35 l0 x11_1).f0), .int .i64 0]) ?_ 1 _ rfl; (with_reducible repeat (first | refine blk_drewN ?_ _ | refine blk_drew ?_ | refine blk_alloc ?_ _)); refine blk_put (cs := #[.int .i64 0, .int .i64 0]) ?_ 0 _ rfl; (with_reducible repeat (first | refine blk_drewN ?_ _ | refine blk_drew ?_ | refine blk_alloc ?_ _)); exact BK212.out) hb); replace HB := zm (below_step zb hb); (try clear hb)))
    go_ret
    exact ⟨zr, zb⟩
   subst c8;rw [if_pos rfl] at H;have H' := zm H;clear H;have p211 : 0 ≤ (x11_1 : Int) := zd;have q211 : x11_1 < (l0.length : Int) := zd;obtain ⟨ad211, e211, hx211_0, hx211_1⟩ := at_T35 HR0.out x11_1 p211 q211;cases e211;replace hx211_0 := zx HB.out hx211_0;replace hx211_1 := zx HB.out hx211_1;replace p211 := eq_true p211;replace q211 := eq_true q211;go_wp2_with (first | ((with_reducible refine gate_dst (N := 4) rfl ?_); refine box_event ?hg (N := 4) ?hd (cs := #[.int .i64 0, .int .i64 0]) (t := 35) ?hr ?_; (case hd => rfl); (case hg => rfl); (case hr => first | (go_simp; done) | (go_simp; rfl)); intro gb212 hg w9 hbox hb; have n0_ := zm (below_step zb hb); have BK212 := zm (hbox); have GW212 := zm (zs hg zb : w.heap.size ≤ gb212); have GE212 := zm (zs hg zb : w.heap.size ≤ gb212); replace HB := n0_; clear n0_; clear hb hbox hg; obtain ⟨hcz10_0, hcz10_1, hfz10_0, hfz10_1⟩ := zc2 BK212.out) | ((with_reducible refine gate_callee (f := 44) rfl ?_); refine goesA_ (some 16) Tryd.func44 #[.agg #[.int .i64 ((rd_T35 l0 x11_1).f0), .int .i64 ((rd_T35 l0 x11_1).f1)]] rfl ?_; (with_reducible refine (spec_stSegment.calls ((rd_T35 l0 x11_1).f0) ((rd_T35 l0 x11_1).f1) true _ A7.out).mono ?_); rintro e w11 ⟨rfl, hb⟩; refine ⟨_, rfl, ?_⟩; replace BK212 := zm (blk_below (g := gb212) (o := .cells #[.int .i64 ((rd_T35 l0 x11_1).f0), .int .i64 ((rd_T35 l0 x11_1).f1)] 35 (0, 0)) (by (with_reducible repeat (first | refine blk_drewN ?_ _ | refine blk_drew ?_ | refine blk_alloc ?_ _)); refine blk_put (cs := #[.int .i64 ((rd_T35 l0 x11_1).f0), .int .i64 0]) ?_ 1 _ rfl; (with_reducible repeat (first | refine blk_drewN ?_ _ | refine blk_drew ?_ | refine blk_alloc ?_ _)); refine blk_put (cs := #[.int .i64 0, .int .i64 0]) ?_ 0 _ rfl; (with_reducible repeat (first | refine blk_drewN ?_ _ | refine blk_drew ?_ | refine blk_alloc ?_ _)); exact BK212.out) hb); replace HB := zm (below_step zb hb); (try clear hb)))
   go_roundg k1
   case measure => have := HK1.out; omega
   case rel => exact ⟨(wrap64 (x11_1 + 1)), zz, H', ⟨by have := HK1.out; omega⟩, ⟨zb⟩⟩
end Go.Proofs.YtbgbmjagcdnloaaDoor.PSg
