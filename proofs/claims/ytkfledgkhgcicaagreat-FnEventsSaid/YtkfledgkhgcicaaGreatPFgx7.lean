import Derived.Test.YtkfledgkhgcicaaGreatPFgx0
import Derived.Test.YtkfledgkhgcicaaGreatPFgx6
namespace Go.Proofs.YtkfledgkhgcicaaGreat.PFg
open Go.RowKit Go.Proofs.YtkfledgkhgcicaaGreatW.PrintWords Go.Proofs.YtkfledgkhgcicaaGreatW.PrintLast Go.Proofs.YtkfledgkhgcicaaGreatW.PrintMore
attribute [local go_sem] P8 P5 E5 E8 M4 M0 P6 P7   -- for this text's walks alone
set_option linter.unusedVariables false
set_option linter.unusedSimpArgs false
def q0u.f (a0_0 : Int) (a0_1 : Int) (a0_2 : Int) : Option (Bool) := (q03.f a0_0).bind fun t266 => (if t266 = true then (if a0_1 ≥ 0 then (if a0_1 < a0_2 then (some (decide (a0_2 ≤ 2000))) else (some false)) else (some false)) else (some false))
set_option maxHeartbeats 8000000 in
set_option maxRecDepth 100000 in
theorem q0u.calls (a0_0 : Int) (a0_1 : Int) (a0_2 : Int) (r : Bool) (w : World) (h : q0u.f a0_0 a0_1 a0_2 = some r) :
  Calls Tryz.prog 46 #[.agg #[.int .i64 a0_0, .int .i64 a0_1, .int .i64 a0_2]] w fun e w' => e = .returned (.bool r) ∧ Below w.heap.size w w' := by
 have hu48 := Tryz.underlying48;have HB := zm (Below.refl w.heap.size w);have H : ((q03.f a0_0).bind fun t266 => (if t266 = true then (if a0_1 ≥ 0 then (if a0_1 < a0_2 then (some (decide (a0_2 ≤ 2000))) else (some false)) else (some false)) else (some false))) = some r := h;clear h;obtain ⟨t266, A2, H⟩ := zI H;(try dsimp only at H);by_cases c3 : t266 = true
 rotate_left
 ·
  replace c3 := Bool.eq_false_iff.mpr c3;subst c3;rw [if_neg (show ¬ (false = true) by decide)] at H;obtain rfl := Option.some.inj H;go_enter Tryz.func46, Tryz.ntmps46;go_wp2_with (first | ((with_reducible refine Q6 (N := 1) rfl ?_); refine V5 ?hg (N := 1) ?hd (cs := #[.int .i64 a0_0, .int .i64 a0_1, .int .i64 a0_2]) (t := 48) ?hr ?_; (case hd => rfl); (case hg => rfl); (case hr => first | (go_simp; done) | (go_simp; rfl)); intro gb265 hg w12 hbox hb; have n0_ := zm (q9 zb hb); have BK265 := zm (hbox); have GW265 := zm (zs hg zb : w.heap.size ≤ gb265); have GE265 := zm (zs hg zb : w.heap.size ≤ gb265); replace HB := n0_; clear n0_; clear hb hbox hg; obtain ⟨hcz13_0, hcz13_1, hcz13_2, hfz13_0, hfz13_1, hfz13_2⟩ := zc3 BK265.out) | ((with_reducible refine y7 (f := 65) rfl ?_); refine o7 (some 5) Tryz.func65 #[.int .i64 a0_0] rfl ?_; (with_reducible refine (q03.calls a0_0 false _ A2.out).mono ?_); rintro e w' ⟨rfl, ⟨nd, rfl⟩⟩; refine ⟨_, rfl, ?_⟩))
  go_ret
  exact ⟨zr, zb⟩
 subst c3;rw [if_pos rfl] at H;by_cases c4 : a0_1 ≥ 0
 rotate_left
 ·
  rw [if_neg c4] at H;have c4b0 : decide (0 ≤ a0_1) = false := decide_eq_false c4;clear c4;obtain rfl := Option.some.inj H;go_enter Tryz.func46, Tryz.ntmps46;go_wp2_with (first | ((with_reducible refine Q6 (N := 1) rfl ?_); refine V5 ?hg (N := 1) ?hd (cs := #[.int .i64 a0_0, .int .i64 a0_1, .int .i64 a0_2]) (t := 48) ?hr ?_; (case hd => rfl); (case hg => rfl); (case hr => first | (go_simp; done) | (go_simp; rfl)); intro gb265 hg w10 hbox hb; have n0_ := zm (q9 zb hb); have BK265 := zm (hbox); have GW265 := zm (zs hg zb : w.heap.size ≤ gb265); have GE265 := zm (zs hg zb : w.heap.size ≤ gb265); replace HB := n0_; clear n0_; clear hb hbox hg; obtain ⟨hcz11_0, hcz11_1, hcz11_2, hfz11_0, hfz11_1, hfz11_2⟩ := zc3 BK265.out) | ((with_reducible refine y7 (f := 65) rfl ?_); refine o7 (some 5) Tryz.func65 #[.int .i64 a0_0] rfl ?_; (with_reducible refine (q03.calls a0_0 true _ A2.out).mono ?_); rintro e w' ⟨rfl, ⟨nd, rfl⟩⟩; refine ⟨_, rfl, ?_⟩))
  go_ret
  exact ⟨zr, zb⟩
 rw [if_pos c4] at H;have c4b0 : decide (0 ≤ a0_1) = true := decide_eq_true c4;clear c4;by_cases c5 : a0_1 < a0_2
 rotate_left
 ·
  rw [if_neg c5] at H;have c5b0 := decide_eq_false c5;clear c5;obtain rfl := Option.some.inj H;go_enter Tryz.func46, Tryz.ntmps46;go_wp2_with (first | ((with_reducible refine Q6 (N := 1) rfl ?_); refine V5 ?hg (N := 1) ?hd (cs := #[.int .i64 a0_0, .int .i64 a0_1, .int .i64 a0_2]) (t := 48) ?hr ?_; (case hd => rfl); (case hg => rfl); (case hr => first | (go_simp; done) | (go_simp; rfl)); intro gb265 hg w8 hbox hb; have n0_ := zm (q9 zb hb); have BK265 := zm (hbox); have GW265 := zm (zs hg zb : w.heap.size ≤ gb265); have GE265 := zm (zs hg zb : w.heap.size ≤ gb265); replace HB := n0_; clear n0_; clear hb hbox hg; obtain ⟨hcz9_0, hcz9_1, hcz9_2, hfz9_0, hfz9_1, hfz9_2⟩ := zc3 BK265.out) | ((with_reducible refine y7 (f := 65) rfl ?_); refine o7 (some 5) Tryz.func65 #[.int .i64 a0_0] rfl ?_; (with_reducible refine (q03.calls a0_0 true _ A2.out).mono ?_); rintro e w' ⟨rfl, ⟨nd, rfl⟩⟩; refine ⟨_, rfl, ?_⟩))
  go_ret
  exact ⟨zr, zb⟩
 rw [if_pos c5] at H;have c5b0 := decide_eq_true c5;clear c5;obtain rfl := Option.some.inj H;go_enter Tryz.func46, Tryz.ntmps46;go_wp2_with (first | ((with_reducible refine Q6 (N := 1) rfl ?_); refine V5 ?hg (N := 1) ?hd (cs := #[.int .i64 a0_0, .int .i64 a0_1, .int .i64 a0_2]) (t := 48) ?hr ?_; (case hd => rfl); (case hg => rfl); (case hr => first | (go_simp; done) | (go_simp; rfl)); intro gb265 hg w6 hbox hb; have n0_ := zm (q9 zb hb); have BK265 := zm (hbox); have GW265 := zm (zs hg zb : w.heap.size ≤ gb265); have GE265 := zm (zs hg zb : w.heap.size ≤ gb265); replace HB := n0_; clear n0_; clear hb hbox hg; obtain ⟨hcz7_0, hcz7_1, hcz7_2, hfz7_0, hfz7_1, hfz7_2⟩ := zc3 BK265.out) | ((with_reducible refine y7 (f := 65) rfl ?_); refine o7 (some 5) Tryz.func65 #[.int .i64 a0_0] rfl ?_; (with_reducible refine (q03.calls a0_0 true _ A2.out).mono ?_); rintro e w' ⟨rfl, ⟨nd, rfl⟩⟩; refine ⟨_, rfl, ?_⟩))
 go_ret
 exact ⟨zr, zb⟩
def U9.f (a0_0 : Int) (a0_1 : Int) (a0_2 : Int) (a1_0 : Int) (a1_1 : Int) (a1_2 : Int) : Option (Bool) := if a0_1 = a1_1 then (some (decide (a0_0 < a1_0))) else (some (decide (a0_1 < a1_1)))
set_option maxHeartbeats 8000000 in
set_option maxRecDepth 100000 in
theorem U9.calls (a0_0 : Int) (a0_1 : Int) (a0_2 : Int) (a1_0 : Int) (a1_1 : Int) (a1_2 : Int) (r : Bool) (w : World) (h : U9.f a0_0 a0_1 a0_2 a1_0 a1_1 a1_2 = some r) :
  Calls Tryz.prog 47 #[.agg #[.int .i64 a0_0, .int .i64 a0_1, .int .i64 a0_2], .agg #[.int .i64 a1_0, .int .i64 a1_1, .int .i64 a1_2]] w fun e w' => e = .returned (.bool r) ∧ Below w.heap.size w w' := by
 have hu48 := Tryz.underlying48;have HB := zm (Below.refl w.heap.size w);have H : (if a0_1 = a1_1 then (some (decide (a0_0 < a1_0))) else (some (decide (a0_1 < a1_1)))) = some r := h;clear h;by_cases c3 : a0_1 = a1_1
 rotate_left
 ·
  rw [if_neg c3] at H;have c3b0 : (a0_1 == a1_1) = false := beq_eq_false_iff_ne.mpr c3;have c3b1 : (a0_1 != a1_1) = true := bne_iff_ne.mpr c3;obtain rfl := Option.some.inj H;go_enter Tryz.func47, Tryz.ntmps47;go_wp2_with (first | ((with_reducible refine Q6 (N := 2) rfl ?_); refine V5 ?hg (N := 2) ?hd (cs := #[.int .i64 a0_0, .int .i64 a0_1, .int .i64 a0_2]) (t := 48) ?hr ?_; (case hd => rfl); (case hg => rfl); (case hr => first | (go_simp; done) | (go_simp; rfl)); intro gb267 hg w9 hbox hb; have n0_ := zm (q9 zb hb); have BK267 := zm (hbox); have GW267 := zm (zs hg zb : w.heap.size ≤ gb267); have GE267 := zm (zs hg zb : w.heap.size ≤ gb267); replace HB := n0_; clear n0_; clear hb hbox hg) | ((with_reducible refine Q6 (N := 3) rfl ?_); refine V5 ?hg (N := 3) ?hd (cs := #[.int .i64 a1_0, .int .i64 a1_1, .int .i64 a1_2]) (t := 48) ?hr ?_; (case hd => rfl); (case hg => rfl); (case hr => first | (go_simp; done) | (go_simp; rfl)); intro gb268 hg w10 hbox hb; have n0_ := zm (o5 (g := gb267) zk hb); have n1_ := zm (q9 zb hb); have BK268 := zm (hbox); have GW268 := zm (zs hg zb : w.heap.size ≤ gb268); have GE268 := zm (zs hg zb : w.heap.size ≤ gb268); have NB267_268 := zm (zl hg zk : gb267 ≠ gb268); have NB268_267 := zm (zg hg zk : gb268 ≠ gb267); replace BK267 := n0_; replace HB := n1_; clear n0_ n1_; clear hb hbox hg; have hnb11 := NB267_268.out; have hnc11 := NB268_267.out; obtain ⟨hcz12_0, hcz12_1, hcz12_2, hfz12_0, hfz12_1, hfz12_2⟩ := zc3 BK267.out; obtain ⟨hcz13_0, hcz13_1, hcz13_2, hfz13_0, hfz13_1, hfz13_2⟩ := zc3 BK268.out))
  go_ret
  exact ⟨zr, zb⟩
 rw [if_pos c3] at H;have c3b0 : (a0_1 == a1_1) = true := beq_iff_eq.mpr c3;have c3b1 : (a0_1 != a1_1) = false := bne_eq_false_iff_eq.mpr c3;clear c3;obtain rfl := Option.some.inj H;go_enter Tryz.func47, Tryz.ntmps47;go_wp2_with (first | ((with_reducible refine Q6 (N := 2) rfl ?_); refine V5 ?hg (N := 2) ?hd (cs := #[.int .i64 a0_0, .int .i64 a0_1, .int .i64 a0_2]) (t := 48) ?hr ?_; (case hd => rfl); (case hg => rfl); (case hr => first | (go_simp; done) | (go_simp; rfl)); intro gb267 hg w4 hbox hb; have n0_ := zm (q9 zb hb); have BK267 := zm (hbox); have GW267 := zm (zs hg zb : w.heap.size ≤ gb267); have GE267 := zm (zs hg zb : w.heap.size ≤ gb267); replace HB := n0_; clear n0_; clear hb hbox hg) | ((with_reducible refine Q6 (N := 3) rfl ?_); refine V5 ?hg (N := 3) ?hd (cs := #[.int .i64 a1_0, .int .i64 a1_1, .int .i64 a1_2]) (t := 48) ?hr ?_; (case hd => rfl); (case hg => rfl); (case hr => first | (go_simp; done) | (go_simp; rfl)); intro gb268 hg w5 hbox hb; have n0_ := zm (o5 (g := gb267) zk hb); have n1_ := zm (q9 zb hb); have BK268 := zm (hbox); have GW268 := zm (zs hg zb : w.heap.size ≤ gb268); have GE268 := zm (zs hg zb : w.heap.size ≤ gb268); have NB267_268 := zm (zl hg zk : gb267 ≠ gb268); have NB268_267 := zm (zg hg zk : gb268 ≠ gb267); replace BK267 := n0_; replace HB := n1_; clear n0_ n1_; clear hb hbox hg; have hnb6 := NB267_268.out; have hnc6 := NB268_267.out; obtain ⟨hcz7_0, hcz7_1, hcz7_2, hfz7_0, hfz7_1, hfz7_2⟩ := zc3 BK267.out; obtain ⟨hcz8_0, hcz8_1, hcz8_2, hfz8_0, hfz8_1, hfz8_2⟩ := zc3 BK268.out))
 go_ret
 exact ⟨zr, zb⟩
end Go.Proofs.YtkfledgkhgcicaaGreat.PFg
