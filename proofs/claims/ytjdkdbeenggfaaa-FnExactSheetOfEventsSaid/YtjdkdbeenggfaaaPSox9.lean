-- Written for this claim by a program of this session (wip/tpl/patchprint.py), not by print.sh.
import Derived.Test.YtjdkdbeenggfaaaPSox0
namespace Go.Proofs.Ytjdkdbeenggfaaa.PSo
open Go.RowKit Go.Proofs.YtjdkdbeenggfaaaW.PrintWords Go.Proofs.YtjdkdbeenggfaaaW.PrintLast Go.Proofs.YtjdkdbeenggfaaaW.PrintMore
attribute [local go_sem] max2_int min2_int max_two min_two max_three min_three max_four min_four   -- for this text's walks alone
set_option linter.unusedVariables false
set_option linter.unusedSimpArgs false

/-! ### impl_holeLess: function 119 -/
def impl_holeLess.f (a0_0 : Int) (a0_1 : Int) (a0_2 : Int) (a1_0 : Int) (a1_1 : Int) (a1_2 : Int) : Option (Bool) := if a0_1 = a1_1 then (some (decide (a0_0 < a1_0))) else (some (decide (a0_1 < a1_1)))
set_option maxHeartbeats 8000000 in
set_option maxRecDepth 100000 in
theorem impl_holeLess.calls (a0_0 : Int) (a0_1 : Int) (a0_2 : Int) (a1_0 : Int) (a1_1 : Int) (a1_2 : Int) (r : Bool) (w : World) (h : impl_holeLess.f a0_0 a0_1 a0_2 a1_0 a1_1 a1_2 = some r) :
  Calls Try.prog 119 #[.agg #[.int .i64 a0_0, .int .i64 a0_1, .int .i64 a0_2], .agg #[.int .i64 a1_0, .int .i64 a1_1, .int .i64 a1_2]] w fun e w' => e = .returned (.bool r) ∧ Below w.heap.size w w' := by
 have hu87 := Try.underlying87
 have HB := zm (Below.refl w.heap.size w)
 have H : (if a0_1 = a1_1 then (some (decide (a0_0 < a1_0))) else (some (decide (a0_1 < a1_1)))) = some r := h
 clear h
 by_cases c3 : a0_1 = a1_1
 rotate_left
 ·
  rw [if_neg c3] at H
  have c3b0 : (a0_1 == a1_1) = false := beq_eq_false_iff_ne.mpr c3
  have c3b1 : (a0_1 != a1_1) = true := bne_iff_ne.mpr c3
  obtain rfl := Option.some.inj H
  go_enter Try.func119, Try.ntmps119
  go_wp2_with (first | ((with_reducible refine gate_dst (N := 2) rfl ?_); refine box_event ?hg (N := 2) ?hd (cs := #[.int .i64 a0_0, .int .i64 a0_1, .int .i64 a0_2]) (t := 87) ?hr ?_; (case hd => rfl); (case hg => rfl); (case hr => first | (go_simp; done) | (go_simp; rfl)); intro gb218 hg w9 hbox hb; have n0_ := zm (below_step zb hb); have BK218 := zm (hbox); have GW218 := zm (zs hg zb : w.heap.size ≤ gb218); have GE218 := zm (zs hg zb : w.heap.size ≤ gb218); replace HB := n0_; clear n0_; clear hb hbox hg) | ((with_reducible refine gate_dst (N := 3) rfl ?_); refine box_event ?hg (N := 3) ?hd (cs := #[.int .i64 a1_0, .int .i64 a1_1, .int .i64 a1_2]) (t := 87) ?hr ?_; (case hd => rfl); (case hg => rfl); (case hr => first | (go_simp; done) | (go_simp; rfl)); intro gb219 hg w10 hbox hb; have n0_ := zm (blk_below (g := gb218) zk hb); have n1_ := zm (below_step zb hb); have BK219 := zm (hbox); have GW219 := zm (zs hg zb : w.heap.size ≤ gb219); have GE219 := zm (zs hg zb : w.heap.size ≤ gb219); have NB218_219 := zm (zl hg zk : gb218 ≠ gb219); have NB219_218 := zm (zg hg zk : gb219 ≠ gb218); replace BK218 := n0_; replace HB := n1_; clear n0_ n1_; clear hb hbox hg; have hnb11 := NB218_219.out; have hnc11 := NB219_218.out; obtain ⟨hcz12_0, hcz12_1, hcz12_2, hfz12_0, hfz12_1, hfz12_2⟩ := zc3 BK218.out; obtain ⟨hcz13_0, hcz13_1, hcz13_2, hfz13_0, hfz13_1, hfz13_2⟩ := zc3 BK219.out))
  go_ret
  exact ⟨zr, zb⟩

 rw [if_pos c3] at H
 have c3b0 : (a0_1 == a1_1) = true := beq_iff_eq.mpr c3
 have c3b1 : (a0_1 != a1_1) = false := bne_eq_false_iff_eq.mpr c3
 clear c3
 obtain rfl := Option.some.inj H
 go_enter Try.func119, Try.ntmps119
 go_wp2_with (first | ((with_reducible refine gate_dst (N := 2) rfl ?_); refine box_event ?hg (N := 2) ?hd (cs := #[.int .i64 a0_0, .int .i64 a0_1, .int .i64 a0_2]) (t := 87) ?hr ?_; (case hd => rfl); (case hg => rfl); (case hr => first | (go_simp; done) | (go_simp; rfl)); intro gb218 hg w4 hbox hb; have n0_ := zm (below_step zb hb); have BK218 := zm (hbox); have GW218 := zm (zs hg zb : w.heap.size ≤ gb218); have GE218 := zm (zs hg zb : w.heap.size ≤ gb218); replace HB := n0_; clear n0_; clear hb hbox hg) | ((with_reducible refine gate_dst (N := 3) rfl ?_); refine box_event ?hg (N := 3) ?hd (cs := #[.int .i64 a1_0, .int .i64 a1_1, .int .i64 a1_2]) (t := 87) ?hr ?_; (case hd => rfl); (case hg => rfl); (case hr => first | (go_simp; done) | (go_simp; rfl)); intro gb219 hg w5 hbox hb; have n0_ := zm (blk_below (g := gb218) zk hb); have n1_ := zm (below_step zb hb); have BK219 := zm (hbox); have GW219 := zm (zs hg zb : w.heap.size ≤ gb219); have GE219 := zm (zs hg zb : w.heap.size ≤ gb219); have NB218_219 := zm (zl hg zk : gb218 ≠ gb219); have NB219_218 := zm (zg hg zk : gb219 ≠ gb218); replace BK218 := n0_; replace HB := n1_; clear n0_ n1_; clear hb hbox hg; have hnb6 := NB218_219.out; have hnc6 := NB219_218.out; obtain ⟨hcz7_0, hcz7_1, hcz7_2, hfz7_0, hfz7_1, hfz7_2⟩ := zc3 BK218.out; obtain ⟨hcz8_0, hcz8_1, hcz8_2, hfz8_0, hfz8_1, hfz8_2⟩ := zc3 BK219.out))
 go_ret
 exact ⟨zr, zb⟩
end Go.Proofs.Ytjdkdbeenggfaaa.PSo
