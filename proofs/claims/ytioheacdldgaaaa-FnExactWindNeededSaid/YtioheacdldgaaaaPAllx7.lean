-- Written for this claim by a program of this session (wip/tpl/patchprint.py), not by print.sh.
import Derived.Test.YtioheacdldgaaaaPAllx0
import Derived.Test.YtioheacdldgaaaaPAllx5
import Derived.Test.YtioheacdldgaaaaPAllx6
namespace Go.Proofs.Ytioheacdldgaaaa.PAll
open Go.RowKit Go.Proofs.YtioheacdldgaaaaW.PrintWords Go.Proofs.YtioheacdldgaaaaW.PrintLast Go.Proofs.YtioheacdldgaaaaW.PrintMore
attribute [local go_sem] max2_int min2_int max_two min_two max_three min_three max_four min_four   -- for this text's walks alone
set_option linter.unusedVariables false
set_option linter.unusedSimpArgs false

/-! ### impl_IsAction: function 73 -/
def impl_IsAction.f (a0_0 : Int) (a0_1 : Int) (a0_2 : Int) : Option (Bool) := if a0_0 ≥ 0 then (if a0_0 ≤ 40 then (if a0_1 ≥ 0 then (if a0_1 ≤ 40 then (if a0_2 ≥ 0 then (some (decide (a0_2 ≤ 40))) else (some false)) else (some false)) else (some false)) else (some false)) else (some false)
set_option maxHeartbeats 8000000 in
set_option maxRecDepth 100000 in
theorem impl_IsAction.calls (a0_0 : Int) (a0_1 : Int) (a0_2 : Int) (r : Bool) (w : World) (h : impl_IsAction.f a0_0 a0_1 a0_2 = some r) :
  Calls Try.prog 73 #[.agg #[.int .i64 a0_0, .int .i64 a0_1, .int .i64 a0_2]] w fun e w' => e = .returned (.bool r) ∧ Below w.heap.size w w' := by
 have hu36 := Try.underlying36
 have HB := zm (Below.refl w.heap.size w)
 have H : (if a0_0 ≥ 0 then (if a0_0 ≤ 40 then (if a0_1 ≥ 0 then (if a0_1 ≤ 40 then (if a0_2 ≥ 0 then (some (decide (a0_2 ≤ 40))) else (some false)) else (some false)) else (some false)) else (some false)) else (some false)) = some r := h
 clear h
 by_cases c2 : a0_0 ≥ 0
 ·
  rw [if_pos c2] at H
  have c2b0 : decide (0 ≤ a0_0) = true := decide_eq_true c2
  clear c2
  by_cases c3 : a0_0 ≤ 40
  ·
   rw [if_pos c3] at H
   have c3b0 : decide (a0_0 ≤ 40) = true := decide_eq_true c3
   clear c3
   by_cases c4 : a0_1 ≥ 0
   ·
    rw [if_pos c4] at H
    have c4b0 : decide (0 ≤ a0_1) = true := decide_eq_true c4
    clear c4
    by_cases c5 : a0_1 ≤ 40
    ·
     rw [if_pos c5] at H
     have c5b0 : decide (a0_1 ≤ 40) = true := decide_eq_true c5
     clear c5
     by_cases c6 : a0_2 ≥ 0
     ·
      rw [if_pos c6] at H
      have c6b0 : decide (0 ≤ a0_2) = true := decide_eq_true c6
      clear c6
      obtain rfl := Option.some.inj H
      go_enter Try.func73, Try.ntmps73
      go_wp2_with (first | ((with_reducible refine gate_dst (N := 1) rfl ?_); refine box_event ?hg (N := 1) ?hd (cs := #[.int .i64 a0_0, .int .i64 a0_1, .int .i64 a0_2]) (t := 36) ?hr ?_; (case hd => rfl); (case hg => rfl); (case hr => first | (go_simp; done) | (go_simp; rfl)); intro gb227 hg w7 hbox hb; have n0_ := zm (below_step zb hb); have n1_ := zm (hbox); have n2_ := zm (zs hg zb : w.heap.size ≤ gb227); have n3_ := zm (zs hg zb : w.heap.size ≤ gb227); clear HB; have HB := n0_; have BK227 := n1_; have GW227 := n2_; have GE227 := n3_; clear n0_ n1_ n2_ n3_; clear hb hbox hg; obtain ⟨hcz8_0, hcz8_1, hcz8_2, hfz8_0, hfz8_1, hfz8_2⟩ := zc3 BK227.out))
      go_ret
      exact ⟨zr, zb⟩
     ·
      rw [if_neg c6] at H
      have c6b0 : decide (0 ≤ a0_2) = false := decide_eq_false c6
      clear c6
      obtain rfl := Option.some.inj H
      go_enter Try.func73, Try.ntmps73
      go_wp2_with (first | ((with_reducible refine gate_dst (N := 1) rfl ?_); refine box_event ?hg (N := 1) ?hd (cs := #[.int .i64 a0_0, .int .i64 a0_1, .int .i64 a0_2]) (t := 36) ?hr ?_; (case hd => rfl); (case hg => rfl); (case hr => first | (go_simp; done) | (go_simp; rfl)); intro gb227 hg w9 hbox hb; have n0_ := zm (below_step zb hb); have n1_ := zm (hbox); have n2_ := zm (zs hg zb : w.heap.size ≤ gb227); have n3_ := zm (zs hg zb : w.heap.size ≤ gb227); clear HB; have HB := n0_; have BK227 := n1_; have GW227 := n2_; have GE227 := n3_; clear n0_ n1_ n2_ n3_; clear hb hbox hg; obtain ⟨hcz10_0, hcz10_1, hcz10_2, hfz10_0, hfz10_1, hfz10_2⟩ := zc3 BK227.out))
      go_ret
      exact ⟨zr, zb⟩
    ·
     rw [if_neg c5] at H
     have c5b0 : decide (a0_1 ≤ 40) = false := decide_eq_false c5
     clear c5
     obtain rfl := Option.some.inj H
     go_enter Try.func73, Try.ntmps73
     go_wp2_with (first | ((with_reducible refine gate_dst (N := 1) rfl ?_); refine box_event ?hg (N := 1) ?hd (cs := #[.int .i64 a0_0, .int .i64 a0_1, .int .i64 a0_2]) (t := 36) ?hr ?_; (case hd => rfl); (case hg => rfl); (case hr => first | (go_simp; done) | (go_simp; rfl)); intro gb227 hg w11 hbox hb; have n0_ := zm (below_step zb hb); have n1_ := zm (hbox); have n2_ := zm (zs hg zb : w.heap.size ≤ gb227); have n3_ := zm (zs hg zb : w.heap.size ≤ gb227); clear HB; have HB := n0_; have BK227 := n1_; have GW227 := n2_; have GE227 := n3_; clear n0_ n1_ n2_ n3_; clear hb hbox hg; obtain ⟨hcz12_0, hcz12_1, hcz12_2, hfz12_0, hfz12_1, hfz12_2⟩ := zc3 BK227.out))
     go_ret
     exact ⟨zr, zb⟩
   ·
    rw [if_neg c4] at H
    have c4b0 : decide (0 ≤ a0_1) = false := decide_eq_false c4
    clear c4
    obtain rfl := Option.some.inj H
    go_enter Try.func73, Try.ntmps73
    go_wp2_with (first | ((with_reducible refine gate_dst (N := 1) rfl ?_); refine box_event ?hg (N := 1) ?hd (cs := #[.int .i64 a0_0, .int .i64 a0_1, .int .i64 a0_2]) (t := 36) ?hr ?_; (case hd => rfl); (case hg => rfl); (case hr => first | (go_simp; done) | (go_simp; rfl)); intro gb227 hg w13 hbox hb; have n0_ := zm (below_step zb hb); have n1_ := zm (hbox); have n2_ := zm (zs hg zb : w.heap.size ≤ gb227); have n3_ := zm (zs hg zb : w.heap.size ≤ gb227); clear HB; have HB := n0_; have BK227 := n1_; have GW227 := n2_; have GE227 := n3_; clear n0_ n1_ n2_ n3_; clear hb hbox hg; obtain ⟨hcz14_0, hcz14_1, hcz14_2, hfz14_0, hfz14_1, hfz14_2⟩ := zc3 BK227.out))
    go_ret
    exact ⟨zr, zb⟩
  ·
   rw [if_neg c3] at H
   have c3b0 : decide (a0_0 ≤ 40) = false := decide_eq_false c3
   clear c3
   obtain rfl := Option.some.inj H
   go_enter Try.func73, Try.ntmps73
   go_wp2_with (first | ((with_reducible refine gate_dst (N := 1) rfl ?_); refine box_event ?hg (N := 1) ?hd (cs := #[.int .i64 a0_0, .int .i64 a0_1, .int .i64 a0_2]) (t := 36) ?hr ?_; (case hd => rfl); (case hg => rfl); (case hr => first | (go_simp; done) | (go_simp; rfl)); intro gb227 hg w15 hbox hb; have n0_ := zm (below_step zb hb); have n1_ := zm (hbox); have n2_ := zm (zs hg zb : w.heap.size ≤ gb227); have n3_ := zm (zs hg zb : w.heap.size ≤ gb227); clear HB; have HB := n0_; have BK227 := n1_; have GW227 := n2_; have GE227 := n3_; clear n0_ n1_ n2_ n3_; clear hb hbox hg; obtain ⟨hcz16_0, hcz16_1, hcz16_2, hfz16_0, hfz16_1, hfz16_2⟩ := zc3 BK227.out))
   go_ret
   exact ⟨zr, zb⟩
 ·
  rw [if_neg c2] at H
  have c2b0 : decide (0 ≤ a0_0) = false := decide_eq_false c2
  clear c2
  obtain rfl := Option.some.inj H
  go_enter Try.func73, Try.ntmps73
  go_wp2_with (first | ((with_reducible refine gate_dst (N := 1) rfl ?_); refine box_event ?hg (N := 1) ?hd (cs := #[.int .i64 a0_0, .int .i64 a0_1, .int .i64 a0_2]) (t := 36) ?hr ?_; (case hd => rfl); (case hg => rfl); (case hr => first | (go_simp; done) | (go_simp; rfl)); intro gb227 hg w17 hbox hb; have n0_ := zm (below_step zb hb); have n1_ := zm (hbox); have n2_ := zm (zs hg zb : w.heap.size ≤ gb227); have n3_ := zm (zs hg zb : w.heap.size ≤ gb227); clear HB; have HB := n0_; have BK227 := n1_; have GW227 := n2_; have GE227 := n3_; clear n0_ n1_ n2_ n3_; clear hb hbox hg; obtain ⟨hcz18_0, hcz18_1, hcz18_2, hfz18_0, hfz18_1, hfz18_2⟩ := zc3 BK227.out))
  go_ret
  exact ⟨zr, zb⟩

/-! ### impl_canBePlayed: function 53 -/
def impl_canBePlayed.f (k : Nat) (l0_0 : List Int) (a0_1 : Int) (l1 : List (S73)) (a2_0 : Int) (a2_1 : Int) (a2_2 : Int) : Option (Bool) := (impl_IsInstrument.f k l0_0 a0_1).bind fun t230 => (if t230 = true then ((impl_IsSheet.f k l1).bind fun t231 => (if t231 = true then ((impl_IsAction.f a2_0 a2_1 a2_2).bind fun t232 => (some t232)) else (some false))) else (some false))
theorem impl_canBePlayed.mono : ∀ a0 a1 a2 a3 a4 a5 k, LeO (impl_canBePlayed.f k a0 a1 a2 a3 a4 a5) (impl_canBePlayed.f (k + 1) a0 a1 a2 a3 a4 a5) := by
  intro a0 a1 a2 a3 a4 a5 k
  unfold impl_canBePlayed.f
  repeat' first
      | (with_reducible exact impl_IsInstrument.mono _ _ _)
      | (with_reducible exact impl_IsSheet.mono _ _)
      | (with_reducible exact LeO.refl _)
      | (with_reducible exact LeO.none _)
      | (with_reducible refine LeO.ite ?_ ?_)
      | (with_reducible refine LeO.bind ?_ (fun _ => ?_))
      | exact impl_IsInstrument.mono _ _ _
      | exact impl_IsSheet.mono _ _
      | exact LeO.none _
      | refine LeO.ite ?_ ?_
      | refine LeO.bind ?_ (fun _ => ?_)
set_option maxHeartbeats 8000000 in
set_option maxRecDepth 100000 in
theorem impl_canBePlayed.calls (k : Nat) (A0_0 : Option Addr) (c0_0 : Nat) (l0_0 : List Int) (a0_1 : Int) (A1 : Option Addr) (c1 : Nat) (l1 : List (S73)) (a2_0 : Int) (a2_1 : Int) (a2_2 : Int) (r : Bool) (w : World) (hr0_0 : Kd.C (Kd.int .i64) w A0_0 l0_0.length l0_0) (hc0_0 : l0_0.length ≤ c0_0) (hr1 : Kd.C k73 w A1 l1.length l1) (hc1 : l1.length ≤ c1) (h : impl_canBePlayed.f k l0_0 a0_1 l1 a2_0 a2_1 a2_2 = some r) :
  Calls Try.prog 53 #[.agg #[.slice A0_0 l0_0.length c0_0, .int .i64 a0_1], .slice A1 l1.length c1, .agg #[.int .i64 a2_0, .int .i64 a2_1, .int .i64 a2_2]] w fun e w' => e = .returned (.bool r) ∧ Below w.heap.size w w' := by
 have hu32 := Try.underlying32
 have hu36 := Try.underlying36
 have HR0_0 := zm hr0_0
 have HC0_0 := zm hc0_0
 clear hr0_0 hc0_0
 have HR1 := zm hr1
 have HC1 := zm hc1
 clear hr1 hc1
 have HB := zm (Below.refl w.heap.size w)
 have H : ((impl_IsInstrument.f k l0_0 a0_1).bind fun t230 => (if t230 = true then ((impl_IsSheet.f k l1).bind fun t231 => (if t231 = true then ((impl_IsAction.f a2_0 a2_1 a2_2).bind fun t232 => (some t232)) else (some false))) else (some false))) = some r := h
 clear h
 replace H := Option.bind_eq_some_iff.mp H
 obtain ⟨t230, A40, H⟩ := H
 replace H : (if t230 = true then ((impl_IsSheet.f k l1).bind fun t231 => (if t231 = true then ((impl_IsAction.f a2_0 a2_1 a2_2).bind fun t232 => (some t232)) else (some false))) else (some false)) = some r := H
 have A4 := zm A40
 clear A40
 by_cases c5 : t230 = true
 ·
  subst c5
  have H1 : ((impl_IsSheet.f k l1).bind fun t231 => (if t231 = true then ((impl_IsAction.f a2_0 a2_1 a2_2).bind fun t232 => (some t232)) else (some false))) = some r := by rw [if_pos rfl] at H; exact H
  clear H
  have H := H1
  clear H1
  replace H := Option.bind_eq_some_iff.mp H
  obtain ⟨t231, A60, H⟩ := H
  replace H : (if t231 = true then ((impl_IsAction.f a2_0 a2_1 a2_2).bind fun t232 => (some t232)) else (some false)) = some r := H
  have A6 := zm A60
  clear A60
  by_cases c7 : t231 = true
  ·
   subst c7
   have H1 : ((impl_IsAction.f a2_0 a2_1 a2_2).bind fun t232 => (some t232)) = some r := by rw [if_pos rfl] at H; exact H
   clear H
   have H := H1
   clear H1
   replace H := Option.bind_eq_some_iff.mp H
   obtain ⟨t232, A80, H⟩ := H
   replace H : (some t232) = some r := H
   have A8 := zm A80
   clear A80
   obtain rfl := Option.some.inj H
   go_enter Try.func53, Try.ntmps53
   go_wp2_with (first | ((with_reducible refine gate_dst (N := 3) rfl ?_); refine box_event ?hg (N := 3) ?hd (cs := #[.slice A0_0 l0_0.length c0_0, .int .i64 a0_1]) (t := 32) ?hr ?_; (case hd => rfl); (case hg => rfl); (case hr => first | (go_simp; done) | (go_simp; rfl)); intro gb228 hg w9 hbox hb; have n0_ := zm (below_step zb hb); have n1_ := zm (hbox); have n2_ := zm (zs hg zb : w.heap.size ≤ gb228); have n3_ := zm (zs hg zb : w.heap.size ≤ gb228); clear HB; have HB := n0_; have BK228 := n1_; have GW228 := n2_; have GE228 := n3_; clear n0_ n1_ n2_ n3_; clear hb hbox hg) | ((with_reducible refine gate_dst (N := 5) rfl ?_); refine box_event ?hg (N := 5) ?hd (cs := #[.int .i64 a2_0, .int .i64 a2_1, .int .i64 a2_2]) (t := 36) ?hr ?_; (case hd => rfl); (case hg => rfl); (case hr => first | (go_simp; done) | (go_simp; rfl)); intro gb229 hg w10 hbox hb; have n0_ := zm (blk_below (g := gb228) zk hb); have n1_ := zm (below_step zb hb); have n2_ := zm (hbox); have n3_ := zm (zs hg zb : w.heap.size ≤ gb229); have n4_ := zm (zs hg zb : w.heap.size ≤ gb229); have n5_ := zm (zl hg zk : gb228 ≠ gb229); have n6_ := zm (zg hg zk : gb229 ≠ gb228); clear BK228; clear HB; have BK228 := n0_; have HB := n1_; have BK229 := n2_; have GW229 := n3_; have GE229 := n4_; have NB228_229 := n5_; have NB229_228 := n6_; clear n0_ n1_ n2_ n3_ n4_ n5_ n6_; clear hb hbox hg; have hnb11 := NB228_229.out; have hnc11 := NB229_228.out; obtain ⟨hcz12_0, hcz12_1, hfz12_0, hfz12_1⟩ := zc2 BK228.out) | ((with_reducible refine gate_callee (f := 71) rfl ?_); refine goesL_ (some 8) rfl rfl Try.func71 (by kernel_rfl) rfl #[.agg #[.slice A0_0 l0_0.length c0_0, .int .i64 a0_1]] rfl (by (try simp only [List.map_toArray, List.map_cons, List.map_nil]); first | done | rfl | (simp only [List.length_drop, List.length_take]; rfl)) ?_; (with_reducible refine (impl_IsInstrument.calls k _ _ l0_0 a0_1 true _ ?side1 ?side2 A4.out).mono ?_); (case side1 => repeat (first | exact (Kd.C_below HR0_0.out HB.out) | (with_reducible refine Kd.C_alloc ?_ _) | (with_reducible refine Kd.C_drewN ?_ _) | (with_reducible refine Kd.C_drew ?_))); (case side2 => exact HC0_0.out); rintro e w13 ⟨rfl, hb⟩; refine ⟨_, rfl, ?_⟩; have n0_ := zm (blk_below (g := gb228) zk hb); have n1_ := zm (blk_below (g := gb229) zk hb); have n2_ := zm (below_step zb hb); clear BK228; clear BK229; clear HB; have BK228 := n0_; have BK229 := n1_; have HB := n2_; clear n0_ n1_ n2_; (try clear hb); (try clear hb2); (try clear hk); (try clear hi)) | (go_at_call 72; (with_reducible refine (impl_IsSheet.calls k _ _ l1 true _ ?side1 ?side2 A6.out).mono ?_); (case side1 => repeat (first | exact (Kd.C_below HR1.out HB.out) | (with_reducible refine Kd.C_alloc ?_ _) | (with_reducible refine Kd.C_drewN ?_ _) | (with_reducible refine Kd.C_drew ?_))); (case side2 => exact HC1.out); rintro e w14 ⟨rfl, hb⟩; have n0_ := zm (blk_below (g := gb228) zk hb); have n1_ := zm (blk_below (g := gb229) zk hb); have n2_ := zm (below_step zb hb); clear BK228; clear BK229; clear HB; have BK228 := n0_; have BK229 := n1_; have HB := n2_; clear n0_ n1_ n2_; (try clear hb); (try clear hb2); (try clear hk); (try clear hi); obtain ⟨hcz15_0, hcz15_1, hcz15_2, hfz15_0, hfz15_1, hfz15_2⟩ := zc3 BK229.out) | (go_at_call 73; (with_reducible refine (impl_IsAction.calls a2_0 a2_1 a2_2 t232 _ A8.out).mono ?_); rintro e w16 ⟨rfl, hb⟩; have n0_ := zm (blk_below (g := gb228) zk hb); have n1_ := zm (blk_below (g := gb229) zk hb); have n2_ := zm (below_step zb hb); clear BK228; clear BK229; clear HB; have BK228 := n0_; have BK229 := n1_; have HB := n2_; clear n0_ n1_ n2_; (try clear hb); (try clear hb2); (try clear hk); (try clear hi)))
   go_ret
   exact ⟨zr, zb⟩
  ·
   replace c7 := Bool.eq_false_iff.mpr c7
   subst c7
   have H1 : (some false) = some r := by rw [if_neg (show ¬ (false = true) by decide)] at H; exact H
   clear H
   have H := H1
   clear H1
   obtain rfl := Option.some.inj H
   go_enter Try.func53, Try.ntmps53
   go_wp2_with (first | ((with_reducible refine gate_dst (N := 3) rfl ?_); refine box_event ?hg (N := 3) ?hd (cs := #[.slice A0_0 l0_0.length c0_0, .int .i64 a0_1]) (t := 32) ?hr ?_; (case hd => rfl); (case hg => rfl); (case hr => first | (go_simp; done) | (go_simp; rfl)); intro gb228 hg w17 hbox hb; have n0_ := zm (below_step zb hb); have n1_ := zm (hbox); have n2_ := zm (zs hg zb : w.heap.size ≤ gb228); have n3_ := zm (zs hg zb : w.heap.size ≤ gb228); clear HB; have HB := n0_; have BK228 := n1_; have GW228 := n2_; have GE228 := n3_; clear n0_ n1_ n2_ n3_; clear hb hbox hg) | ((with_reducible refine gate_dst (N := 5) rfl ?_); refine box_event ?hg (N := 5) ?hd (cs := #[.int .i64 a2_0, .int .i64 a2_1, .int .i64 a2_2]) (t := 36) ?hr ?_; (case hd => rfl); (case hg => rfl); (case hr => first | (go_simp; done) | (go_simp; rfl)); intro gb229 hg w18 hbox hb; have n0_ := zm (blk_below (g := gb228) zk hb); have n1_ := zm (below_step zb hb); have n2_ := zm (hbox); have n3_ := zm (zs hg zb : w.heap.size ≤ gb229); have n4_ := zm (zs hg zb : w.heap.size ≤ gb229); have n5_ := zm (zl hg zk : gb228 ≠ gb229); have n6_ := zm (zg hg zk : gb229 ≠ gb228); clear BK228; clear HB; have BK228 := n0_; have HB := n1_; have BK229 := n2_; have GW229 := n3_; have GE229 := n4_; have NB228_229 := n5_; have NB229_228 := n6_; clear n0_ n1_ n2_ n3_ n4_ n5_ n6_; clear hb hbox hg; have hnb19 := NB228_229.out; have hnc19 := NB229_228.out; obtain ⟨hcz20_0, hcz20_1, hfz20_0, hfz20_1⟩ := zc2 BK228.out) | ((with_reducible refine gate_callee (f := 71) rfl ?_); refine goesL_ (some 8) rfl rfl Try.func71 (by kernel_rfl) rfl #[.agg #[.slice A0_0 l0_0.length c0_0, .int .i64 a0_1]] rfl (by (try simp only [List.map_toArray, List.map_cons, List.map_nil]); first | done | rfl | (simp only [List.length_drop, List.length_take]; rfl)) ?_; (with_reducible refine (impl_IsInstrument.calls k _ _ l0_0 a0_1 true _ ?side1 ?side2 A4.out).mono ?_); (case side1 => repeat (first | exact (Kd.C_below HR0_0.out HB.out) | (with_reducible refine Kd.C_alloc ?_ _) | (with_reducible refine Kd.C_drewN ?_ _) | (with_reducible refine Kd.C_drew ?_))); (case side2 => exact HC0_0.out); rintro e w21 ⟨rfl, hb⟩; refine ⟨_, rfl, ?_⟩; have n0_ := zm (blk_below (g := gb228) zk hb); have n1_ := zm (blk_below (g := gb229) zk hb); have n2_ := zm (below_step zb hb); clear BK228; clear BK229; clear HB; have BK228 := n0_; have BK229 := n1_; have HB := n2_; clear n0_ n1_ n2_; (try clear hb); (try clear hb2); (try clear hk); (try clear hi)) | (go_at_call 72; (with_reducible refine (impl_IsSheet.calls k _ _ l1 false _ ?side1 ?side2 A6.out).mono ?_); (case side1 => repeat (first | exact (Kd.C_below HR1.out HB.out) | (with_reducible refine Kd.C_alloc ?_ _) | (with_reducible refine Kd.C_drewN ?_ _) | (with_reducible refine Kd.C_drew ?_))); (case side2 => exact HC1.out); rintro e w22 ⟨rfl, hb⟩; have n0_ := zm (blk_below (g := gb228) zk hb); have n1_ := zm (blk_below (g := gb229) zk hb); have n2_ := zm (below_step zb hb); clear BK228; clear BK229; clear HB; have BK228 := n0_; have BK229 := n1_; have HB := n2_; clear n0_ n1_ n2_; (try clear hb); (try clear hb2); (try clear hk); (try clear hi)))
   go_ret
   exact ⟨zr, zb⟩
 ·
  replace c5 := Bool.eq_false_iff.mpr c5
  subst c5
  have H1 : (some false) = some r := by rw [if_neg (show ¬ (false = true) by decide)] at H; exact H
  clear H
  have H := H1
  clear H1
  obtain rfl := Option.some.inj H
  go_enter Try.func53, Try.ntmps53
  go_wp2_with (first | ((with_reducible refine gate_dst (N := 3) rfl ?_); refine box_event ?hg (N := 3) ?hd (cs := #[.slice A0_0 l0_0.length c0_0, .int .i64 a0_1]) (t := 32) ?hr ?_; (case hd => rfl); (case hg => rfl); (case hr => first | (go_simp; done) | (go_simp; rfl)); intro gb228 hg w23 hbox hb; have n0_ := zm (below_step zb hb); have n1_ := zm (hbox); have n2_ := zm (zs hg zb : w.heap.size ≤ gb228); have n3_ := zm (zs hg zb : w.heap.size ≤ gb228); clear HB; have HB := n0_; have BK228 := n1_; have GW228 := n2_; have GE228 := n3_; clear n0_ n1_ n2_ n3_; clear hb hbox hg) | ((with_reducible refine gate_dst (N := 5) rfl ?_); refine box_event ?hg (N := 5) ?hd (cs := #[.int .i64 a2_0, .int .i64 a2_1, .int .i64 a2_2]) (t := 36) ?hr ?_; (case hd => rfl); (case hg => rfl); (case hr => first | (go_simp; done) | (go_simp; rfl)); intro gb229 hg w24 hbox hb; have n0_ := zm (blk_below (g := gb228) zk hb); have n1_ := zm (below_step zb hb); have n2_ := zm (hbox); have n3_ := zm (zs hg zb : w.heap.size ≤ gb229); have n4_ := zm (zs hg zb : w.heap.size ≤ gb229); have n5_ := zm (zl hg zk : gb228 ≠ gb229); have n6_ := zm (zg hg zk : gb229 ≠ gb228); clear BK228; clear HB; have BK228 := n0_; have HB := n1_; have BK229 := n2_; have GW229 := n3_; have GE229 := n4_; have NB228_229 := n5_; have NB229_228 := n6_; clear n0_ n1_ n2_ n3_ n4_ n5_ n6_; clear hb hbox hg; have hnb25 := NB228_229.out; have hnc25 := NB229_228.out; obtain ⟨hcz26_0, hcz26_1, hfz26_0, hfz26_1⟩ := zc2 BK228.out) | ((with_reducible refine gate_callee (f := 71) rfl ?_); refine goesL_ (some 8) rfl rfl Try.func71 (by kernel_rfl) rfl #[.agg #[.slice A0_0 l0_0.length c0_0, .int .i64 a0_1]] rfl (by (try simp only [List.map_toArray, List.map_cons, List.map_nil]); first | done | rfl | (simp only [List.length_drop, List.length_take]; rfl)) ?_; (with_reducible refine (impl_IsInstrument.calls k _ _ l0_0 a0_1 false _ ?side1 ?side2 A4.out).mono ?_); (case side1 => repeat (first | exact (Kd.C_below HR0_0.out HB.out) | (with_reducible refine Kd.C_alloc ?_ _) | (with_reducible refine Kd.C_drewN ?_ _) | (with_reducible refine Kd.C_drew ?_))); (case side2 => exact HC0_0.out); rintro e w27 ⟨rfl, hb⟩; refine ⟨_, rfl, ?_⟩; have n0_ := zm (blk_below (g := gb228) zk hb); have n1_ := zm (blk_below (g := gb229) zk hb); have n2_ := zm (below_step zb hb); clear BK228; clear BK229; clear HB; have BK228 := n0_; have BK229 := n1_; have HB := n2_; clear n0_ n1_ n2_; (try clear hb); (try clear hb2); (try clear hk); (try clear hi)))
  go_ret
  exact ⟨zr, zb⟩

theorem impl_spoken.zeroM95 (w : World) : (zeroValue 3).run Try.prog w = .ok ((Value.int .i64) (0 : Int)) w := by kernel_rfl
/-! ### impl_spoken: function 54 -/
def impl_spoken.l0 : Nat → List (S79) → List Int → List (S73) → Int → Int → List Int → Int → Int → Int → Int → List (Int × Int) → Option ((List (S79)) × List Int)
  | 0, _, _, _, _, _, _, _, _, _, _, _ => none
  | k + 1, x8, x9, x20, x21, x22, x234000, x234001, x235000, x235001, x235002, x242000 => if x22 < x21 then (if 0 ≤ x22 then (if x22 < (x20.length : Int) then (if ((rd_T73 x20 x22).f0) ≥ (x234000.length : Int) then (if x9.length < 17592186044416 then (impl_spoken.l0 k x8 (x9 ++ [x22]) x20 x21 (wrap64 (x22 + 1)) x234000 x234001 x235000 x235001 x235002 x242000) else (none)) else (if (wrap64 (((rd_T73 x20 x22).f2) - ((rd_T73 x20 x22).f1))) < x235002 then (if x9.length < 17592186044416 then (impl_spoken.l0 k x8 (x9 ++ [x22]) x20 x21 (wrap64 (x22 + 1)) x234000 x234001 x235000 x235001 x235002 x242000) else (none)) else (if Mp.mhas x242000 ((rd_T73 x20 x22).f0) = true then (if (wrap64 (((rd_T73 x20 x22).f1) - (Mp.mget (0 : Int) x242000 ((rd_T73 x20 x22).f0)))) < (wrap64 (2 * x234001)) then (if x9.length < 17592186044416 then (impl_spoken.l0 k x8 (x9 ++ [x22]) x20 x21 (wrap64 (x22 + 1)) x234000 x234001 x235000 x235001 x235002 x242000) else (none)) else (if (wrap64 (((rd_T73 x20 x22).f1) + x235000)) ≥ (wrap64 (((rd_T73 x20 x22).f2) + x235001)) then (if x9.length < 17592186044416 then (impl_spoken.l0 k x8 (x9 ++ [x22]) x20 x21 (wrap64 (x22 + 1)) x234000 x234001 x235000 x235001 x235002 x242000) else (none)) else (if 0 ≤ ((rd_T73 x20 x22).f0) then (if ((rd_T73 x20 x22).f0) < (x234000.length : Int) then (if x8.length < 5864062014805 then (impl_spoken.l0 k (x8 ++ [(⟨rd x234000 ((rd_T73 x20 x22).f0), wrap64 (((rd_T73 x20 x22).f1) + x235000), wrap64 (((rd_T73 x20 x22).f2) + x235001)⟩ : S79)]) x9 x20 x21 (wrap64 (x22 + 1)) x234000 x234001 x235000 x235001 x235002 (Mp.mput x242000 ((rd_T73 x20 x22).f0) ((rd_T73 x20 x22).f1))) else (none)) else (none)) else (none)))) else (if (wrap64 (((rd_T73 x20 x22).f1) + x235000)) ≥ (wrap64 (((rd_T73 x20 x22).f2) + x235001)) then (if x9.length < 17592186044416 then (impl_spoken.l0 k x8 (x9 ++ [x22]) x20 x21 (wrap64 (x22 + 1)) x234000 x234001 x235000 x235001 x235002 x242000) else (none)) else (if 0 ≤ ((rd_T73 x20 x22).f0) then (if ((rd_T73 x20 x22).f0) < (x234000.length : Int) then (if x8.length < 5864062014805 then (impl_spoken.l0 k (x8 ++ [(⟨rd x234000 ((rd_T73 x20 x22).f0), wrap64 (((rd_T73 x20 x22).f1) + x235000), wrap64 (((rd_T73 x20 x22).f2) + x235001)⟩ : S79)]) x9 x20 x21 (wrap64 (x22 + 1)) x234000 x234001 x235000 x235001 x235002 (Mp.mput x242000 ((rd_T73 x20 x22).f0) ((rd_T73 x20 x22).f1))) else (none)) else (none)) else (none)))))) else (none)) else (none)) else (some (x8, x9))
def impl_spoken.f (k : Nat) (l0_0 : List Int) (a0_1 : Int) (l1 : List (S73)) (a2_0 : Int) (a2_1 : Int) (a2_2 : Int) : Option ((List (S79)) × List Int) := impl_spoken.l0 k (([] : List (S79))) (([] : List Int)) l1 (l1.length : Int) 0 l0_0 a0_1 a2_0 a2_1 a2_2 ([] : List (Int × Int))
theorem impl_spoken.mono_l : ∀ k, (∀ y0 y1 y2 y3 y4 y5 y6 y7 y8 y9 y10, LeO (impl_spoken.l0 k y0 y1 y2 y3 y4 y5 y6 y7 y8 y9 y10) (impl_spoken.l0 (k + 1) y0 y1 y2 y3 y4 y5 y6 y7 y8 y9 y10))
  | 0 => fun _ _ _ _ _ _ _ _ _ _ _ r h => by simp [impl_spoken.l0] at h
  | k + 1 => by
    have ih0 := impl_spoken.mono_l k
    · intro y0 y1 y2 y3 y4 y5 y6 y7 y8 y9 y10
      unfold impl_spoken.l0
      repeat' first
      | (with_reducible exact ih0 _ _ _ _ _ _ _ _ _ _ _)
      | (with_reducible exact LeO.refl _)
      | (with_reducible exact LeO.none _)
      | (with_reducible refine LeO.ite ?_ ?_)
      | (with_reducible refine LeO.bind ?_ (fun _ => ?_))
      | exact ih0 _ _ _ _ _ _ _ _ _ _ _
      | exact LeO.none _
      | refine LeO.ite ?_ ?_
      | refine LeO.bind ?_ (fun _ => ?_)
theorem impl_spoken.mono : ∀ a0 a1 a2 a3 a4 a5 k, LeO (impl_spoken.f k a0 a1 a2 a3 a4 a5) (impl_spoken.f (k + 1) a0 a1 a2 a3 a4 a5) := by
  intro a0 a1 a2 a3 a4 a5 k
  have ih0 := impl_spoken.mono_l k
  unfold impl_spoken.f
  repeat' first
      | (with_reducible exact ih0 _ _ _ _ _ _ _ _ _ _ _)
      | (with_reducible exact LeO.refl _)
      | (with_reducible exact LeO.none _)
      | (with_reducible refine LeO.ite ?_ ?_)
      | (with_reducible refine LeO.bind ?_ (fun _ => ?_))
      | exact ih0 _ _ _ _ _ _ _ _ _ _ _
      | exact LeO.none _
      | refine LeO.ite ?_ ?_
      | refine LeO.bind ?_ (fun _ => ?_)
theorem impl_spoken.gq {P : Program} {i : Nat} {ops : Array Oper} {Q : Exit → Act → World → Prop} {a : Act} {W : World} (h : (Code.region i ops true).wp P Q a W) : (Code.region i ops true).wp P Q a W := h

set_option maxHeartbeats 8000000 in
set_option maxRecDepth 100000 in
theorem impl_spoken.calls (k : Nat) (A0_0 : Option Addr) (c0_0 : Nat) (l0_0 : List Int) (a0_1 : Int) (A1 : Option Addr) (c1 : Nat) (l1 : List (S73)) (a2_0 : Int) (a2_1 : Int) (a2_2 : Int) (r1 : List (S79)) (r2 : List Int) (w : World) (hr0_0 : Kd.C (Kd.int .i64) w A0_0 l0_0.length l0_0) (hc0_0 : l0_0.length ≤ c0_0) (hr1 : Kd.C k73 w A1 l1.length l1) (hc1 : l1.length ≤ c1) (h : impl_spoken.f k l0_0 a0_1 l1 a2_0 a2_1 a2_2 = some (r1, r2)) :
  Calls Try.prog 54 #[.agg #[.slice A0_0 l0_0.length c0_0, .int .i64 a0_1], .slice A1 l1.length c1, .agg #[.int .i64 a2_0, .int .i64 a2_1, .int .i64 a2_2]] w fun e w' => ∃ v0_ v1_ : Value, e = .returned (.tuple #[v0_, v1_]) ∧ Kd.R k79 79 w' w.heap.size (fun _ => True) v0_ r1 ∧ Kd.R (Kd.int .i64) 3 w' w.heap.size (fun _ => True) v1_ r2 ∧ Below w.heap.size w w' := by
 have hu32 := Try.underlying32
 have hu36 := Try.underlying36
 have hu73 := Try.underlying73
 have hu79 := Try.underlying79
 have HR0_0 := zm hr0_0
 have HC0_0 := zm hc0_0
 clear hr0_0 hc0_0
 have HR1 := zm hr1
 have HC1 := zm hc1
 clear hr1 hc1
 have HB := zm (Below.refl w.heap.size w)
 have H : (impl_spoken.l0 k (([] : List (S79))) (([] : List Int)) l1 (l1.length : Int) 0 l0_0 a0_1 a2_0 a2_1 a2_2 ([] : List (Int × Int))) = some (r1, r2) := h
 clear h
 obtain ⟨y235, hy235⟩ : ∃ y_ : List (S79), y_ = (([] : List (S79))) := ⟨_, rfl⟩
 replace H : (impl_spoken.l0 k y235 (([] : List Int)) l1 (l1.length : Int) 0 l0_0 a0_1 a2_0 a2_1 a2_2 ([] : List (Int × Int))) = some (r1, r2) := by first | (rw [hy235]; with_reducible exact H) | (have H2_ := (Option.bind_some _ _).symm.trans H; rw [hy235]; with_reducible exact H2_) | (have H2_ := (Option.bind_some _ _).symm.trans H; with_reducible exact H2_) | with_reducible exact H | (rw [hy235]; exact H) | exact H
 have Ny235 := zm hy235
 clear hy235
 obtain ⟨y238, hy238⟩ : ∃ y_ : List Int, y_ = (([] : List Int)) := ⟨_, rfl⟩
 replace H : (impl_spoken.l0 k y235 y238 l1 (l1.length : Int) 0 l0_0 a0_1 a2_0 a2_1 a2_2 ([] : List (Int × Int))) = some (r1, r2) := by first | (rw [hy238]; with_reducible exact H) | (have H2_ := (Option.bind_some _ _).symm.trans H; rw [hy238]; with_reducible exact H2_) | (have H2_ := (Option.bind_some _ _).symm.trans H; with_reducible exact H2_) | with_reducible exact H | (rw [hy238]; exact H) | exact H
 have Ny238 := zm hy238
 clear hy238
 have H' := zm H
 clear H
 go_enter Try.func54, Try.ntmps54
 go_wp2_with (first | ((with_reducible refine gate_dst (N := 3) rfl ?_); refine box_event ?hg (N := 3) ?hd (cs := #[.slice A0_0 l0_0.length c0_0, .int .i64 a0_1]) (t := 32) ?hr ?_; (case hd => rfl); (case hg => rfl); (case hr => first | (go_simp; done) | (go_simp; rfl)); intro gb233 hg w4 hbox hb; have n0_ := zm (below_step zb hb); have n1_ := zm (hbox); have n2_ := zm (zs hg zb : w.heap.size ≤ gb233); have n3_ := zm (zs hg zb : w.heap.size ≤ gb233); clear HB; have HB := n0_; have BK233 := n1_; have GW233 := n2_; have GE233 := n3_; clear n0_ n1_ n2_ n3_; clear hb hbox hg) | ((with_reducible refine gate_dst (N := 5) rfl ?_); refine box_event ?hg (N := 5) ?hd (cs := #[.int .i64 a2_0, .int .i64 a2_1, .int .i64 a2_2]) (t := 36) ?hr ?_; (case hd => rfl); (case hg => rfl); (case hr => first | (go_simp; done) | (go_simp; rfl)); intro gb234 hg w5 hbox hb; have n0_ := zm (blk_below (g := gb233) zk hb); have n1_ := zm (below_step zb hb); have n2_ := zm (hbox); have n3_ := zm (zs hg zb : w.heap.size ≤ gb234); have n4_ := zm (zs hg zb : w.heap.size ≤ gb234); have n5_ := zm (zl hg zk : gb233 ≠ gb234); have n6_ := zm (zg hg zk : gb234 ≠ gb233); clear BK233; clear HB; have BK233 := n0_; have HB := n1_; have BK234 := n2_; have GW234 := n3_; have GE234 := n4_; have NB233_234 := n5_; have NB234_233 := n6_; clear n0_ n1_ n2_ n3_ n4_ n5_ n6_; clear hb hbox hg) | ((with_reducible refine gate_dst (N := 17) rfl ?_); refine Kd.R_lit k79 _ 79 ?hg (N := 17) ?hd (xs := ([] : List (S79))) (inner := []) (ok := fun _ => True) (okp := fun _ => True) ?hr ?hp (fun _ hk => hk) trivial (Below.refl _ _) (Nat.le_refl _) (by simp) ?_; (case hd => rfl); (case hg => rfl); (case hr => first | (go_simp; done) | (go_simp; rfl)); (case hp => exact (Reps.none _ _)); intro v236 w6 ho7 hb hg_ hnew_; clear hg_ hnew_; (first | rw [← Ny235.out] at ho7 | (simp only [Int.reduceToNat] at ho7; rw [← Ny235.out] at ho7)); have n0_ := zm (Kd.R_lower ho7 (below_size zb)); have n1_ := zm (blk_below (g := gb233) zk hb); have n2_ := zm (blk_below (g := gb234) zk hb); have n3_ := zm (below_step zb hb); clear BK233; clear BK234; clear HB; have HO237 := n0_; have BK233 := n1_; have BK234 := n2_; have HB := n3_; clear n0_ n1_ n2_ n3_; clear hb ho7) | ((with_reducible refine gate_dst (N := 18) rfl ?_); refine Kd.R_lit (Kd.int .i64) _ 3 ?hg (N := 18) ?hd (xs := ([] : List Int)) (inner := []) (ok := fun _ => True) (okp := fun _ => True) ?hr ?hp (fun _ hk => hk) trivial (Below.refl _ _) (Nat.le_refl _) (by simp) ?_; (case hd => rfl); (case hg => rfl); (case hr => first | (go_simp; done) | (go_simp; rfl)); (case hp => exact (Reps.none _ _)); intro v239 w8 ho9 hb hg_ hnew_; clear hg_ hnew_; (first | rw [← Ny238.out] at ho9 | (simp only [Int.reduceToNat] at ho9; rw [← Ny238.out] at ho9)); have n0_ := zm (Kd.R_below (by (with_reducible repeat (first | apply Kd.R_alloc | apply Kd.R_drewN | apply Kd.R_drew)); exact HO237.out) hb); have n1_ := zm (Kd.R_lower ho9 (below_size zb)); have n2_ := zm (blk_below (g := gb233) zk hb); have n3_ := zm (blk_below (g := gb234) zk hb); have n4_ := zm (below_step zb hb); clear HO237; clear BK233; clear BK234; clear HB; have HO237 := n0_; have HO240 := n1_; have BK233 := n2_; have BK234 := n3_; have HB := n4_; clear n0_ n1_ n2_ n3_ n4_; clear hb ho9) | ((with_reducible refine gate_dst (N := 19) rfl ?_); refine Mp.make_event (Value.int .i64) ?hg (N := 19) ?hd (t := 95) ?ho ?_; (case hd => rfl); (case hg => rfl); (case ho => rfl); intro gb241 hg w10 hbox hb; have n0_ := zm (Kd.R_below (by (with_reducible repeat (first | apply Kd.R_alloc | apply Kd.R_drewN | apply Kd.R_drew)); exact HO237.out) hb); have n1_ := zm (Kd.R_below (by (with_reducible repeat (first | apply Kd.R_alloc | apply Kd.R_drewN | apply Kd.R_drew)); exact HO240.out) hb); have n2_ := zm (blk_below (g := gb233) zk hb); have n3_ := zm (blk_below (g := gb234) zk hb); have n4_ := zm (below_step zb hb); have n5_ := zm (hbox); have n6_ := zm (zs hg zb : w.heap.size ≤ gb241); have n7_ := zm (zs hg zb : w.heap.size ≤ gb241); have n8_ := zm (zl hg zk : gb233 ≠ gb241); have n9_ := zm (zg hg zk : gb241 ≠ gb233); have n10_ := zm (zl hg zk : gb234 ≠ gb241); have n11_ := zm (zg hg zk : gb241 ≠ gb234); clear HO237; clear HO240; clear BK233; clear BK234; clear HB; have HO237 := n0_; have HO240 := n1_; have BK233 := n2_; have BK234 := n3_; have HB := n4_; have BK241 := n5_; have GW241 := n6_; have GE241 := n7_; have NB233_241 := n8_; have NB241_233 := n9_; have NB234_241 := n10_; have NB241_234 := n11_; clear n0_ n1_ n2_ n3_ n4_ n5_ n6_ n7_ n8_ n9_ n10_ n11_; clear hb hbox hg) | ((with_reducible refine impl_spoken.gq ?_); go_quiet (fail)))
 go_loopg [8, 9, 22] k (fun kq v8 v9 v22 w' => ∃ (x8_1 : List (S79)) (x9_1 : List Int) (x22_1 : Int) (x242000_1 : List (Int × Int)), v22 = .int .i64 x22_1 ∧ Aside0 (impl_spoken.l0 kq x8_1 x9_1 l1 (l1.length : Int) x22_1 l0_0 a0_1 a2_0 a2_1 a2_2 x242000_1 = some (r1, r2)) ∧ Aside0 (kq ≤ k) ∧ Aside0 (Kd.R k79 79 w' w.heap.size (fun _ => True) v8 x8_1) ∧ Aside0 (Kd.R (Kd.int .i64) 3 w' w.heap.size (fun _ => True) v9 x9_1) ∧ Aside0 (w'.heap[gb233]? = some (.cells #[(.slice A0_0 l0_0.length c0_0), .int .i64 a0_1] 32 (0, 0))) ∧ Aside0 (w'.heap[gb234]? = some (.cells #[.int .i64 a2_0, .int .i64 a2_1, .int .i64 a2_2] 36 (0, 0))) ∧ Aside0 (w'.heap[gb241]? = some (Mp.mObj (Value.int .i64) x242000_1)) ∧ Aside0 (Below w.heap.size w w'))
 case atStart => exact ⟨(y235), (y238), (0), (([] : List (Int × Int))), (by first | rfl | (simp; done) | (simp [*]; done)), H', ⟨Nat.le_refl _⟩, ⟨by (with_reducible repeat (first | apply Kd.R_alloc | apply Kd.R_drewN | apply Kd.R_drew)); exact HO237.out⟩, ⟨by (with_reducible repeat (first | apply Kd.R_alloc | apply Kd.R_drewN | apply Kd.R_drew)); exact HO240.out⟩, ⟨zk⟩, ⟨zk⟩, ⟨zk⟩, ⟨zb⟩⟩
 case round =>
  clear H'
  try clear c1
  try clear p2
  try clear c5
  obtain ⟨x8_1, x9_1, x22_1, x242000_1, rfl, HA, HK1, HO_8, HO_9, BK233, BK234, BK241, HB⟩ := hrel
  cases gk with
  | zero => exact absurd HA.out (by simp [impl_spoken.l0])
  | succ k1 =>
   have H := HA.out
   clear HA
   simp only [impl_spoken.l0] at H
   by_cases c11 : x22_1 < (l1.length : Int)
   ·
    rw [if_pos c11] at H
    have c11b0 : decide (x22_1 < (l1.length : Int)) = true := decide_eq_true c11
    clear c11
    by_cases c12 : 0 ≤ x22_1
    ·
     rw [if_pos c12] at H
     have c12b0 : decide (0 ≤ x22_1) = true := decide_eq_true c12
     clear c12
     by_cases c13 : x22_1 < (l1.length : Int)
     ·
      rw [if_pos c13] at H
      have c13b0 : decide (x22_1 < (l1.length : Int)) = true := decide_eq_true c13
      clear c13
      by_cases c14 : ((rd_T73 l1 x22_1).f0) ≥ (l0_0.length : Int)
      ·
       rw [if_pos c14] at H
       have c14b0 : decide ((l0_0.length : Int) ≤ ((rd_T73 l1 x22_1).f0)) = true := decide_eq_true c14
       clear c14
       by_cases c15 : x9_1.length < 17592186044416
       ·
        rw [if_pos c15] at H
        have LMc15 := zm c15
        clear c15
        obtain ⟨y244, hy244⟩ : ∃ y_ : List Int, y_ = (x9_1 ++ [x22_1]) := ⟨_, rfl⟩
        replace H : (impl_spoken.l0 k1 x8_1 y244 l1 (l1.length : Int) (wrap64 (x22_1 + 1)) l0_0 a0_1 a2_0 a2_1 a2_2 x242000_1) = some (r1, r2) := by first | (rw [hy244]; with_reducible exact H) | (have H2_ := (Option.bind_some _ _).symm.trans H; rw [hy244]; with_reducible exact H2_) | (have H2_ := (Option.bind_some _ _).symm.trans H; with_reducible exact H2_) | with_reducible exact H | (rw [hy244]; exact H) | exact H
        have Ny244 := zm hy244
        clear hy244
        have H' := zm H
        clear H
        have p242 : 0 ≤ (x22_1 : Int) := zd
        have q242 : x22_1 < (l1.length : Int) := zd
        obtain ⟨ad242, e242, hx242_0, hx242_1, hx242_2⟩ := at_T73 HR1.out x22_1 p242 q242
        cases e242
        replace hx242_0 := zx HB.out hx242_0
        replace hx242_1 := zx HB.out hx242_1
        replace hx242_2 := zx HB.out hx242_2
        replace p242 := eq_true p242
        replace q242 := eq_true q242
        go_wp2_with (first | ((with_reducible refine gate_dst (N := 12) rfl ?_); refine box_event ?hg (N := 12) ?hd (cs := #[.int .i64 0, .int .i64 0, .int .i64 0]) (t := 73) ?hr ?_; (case hd => rfl); (case hg => rfl); (case hr => first | (go_simp; done) | (go_simp; rfl)); intro gb243 hg w16 hbox hb; have n0_ := zm (Kd.R_below (by (with_reducible repeat (first | apply Kd.R_alloc | apply Kd.R_drewN | apply Kd.R_drew)); exact HO_8.out) hb); have n1_ := zm (Kd.R_below (by (with_reducible repeat (first | apply Kd.R_alloc | apply Kd.R_drewN | apply Kd.R_drew)); exact HO_9.out) hb); have n2_ := zm (blk_below (g := gb233) zk hb); have n3_ := zm (blk_below (g := gb234) zk hb); have n4_ := zm (blk_below (g := gb241) zk hb); have n5_ := zm (below_step zb hb); have n6_ := zm (hbox); have n7_ := zm (zs hg zb : w.heap.size ≤ gb243); have n8_ := zm (zs hg zb : w.heap.size ≤ gb243); have n9_ := zm (zl hg zk : gb233 ≠ gb243); have n10_ := zm (zg hg zk : gb243 ≠ gb233); have n11_ := zm (zl hg zk : gb234 ≠ gb243); have n12_ := zm (zg hg zk : gb243 ≠ gb234); have n13_ := zm (zl hg zk : gb241 ≠ gb243); have n14_ := zm (zg hg zk : gb243 ≠ gb241); clear HO_8; clear HO_9; clear BK233; clear BK234; clear BK241; clear HB; have HO_8 := n0_; have HO_9 := n1_; have BK233 := n2_; have BK234 := n3_; have BK241 := n4_; have HB := n5_; have BK243 := n6_; have GW243 := n7_; have GE243 := n8_; have NB233_243 := n9_; have NB243_233 := n10_; have NB234_243 := n11_; have NB243_234 := n12_; have NB241_243 := n13_; have NB243_241 := n14_; clear n0_ n1_ n2_ n3_ n4_ n5_ n6_ n7_ n8_ n9_ n10_ n11_ n12_ n13_ n14_; clear hb hbox hg; have hnb17 := NB243_233.out; have hnc17 := NB233_243.out; have hnb18 := NB243_234.out; have hnc18 := NB234_243.out; have hnb19 := NB243_241.out; have hnc19 := NB241_243.out; obtain ⟨hcz20_0, hcz20_1, hcz20_2, hfz20_0, hfz20_1, hfz20_2⟩ := zc3 BK243.out) | ((with_reducible refine gate_store (t := 73) (p := 12) rfl ?_); (try (rw [drewN_self w16]; generalize hq_ : World.drewN w16 _ = w16; have n0_ := zm (Kd.R_at hq_ HO_8.out); have n1_ := zm (Kd.R_at hq_ HO_9.out); have n2_ := zm (blk_at hq_ BK233.out); have n3_ := zm (blk_at hq_ BK234.out); have n4_ := zm (blk_at hq_ BK241.out); have n5_ := zm (blk_at hq_ BK243.out); have n6_ := zm (below_at hq_ HB.out); clear hq_ HO_8 HO_9 BK233 BK234 BK241 BK243 HB; have HO_8 := n0_; have HO_9 := n1_; have BK233 := n2_; have BK234 := n3_; have BK241 := n4_; have BK243 := n5_; have HB := n6_; clear n0_ n1_ n2_ n3_ n4_ n5_ n6_)); refine store_event (t := 73) (p := 12) (v := ?vo_w21) (w1 := (((w16.setCell ⟨gb243, 0, none⟩ (.int .i64 ((rd_T73 l1 x22_1).f0))).setCell ⟨gb243, 1, none⟩ (.int .i64 ((rd_T73 l1 x22_1).f1))).setCell ⟨gb243, 2, none⟩ (.int .i64 ((rd_T73 l1 x22_1).f2)))) ?hg ?ho ?hn ?hr ?_; (case ho => rfl); (case hg => rfl); (case hn => rfl); (case hr => first | (go_simp; done) | (go_simp; rfl)); intro w21 hw; have n0_ : Aside0 (Kd.R k79 79 w21 w.heap.size (fun _ => True) u8 x8_1) := ⟨(by rw [hw]; exact (by (with_reducible repeat (first | apply Kd.R_alloc | apply Kd.R_drewN | apply Kd.R_drew)); exact Kd.R_mono (Kd.R_far (p := ⟨gb243, 2, none⟩) (Kd.R_far (p := ⟨gb243, 1, none⟩) (Kd.R_far (p := ⟨gb243, 0, none⟩) (Kd.R_types HO_8.out BK243.out (by decide)) (fun _ hk => hk.2) (.int .i64 ((rd_T73 l1 x22_1).f0))) (fun _ hk => hk.2) (.int .i64 ((rd_T73 l1 x22_1).f1))) (fun _ hk => hk.2) (.int .i64 ((rd_T73 l1 x22_1).f2))) (fun _ hk => trivial)))⟩; have n1_ : Aside0 (Kd.R (Kd.int .i64) 3 w21 w.heap.size (fun _ => True) u9 x9_1) := ⟨(by rw [hw]; exact (by (with_reducible repeat (first | apply Kd.R_alloc | apply Kd.R_drewN | apply Kd.R_drew)); exact Kd.R_mono (Kd.R_far (p := ⟨gb243, 2, none⟩) (Kd.R_far (p := ⟨gb243, 1, none⟩) (Kd.R_far (p := ⟨gb243, 0, none⟩) (Kd.R_types HO_9.out BK243.out (by decide)) (fun _ hk => hk.2) (.int .i64 ((rd_T73 l1 x22_1).f0))) (fun _ hk => hk.2) (.int .i64 ((rd_T73 l1 x22_1).f1))) (fun _ hk => hk.2) (.int .i64 ((rd_T73 l1 x22_1).f2))) (fun _ hk => trivial)))⟩; have n2_ : Aside0 (w21.heap[gb233]? = some (.cells #[.slice A0_0 l0_0.length c0_0, .int .i64 a0_1] 32 (0, 0))) := ⟨(by rw [hw]; exact zK)⟩; have n3_ : Aside0 (w21.heap[gb234]? = some (.cells #[.int .i64 a2_0, .int .i64 a2_1, .int .i64 a2_2] 36 (0, 0))) := ⟨(by rw [hw]; exact zK)⟩; have n4_ : Aside0 (w21.heap[gb241]? = some (Mp.mObj (Value.int .i64) x242000_1)) := ⟨(by rw [hw]; exact (by (with_reducible repeat (first | refine blk_drewN ?_ _ | refine blk_drew ?_ | refine blk_alloc ?_ _)); refine Mp.far ?_ NB241_243.out _; (with_reducible repeat (first | refine blk_drewN ?_ _ | refine blk_drew ?_ | refine blk_alloc ?_ _)); refine Mp.far ?_ NB241_243.out _; (with_reducible repeat (first | refine blk_drewN ?_ _ | refine blk_drew ?_ | refine blk_alloc ?_ _)); refine Mp.far ?_ NB241_243.out _; (with_reducible repeat (first | refine blk_drewN ?_ _ | refine blk_drew ?_ | refine blk_alloc ?_ _)); exact BK241.out))⟩; have n5_ : Aside0 (w21.heap[gb243]? = some (.cells #[.int .i64 ((rd_T73 l1 x22_1).f0), .int .i64 ((rd_T73 l1 x22_1).f1), .int .i64 ((rd_T73 l1 x22_1).f2)] 73 (0, 0))) := ⟨(by rw [hw]; exact (by (with_reducible repeat (first | refine blk_drewN ?_ _ | refine blk_drew ?_ | refine blk_alloc ?_ _)); refine blk_put (cs := #[.int .i64 ((rd_T73 l1 x22_1).f0), .int .i64 ((rd_T73 l1 x22_1).f1), .int .i64 0]) ?_ 2 _ rfl; (with_reducible repeat (first | refine blk_drewN ?_ _ | refine blk_drew ?_ | refine blk_alloc ?_ _)); refine blk_put (cs := #[.int .i64 ((rd_T73 l1 x22_1).f0), .int .i64 0, .int .i64 0]) ?_ 1 _ rfl; (with_reducible repeat (first | refine blk_drewN ?_ _ | refine blk_drew ?_ | refine blk_alloc ?_ _)); refine blk_put (cs := #[.int .i64 0, .int .i64 0, .int .i64 0]) ?_ 0 _ rfl; (with_reducible repeat (first | refine blk_drewN ?_ _ | refine blk_drew ?_ | refine blk_alloc ?_ _)); exact BK243.out))⟩; have n6_ : Aside0 (Below w.heap.size w w21) := ⟨(by rw [hw]; exact zb)⟩; clear hw; clear HO_8; clear HO_9; clear BK233; clear BK234; clear BK241; clear BK243; clear HB; have HO_8 := n0_; have HO_9 := n1_; have BK233 := n2_; have BK234 := n3_; have BK241 := n4_; have BK243 := n5_; have HB := n6_; clear n0_ n1_ n2_ n3_ n4_ n5_ n6_; obtain ⟨hcz22_0, hcz22_1, hcz22_2, hfz22_0, hfz22_1, hfz22_2⟩ := zc3 BK243.out; have hnb23 := NB241_233.out; have hnc23 := NB233_241.out; have hnb24 := NB241_234.out; have hnc24 := NB234_241.out; have hlz25_true : ∀ k_ : Int, (Instr.lookup 95 (.map (some gb241)) (.int .i64 k_) true).run Try.prog w21 = .ok (.tuple #[(Value.int .i64) (Mp.mget (0 : Int) x242000_1 k_), .bool (Mp.mhas x242000_1 k_)]) w21 := fun k_ => Mp.run_lookup (enc := (Value.int .i64)) Try.underlying95 Try.underlying3 (0 : Int) (fun w_ => impl_spoken.zeroM95 w_) BK241.out k_ true; have hlz25_false : ∀ k_ : Int, (Instr.lookup 95 (.map (some gb241)) (.int .i64 k_) false).run Try.prog w21 = .ok ((Value.int .i64) (Mp.mget (0 : Int) x242000_1 k_)) w21 := fun k_ => Mp.run_lookup (enc := (Value.int .i64)) Try.underlying95 Try.underlying3 (0 : Int) (fun w_ => impl_spoken.zeroM95 w_) BK241.out k_ false; have hnb26 := NB234_233.out; have hnc26 := NB233_234.out; obtain ⟨hcz27_0, hcz27_1, hcz27_2, hfz27_0, hfz27_1, hfz27_2⟩ := zc3 BK234.out; obtain ⟨hcz28_0, hcz28_1, hfz28_0, hfz28_1⟩ := zc2 BK233.out) | ((with_reducible refine gate_builtin (b := .append) (xs := #[.tmp 78, .tmp 80]) rfl ?_); at_builtin; refine Kd.R_append (Kd.int .i64) (w0 := w) w.heap.size rfl (.tmp 78) (.tmp 80) 22 3 (.int .i64 0) 8 rfl Try.underlying22 info3 rfl (by decide) (by omega) u9 x9_1 x22_1 [.int .i64 x22_1] (fun _ => True) (fun _ => False) rfl rfl ?aP (fun _ hk => hk.elim) ?aF ?aO ?aB ?aS ?aL ?_; (case aP => exact rfl); (case aB => exact zb); (case aF => exact (fun _ _ => trivial)); (case aO => exact (by (with_reducible repeat (first | apply Kd.R_alloc | apply Kd.R_drewN | apply Kd.R_drew)); exact HO_9.out)); (case aS => exact (below_size zb)); (case aL => have := LMc15.out; omega); intro v245 w29 ho hb hg hat; rw [← Ny244.out] at ho; have n0_ := zm (Kd.R_over' (by (with_reducible repeat (first | apply Kd.R_alloc | apply Kd.R_drewN | apply Kd.R_drew)); exact HO_8.out) (Kd.R_typed (by (with_reducible repeat (first | apply Kd.R_alloc | apply Kd.R_drewN | apply Kd.R_drew)); exact HO_9.out)) (by decide) hg); have n1_ := zm (blk_grown (g := gb233) (o := .cells #[.slice A0_0 l0_0.length c0_0, .int .i64 a0_1] 32 (0, 0)) zk hg (Kd.R_ne HO_9.out BK233.out (by decide))); have n2_ := zm (blk_grown (g := gb234) (o := .cells #[.int .i64 a2_0, .int .i64 a2_1, .int .i64 a2_2] 36 (0, 0)) zk hg (Kd.R_ne HO_9.out BK234.out (by decide))); have n3_ := zm (blk_grown (g := gb241) (o := Mp.mObj (Value.int .i64) x242000_1) zk hg (Mp.R_ne HO_9.out BK241.out)); have n4_ := zm (blk_grown (g := gb243) (o := .cells #[.int .i64 ((rd_T73 l1 x22_1).f0), .int .i64 ((rd_T73 l1 x22_1).f1), .int .i64 ((rd_T73 l1 x22_1).f2)] 73 (0, 0)) zk hg (Kd.R_ne HO_9.out BK243.out (by decide))); have n5_ := zm (hb); have n6_ := zm (ho); clear HO_8; clear BK233; clear BK234; clear BK241; clear BK243; clear HB; clear HO_9; have HO_8 := n0_; have BK233 := n1_; have BK234 := n2_; have BK241 := n3_; have BK243 := n4_; have HB := n5_; have HO246 := n6_; clear n0_ n1_ n2_ n3_ n4_ n5_ n6_; clear ho hb hg hat) | ((with_reducible refine impl_spoken.gq ?_); go_quiet (fail)))
        go_roundg k1
        case measure => have := HK1.out; omega
        case rel => exact ⟨(x8_1), (y244), (wrap64 (x22_1 + 1)), (x242000_1), (by first | rfl | (simp; done) | (simp [*]; done)), H', ⟨by have := HK1.out; omega⟩, ⟨by (with_reducible repeat (first | apply Kd.R_alloc | apply Kd.R_drewN | apply Kd.R_drew)); exact HO_8.out⟩, ⟨by (with_reducible repeat (first | apply Kd.R_alloc | apply Kd.R_drewN | apply Kd.R_drew)); exact HO246.out⟩, ⟨zk⟩, ⟨zk⟩, ⟨zk⟩, ⟨zb⟩⟩
       ·
        rw [if_neg c15] at H
        exact absurd H (by simp)
      ·
       rw [if_neg c14] at H
       have c14b0 : decide ((l0_0.length : Int) ≤ ((rd_T73 l1 x22_1).f0)) = false := decide_eq_false c14
       clear c14
       by_cases c30 : (wrap64 (((rd_T73 l1 x22_1).f2) - ((rd_T73 l1 x22_1).f1))) < a2_2
       ·
        rw [if_pos c30] at H
        have c30b0 : decide ((wrap64 (((rd_T73 l1 x22_1).f2) - ((rd_T73 l1 x22_1).f1))) < a2_2) = true := decide_eq_true c30
        clear c30
        by_cases c31 : x9_1.length < 17592186044416
        ·
         rw [if_pos c31] at H
         have LMc31 := zm c31
         clear c31
         obtain ⟨y247, hy247⟩ : ∃ y_ : List Int, y_ = (x9_1 ++ [x22_1]) := ⟨_, rfl⟩
         replace H : (impl_spoken.l0 k1 x8_1 y247 l1 (l1.length : Int) (wrap64 (x22_1 + 1)) l0_0 a0_1 a2_0 a2_1 a2_2 x242000_1) = some (r1, r2) := by first | (rw [hy247]; with_reducible exact H) | (have H2_ := (Option.bind_some _ _).symm.trans H; rw [hy247]; with_reducible exact H2_) | (have H2_ := (Option.bind_some _ _).symm.trans H; with_reducible exact H2_) | with_reducible exact H | (rw [hy247]; exact H) | exact H
         have Ny247 := zm hy247
         clear hy247
         have H' := zm H
         clear H
         have p242 : 0 ≤ (x22_1 : Int) := zd
         have q242 : x22_1 < (l1.length : Int) := zd
         obtain ⟨ad242, e242, hx242_0, hx242_1, hx242_2⟩ := at_T73 HR1.out x22_1 p242 q242
         cases e242
         replace hx242_0 := zx HB.out hx242_0
         replace hx242_1 := zx HB.out hx242_1
         replace hx242_2 := zx HB.out hx242_2
         replace p242 := eq_true p242
         replace q242 := eq_true q242
         go_wp2_with (first | ((with_reducible refine gate_dst (N := 12) rfl ?_); refine box_event ?hg (N := 12) ?hd (cs := #[.int .i64 0, .int .i64 0, .int .i64 0]) (t := 73) ?hr ?_; (case hd => rfl); (case hg => rfl); (case hr => first | (go_simp; done) | (go_simp; rfl)); intro gb243 hg w32 hbox hb; have n0_ := zm (Kd.R_below (by (with_reducible repeat (first | apply Kd.R_alloc | apply Kd.R_drewN | apply Kd.R_drew)); exact HO_8.out) hb); have n1_ := zm (Kd.R_below (by (with_reducible repeat (first | apply Kd.R_alloc | apply Kd.R_drewN | apply Kd.R_drew)); exact HO_9.out) hb); have n2_ := zm (blk_below (g := gb233) zk hb); have n3_ := zm (blk_below (g := gb234) zk hb); have n4_ := zm (blk_below (g := gb241) zk hb); have n5_ := zm (below_step zb hb); have n6_ := zm (hbox); have n7_ := zm (zs hg zb : w.heap.size ≤ gb243); have n8_ := zm (zs hg zb : w.heap.size ≤ gb243); have n9_ := zm (zl hg zk : gb233 ≠ gb243); have n10_ := zm (zg hg zk : gb243 ≠ gb233); have n11_ := zm (zl hg zk : gb234 ≠ gb243); have n12_ := zm (zg hg zk : gb243 ≠ gb234); have n13_ := zm (zl hg zk : gb241 ≠ gb243); have n14_ := zm (zg hg zk : gb243 ≠ gb241); clear HO_8; clear HO_9; clear BK233; clear BK234; clear BK241; clear HB; have HO_8 := n0_; have HO_9 := n1_; have BK233 := n2_; have BK234 := n3_; have BK241 := n4_; have HB := n5_; have BK243 := n6_; have GW243 := n7_; have GE243 := n8_; have NB233_243 := n9_; have NB243_233 := n10_; have NB234_243 := n11_; have NB243_234 := n12_; have NB241_243 := n13_; have NB243_241 := n14_; clear n0_ n1_ n2_ n3_ n4_ n5_ n6_ n7_ n8_ n9_ n10_ n11_ n12_ n13_ n14_; clear hb hbox hg; have hnb33 := NB243_233.out; have hnc33 := NB233_243.out; have hnb34 := NB243_234.out; have hnc34 := NB234_243.out; have hnb35 := NB243_241.out; have hnc35 := NB241_243.out; obtain ⟨hcz36_0, hcz36_1, hcz36_2, hfz36_0, hfz36_1, hfz36_2⟩ := zc3 BK243.out) | ((with_reducible refine gate_store (t := 73) (p := 12) rfl ?_); (try (rw [drewN_self w32]; generalize hq_ : World.drewN w32 _ = w32; have n0_ := zm (Kd.R_at hq_ HO_8.out); have n1_ := zm (Kd.R_at hq_ HO_9.out); have n2_ := zm (blk_at hq_ BK233.out); have n3_ := zm (blk_at hq_ BK234.out); have n4_ := zm (blk_at hq_ BK241.out); have n5_ := zm (blk_at hq_ BK243.out); have n6_ := zm (below_at hq_ HB.out); clear hq_ HO_8 HO_9 BK233 BK234 BK241 BK243 HB; have HO_8 := n0_; have HO_9 := n1_; have BK233 := n2_; have BK234 := n3_; have BK241 := n4_; have BK243 := n5_; have HB := n6_; clear n0_ n1_ n2_ n3_ n4_ n5_ n6_)); refine store_event (t := 73) (p := 12) (v := ?vo_w37) (w1 := (((w32.setCell ⟨gb243, 0, none⟩ (.int .i64 ((rd_T73 l1 x22_1).f0))).setCell ⟨gb243, 1, none⟩ (.int .i64 ((rd_T73 l1 x22_1).f1))).setCell ⟨gb243, 2, none⟩ (.int .i64 ((rd_T73 l1 x22_1).f2)))) ?hg ?ho ?hn ?hr ?_; (case ho => rfl); (case hg => rfl); (case hn => rfl); (case hr => first | (go_simp; done) | (go_simp; rfl)); intro w37 hw; have n0_ : Aside0 (Kd.R k79 79 w37 w.heap.size (fun _ => True) u8 x8_1) := ⟨(by rw [hw]; exact (by (with_reducible repeat (first | apply Kd.R_alloc | apply Kd.R_drewN | apply Kd.R_drew)); exact Kd.R_mono (Kd.R_far (p := ⟨gb243, 2, none⟩) (Kd.R_far (p := ⟨gb243, 1, none⟩) (Kd.R_far (p := ⟨gb243, 0, none⟩) (Kd.R_types HO_8.out BK243.out (by decide)) (fun _ hk => hk.2) (.int .i64 ((rd_T73 l1 x22_1).f0))) (fun _ hk => hk.2) (.int .i64 ((rd_T73 l1 x22_1).f1))) (fun _ hk => hk.2) (.int .i64 ((rd_T73 l1 x22_1).f2))) (fun _ hk => trivial)))⟩; have n1_ : Aside0 (Kd.R (Kd.int .i64) 3 w37 w.heap.size (fun _ => True) u9 x9_1) := ⟨(by rw [hw]; exact (by (with_reducible repeat (first | apply Kd.R_alloc | apply Kd.R_drewN | apply Kd.R_drew)); exact Kd.R_mono (Kd.R_far (p := ⟨gb243, 2, none⟩) (Kd.R_far (p := ⟨gb243, 1, none⟩) (Kd.R_far (p := ⟨gb243, 0, none⟩) (Kd.R_types HO_9.out BK243.out (by decide)) (fun _ hk => hk.2) (.int .i64 ((rd_T73 l1 x22_1).f0))) (fun _ hk => hk.2) (.int .i64 ((rd_T73 l1 x22_1).f1))) (fun _ hk => hk.2) (.int .i64 ((rd_T73 l1 x22_1).f2))) (fun _ hk => trivial)))⟩; have n2_ : Aside0 (w37.heap[gb233]? = some (.cells #[.slice A0_0 l0_0.length c0_0, .int .i64 a0_1] 32 (0, 0))) := ⟨(by rw [hw]; exact zK)⟩; have n3_ : Aside0 (w37.heap[gb234]? = some (.cells #[.int .i64 a2_0, .int .i64 a2_1, .int .i64 a2_2] 36 (0, 0))) := ⟨(by rw [hw]; exact zK)⟩; have n4_ : Aside0 (w37.heap[gb241]? = some (Mp.mObj (Value.int .i64) x242000_1)) := ⟨(by rw [hw]; exact (by (with_reducible repeat (first | refine blk_drewN ?_ _ | refine blk_drew ?_ | refine blk_alloc ?_ _)); refine Mp.far ?_ NB241_243.out _; (with_reducible repeat (first | refine blk_drewN ?_ _ | refine blk_drew ?_ | refine blk_alloc ?_ _)); refine Mp.far ?_ NB241_243.out _; (with_reducible repeat (first | refine blk_drewN ?_ _ | refine blk_drew ?_ | refine blk_alloc ?_ _)); refine Mp.far ?_ NB241_243.out _; (with_reducible repeat (first | refine blk_drewN ?_ _ | refine blk_drew ?_ | refine blk_alloc ?_ _)); exact BK241.out))⟩; have n5_ : Aside0 (w37.heap[gb243]? = some (.cells #[.int .i64 ((rd_T73 l1 x22_1).f0), .int .i64 ((rd_T73 l1 x22_1).f1), .int .i64 ((rd_T73 l1 x22_1).f2)] 73 (0, 0))) := ⟨(by rw [hw]; exact (by (with_reducible repeat (first | refine blk_drewN ?_ _ | refine blk_drew ?_ | refine blk_alloc ?_ _)); refine blk_put (cs := #[.int .i64 ((rd_T73 l1 x22_1).f0), .int .i64 ((rd_T73 l1 x22_1).f1), .int .i64 0]) ?_ 2 _ rfl; (with_reducible repeat (first | refine blk_drewN ?_ _ | refine blk_drew ?_ | refine blk_alloc ?_ _)); refine blk_put (cs := #[.int .i64 ((rd_T73 l1 x22_1).f0), .int .i64 0, .int .i64 0]) ?_ 1 _ rfl; (with_reducible repeat (first | refine blk_drewN ?_ _ | refine blk_drew ?_ | refine blk_alloc ?_ _)); refine blk_put (cs := #[.int .i64 0, .int .i64 0, .int .i64 0]) ?_ 0 _ rfl; (with_reducible repeat (first | refine blk_drewN ?_ _ | refine blk_drew ?_ | refine blk_alloc ?_ _)); exact BK243.out))⟩; have n6_ : Aside0 (Below w.heap.size w w37) := ⟨(by rw [hw]; exact zb)⟩; clear hw; clear HO_8; clear HO_9; clear BK233; clear BK234; clear BK241; clear BK243; clear HB; have HO_8 := n0_; have HO_9 := n1_; have BK233 := n2_; have BK234 := n3_; have BK241 := n4_; have BK243 := n5_; have HB := n6_; clear n0_ n1_ n2_ n3_ n4_ n5_ n6_; obtain ⟨hcz38_0, hcz38_1, hcz38_2, hfz38_0, hfz38_1, hfz38_2⟩ := zc3 BK243.out; have hnb39 := NB241_233.out; have hnc39 := NB233_241.out; have hnb40 := NB241_234.out; have hnc40 := NB234_241.out; have hlz41_true : ∀ k_ : Int, (Instr.lookup 95 (.map (some gb241)) (.int .i64 k_) true).run Try.prog w37 = .ok (.tuple #[(Value.int .i64) (Mp.mget (0 : Int) x242000_1 k_), .bool (Mp.mhas x242000_1 k_)]) w37 := fun k_ => Mp.run_lookup (enc := (Value.int .i64)) Try.underlying95 Try.underlying3 (0 : Int) (fun w_ => impl_spoken.zeroM95 w_) BK241.out k_ true; have hlz41_false : ∀ k_ : Int, (Instr.lookup 95 (.map (some gb241)) (.int .i64 k_) false).run Try.prog w37 = .ok ((Value.int .i64) (Mp.mget (0 : Int) x242000_1 k_)) w37 := fun k_ => Mp.run_lookup (enc := (Value.int .i64)) Try.underlying95 Try.underlying3 (0 : Int) (fun w_ => impl_spoken.zeroM95 w_) BK241.out k_ false; have hnb42 := NB234_233.out; have hnc42 := NB233_234.out; obtain ⟨hcz43_0, hcz43_1, hcz43_2, hfz43_0, hfz43_1, hfz43_2⟩ := zc3 BK234.out; obtain ⟨hcz44_0, hcz44_1, hfz44_0, hfz44_1⟩ := zc2 BK233.out) | ((with_reducible refine gate_builtin (b := .append) (xs := #[.tmp 78, .tmp 80]) rfl ?_); at_builtin; refine Kd.R_append (Kd.int .i64) (w0 := w) w.heap.size rfl (.tmp 78) (.tmp 80) 22 3 (.int .i64 0) 8 rfl Try.underlying22 info3 rfl (by decide) (by omega) u9 x9_1 x22_1 [.int .i64 x22_1] (fun _ => True) (fun _ => False) rfl rfl ?aP (fun _ hk => hk.elim) ?aF ?aO ?aB ?aS ?aL ?_; (case aP => exact rfl); (case aB => exact zb); (case aF => exact (fun _ _ => trivial)); (case aO => exact (by (with_reducible repeat (first | apply Kd.R_alloc | apply Kd.R_drewN | apply Kd.R_drew)); exact HO_9.out)); (case aS => exact (below_size zb)); (case aL => have := LMc31.out; omega); intro v248 w45 ho hb hg hat; rw [← Ny247.out] at ho; have n0_ := zm (Kd.R_over' (by (with_reducible repeat (first | apply Kd.R_alloc | apply Kd.R_drewN | apply Kd.R_drew)); exact HO_8.out) (Kd.R_typed (by (with_reducible repeat (first | apply Kd.R_alloc | apply Kd.R_drewN | apply Kd.R_drew)); exact HO_9.out)) (by decide) hg); have n1_ := zm (blk_grown (g := gb233) (o := .cells #[.slice A0_0 l0_0.length c0_0, .int .i64 a0_1] 32 (0, 0)) zk hg (Kd.R_ne HO_9.out BK233.out (by decide))); have n2_ := zm (blk_grown (g := gb234) (o := .cells #[.int .i64 a2_0, .int .i64 a2_1, .int .i64 a2_2] 36 (0, 0)) zk hg (Kd.R_ne HO_9.out BK234.out (by decide))); have n3_ := zm (blk_grown (g := gb241) (o := Mp.mObj (Value.int .i64) x242000_1) zk hg (Mp.R_ne HO_9.out BK241.out)); have n4_ := zm (blk_grown (g := gb243) (o := .cells #[.int .i64 ((rd_T73 l1 x22_1).f0), .int .i64 ((rd_T73 l1 x22_1).f1), .int .i64 ((rd_T73 l1 x22_1).f2)] 73 (0, 0)) zk hg (Kd.R_ne HO_9.out BK243.out (by decide))); have n5_ := zm (hb); have n6_ := zm (ho); clear HO_8; clear BK233; clear BK234; clear BK241; clear BK243; clear HB; clear HO_9; have HO_8 := n0_; have BK233 := n1_; have BK234 := n2_; have BK241 := n3_; have BK243 := n4_; have HB := n5_; have HO249 := n6_; clear n0_ n1_ n2_ n3_ n4_ n5_ n6_; clear ho hb hg hat) | ((with_reducible refine impl_spoken.gq ?_); go_quiet (fail)))
         go_roundg k1
         case measure => have := HK1.out; omega
         case rel => exact ⟨(x8_1), (y247), (wrap64 (x22_1 + 1)), (x242000_1), (by first | rfl | (simp; done) | (simp [*]; done)), H', ⟨by have := HK1.out; omega⟩, ⟨by (with_reducible repeat (first | apply Kd.R_alloc | apply Kd.R_drewN | apply Kd.R_drew)); exact HO_8.out⟩, ⟨by (with_reducible repeat (first | apply Kd.R_alloc | apply Kd.R_drewN | apply Kd.R_drew)); exact HO249.out⟩, ⟨zk⟩, ⟨zk⟩, ⟨zk⟩, ⟨zb⟩⟩
        ·
         rw [if_neg c31] at H
         exact absurd H (by simp)
       ·
        rw [if_neg c30] at H
        have c30b0 : decide ((wrap64 (((rd_T73 l1 x22_1).f2) - ((rd_T73 l1 x22_1).f1))) < a2_2) = false := decide_eq_false c30
        clear c30
        by_cases c46 : Mp.mhas x242000_1 ((rd_T73 l1 x22_1).f0) = true
        ·
         rw [if_pos c46] at H
         have c46b0 : Mp.mhas x242000_1 ((rd_T73 l1 x22_1).f0) = true := c46
         clear c46
         by_cases c47 : (wrap64 (((rd_T73 l1 x22_1).f1) - (Mp.mget (0 : Int) x242000_1 ((rd_T73 l1 x22_1).f0)))) < (wrap64 (2 * a0_1))
         ·
          rw [if_pos c47] at H
          have c47b0 : decide ((wrap64 (((rd_T73 l1 x22_1).f1) - (Mp.mget (0 : Int) x242000_1 ((rd_T73 l1 x22_1).f0)))) < (wrap64 (2 * a0_1))) = true := decide_eq_true c47
          clear c47
          by_cases c48 : x9_1.length < 17592186044416
          ·
           rw [if_pos c48] at H
           have LMc48 := zm c48
           clear c48
           obtain ⟨y250, hy250⟩ : ∃ y_ : List Int, y_ = (x9_1 ++ [x22_1]) := ⟨_, rfl⟩
           replace H : (impl_spoken.l0 k1 x8_1 y250 l1 (l1.length : Int) (wrap64 (x22_1 + 1)) l0_0 a0_1 a2_0 a2_1 a2_2 x242000_1) = some (r1, r2) := by first | (rw [hy250]; with_reducible exact H) | (have H2_ := (Option.bind_some _ _).symm.trans H; rw [hy250]; with_reducible exact H2_) | (have H2_ := (Option.bind_some _ _).symm.trans H; with_reducible exact H2_) | with_reducible exact H | (rw [hy250]; exact H) | exact H
           have Ny250 := zm hy250
           clear hy250
           have H' := zm H
           clear H
           have p242 : 0 ≤ (x22_1 : Int) := zd
           have q242 : x22_1 < (l1.length : Int) := zd
           obtain ⟨ad242, e242, hx242_0, hx242_1, hx242_2⟩ := at_T73 HR1.out x22_1 p242 q242
           cases e242
           replace hx242_0 := zx HB.out hx242_0
           replace hx242_1 := zx HB.out hx242_1
           replace hx242_2 := zx HB.out hx242_2
           replace p242 := eq_true p242
           replace q242 := eq_true q242
           go_wp2_with (first | ((with_reducible refine gate_dst (N := 12) rfl ?_); refine box_event ?hg (N := 12) ?hd (cs := #[.int .i64 0, .int .i64 0, .int .i64 0]) (t := 73) ?hr ?_; (case hd => rfl); (case hg => rfl); (case hr => first | (go_simp; done) | (go_simp; rfl)); intro gb243 hg w49 hbox hb; have n0_ := zm (Kd.R_below (by (with_reducible repeat (first | apply Kd.R_alloc | apply Kd.R_drewN | apply Kd.R_drew)); exact HO_8.out) hb); have n1_ := zm (Kd.R_below (by (with_reducible repeat (first | apply Kd.R_alloc | apply Kd.R_drewN | apply Kd.R_drew)); exact HO_9.out) hb); have n2_ := zm (blk_below (g := gb233) zk hb); have n3_ := zm (blk_below (g := gb234) zk hb); have n4_ := zm (blk_below (g := gb241) zk hb); have n5_ := zm (below_step zb hb); have n6_ := zm (hbox); have n7_ := zm (zs hg zb : w.heap.size ≤ gb243); have n8_ := zm (zs hg zb : w.heap.size ≤ gb243); have n9_ := zm (zl hg zk : gb233 ≠ gb243); have n10_ := zm (zg hg zk : gb243 ≠ gb233); have n11_ := zm (zl hg zk : gb234 ≠ gb243); have n12_ := zm (zg hg zk : gb243 ≠ gb234); have n13_ := zm (zl hg zk : gb241 ≠ gb243); have n14_ := zm (zg hg zk : gb243 ≠ gb241); clear HO_8; clear HO_9; clear BK233; clear BK234; clear BK241; clear HB; have HO_8 := n0_; have HO_9 := n1_; have BK233 := n2_; have BK234 := n3_; have BK241 := n4_; have HB := n5_; have BK243 := n6_; have GW243 := n7_; have GE243 := n8_; have NB233_243 := n9_; have NB243_233 := n10_; have NB234_243 := n11_; have NB243_234 := n12_; have NB241_243 := n13_; have NB243_241 := n14_; clear n0_ n1_ n2_ n3_ n4_ n5_ n6_ n7_ n8_ n9_ n10_ n11_ n12_ n13_ n14_; clear hb hbox hg; have hnb50 := NB243_233.out; have hnc50 := NB233_243.out; have hnb51 := NB243_234.out; have hnc51 := NB234_243.out; have hnb52 := NB243_241.out; have hnc52 := NB241_243.out; obtain ⟨hcz53_0, hcz53_1, hcz53_2, hfz53_0, hfz53_1, hfz53_2⟩ := zc3 BK243.out) | ((with_reducible refine gate_store (t := 73) (p := 12) rfl ?_); (try (rw [drewN_self w49]; generalize hq_ : World.drewN w49 _ = w49; have n0_ := zm (Kd.R_at hq_ HO_8.out); have n1_ := zm (Kd.R_at hq_ HO_9.out); have n2_ := zm (blk_at hq_ BK233.out); have n3_ := zm (blk_at hq_ BK234.out); have n4_ := zm (blk_at hq_ BK241.out); have n5_ := zm (blk_at hq_ BK243.out); have n6_ := zm (below_at hq_ HB.out); clear hq_ HO_8 HO_9 BK233 BK234 BK241 BK243 HB; have HO_8 := n0_; have HO_9 := n1_; have BK233 := n2_; have BK234 := n3_; have BK241 := n4_; have BK243 := n5_; have HB := n6_; clear n0_ n1_ n2_ n3_ n4_ n5_ n6_)); refine store_event (t := 73) (p := 12) (v := ?vo_w54) (w1 := (((w49.setCell ⟨gb243, 0, none⟩ (.int .i64 ((rd_T73 l1 x22_1).f0))).setCell ⟨gb243, 1, none⟩ (.int .i64 ((rd_T73 l1 x22_1).f1))).setCell ⟨gb243, 2, none⟩ (.int .i64 ((rd_T73 l1 x22_1).f2)))) ?hg ?ho ?hn ?hr ?_; (case ho => rfl); (case hg => rfl); (case hn => rfl); (case hr => first | (go_simp; done) | (go_simp; rfl)); intro w54 hw; have n0_ : Aside0 (Kd.R k79 79 w54 w.heap.size (fun _ => True) u8 x8_1) := ⟨(by rw [hw]; exact (by (with_reducible repeat (first | apply Kd.R_alloc | apply Kd.R_drewN | apply Kd.R_drew)); exact Kd.R_mono (Kd.R_far (p := ⟨gb243, 2, none⟩) (Kd.R_far (p := ⟨gb243, 1, none⟩) (Kd.R_far (p := ⟨gb243, 0, none⟩) (Kd.R_types HO_8.out BK243.out (by decide)) (fun _ hk => hk.2) (.int .i64 ((rd_T73 l1 x22_1).f0))) (fun _ hk => hk.2) (.int .i64 ((rd_T73 l1 x22_1).f1))) (fun _ hk => hk.2) (.int .i64 ((rd_T73 l1 x22_1).f2))) (fun _ hk => trivial)))⟩; have n1_ : Aside0 (Kd.R (Kd.int .i64) 3 w54 w.heap.size (fun _ => True) u9 x9_1) := ⟨(by rw [hw]; exact (by (with_reducible repeat (first | apply Kd.R_alloc | apply Kd.R_drewN | apply Kd.R_drew)); exact Kd.R_mono (Kd.R_far (p := ⟨gb243, 2, none⟩) (Kd.R_far (p := ⟨gb243, 1, none⟩) (Kd.R_far (p := ⟨gb243, 0, none⟩) (Kd.R_types HO_9.out BK243.out (by decide)) (fun _ hk => hk.2) (.int .i64 ((rd_T73 l1 x22_1).f0))) (fun _ hk => hk.2) (.int .i64 ((rd_T73 l1 x22_1).f1))) (fun _ hk => hk.2) (.int .i64 ((rd_T73 l1 x22_1).f2))) (fun _ hk => trivial)))⟩; have n2_ : Aside0 (w54.heap[gb233]? = some (.cells #[.slice A0_0 l0_0.length c0_0, .int .i64 a0_1] 32 (0, 0))) := ⟨(by rw [hw]; exact zK)⟩; have n3_ : Aside0 (w54.heap[gb234]? = some (.cells #[.int .i64 a2_0, .int .i64 a2_1, .int .i64 a2_2] 36 (0, 0))) := ⟨(by rw [hw]; exact zK)⟩; have n4_ : Aside0 (w54.heap[gb241]? = some (Mp.mObj (Value.int .i64) x242000_1)) := ⟨(by rw [hw]; exact (by (with_reducible repeat (first | refine blk_drewN ?_ _ | refine blk_drew ?_ | refine blk_alloc ?_ _)); refine Mp.far ?_ NB241_243.out _; (with_reducible repeat (first | refine blk_drewN ?_ _ | refine blk_drew ?_ | refine blk_alloc ?_ _)); refine Mp.far ?_ NB241_243.out _; (with_reducible repeat (first | refine blk_drewN ?_ _ | refine blk_drew ?_ | refine blk_alloc ?_ _)); refine Mp.far ?_ NB241_243.out _; (with_reducible repeat (first | refine blk_drewN ?_ _ | refine blk_drew ?_ | refine blk_alloc ?_ _)); exact BK241.out))⟩; have n5_ : Aside0 (w54.heap[gb243]? = some (.cells #[.int .i64 ((rd_T73 l1 x22_1).f0), .int .i64 ((rd_T73 l1 x22_1).f1), .int .i64 ((rd_T73 l1 x22_1).f2)] 73 (0, 0))) := ⟨(by rw [hw]; exact (by (with_reducible repeat (first | refine blk_drewN ?_ _ | refine blk_drew ?_ | refine blk_alloc ?_ _)); refine blk_put (cs := #[.int .i64 ((rd_T73 l1 x22_1).f0), .int .i64 ((rd_T73 l1 x22_1).f1), .int .i64 0]) ?_ 2 _ rfl; (with_reducible repeat (first | refine blk_drewN ?_ _ | refine blk_drew ?_ | refine blk_alloc ?_ _)); refine blk_put (cs := #[.int .i64 ((rd_T73 l1 x22_1).f0), .int .i64 0, .int .i64 0]) ?_ 1 _ rfl; (with_reducible repeat (first | refine blk_drewN ?_ _ | refine blk_drew ?_ | refine blk_alloc ?_ _)); refine blk_put (cs := #[.int .i64 0, .int .i64 0, .int .i64 0]) ?_ 0 _ rfl; (with_reducible repeat (first | refine blk_drewN ?_ _ | refine blk_drew ?_ | refine blk_alloc ?_ _)); exact BK243.out))⟩; have n6_ : Aside0 (Below w.heap.size w w54) := ⟨(by rw [hw]; exact zb)⟩; clear hw; clear HO_8; clear HO_9; clear BK233; clear BK234; clear BK241; clear BK243; clear HB; have HO_8 := n0_; have HO_9 := n1_; have BK233 := n2_; have BK234 := n3_; have BK241 := n4_; have BK243 := n5_; have HB := n6_; clear n0_ n1_ n2_ n3_ n4_ n5_ n6_; obtain ⟨hcz55_0, hcz55_1, hcz55_2, hfz55_0, hfz55_1, hfz55_2⟩ := zc3 BK243.out; have hnb56 := NB241_233.out; have hnc56 := NB233_241.out; have hnb57 := NB241_234.out; have hnc57 := NB234_241.out; have hlz58_true : ∀ k_ : Int, (Instr.lookup 95 (.map (some gb241)) (.int .i64 k_) true).run Try.prog w54 = .ok (.tuple #[(Value.int .i64) (Mp.mget (0 : Int) x242000_1 k_), .bool (Mp.mhas x242000_1 k_)]) w54 := fun k_ => Mp.run_lookup (enc := (Value.int .i64)) Try.underlying95 Try.underlying3 (0 : Int) (fun w_ => impl_spoken.zeroM95 w_) BK241.out k_ true; have hlz58_false : ∀ k_ : Int, (Instr.lookup 95 (.map (some gb241)) (.int .i64 k_) false).run Try.prog w54 = .ok ((Value.int .i64) (Mp.mget (0 : Int) x242000_1 k_)) w54 := fun k_ => Mp.run_lookup (enc := (Value.int .i64)) Try.underlying95 Try.underlying3 (0 : Int) (fun w_ => impl_spoken.zeroM95 w_) BK241.out k_ false; have hnb59 := NB234_233.out; have hnc59 := NB233_234.out; obtain ⟨hcz60_0, hcz60_1, hcz60_2, hfz60_0, hfz60_1, hfz60_2⟩ := zc3 BK234.out; obtain ⟨hcz61_0, hcz61_1, hfz61_0, hfz61_1⟩ := zc2 BK233.out) | ((with_reducible refine gate_builtin (b := .append) (xs := #[.tmp 78, .tmp 80]) rfl ?_); at_builtin; refine Kd.R_append (Kd.int .i64) (w0 := w) w.heap.size rfl (.tmp 78) (.tmp 80) 22 3 (.int .i64 0) 8 rfl Try.underlying22 info3 rfl (by decide) (by omega) u9 x9_1 x22_1 [.int .i64 x22_1] (fun _ => True) (fun _ => False) rfl rfl ?aP (fun _ hk => hk.elim) ?aF ?aO ?aB ?aS ?aL ?_; (case aP => exact rfl); (case aB => exact zb); (case aF => exact (fun _ _ => trivial)); (case aO => exact (by (with_reducible repeat (first | apply Kd.R_alloc | apply Kd.R_drewN | apply Kd.R_drew)); exact HO_9.out)); (case aS => exact (below_size zb)); (case aL => have := LMc48.out; omega); intro v251 w62 ho hb hg hat; rw [← Ny250.out] at ho; have n0_ := zm (Kd.R_over' (by (with_reducible repeat (first | apply Kd.R_alloc | apply Kd.R_drewN | apply Kd.R_drew)); exact HO_8.out) (Kd.R_typed (by (with_reducible repeat (first | apply Kd.R_alloc | apply Kd.R_drewN | apply Kd.R_drew)); exact HO_9.out)) (by decide) hg); have n1_ := zm (blk_grown (g := gb233) (o := .cells #[.slice A0_0 l0_0.length c0_0, .int .i64 a0_1] 32 (0, 0)) zk hg (Kd.R_ne HO_9.out BK233.out (by decide))); have n2_ := zm (blk_grown (g := gb234) (o := .cells #[.int .i64 a2_0, .int .i64 a2_1, .int .i64 a2_2] 36 (0, 0)) zk hg (Kd.R_ne HO_9.out BK234.out (by decide))); have n3_ := zm (blk_grown (g := gb241) (o := Mp.mObj (Value.int .i64) x242000_1) zk hg (Mp.R_ne HO_9.out BK241.out)); have n4_ := zm (blk_grown (g := gb243) (o := .cells #[.int .i64 ((rd_T73 l1 x22_1).f0), .int .i64 ((rd_T73 l1 x22_1).f1), .int .i64 ((rd_T73 l1 x22_1).f2)] 73 (0, 0)) zk hg (Kd.R_ne HO_9.out BK243.out (by decide))); have n5_ := zm (hb); have n6_ := zm (ho); clear HO_8; clear BK233; clear BK234; clear BK241; clear BK243; clear HB; clear HO_9; have HO_8 := n0_; have BK233 := n1_; have BK234 := n2_; have BK241 := n3_; have BK243 := n4_; have HB := n5_; have HO252 := n6_; clear n0_ n1_ n2_ n3_ n4_ n5_ n6_; clear ho hb hg hat) | ((with_reducible refine impl_spoken.gq ?_); go_quiet (fail)))
           go_roundg k1
           case measure => have := HK1.out; omega
           case rel => exact ⟨(x8_1), (y250), (wrap64 (x22_1 + 1)), (x242000_1), (by first | rfl | (simp; done) | (simp [*]; done)), H', ⟨by have := HK1.out; omega⟩, ⟨by (with_reducible repeat (first | apply Kd.R_alloc | apply Kd.R_drewN | apply Kd.R_drew)); exact HO_8.out⟩, ⟨by (with_reducible repeat (first | apply Kd.R_alloc | apply Kd.R_drewN | apply Kd.R_drew)); exact HO252.out⟩, ⟨zk⟩, ⟨zk⟩, ⟨zk⟩, ⟨zb⟩⟩
          ·
           rw [if_neg c48] at H
           exact absurd H (by simp)
         ·
          rw [if_neg c47] at H
          have c47b0 : decide ((wrap64 (((rd_T73 l1 x22_1).f1) - (Mp.mget (0 : Int) x242000_1 ((rd_T73 l1 x22_1).f0)))) < (wrap64 (2 * a0_1))) = false := decide_eq_false c47
          clear c47
          by_cases c63 : (wrap64 (((rd_T73 l1 x22_1).f1) + a2_0)) ≥ (wrap64 (((rd_T73 l1 x22_1).f2) + a2_1))
          ·
           rw [if_pos c63] at H
           have c63b0 : decide ((wrap64 (((rd_T73 l1 x22_1).f2) + a2_1)) ≤ (wrap64 (((rd_T73 l1 x22_1).f1) + a2_0))) = true := decide_eq_true c63
           clear c63
           by_cases c64 : x9_1.length < 17592186044416
           ·
            rw [if_pos c64] at H
            have LMc64 := zm c64
            clear c64
            obtain ⟨y253, hy253⟩ : ∃ y_ : List Int, y_ = (x9_1 ++ [x22_1]) := ⟨_, rfl⟩
            replace H : (impl_spoken.l0 k1 x8_1 y253 l1 (l1.length : Int) (wrap64 (x22_1 + 1)) l0_0 a0_1 a2_0 a2_1 a2_2 x242000_1) = some (r1, r2) := by first | (rw [hy253]; with_reducible exact H) | (have H2_ := (Option.bind_some _ _).symm.trans H; rw [hy253]; with_reducible exact H2_) | (have H2_ := (Option.bind_some _ _).symm.trans H; with_reducible exact H2_) | with_reducible exact H | (rw [hy253]; exact H) | exact H
            have Ny253 := zm hy253
            clear hy253
            have H' := zm H
            clear H
            have p242 : 0 ≤ (x22_1 : Int) := zd
            have q242 : x22_1 < (l1.length : Int) := zd
            obtain ⟨ad242, e242, hx242_0, hx242_1, hx242_2⟩ := at_T73 HR1.out x22_1 p242 q242
            cases e242
            replace hx242_0 := zx HB.out hx242_0
            replace hx242_1 := zx HB.out hx242_1
            replace hx242_2 := zx HB.out hx242_2
            replace p242 := eq_true p242
            replace q242 := eq_true q242
            go_wp2_with (first | ((with_reducible refine gate_dst (N := 12) rfl ?_); refine box_event ?hg (N := 12) ?hd (cs := #[.int .i64 0, .int .i64 0, .int .i64 0]) (t := 73) ?hr ?_; (case hd => rfl); (case hg => rfl); (case hr => first | (go_simp; done) | (go_simp; rfl)); intro gb243 hg w65 hbox hb; have n0_ := zm (Kd.R_below (by (with_reducible repeat (first | apply Kd.R_alloc | apply Kd.R_drewN | apply Kd.R_drew)); exact HO_8.out) hb); have n1_ := zm (Kd.R_below (by (with_reducible repeat (first | apply Kd.R_alloc | apply Kd.R_drewN | apply Kd.R_drew)); exact HO_9.out) hb); have n2_ := zm (blk_below (g := gb233) zk hb); have n3_ := zm (blk_below (g := gb234) zk hb); have n4_ := zm (blk_below (g := gb241) zk hb); have n5_ := zm (below_step zb hb); have n6_ := zm (hbox); have n7_ := zm (zs hg zb : w.heap.size ≤ gb243); have n8_ := zm (zs hg zb : w.heap.size ≤ gb243); have n9_ := zm (zl hg zk : gb233 ≠ gb243); have n10_ := zm (zg hg zk : gb243 ≠ gb233); have n11_ := zm (zl hg zk : gb234 ≠ gb243); have n12_ := zm (zg hg zk : gb243 ≠ gb234); have n13_ := zm (zl hg zk : gb241 ≠ gb243); have n14_ := zm (zg hg zk : gb243 ≠ gb241); clear HO_8; clear HO_9; clear BK233; clear BK234; clear BK241; clear HB; have HO_8 := n0_; have HO_9 := n1_; have BK233 := n2_; have BK234 := n3_; have BK241 := n4_; have HB := n5_; have BK243 := n6_; have GW243 := n7_; have GE243 := n8_; have NB233_243 := n9_; have NB243_233 := n10_; have NB234_243 := n11_; have NB243_234 := n12_; have NB241_243 := n13_; have NB243_241 := n14_; clear n0_ n1_ n2_ n3_ n4_ n5_ n6_ n7_ n8_ n9_ n10_ n11_ n12_ n13_ n14_; clear hb hbox hg; have hnb66 := NB243_233.out; have hnc66 := NB233_243.out; have hnb67 := NB243_234.out; have hnc67 := NB234_243.out; have hnb68 := NB243_241.out; have hnc68 := NB241_243.out; obtain ⟨hcz69_0, hcz69_1, hcz69_2, hfz69_0, hfz69_1, hfz69_2⟩ := zc3 BK243.out) | ((with_reducible refine gate_store (t := 73) (p := 12) rfl ?_); (try (rw [drewN_self w65]; generalize hq_ : World.drewN w65 _ = w65; have n0_ := zm (Kd.R_at hq_ HO_8.out); have n1_ := zm (Kd.R_at hq_ HO_9.out); have n2_ := zm (blk_at hq_ BK233.out); have n3_ := zm (blk_at hq_ BK234.out); have n4_ := zm (blk_at hq_ BK241.out); have n5_ := zm (blk_at hq_ BK243.out); have n6_ := zm (below_at hq_ HB.out); clear hq_ HO_8 HO_9 BK233 BK234 BK241 BK243 HB; have HO_8 := n0_; have HO_9 := n1_; have BK233 := n2_; have BK234 := n3_; have BK241 := n4_; have BK243 := n5_; have HB := n6_; clear n0_ n1_ n2_ n3_ n4_ n5_ n6_)); refine store_event (t := 73) (p := 12) (v := ?vo_w70) (w1 := (((w65.setCell ⟨gb243, 0, none⟩ (.int .i64 ((rd_T73 l1 x22_1).f0))).setCell ⟨gb243, 1, none⟩ (.int .i64 ((rd_T73 l1 x22_1).f1))).setCell ⟨gb243, 2, none⟩ (.int .i64 ((rd_T73 l1 x22_1).f2)))) ?hg ?ho ?hn ?hr ?_; (case ho => rfl); (case hg => rfl); (case hn => rfl); (case hr => first | (go_simp; done) | (go_simp; rfl)); intro w70 hw; have n0_ : Aside0 (Kd.R k79 79 w70 w.heap.size (fun _ => True) u8 x8_1) := ⟨(by rw [hw]; exact (by (with_reducible repeat (first | apply Kd.R_alloc | apply Kd.R_drewN | apply Kd.R_drew)); exact Kd.R_mono (Kd.R_far (p := ⟨gb243, 2, none⟩) (Kd.R_far (p := ⟨gb243, 1, none⟩) (Kd.R_far (p := ⟨gb243, 0, none⟩) (Kd.R_types HO_8.out BK243.out (by decide)) (fun _ hk => hk.2) (.int .i64 ((rd_T73 l1 x22_1).f0))) (fun _ hk => hk.2) (.int .i64 ((rd_T73 l1 x22_1).f1))) (fun _ hk => hk.2) (.int .i64 ((rd_T73 l1 x22_1).f2))) (fun _ hk => trivial)))⟩; have n1_ : Aside0 (Kd.R (Kd.int .i64) 3 w70 w.heap.size (fun _ => True) u9 x9_1) := ⟨(by rw [hw]; exact (by (with_reducible repeat (first | apply Kd.R_alloc | apply Kd.R_drewN | apply Kd.R_drew)); exact Kd.R_mono (Kd.R_far (p := ⟨gb243, 2, none⟩) (Kd.R_far (p := ⟨gb243, 1, none⟩) (Kd.R_far (p := ⟨gb243, 0, none⟩) (Kd.R_types HO_9.out BK243.out (by decide)) (fun _ hk => hk.2) (.int .i64 ((rd_T73 l1 x22_1).f0))) (fun _ hk => hk.2) (.int .i64 ((rd_T73 l1 x22_1).f1))) (fun _ hk => hk.2) (.int .i64 ((rd_T73 l1 x22_1).f2))) (fun _ hk => trivial)))⟩; have n2_ : Aside0 (w70.heap[gb233]? = some (.cells #[.slice A0_0 l0_0.length c0_0, .int .i64 a0_1] 32 (0, 0))) := ⟨(by rw [hw]; exact zK)⟩; have n3_ : Aside0 (w70.heap[gb234]? = some (.cells #[.int .i64 a2_0, .int .i64 a2_1, .int .i64 a2_2] 36 (0, 0))) := ⟨(by rw [hw]; exact zK)⟩; have n4_ : Aside0 (w70.heap[gb241]? = some (Mp.mObj (Value.int .i64) x242000_1)) := ⟨(by rw [hw]; exact (by (with_reducible repeat (first | refine blk_drewN ?_ _ | refine blk_drew ?_ | refine blk_alloc ?_ _)); refine Mp.far ?_ NB241_243.out _; (with_reducible repeat (first | refine blk_drewN ?_ _ | refine blk_drew ?_ | refine blk_alloc ?_ _)); refine Mp.far ?_ NB241_243.out _; (with_reducible repeat (first | refine blk_drewN ?_ _ | refine blk_drew ?_ | refine blk_alloc ?_ _)); refine Mp.far ?_ NB241_243.out _; (with_reducible repeat (first | refine blk_drewN ?_ _ | refine blk_drew ?_ | refine blk_alloc ?_ _)); exact BK241.out))⟩; have n5_ : Aside0 (w70.heap[gb243]? = some (.cells #[.int .i64 ((rd_T73 l1 x22_1).f0), .int .i64 ((rd_T73 l1 x22_1).f1), .int .i64 ((rd_T73 l1 x22_1).f2)] 73 (0, 0))) := ⟨(by rw [hw]; exact (by (with_reducible repeat (first | refine blk_drewN ?_ _ | refine blk_drew ?_ | refine blk_alloc ?_ _)); refine blk_put (cs := #[.int .i64 ((rd_T73 l1 x22_1).f0), .int .i64 ((rd_T73 l1 x22_1).f1), .int .i64 0]) ?_ 2 _ rfl; (with_reducible repeat (first | refine blk_drewN ?_ _ | refine blk_drew ?_ | refine blk_alloc ?_ _)); refine blk_put (cs := #[.int .i64 ((rd_T73 l1 x22_1).f0), .int .i64 0, .int .i64 0]) ?_ 1 _ rfl; (with_reducible repeat (first | refine blk_drewN ?_ _ | refine blk_drew ?_ | refine blk_alloc ?_ _)); refine blk_put (cs := #[.int .i64 0, .int .i64 0, .int .i64 0]) ?_ 0 _ rfl; (with_reducible repeat (first | refine blk_drewN ?_ _ | refine blk_drew ?_ | refine blk_alloc ?_ _)); exact BK243.out))⟩; have n6_ : Aside0 (Below w.heap.size w w70) := ⟨(by rw [hw]; exact zb)⟩; clear hw; clear HO_8; clear HO_9; clear BK233; clear BK234; clear BK241; clear BK243; clear HB; have HO_8 := n0_; have HO_9 := n1_; have BK233 := n2_; have BK234 := n3_; have BK241 := n4_; have BK243 := n5_; have HB := n6_; clear n0_ n1_ n2_ n3_ n4_ n5_ n6_; obtain ⟨hcz71_0, hcz71_1, hcz71_2, hfz71_0, hfz71_1, hfz71_2⟩ := zc3 BK243.out; have hnb72 := NB241_233.out; have hnc72 := NB233_241.out; have hnb73 := NB241_234.out; have hnc73 := NB234_241.out; have hlz74_true : ∀ k_ : Int, (Instr.lookup 95 (.map (some gb241)) (.int .i64 k_) true).run Try.prog w70 = .ok (.tuple #[(Value.int .i64) (Mp.mget (0 : Int) x242000_1 k_), .bool (Mp.mhas x242000_1 k_)]) w70 := fun k_ => Mp.run_lookup (enc := (Value.int .i64)) Try.underlying95 Try.underlying3 (0 : Int) (fun w_ => impl_spoken.zeroM95 w_) BK241.out k_ true; have hlz74_false : ∀ k_ : Int, (Instr.lookup 95 (.map (some gb241)) (.int .i64 k_) false).run Try.prog w70 = .ok ((Value.int .i64) (Mp.mget (0 : Int) x242000_1 k_)) w70 := fun k_ => Mp.run_lookup (enc := (Value.int .i64)) Try.underlying95 Try.underlying3 (0 : Int) (fun w_ => impl_spoken.zeroM95 w_) BK241.out k_ false; have hnb75 := NB234_233.out; have hnc75 := NB233_234.out; obtain ⟨hcz76_0, hcz76_1, hcz76_2, hfz76_0, hfz76_1, hfz76_2⟩ := zc3 BK234.out; obtain ⟨hcz77_0, hcz77_1, hfz77_0, hfz77_1⟩ := zc2 BK233.out) | ((with_reducible refine gate_builtin (b := .append) (xs := #[.tmp 78, .tmp 80]) rfl ?_); at_builtin; refine Kd.R_append (Kd.int .i64) (w0 := w) w.heap.size rfl (.tmp 78) (.tmp 80) 22 3 (.int .i64 0) 8 rfl Try.underlying22 info3 rfl (by decide) (by omega) u9 x9_1 x22_1 [.int .i64 x22_1] (fun _ => True) (fun _ => False) rfl rfl ?aP (fun _ hk => hk.elim) ?aF ?aO ?aB ?aS ?aL ?_; (case aP => exact rfl); (case aB => exact zb); (case aF => exact (fun _ _ => trivial)); (case aO => exact (by (with_reducible repeat (first | apply Kd.R_alloc | apply Kd.R_drewN | apply Kd.R_drew)); exact HO_9.out)); (case aS => exact (below_size zb)); (case aL => have := LMc64.out; omega); intro v254 w78 ho hb hg hat; rw [← Ny253.out] at ho; have n0_ := zm (Kd.R_over' (by (with_reducible repeat (first | apply Kd.R_alloc | apply Kd.R_drewN | apply Kd.R_drew)); exact HO_8.out) (Kd.R_typed (by (with_reducible repeat (first | apply Kd.R_alloc | apply Kd.R_drewN | apply Kd.R_drew)); exact HO_9.out)) (by decide) hg); have n1_ := zm (blk_grown (g := gb233) (o := .cells #[.slice A0_0 l0_0.length c0_0, .int .i64 a0_1] 32 (0, 0)) zk hg (Kd.R_ne HO_9.out BK233.out (by decide))); have n2_ := zm (blk_grown (g := gb234) (o := .cells #[.int .i64 a2_0, .int .i64 a2_1, .int .i64 a2_2] 36 (0, 0)) zk hg (Kd.R_ne HO_9.out BK234.out (by decide))); have n3_ := zm (blk_grown (g := gb241) (o := Mp.mObj (Value.int .i64) x242000_1) zk hg (Mp.R_ne HO_9.out BK241.out)); have n4_ := zm (blk_grown (g := gb243) (o := .cells #[.int .i64 ((rd_T73 l1 x22_1).f0), .int .i64 ((rd_T73 l1 x22_1).f1), .int .i64 ((rd_T73 l1 x22_1).f2)] 73 (0, 0)) zk hg (Kd.R_ne HO_9.out BK243.out (by decide))); have n5_ := zm (hb); have n6_ := zm (ho); clear HO_8; clear BK233; clear BK234; clear BK241; clear BK243; clear HB; clear HO_9; have HO_8 := n0_; have BK233 := n1_; have BK234 := n2_; have BK241 := n3_; have BK243 := n4_; have HB := n5_; have HO255 := n6_; clear n0_ n1_ n2_ n3_ n4_ n5_ n6_; clear ho hb hg hat) | ((with_reducible refine impl_spoken.gq ?_); go_quiet (fail)))
            go_roundg k1
            case measure => have := HK1.out; omega
            case rel => exact ⟨(x8_1), (y253), (wrap64 (x22_1 + 1)), (x242000_1), (by first | rfl | (simp; done) | (simp [*]; done)), H', ⟨by have := HK1.out; omega⟩, ⟨by (with_reducible repeat (first | apply Kd.R_alloc | apply Kd.R_drewN | apply Kd.R_drew)); exact HO_8.out⟩, ⟨by (with_reducible repeat (first | apply Kd.R_alloc | apply Kd.R_drewN | apply Kd.R_drew)); exact HO255.out⟩, ⟨zk⟩, ⟨zk⟩, ⟨zk⟩, ⟨zb⟩⟩
           ·
            rw [if_neg c64] at H
            exact absurd H (by simp)
          ·
           rw [if_neg c63] at H
           have c63b0 : decide ((wrap64 (((rd_T73 l1 x22_1).f2) + a2_1)) ≤ (wrap64 (((rd_T73 l1 x22_1).f1) + a2_0))) = false := decide_eq_false c63
           clear c63
           by_cases c79 : 0 ≤ ((rd_T73 l1 x22_1).f0)
           ·
            rw [if_pos c79] at H
            have c79b0 : decide (0 ≤ ((rd_T73 l1 x22_1).f0)) = true := decide_eq_true c79
            clear c79
            by_cases c80 : ((rd_T73 l1 x22_1).f0) < (l0_0.length : Int)
            ·
             rw [if_pos c80] at H
             have c80b0 : decide (((rd_T73 l1 x22_1).f0) < (l0_0.length : Int)) = true := decide_eq_true c80
             clear c80
             by_cases c81 : x8_1.length < 5864062014805
             ·
              rw [if_pos c81] at H
              have LMc81 := zm c81
              clear c81
              obtain ⟨y257, hy257⟩ : ∃ y_ : List (S79), y_ = (x8_1 ++ [(⟨rd l0_0 ((rd_T73 l1 x22_1).f0), wrap64 (((rd_T73 l1 x22_1).f1) + a2_0), wrap64 (((rd_T73 l1 x22_1).f2) + a2_1)⟩ : S79)]) := ⟨_, rfl⟩
              replace H : (impl_spoken.l0 k1 y257 x9_1 l1 (l1.length : Int) (wrap64 (x22_1 + 1)) l0_0 a0_1 a2_0 a2_1 a2_2 (Mp.mput x242000_1 ((rd_T73 l1 x22_1).f0) ((rd_T73 l1 x22_1).f1))) = some (r1, r2) := by first | (rw [hy257]; with_reducible exact H) | (have H2_ := (Option.bind_some _ _).symm.trans H; rw [hy257]; with_reducible exact H2_) | (have H2_ := (Option.bind_some _ _).symm.trans H; with_reducible exact H2_) | with_reducible exact H | (rw [hy257]; exact H) | exact H
              have Ny257 := zm hy257
              clear hy257
              have H' := zm H
              clear H
              have p242 : 0 ≤ (x22_1 : Int) := zd
              have q242 : x22_1 < (l1.length : Int) := zd
              obtain ⟨ad242, e242, hx242_0, hx242_1, hx242_2⟩ := at_T73 HR1.out x22_1 p242 q242
              cases e242
              replace hx242_0 := zx HB.out hx242_0
              replace hx242_1 := zx HB.out hx242_1
              replace hx242_2 := zx HB.out hx242_2
              replace p242 := eq_true p242
              replace q242 := eq_true q242
              go_wp2_with (first | ((with_reducible refine gate_dst (N := 12) rfl ?_); refine box_event ?hg (N := 12) ?hd (cs := #[.int .i64 0, .int .i64 0, .int .i64 0]) (t := 73) ?hr ?_; (case hd => rfl); (case hg => rfl); (case hr => first | (go_simp; done) | (go_simp; rfl)); intro gb243 hg w82 hbox hb; have n0_ := zm (Kd.R_below (by (with_reducible repeat (first | apply Kd.R_alloc | apply Kd.R_drewN | apply Kd.R_drew)); exact HO_8.out) hb); have n1_ := zm (Kd.R_below (by (with_reducible repeat (first | apply Kd.R_alloc | apply Kd.R_drewN | apply Kd.R_drew)); exact HO_9.out) hb); have n2_ := zm (blk_below (g := gb233) zk hb); have n3_ := zm (blk_below (g := gb234) zk hb); have n4_ := zm (blk_below (g := gb241) zk hb); have n5_ := zm (below_step zb hb); have n6_ := zm (hbox); have n7_ := zm (zs hg zb : w.heap.size ≤ gb243); have n8_ := zm (zs hg zb : w.heap.size ≤ gb243); have n9_ := zm (zl hg zk : gb233 ≠ gb243); have n10_ := zm (zg hg zk : gb243 ≠ gb233); have n11_ := zm (zl hg zk : gb234 ≠ gb243); have n12_ := zm (zg hg zk : gb243 ≠ gb234); have n13_ := zm (zl hg zk : gb241 ≠ gb243); have n14_ := zm (zg hg zk : gb243 ≠ gb241); clear HO_8; clear HO_9; clear BK233; clear BK234; clear BK241; clear HB; have HO_8 := n0_; have HO_9 := n1_; have BK233 := n2_; have BK234 := n3_; have BK241 := n4_; have HB := n5_; have BK243 := n6_; have GW243 := n7_; have GE243 := n8_; have NB233_243 := n9_; have NB243_233 := n10_; have NB234_243 := n11_; have NB243_234 := n12_; have NB241_243 := n13_; have NB243_241 := n14_; clear n0_ n1_ n2_ n3_ n4_ n5_ n6_ n7_ n8_ n9_ n10_ n11_ n12_ n13_ n14_; clear hb hbox hg; have hnb83 := NB243_233.out; have hnc83 := NB233_243.out; have hnb84 := NB243_234.out; have hnc84 := NB234_243.out; have hnb85 := NB243_241.out; have hnc85 := NB241_243.out; obtain ⟨hcz86_0, hcz86_1, hcz86_2, hfz86_0, hfz86_1, hfz86_2⟩ := zc3 BK243.out) | ((with_reducible refine gate_store (t := 73) (p := 12) rfl ?_); (try (rw [drewN_self w82]; generalize hq_ : World.drewN w82 _ = w82; have n0_ := zm (Kd.R_at hq_ HO_8.out); have n1_ := zm (Kd.R_at hq_ HO_9.out); have n2_ := zm (blk_at hq_ BK233.out); have n3_ := zm (blk_at hq_ BK234.out); have n4_ := zm (blk_at hq_ BK241.out); have n5_ := zm (blk_at hq_ BK243.out); have n6_ := zm (below_at hq_ HB.out); clear hq_ HO_8 HO_9 BK233 BK234 BK241 BK243 HB; have HO_8 := n0_; have HO_9 := n1_; have BK233 := n2_; have BK234 := n3_; have BK241 := n4_; have BK243 := n5_; have HB := n6_; clear n0_ n1_ n2_ n3_ n4_ n5_ n6_)); refine store_event (t := 73) (p := 12) (v := ?vo_w87) (w1 := (((w82.setCell ⟨gb243, 0, none⟩ (.int .i64 ((rd_T73 l1 x22_1).f0))).setCell ⟨gb243, 1, none⟩ (.int .i64 ((rd_T73 l1 x22_1).f1))).setCell ⟨gb243, 2, none⟩ (.int .i64 ((rd_T73 l1 x22_1).f2)))) ?hg ?ho ?hn ?hr ?_; (case ho => rfl); (case hg => rfl); (case hn => rfl); (case hr => first | (go_simp; done) | (go_simp; rfl)); intro w87 hw; have n0_ : Aside0 (Kd.R k79 79 w87 w.heap.size (fun _ => True) u8 x8_1) := ⟨(by rw [hw]; exact (by (with_reducible repeat (first | apply Kd.R_alloc | apply Kd.R_drewN | apply Kd.R_drew)); exact Kd.R_mono (Kd.R_far (p := ⟨gb243, 2, none⟩) (Kd.R_far (p := ⟨gb243, 1, none⟩) (Kd.R_far (p := ⟨gb243, 0, none⟩) (Kd.R_types HO_8.out BK243.out (by decide)) (fun _ hk => hk.2) (.int .i64 ((rd_T73 l1 x22_1).f0))) (fun _ hk => hk.2) (.int .i64 ((rd_T73 l1 x22_1).f1))) (fun _ hk => hk.2) (.int .i64 ((rd_T73 l1 x22_1).f2))) (fun _ hk => trivial)))⟩; have n1_ : Aside0 (Kd.R (Kd.int .i64) 3 w87 w.heap.size (fun _ => True) u9 x9_1) := ⟨(by rw [hw]; exact (by (with_reducible repeat (first | apply Kd.R_alloc | apply Kd.R_drewN | apply Kd.R_drew)); exact Kd.R_mono (Kd.R_far (p := ⟨gb243, 2, none⟩) (Kd.R_far (p := ⟨gb243, 1, none⟩) (Kd.R_far (p := ⟨gb243, 0, none⟩) (Kd.R_types HO_9.out BK243.out (by decide)) (fun _ hk => hk.2) (.int .i64 ((rd_T73 l1 x22_1).f0))) (fun _ hk => hk.2) (.int .i64 ((rd_T73 l1 x22_1).f1))) (fun _ hk => hk.2) (.int .i64 ((rd_T73 l1 x22_1).f2))) (fun _ hk => trivial)))⟩; have n2_ : Aside0 (w87.heap[gb233]? = some (.cells #[.slice A0_0 l0_0.length c0_0, .int .i64 a0_1] 32 (0, 0))) := ⟨(by rw [hw]; exact zK)⟩; have n3_ : Aside0 (w87.heap[gb234]? = some (.cells #[.int .i64 a2_0, .int .i64 a2_1, .int .i64 a2_2] 36 (0, 0))) := ⟨(by rw [hw]; exact zK)⟩; have n4_ : Aside0 (w87.heap[gb241]? = some (Mp.mObj (Value.int .i64) x242000_1)) := ⟨(by rw [hw]; exact (by (with_reducible repeat (first | refine blk_drewN ?_ _ | refine blk_drew ?_ | refine blk_alloc ?_ _)); refine Mp.far ?_ NB241_243.out _; (with_reducible repeat (first | refine blk_drewN ?_ _ | refine blk_drew ?_ | refine blk_alloc ?_ _)); refine Mp.far ?_ NB241_243.out _; (with_reducible repeat (first | refine blk_drewN ?_ _ | refine blk_drew ?_ | refine blk_alloc ?_ _)); refine Mp.far ?_ NB241_243.out _; (with_reducible repeat (first | refine blk_drewN ?_ _ | refine blk_drew ?_ | refine blk_alloc ?_ _)); exact BK241.out))⟩; have n5_ : Aside0 (w87.heap[gb243]? = some (.cells #[.int .i64 ((rd_T73 l1 x22_1).f0), .int .i64 ((rd_T73 l1 x22_1).f1), .int .i64 ((rd_T73 l1 x22_1).f2)] 73 (0, 0))) := ⟨(by rw [hw]; exact (by (with_reducible repeat (first | refine blk_drewN ?_ _ | refine blk_drew ?_ | refine blk_alloc ?_ _)); refine blk_put (cs := #[.int .i64 ((rd_T73 l1 x22_1).f0), .int .i64 ((rd_T73 l1 x22_1).f1), .int .i64 0]) ?_ 2 _ rfl; (with_reducible repeat (first | refine blk_drewN ?_ _ | refine blk_drew ?_ | refine blk_alloc ?_ _)); refine blk_put (cs := #[.int .i64 ((rd_T73 l1 x22_1).f0), .int .i64 0, .int .i64 0]) ?_ 1 _ rfl; (with_reducible repeat (first | refine blk_drewN ?_ _ | refine blk_drew ?_ | refine blk_alloc ?_ _)); refine blk_put (cs := #[.int .i64 0, .int .i64 0, .int .i64 0]) ?_ 0 _ rfl; (with_reducible repeat (first | refine blk_drewN ?_ _ | refine blk_drew ?_ | refine blk_alloc ?_ _)); exact BK243.out))⟩; have n6_ : Aside0 (Below w.heap.size w w87) := ⟨(by rw [hw]; exact zb)⟩; clear hw; clear HO_8; clear HO_9; clear BK233; clear BK234; clear BK241; clear BK243; clear HB; have HO_8 := n0_; have HO_9 := n1_; have BK233 := n2_; have BK234 := n3_; have BK241 := n4_; have BK243 := n5_; have HB := n6_; clear n0_ n1_ n2_ n3_ n4_ n5_ n6_; obtain ⟨hcz88_0, hcz88_1, hcz88_2, hfz88_0, hfz88_1, hfz88_2⟩ := zc3 BK243.out; have hnb89 := NB241_233.out; have hnc89 := NB233_241.out; have hnb90 := NB241_234.out; have hnc90 := NB234_241.out; have hlz91_true : ∀ k_ : Int, (Instr.lookup 95 (.map (some gb241)) (.int .i64 k_) true).run Try.prog w87 = .ok (.tuple #[(Value.int .i64) (Mp.mget (0 : Int) x242000_1 k_), .bool (Mp.mhas x242000_1 k_)]) w87 := fun k_ => Mp.run_lookup (enc := (Value.int .i64)) Try.underlying95 Try.underlying3 (0 : Int) (fun w_ => impl_spoken.zeroM95 w_) BK241.out k_ true; have hlz91_false : ∀ k_ : Int, (Instr.lookup 95 (.map (some gb241)) (.int .i64 k_) false).run Try.prog w87 = .ok ((Value.int .i64) (Mp.mget (0 : Int) x242000_1 k_)) w87 := fun k_ => Mp.run_lookup (enc := (Value.int .i64)) Try.underlying95 Try.underlying3 (0 : Int) (fun w_ => impl_spoken.zeroM95 w_) BK241.out k_ false; have hnb92 := NB234_233.out; have hnc92 := NB233_234.out; obtain ⟨hcz93_0, hcz93_1, hcz93_2, hfz93_0, hfz93_1, hfz93_2⟩ := zc3 BK234.out; obtain ⟨hcz94_0, hcz94_1, hfz94_0, hfz94_1⟩ := zc2 BK233.out) | (at_mapUpdate; refine Mp.put_event (t := 95) Try.underlying95 Try.underlying3 (Value.int .i64) rfl rfl rfl zk rfl ((rd_T73 l1 x22_1).f0) ((rd_T73 l1 x22_1).f1) ?hx ?hy ?_; (case hx => first | rfl | (go_simp; done) | (go_simp; rfl)); (case hy => first | rfl | (go_simp; done) | (go_simp; rfl)); intro w95 hp_ hg; have n0_ := zm (Mp.R_put (by (with_reducible repeat (first | apply Kd.R_alloc | apply Kd.R_drewN | apply Kd.R_drew)); exact HO_8.out) zk hg); have n1_ := zm (Mp.R_put (by (with_reducible repeat (first | apply Kd.R_alloc | apply Kd.R_drewN | apply Kd.R_drew)); exact HO_9.out) zk hg); have n2_ := zm (Mp.blk_put (by exact BK233.out) hg NB233_241.out); have n3_ := zm (Mp.blk_put (by exact BK234.out) hg NB234_241.out); have n4_ := zm (hp_); have n5_ := zm (Mp.blk_put (by exact BK243.out) hg NB243_241.out); have n6_ := zm (Below.grown zb hg (below_size zb) (fun j_ hj_ => by cases hj_; exact GE241.out)); clear HO_8; clear HO_9; clear BK233; clear BK234; clear BK241; clear BK243; clear HB; have HO_8 := n0_; have HO_9 := n1_; have BK233 := n2_; have BK234 := n3_; have BK241 := n4_; have BK243 := n5_; have HB := n6_; clear n0_ n1_ n2_ n3_ n4_ n5_ n6_; clear hp_ hg; obtain ⟨hcz96_0, hcz96_1, hfz96_0, hfz96_1⟩ := zc2 BK233.out; obtain ⟨hcz97_0, hcz97_1, hcz97_2, hfz97_0, hfz97_1, hfz97_2⟩ := zc3 BK243.out; have p256 : 0 ≤ (((rd_T73 l1 x22_1).f0) : Int) := zd; have q256 : ((rd_T73 l1 x22_1).f0) < (l0_0.length : Int) := zd; obtain ⟨ad256, e256, hx256_0⟩ := Kd.at_int HR0_0.out ((rd_T73 l1 x22_1).f0) p256 q256; cases e256; replace hx256_0 := zx HB.out hx256_0; replace p256 := eq_true p256; replace q256 := eq_true q256) | ((with_reducible refine gate_builtin (b := .append) (xs := #[.tmp 87, .tmp 97]) rfl ?_); at_builtin; refine Kd.R_append k79 (w0 := w) w.heap.size rfl (.tmp 87) (.tmp 97) 47 79 (.agg #[(.int .i64 0), (.int .i64 0), (.int .i64 0)]) 24 rfl Try.underlying47 info79 rfl (by decide) (by omega) u8 x8_1 (⟨rd l0_0 ((rd_T73 l1 x22_1).f0), wrap64 (((rd_T73 l1 x22_1).f1) + a2_0), wrap64 (((rd_T73 l1 x22_1).f2) + a2_1)⟩ : S79) [.int .i64 (rd l0_0 ((rd_T73 l1 x22_1).f0)), .int .i64 (wrap64 (((rd_T73 l1 x22_1).f1) + a2_0)), .int .i64 (wrap64 (((rd_T73 l1 x22_1).f2) + a2_1))] (fun _ => True) (fun _ => False) rfl rfl ?aP (fun _ hk => hk.elim) ?aF ?aO ?aB ?aS ?aL ?_; (case aP => exact k79_mkM _ _ _ (⟨rd l0_0 ((rd_T73 l1 x22_1).f0), wrap64 (((rd_T73 l1 x22_1).f1) + a2_0), wrap64 (((rd_T73 l1 x22_1).f2) + a2_1)⟩ : S79)); (case aB => exact zb); (case aF => exact (fun _ _ => trivial)); (case aO => exact (by (with_reducible repeat (first | apply Kd.R_alloc | apply Kd.R_drewN | apply Kd.R_drew)); exact HO_8.out)); (case aS => exact (below_size zb)); (case aL => have := LMc81.out; omega); intro v258 w98 ho hb hg hat; rw [← Ny257.out] at ho; have n0_ := zm (Kd.R_over' (by (with_reducible repeat (first | apply Kd.R_alloc | apply Kd.R_drewN | apply Kd.R_drew)); exact HO_9.out) (Kd.R_typed (by (with_reducible repeat (first | apply Kd.R_alloc | apply Kd.R_drewN | apply Kd.R_drew)); exact HO_8.out)) (by decide) hg); have n1_ := zm (blk_grown (g := gb233) (o := .cells #[.slice (some ad256) l0_0.length c0_0, .int .i64 a0_1] 32 (0, 0)) zk hg (Kd.R_ne HO_8.out BK233.out (by decide))); have n2_ := zm (blk_grown (g := gb234) (o := .cells #[.int .i64 a2_0, .int .i64 a2_1, .int .i64 a2_2] 36 (0, 0)) zk hg (Kd.R_ne HO_8.out BK234.out (by decide))); have n3_ := zm (blk_grown (g := gb241) (o := Mp.mObj (Value.int .i64) (Mp.mput x242000_1 ((rd_T73 l1 x22_1).f0) ((rd_T73 l1 x22_1).f1))) zk hg (Mp.R_ne HO_8.out BK241.out)); have n4_ := zm (blk_grown (g := gb243) (o := .cells #[.int .i64 ((rd_T73 l1 x22_1).f0), .int .i64 ((rd_T73 l1 x22_1).f1), .int .i64 ((rd_T73 l1 x22_1).f2)] 73 (0, 0)) zk hg (Kd.R_ne HO_8.out BK243.out (by decide))); have n5_ := zm (hb); have n6_ := zm (ho); clear HO_9; clear BK233; clear BK234; clear BK241; clear BK243; clear HB; clear HO_8; have HO_9 := n0_; have BK233 := n1_; have BK234 := n2_; have BK241 := n3_; have BK243 := n4_; have HB := n5_; have HO259 := n6_; clear n0_ n1_ n2_ n3_ n4_ n5_ n6_; clear ho hb hg hat) | ((with_reducible refine impl_spoken.gq ?_); go_quiet (fail)))
              go_roundg k1
              case measure => have := HK1.out; omega
              case rel => exact ⟨(y257), (x9_1), (wrap64 (x22_1 + 1)), (Mp.mput x242000_1 ((rd_T73 l1 x22_1).f0) ((rd_T73 l1 x22_1).f1)), (by first | rfl | (simp; done) | (simp [*]; done)), H', ⟨by have := HK1.out; omega⟩, ⟨by (with_reducible repeat (first | apply Kd.R_alloc | apply Kd.R_drewN | apply Kd.R_drew)); exact HO259.out⟩, ⟨by (with_reducible repeat (first | apply Kd.R_alloc | apply Kd.R_drewN | apply Kd.R_drew)); exact HO_9.out⟩, ⟨zk⟩, ⟨zk⟩, ⟨zk⟩, ⟨zb⟩⟩
             ·
              rw [if_neg c81] at H
              exact absurd H (by simp)
            ·
             rw [if_neg c80] at H
             exact absurd H (by simp)
           ·
            rw [if_neg c79] at H
            exact absurd H (by simp)
        ·
         rw [if_neg c46] at H
         have c46b0 : Mp.mhas x242000_1 ((rd_T73 l1 x22_1).f0) = false := by simpa using c46
         clear c46
         by_cases c99 : (wrap64 (((rd_T73 l1 x22_1).f1) + a2_0)) ≥ (wrap64 (((rd_T73 l1 x22_1).f2) + a2_1))
         ·
          rw [if_pos c99] at H
          have c99b0 : decide ((wrap64 (((rd_T73 l1 x22_1).f2) + a2_1)) ≤ (wrap64 (((rd_T73 l1 x22_1).f1) + a2_0))) = true := decide_eq_true c99
          clear c99
          by_cases c100 : x9_1.length < 17592186044416
          ·
           rw [if_pos c100] at H
           have LMc100 := zm c100
           clear c100
           obtain ⟨y260, hy260⟩ : ∃ y_ : List Int, y_ = (x9_1 ++ [x22_1]) := ⟨_, rfl⟩
           replace H : (impl_spoken.l0 k1 x8_1 y260 l1 (l1.length : Int) (wrap64 (x22_1 + 1)) l0_0 a0_1 a2_0 a2_1 a2_2 x242000_1) = some (r1, r2) := by first | (rw [hy260]; with_reducible exact H) | (have H2_ := (Option.bind_some _ _).symm.trans H; rw [hy260]; with_reducible exact H2_) | (have H2_ := (Option.bind_some _ _).symm.trans H; with_reducible exact H2_) | with_reducible exact H | (rw [hy260]; exact H) | exact H
           have Ny260 := zm hy260
           clear hy260
           have H' := zm H
           clear H
           have p242 : 0 ≤ (x22_1 : Int) := zd
           have q242 : x22_1 < (l1.length : Int) := zd
           obtain ⟨ad242, e242, hx242_0, hx242_1, hx242_2⟩ := at_T73 HR1.out x22_1 p242 q242
           cases e242
           replace hx242_0 := zx HB.out hx242_0
           replace hx242_1 := zx HB.out hx242_1
           replace hx242_2 := zx HB.out hx242_2
           replace p242 := eq_true p242
           replace q242 := eq_true q242
           go_wp2_with (first | ((with_reducible refine gate_dst (N := 12) rfl ?_); refine box_event ?hg (N := 12) ?hd (cs := #[.int .i64 0, .int .i64 0, .int .i64 0]) (t := 73) ?hr ?_; (case hd => rfl); (case hg => rfl); (case hr => first | (go_simp; done) | (go_simp; rfl)); intro gb243 hg w101 hbox hb; have n0_ := zm (Kd.R_below (by (with_reducible repeat (first | apply Kd.R_alloc | apply Kd.R_drewN | apply Kd.R_drew)); exact HO_8.out) hb); have n1_ := zm (Kd.R_below (by (with_reducible repeat (first | apply Kd.R_alloc | apply Kd.R_drewN | apply Kd.R_drew)); exact HO_9.out) hb); have n2_ := zm (blk_below (g := gb233) zk hb); have n3_ := zm (blk_below (g := gb234) zk hb); have n4_ := zm (blk_below (g := gb241) zk hb); have n5_ := zm (below_step zb hb); have n6_ := zm (hbox); have n7_ := zm (zs hg zb : w.heap.size ≤ gb243); have n8_ := zm (zs hg zb : w.heap.size ≤ gb243); have n9_ := zm (zl hg zk : gb233 ≠ gb243); have n10_ := zm (zg hg zk : gb243 ≠ gb233); have n11_ := zm (zl hg zk : gb234 ≠ gb243); have n12_ := zm (zg hg zk : gb243 ≠ gb234); have n13_ := zm (zl hg zk : gb241 ≠ gb243); have n14_ := zm (zg hg zk : gb243 ≠ gb241); clear HO_8; clear HO_9; clear BK233; clear BK234; clear BK241; clear HB; have HO_8 := n0_; have HO_9 := n1_; have BK233 := n2_; have BK234 := n3_; have BK241 := n4_; have HB := n5_; have BK243 := n6_; have GW243 := n7_; have GE243 := n8_; have NB233_243 := n9_; have NB243_233 := n10_; have NB234_243 := n11_; have NB243_234 := n12_; have NB241_243 := n13_; have NB243_241 := n14_; clear n0_ n1_ n2_ n3_ n4_ n5_ n6_ n7_ n8_ n9_ n10_ n11_ n12_ n13_ n14_; clear hb hbox hg; have hnb102 := NB243_233.out; have hnc102 := NB233_243.out; have hnb103 := NB243_234.out; have hnc103 := NB234_243.out; have hnb104 := NB243_241.out; have hnc104 := NB241_243.out; obtain ⟨hcz105_0, hcz105_1, hcz105_2, hfz105_0, hfz105_1, hfz105_2⟩ := zc3 BK243.out) | ((with_reducible refine gate_store (t := 73) (p := 12) rfl ?_); (try (rw [drewN_self w101]; generalize hq_ : World.drewN w101 _ = w101; have n0_ := zm (Kd.R_at hq_ HO_8.out); have n1_ := zm (Kd.R_at hq_ HO_9.out); have n2_ := zm (blk_at hq_ BK233.out); have n3_ := zm (blk_at hq_ BK234.out); have n4_ := zm (blk_at hq_ BK241.out); have n5_ := zm (blk_at hq_ BK243.out); have n6_ := zm (below_at hq_ HB.out); clear hq_ HO_8 HO_9 BK233 BK234 BK241 BK243 HB; have HO_8 := n0_; have HO_9 := n1_; have BK233 := n2_; have BK234 := n3_; have BK241 := n4_; have BK243 := n5_; have HB := n6_; clear n0_ n1_ n2_ n3_ n4_ n5_ n6_)); refine store_event (t := 73) (p := 12) (v := ?vo_w106) (w1 := (((w101.setCell ⟨gb243, 0, none⟩ (.int .i64 ((rd_T73 l1 x22_1).f0))).setCell ⟨gb243, 1, none⟩ (.int .i64 ((rd_T73 l1 x22_1).f1))).setCell ⟨gb243, 2, none⟩ (.int .i64 ((rd_T73 l1 x22_1).f2)))) ?hg ?ho ?hn ?hr ?_; (case ho => rfl); (case hg => rfl); (case hn => rfl); (case hr => first | (go_simp; done) | (go_simp; rfl)); intro w106 hw; have n0_ : Aside0 (Kd.R k79 79 w106 w.heap.size (fun _ => True) u8 x8_1) := ⟨(by rw [hw]; exact (by (with_reducible repeat (first | apply Kd.R_alloc | apply Kd.R_drewN | apply Kd.R_drew)); exact Kd.R_mono (Kd.R_far (p := ⟨gb243, 2, none⟩) (Kd.R_far (p := ⟨gb243, 1, none⟩) (Kd.R_far (p := ⟨gb243, 0, none⟩) (Kd.R_types HO_8.out BK243.out (by decide)) (fun _ hk => hk.2) (.int .i64 ((rd_T73 l1 x22_1).f0))) (fun _ hk => hk.2) (.int .i64 ((rd_T73 l1 x22_1).f1))) (fun _ hk => hk.2) (.int .i64 ((rd_T73 l1 x22_1).f2))) (fun _ hk => trivial)))⟩; have n1_ : Aside0 (Kd.R (Kd.int .i64) 3 w106 w.heap.size (fun _ => True) u9 x9_1) := ⟨(by rw [hw]; exact (by (with_reducible repeat (first | apply Kd.R_alloc | apply Kd.R_drewN | apply Kd.R_drew)); exact Kd.R_mono (Kd.R_far (p := ⟨gb243, 2, none⟩) (Kd.R_far (p := ⟨gb243, 1, none⟩) (Kd.R_far (p := ⟨gb243, 0, none⟩) (Kd.R_types HO_9.out BK243.out (by decide)) (fun _ hk => hk.2) (.int .i64 ((rd_T73 l1 x22_1).f0))) (fun _ hk => hk.2) (.int .i64 ((rd_T73 l1 x22_1).f1))) (fun _ hk => hk.2) (.int .i64 ((rd_T73 l1 x22_1).f2))) (fun _ hk => trivial)))⟩; have n2_ : Aside0 (w106.heap[gb233]? = some (.cells #[.slice A0_0 l0_0.length c0_0, .int .i64 a0_1] 32 (0, 0))) := ⟨(by rw [hw]; exact zK)⟩; have n3_ : Aside0 (w106.heap[gb234]? = some (.cells #[.int .i64 a2_0, .int .i64 a2_1, .int .i64 a2_2] 36 (0, 0))) := ⟨(by rw [hw]; exact zK)⟩; have n4_ : Aside0 (w106.heap[gb241]? = some (Mp.mObj (Value.int .i64) x242000_1)) := ⟨(by rw [hw]; exact (by (with_reducible repeat (first | refine blk_drewN ?_ _ | refine blk_drew ?_ | refine blk_alloc ?_ _)); refine Mp.far ?_ NB241_243.out _; (with_reducible repeat (first | refine blk_drewN ?_ _ | refine blk_drew ?_ | refine blk_alloc ?_ _)); refine Mp.far ?_ NB241_243.out _; (with_reducible repeat (first | refine blk_drewN ?_ _ | refine blk_drew ?_ | refine blk_alloc ?_ _)); refine Mp.far ?_ NB241_243.out _; (with_reducible repeat (first | refine blk_drewN ?_ _ | refine blk_drew ?_ | refine blk_alloc ?_ _)); exact BK241.out))⟩; have n5_ : Aside0 (w106.heap[gb243]? = some (.cells #[.int .i64 ((rd_T73 l1 x22_1).f0), .int .i64 ((rd_T73 l1 x22_1).f1), .int .i64 ((rd_T73 l1 x22_1).f2)] 73 (0, 0))) := ⟨(by rw [hw]; exact (by (with_reducible repeat (first | refine blk_drewN ?_ _ | refine blk_drew ?_ | refine blk_alloc ?_ _)); refine blk_put (cs := #[.int .i64 ((rd_T73 l1 x22_1).f0), .int .i64 ((rd_T73 l1 x22_1).f1), .int .i64 0]) ?_ 2 _ rfl; (with_reducible repeat (first | refine blk_drewN ?_ _ | refine blk_drew ?_ | refine blk_alloc ?_ _)); refine blk_put (cs := #[.int .i64 ((rd_T73 l1 x22_1).f0), .int .i64 0, .int .i64 0]) ?_ 1 _ rfl; (with_reducible repeat (first | refine blk_drewN ?_ _ | refine blk_drew ?_ | refine blk_alloc ?_ _)); refine blk_put (cs := #[.int .i64 0, .int .i64 0, .int .i64 0]) ?_ 0 _ rfl; (with_reducible repeat (first | refine blk_drewN ?_ _ | refine blk_drew ?_ | refine blk_alloc ?_ _)); exact BK243.out))⟩; have n6_ : Aside0 (Below w.heap.size w w106) := ⟨(by rw [hw]; exact zb)⟩; clear hw; clear HO_8; clear HO_9; clear BK233; clear BK234; clear BK241; clear BK243; clear HB; have HO_8 := n0_; have HO_9 := n1_; have BK233 := n2_; have BK234 := n3_; have BK241 := n4_; have BK243 := n5_; have HB := n6_; clear n0_ n1_ n2_ n3_ n4_ n5_ n6_; obtain ⟨hcz107_0, hcz107_1, hcz107_2, hfz107_0, hfz107_1, hfz107_2⟩ := zc3 BK243.out; have hnb108 := NB241_233.out; have hnc108 := NB233_241.out; have hnb109 := NB241_234.out; have hnc109 := NB234_241.out; have hlz110_true : ∀ k_ : Int, (Instr.lookup 95 (.map (some gb241)) (.int .i64 k_) true).run Try.prog w106 = .ok (.tuple #[(Value.int .i64) (Mp.mget (0 : Int) x242000_1 k_), .bool (Mp.mhas x242000_1 k_)]) w106 := fun k_ => Mp.run_lookup (enc := (Value.int .i64)) Try.underlying95 Try.underlying3 (0 : Int) (fun w_ => impl_spoken.zeroM95 w_) BK241.out k_ true; have hlz110_false : ∀ k_ : Int, (Instr.lookup 95 (.map (some gb241)) (.int .i64 k_) false).run Try.prog w106 = .ok ((Value.int .i64) (Mp.mget (0 : Int) x242000_1 k_)) w106 := fun k_ => Mp.run_lookup (enc := (Value.int .i64)) Try.underlying95 Try.underlying3 (0 : Int) (fun w_ => impl_spoken.zeroM95 w_) BK241.out k_ false; have hnb111 := NB234_233.out; have hnc111 := NB233_234.out; obtain ⟨hcz112_0, hcz112_1, hcz112_2, hfz112_0, hfz112_1, hfz112_2⟩ := zc3 BK234.out; obtain ⟨hcz113_0, hcz113_1, hfz113_0, hfz113_1⟩ := zc2 BK233.out) | ((with_reducible refine gate_builtin (b := .append) (xs := #[.tmp 78, .tmp 80]) rfl ?_); at_builtin; refine Kd.R_append (Kd.int .i64) (w0 := w) w.heap.size rfl (.tmp 78) (.tmp 80) 22 3 (.int .i64 0) 8 rfl Try.underlying22 info3 rfl (by decide) (by omega) u9 x9_1 x22_1 [.int .i64 x22_1] (fun _ => True) (fun _ => False) rfl rfl ?aP (fun _ hk => hk.elim) ?aF ?aO ?aB ?aS ?aL ?_; (case aP => exact rfl); (case aB => exact zb); (case aF => exact (fun _ _ => trivial)); (case aO => exact (by (with_reducible repeat (first | apply Kd.R_alloc | apply Kd.R_drewN | apply Kd.R_drew)); exact HO_9.out)); (case aS => exact (below_size zb)); (case aL => have := LMc100.out; omega); intro v261 w114 ho hb hg hat; rw [← Ny260.out] at ho; have n0_ := zm (Kd.R_over' (by (with_reducible repeat (first | apply Kd.R_alloc | apply Kd.R_drewN | apply Kd.R_drew)); exact HO_8.out) (Kd.R_typed (by (with_reducible repeat (first | apply Kd.R_alloc | apply Kd.R_drewN | apply Kd.R_drew)); exact HO_9.out)) (by decide) hg); have n1_ := zm (blk_grown (g := gb233) (o := .cells #[.slice A0_0 l0_0.length c0_0, .int .i64 a0_1] 32 (0, 0)) zk hg (Kd.R_ne HO_9.out BK233.out (by decide))); have n2_ := zm (blk_grown (g := gb234) (o := .cells #[.int .i64 a2_0, .int .i64 a2_1, .int .i64 a2_2] 36 (0, 0)) zk hg (Kd.R_ne HO_9.out BK234.out (by decide))); have n3_ := zm (blk_grown (g := gb241) (o := Mp.mObj (Value.int .i64) x242000_1) zk hg (Mp.R_ne HO_9.out BK241.out)); have n4_ := zm (blk_grown (g := gb243) (o := .cells #[.int .i64 ((rd_T73 l1 x22_1).f0), .int .i64 ((rd_T73 l1 x22_1).f1), .int .i64 ((rd_T73 l1 x22_1).f2)] 73 (0, 0)) zk hg (Kd.R_ne HO_9.out BK243.out (by decide))); have n5_ := zm (hb); have n6_ := zm (ho); clear HO_8; clear BK233; clear BK234; clear BK241; clear BK243; clear HB; clear HO_9; have HO_8 := n0_; have BK233 := n1_; have BK234 := n2_; have BK241 := n3_; have BK243 := n4_; have HB := n5_; have HO262 := n6_; clear n0_ n1_ n2_ n3_ n4_ n5_ n6_; clear ho hb hg hat) | ((with_reducible refine impl_spoken.gq ?_); go_quiet (fail)))
           go_roundg k1
           case measure => have := HK1.out; omega
           case rel => exact ⟨(x8_1), (y260), (wrap64 (x22_1 + 1)), (x242000_1), (by first | rfl | (simp; done) | (simp [*]; done)), H', ⟨by have := HK1.out; omega⟩, ⟨by (with_reducible repeat (first | apply Kd.R_alloc | apply Kd.R_drewN | apply Kd.R_drew)); exact HO_8.out⟩, ⟨by (with_reducible repeat (first | apply Kd.R_alloc | apply Kd.R_drewN | apply Kd.R_drew)); exact HO262.out⟩, ⟨zk⟩, ⟨zk⟩, ⟨zk⟩, ⟨zb⟩⟩
          ·
           rw [if_neg c100] at H
           exact absurd H (by simp)
         ·
          rw [if_neg c99] at H
          have c99b0 : decide ((wrap64 (((rd_T73 l1 x22_1).f2) + a2_1)) ≤ (wrap64 (((rd_T73 l1 x22_1).f1) + a2_0))) = false := decide_eq_false c99
          clear c99
          by_cases c115 : 0 ≤ ((rd_T73 l1 x22_1).f0)
          ·
           rw [if_pos c115] at H
           have c115b0 : decide (0 ≤ ((rd_T73 l1 x22_1).f0)) = true := decide_eq_true c115
           clear c115
           by_cases c116 : ((rd_T73 l1 x22_1).f0) < (l0_0.length : Int)
           ·
            rw [if_pos c116] at H
            have c116b0 : decide (((rd_T73 l1 x22_1).f0) < (l0_0.length : Int)) = true := decide_eq_true c116
            clear c116
            by_cases c117 : x8_1.length < 5864062014805
            ·
             rw [if_pos c117] at H
             have LMc117 := zm c117
             clear c117
             obtain ⟨y264, hy264⟩ : ∃ y_ : List (S79), y_ = (x8_1 ++ [(⟨rd l0_0 ((rd_T73 l1 x22_1).f0), wrap64 (((rd_T73 l1 x22_1).f1) + a2_0), wrap64 (((rd_T73 l1 x22_1).f2) + a2_1)⟩ : S79)]) := ⟨_, rfl⟩
             replace H : (impl_spoken.l0 k1 y264 x9_1 l1 (l1.length : Int) (wrap64 (x22_1 + 1)) l0_0 a0_1 a2_0 a2_1 a2_2 (Mp.mput x242000_1 ((rd_T73 l1 x22_1).f0) ((rd_T73 l1 x22_1).f1))) = some (r1, r2) := by first | (rw [hy264]; with_reducible exact H) | (have H2_ := (Option.bind_some _ _).symm.trans H; rw [hy264]; with_reducible exact H2_) | (have H2_ := (Option.bind_some _ _).symm.trans H; with_reducible exact H2_) | with_reducible exact H | (rw [hy264]; exact H) | exact H
             have Ny264 := zm hy264
             clear hy264
             have H' := zm H
             clear H
             have p242 : 0 ≤ (x22_1 : Int) := zd
             have q242 : x22_1 < (l1.length : Int) := zd
             obtain ⟨ad242, e242, hx242_0, hx242_1, hx242_2⟩ := at_T73 HR1.out x22_1 p242 q242
             cases e242
             replace hx242_0 := zx HB.out hx242_0
             replace hx242_1 := zx HB.out hx242_1
             replace hx242_2 := zx HB.out hx242_2
             replace p242 := eq_true p242
             replace q242 := eq_true q242
             go_wp2_with (first | ((with_reducible refine gate_dst (N := 12) rfl ?_); refine box_event ?hg (N := 12) ?hd (cs := #[.int .i64 0, .int .i64 0, .int .i64 0]) (t := 73) ?hr ?_; (case hd => rfl); (case hg => rfl); (case hr => first | (go_simp; done) | (go_simp; rfl)); intro gb243 hg w118 hbox hb; have n0_ := zm (Kd.R_below (by (with_reducible repeat (first | apply Kd.R_alloc | apply Kd.R_drewN | apply Kd.R_drew)); exact HO_8.out) hb); have n1_ := zm (Kd.R_below (by (with_reducible repeat (first | apply Kd.R_alloc | apply Kd.R_drewN | apply Kd.R_drew)); exact HO_9.out) hb); have n2_ := zm (blk_below (g := gb233) zk hb); have n3_ := zm (blk_below (g := gb234) zk hb); have n4_ := zm (blk_below (g := gb241) zk hb); have n5_ := zm (below_step zb hb); have n6_ := zm (hbox); have n7_ := zm (zs hg zb : w.heap.size ≤ gb243); have n8_ := zm (zs hg zb : w.heap.size ≤ gb243); have n9_ := zm (zl hg zk : gb233 ≠ gb243); have n10_ := zm (zg hg zk : gb243 ≠ gb233); have n11_ := zm (zl hg zk : gb234 ≠ gb243); have n12_ := zm (zg hg zk : gb243 ≠ gb234); have n13_ := zm (zl hg zk : gb241 ≠ gb243); have n14_ := zm (zg hg zk : gb243 ≠ gb241); clear HO_8; clear HO_9; clear BK233; clear BK234; clear BK241; clear HB; have HO_8 := n0_; have HO_9 := n1_; have BK233 := n2_; have BK234 := n3_; have BK241 := n4_; have HB := n5_; have BK243 := n6_; have GW243 := n7_; have GE243 := n8_; have NB233_243 := n9_; have NB243_233 := n10_; have NB234_243 := n11_; have NB243_234 := n12_; have NB241_243 := n13_; have NB243_241 := n14_; clear n0_ n1_ n2_ n3_ n4_ n5_ n6_ n7_ n8_ n9_ n10_ n11_ n12_ n13_ n14_; clear hb hbox hg; have hnb119 := NB243_233.out; have hnc119 := NB233_243.out; have hnb120 := NB243_234.out; have hnc120 := NB234_243.out; have hnb121 := NB243_241.out; have hnc121 := NB241_243.out; obtain ⟨hcz122_0, hcz122_1, hcz122_2, hfz122_0, hfz122_1, hfz122_2⟩ := zc3 BK243.out) | ((with_reducible refine gate_store (t := 73) (p := 12) rfl ?_); (try (rw [drewN_self w118]; generalize hq_ : World.drewN w118 _ = w118; have n0_ := zm (Kd.R_at hq_ HO_8.out); have n1_ := zm (Kd.R_at hq_ HO_9.out); have n2_ := zm (blk_at hq_ BK233.out); have n3_ := zm (blk_at hq_ BK234.out); have n4_ := zm (blk_at hq_ BK241.out); have n5_ := zm (blk_at hq_ BK243.out); have n6_ := zm (below_at hq_ HB.out); clear hq_ HO_8 HO_9 BK233 BK234 BK241 BK243 HB; have HO_8 := n0_; have HO_9 := n1_; have BK233 := n2_; have BK234 := n3_; have BK241 := n4_; have BK243 := n5_; have HB := n6_; clear n0_ n1_ n2_ n3_ n4_ n5_ n6_)); refine store_event (t := 73) (p := 12) (v := ?vo_w123) (w1 := (((w118.setCell ⟨gb243, 0, none⟩ (.int .i64 ((rd_T73 l1 x22_1).f0))).setCell ⟨gb243, 1, none⟩ (.int .i64 ((rd_T73 l1 x22_1).f1))).setCell ⟨gb243, 2, none⟩ (.int .i64 ((rd_T73 l1 x22_1).f2)))) ?hg ?ho ?hn ?hr ?_; (case ho => rfl); (case hg => rfl); (case hn => rfl); (case hr => first | (go_simp; done) | (go_simp; rfl)); intro w123 hw; have n0_ : Aside0 (Kd.R k79 79 w123 w.heap.size (fun _ => True) u8 x8_1) := ⟨(by rw [hw]; exact (by (with_reducible repeat (first | apply Kd.R_alloc | apply Kd.R_drewN | apply Kd.R_drew)); exact Kd.R_mono (Kd.R_far (p := ⟨gb243, 2, none⟩) (Kd.R_far (p := ⟨gb243, 1, none⟩) (Kd.R_far (p := ⟨gb243, 0, none⟩) (Kd.R_types HO_8.out BK243.out (by decide)) (fun _ hk => hk.2) (.int .i64 ((rd_T73 l1 x22_1).f0))) (fun _ hk => hk.2) (.int .i64 ((rd_T73 l1 x22_1).f1))) (fun _ hk => hk.2) (.int .i64 ((rd_T73 l1 x22_1).f2))) (fun _ hk => trivial)))⟩; have n1_ : Aside0 (Kd.R (Kd.int .i64) 3 w123 w.heap.size (fun _ => True) u9 x9_1) := ⟨(by rw [hw]; exact (by (with_reducible repeat (first | apply Kd.R_alloc | apply Kd.R_drewN | apply Kd.R_drew)); exact Kd.R_mono (Kd.R_far (p := ⟨gb243, 2, none⟩) (Kd.R_far (p := ⟨gb243, 1, none⟩) (Kd.R_far (p := ⟨gb243, 0, none⟩) (Kd.R_types HO_9.out BK243.out (by decide)) (fun _ hk => hk.2) (.int .i64 ((rd_T73 l1 x22_1).f0))) (fun _ hk => hk.2) (.int .i64 ((rd_T73 l1 x22_1).f1))) (fun _ hk => hk.2) (.int .i64 ((rd_T73 l1 x22_1).f2))) (fun _ hk => trivial)))⟩; have n2_ : Aside0 (w123.heap[gb233]? = some (.cells #[.slice A0_0 l0_0.length c0_0, .int .i64 a0_1] 32 (0, 0))) := ⟨(by rw [hw]; exact zK)⟩; have n3_ : Aside0 (w123.heap[gb234]? = some (.cells #[.int .i64 a2_0, .int .i64 a2_1, .int .i64 a2_2] 36 (0, 0))) := ⟨(by rw [hw]; exact zK)⟩; have n4_ : Aside0 (w123.heap[gb241]? = some (Mp.mObj (Value.int .i64) x242000_1)) := ⟨(by rw [hw]; exact (by (with_reducible repeat (first | refine blk_drewN ?_ _ | refine blk_drew ?_ | refine blk_alloc ?_ _)); refine Mp.far ?_ NB241_243.out _; (with_reducible repeat (first | refine blk_drewN ?_ _ | refine blk_drew ?_ | refine blk_alloc ?_ _)); refine Mp.far ?_ NB241_243.out _; (with_reducible repeat (first | refine blk_drewN ?_ _ | refine blk_drew ?_ | refine blk_alloc ?_ _)); refine Mp.far ?_ NB241_243.out _; (with_reducible repeat (first | refine blk_drewN ?_ _ | refine blk_drew ?_ | refine blk_alloc ?_ _)); exact BK241.out))⟩; have n5_ : Aside0 (w123.heap[gb243]? = some (.cells #[.int .i64 ((rd_T73 l1 x22_1).f0), .int .i64 ((rd_T73 l1 x22_1).f1), .int .i64 ((rd_T73 l1 x22_1).f2)] 73 (0, 0))) := ⟨(by rw [hw]; exact (by (with_reducible repeat (first | refine blk_drewN ?_ _ | refine blk_drew ?_ | refine blk_alloc ?_ _)); refine blk_put (cs := #[.int .i64 ((rd_T73 l1 x22_1).f0), .int .i64 ((rd_T73 l1 x22_1).f1), .int .i64 0]) ?_ 2 _ rfl; (with_reducible repeat (first | refine blk_drewN ?_ _ | refine blk_drew ?_ | refine blk_alloc ?_ _)); refine blk_put (cs := #[.int .i64 ((rd_T73 l1 x22_1).f0), .int .i64 0, .int .i64 0]) ?_ 1 _ rfl; (with_reducible repeat (first | refine blk_drewN ?_ _ | refine blk_drew ?_ | refine blk_alloc ?_ _)); refine blk_put (cs := #[.int .i64 0, .int .i64 0, .int .i64 0]) ?_ 0 _ rfl; (with_reducible repeat (first | refine blk_drewN ?_ _ | refine blk_drew ?_ | refine blk_alloc ?_ _)); exact BK243.out))⟩; have n6_ : Aside0 (Below w.heap.size w w123) := ⟨(by rw [hw]; exact zb)⟩; clear hw; clear HO_8; clear HO_9; clear BK233; clear BK234; clear BK241; clear BK243; clear HB; have HO_8 := n0_; have HO_9 := n1_; have BK233 := n2_; have BK234 := n3_; have BK241 := n4_; have BK243 := n5_; have HB := n6_; clear n0_ n1_ n2_ n3_ n4_ n5_ n6_; obtain ⟨hcz124_0, hcz124_1, hcz124_2, hfz124_0, hfz124_1, hfz124_2⟩ := zc3 BK243.out; have hnb125 := NB241_233.out; have hnc125 := NB233_241.out; have hnb126 := NB241_234.out; have hnc126 := NB234_241.out; have hlz127_true : ∀ k_ : Int, (Instr.lookup 95 (.map (some gb241)) (.int .i64 k_) true).run Try.prog w123 = .ok (.tuple #[(Value.int .i64) (Mp.mget (0 : Int) x242000_1 k_), .bool (Mp.mhas x242000_1 k_)]) w123 := fun k_ => Mp.run_lookup (enc := (Value.int .i64)) Try.underlying95 Try.underlying3 (0 : Int) (fun w_ => impl_spoken.zeroM95 w_) BK241.out k_ true; have hlz127_false : ∀ k_ : Int, (Instr.lookup 95 (.map (some gb241)) (.int .i64 k_) false).run Try.prog w123 = .ok ((Value.int .i64) (Mp.mget (0 : Int) x242000_1 k_)) w123 := fun k_ => Mp.run_lookup (enc := (Value.int .i64)) Try.underlying95 Try.underlying3 (0 : Int) (fun w_ => impl_spoken.zeroM95 w_) BK241.out k_ false; have hnb128 := NB234_233.out; have hnc128 := NB233_234.out; obtain ⟨hcz129_0, hcz129_1, hcz129_2, hfz129_0, hfz129_1, hfz129_2⟩ := zc3 BK234.out; obtain ⟨hcz130_0, hcz130_1, hfz130_0, hfz130_1⟩ := zc2 BK233.out) | (at_mapUpdate; refine Mp.put_event (t := 95) Try.underlying95 Try.underlying3 (Value.int .i64) rfl rfl rfl zk rfl ((rd_T73 l1 x22_1).f0) ((rd_T73 l1 x22_1).f1) ?hx ?hy ?_; (case hx => first | rfl | (go_simp; done) | (go_simp; rfl)); (case hy => first | rfl | (go_simp; done) | (go_simp; rfl)); intro w131 hp_ hg; have n0_ := zm (Mp.R_put (by (with_reducible repeat (first | apply Kd.R_alloc | apply Kd.R_drewN | apply Kd.R_drew)); exact HO_8.out) zk hg); have n1_ := zm (Mp.R_put (by (with_reducible repeat (first | apply Kd.R_alloc | apply Kd.R_drewN | apply Kd.R_drew)); exact HO_9.out) zk hg); have n2_ := zm (Mp.blk_put (by exact BK233.out) hg NB233_241.out); have n3_ := zm (Mp.blk_put (by exact BK234.out) hg NB234_241.out); have n4_ := zm (hp_); have n5_ := zm (Mp.blk_put (by exact BK243.out) hg NB243_241.out); have n6_ := zm (Below.grown zb hg (below_size zb) (fun j_ hj_ => by cases hj_; exact GE241.out)); clear HO_8; clear HO_9; clear BK233; clear BK234; clear BK241; clear BK243; clear HB; have HO_8 := n0_; have HO_9 := n1_; have BK233 := n2_; have BK234 := n3_; have BK241 := n4_; have BK243 := n5_; have HB := n6_; clear n0_ n1_ n2_ n3_ n4_ n5_ n6_; clear hp_ hg; obtain ⟨hcz132_0, hcz132_1, hfz132_0, hfz132_1⟩ := zc2 BK233.out; obtain ⟨hcz133_0, hcz133_1, hcz133_2, hfz133_0, hfz133_1, hfz133_2⟩ := zc3 BK243.out; have p263 : 0 ≤ (((rd_T73 l1 x22_1).f0) : Int) := zd; have q263 : ((rd_T73 l1 x22_1).f0) < (l0_0.length : Int) := zd; obtain ⟨ad263, e263, hx263_0⟩ := Kd.at_int HR0_0.out ((rd_T73 l1 x22_1).f0) p263 q263; cases e263; replace hx263_0 := zx HB.out hx263_0; replace p263 := eq_true p263; replace q263 := eq_true q263) | ((with_reducible refine gate_builtin (b := .append) (xs := #[.tmp 87, .tmp 97]) rfl ?_); at_builtin; refine Kd.R_append k79 (w0 := w) w.heap.size rfl (.tmp 87) (.tmp 97) 47 79 (.agg #[(.int .i64 0), (.int .i64 0), (.int .i64 0)]) 24 rfl Try.underlying47 info79 rfl (by decide) (by omega) u8 x8_1 (⟨rd l0_0 ((rd_T73 l1 x22_1).f0), wrap64 (((rd_T73 l1 x22_1).f1) + a2_0), wrap64 (((rd_T73 l1 x22_1).f2) + a2_1)⟩ : S79) [.int .i64 (rd l0_0 ((rd_T73 l1 x22_1).f0)), .int .i64 (wrap64 (((rd_T73 l1 x22_1).f1) + a2_0)), .int .i64 (wrap64 (((rd_T73 l1 x22_1).f2) + a2_1))] (fun _ => True) (fun _ => False) rfl rfl ?aP (fun _ hk => hk.elim) ?aF ?aO ?aB ?aS ?aL ?_; (case aP => exact k79_mkM _ _ _ (⟨rd l0_0 ((rd_T73 l1 x22_1).f0), wrap64 (((rd_T73 l1 x22_1).f1) + a2_0), wrap64 (((rd_T73 l1 x22_1).f2) + a2_1)⟩ : S79)); (case aB => exact zb); (case aF => exact (fun _ _ => trivial)); (case aO => exact (by (with_reducible repeat (first | apply Kd.R_alloc | apply Kd.R_drewN | apply Kd.R_drew)); exact HO_8.out)); (case aS => exact (below_size zb)); (case aL => have := LMc117.out; omega); intro v265 w134 ho hb hg hat; rw [← Ny264.out] at ho; have n0_ := zm (Kd.R_over' (by (with_reducible repeat (first | apply Kd.R_alloc | apply Kd.R_drewN | apply Kd.R_drew)); exact HO_9.out) (Kd.R_typed (by (with_reducible repeat (first | apply Kd.R_alloc | apply Kd.R_drewN | apply Kd.R_drew)); exact HO_8.out)) (by decide) hg); have n1_ := zm (blk_grown (g := gb233) (o := .cells #[.slice (some ad263) l0_0.length c0_0, .int .i64 a0_1] 32 (0, 0)) zk hg (Kd.R_ne HO_8.out BK233.out (by decide))); have n2_ := zm (blk_grown (g := gb234) (o := .cells #[.int .i64 a2_0, .int .i64 a2_1, .int .i64 a2_2] 36 (0, 0)) zk hg (Kd.R_ne HO_8.out BK234.out (by decide))); have n3_ := zm (blk_grown (g := gb241) (o := Mp.mObj (Value.int .i64) (Mp.mput x242000_1 ((rd_T73 l1 x22_1).f0) ((rd_T73 l1 x22_1).f1))) zk hg (Mp.R_ne HO_8.out BK241.out)); have n4_ := zm (blk_grown (g := gb243) (o := .cells #[.int .i64 ((rd_T73 l1 x22_1).f0), .int .i64 ((rd_T73 l1 x22_1).f1), .int .i64 ((rd_T73 l1 x22_1).f2)] 73 (0, 0)) zk hg (Kd.R_ne HO_8.out BK243.out (by decide))); have n5_ := zm (hb); have n6_ := zm (ho); clear HO_9; clear BK233; clear BK234; clear BK241; clear BK243; clear HB; clear HO_8; have HO_9 := n0_; have BK233 := n1_; have BK234 := n2_; have BK241 := n3_; have BK243 := n4_; have HB := n5_; have HO266 := n6_; clear n0_ n1_ n2_ n3_ n4_ n5_ n6_; clear ho hb hg hat) | ((with_reducible refine impl_spoken.gq ?_); go_quiet (fail)))
             go_roundg k1
             case measure => have := HK1.out; omega
             case rel => exact ⟨(y264), (x9_1), (wrap64 (x22_1 + 1)), (Mp.mput x242000_1 ((rd_T73 l1 x22_1).f0) ((rd_T73 l1 x22_1).f1)), (by first | rfl | (simp; done) | (simp [*]; done)), H', ⟨by have := HK1.out; omega⟩, ⟨by (with_reducible repeat (first | apply Kd.R_alloc | apply Kd.R_drewN | apply Kd.R_drew)); exact HO266.out⟩, ⟨by (with_reducible repeat (first | apply Kd.R_alloc | apply Kd.R_drewN | apply Kd.R_drew)); exact HO_9.out⟩, ⟨zk⟩, ⟨zk⟩, ⟨zk⟩, ⟨zb⟩⟩
            ·
             rw [if_neg c117] at H
             exact absurd H (by simp)
           ·
            rw [if_neg c116] at H
            exact absurd H (by simp)
          ·
           rw [if_neg c115] at H
           exact absurd H (by simp)
     ·
      rw [if_neg c13] at H
      exact absurd H (by simp)
    ·
     rw [if_neg c12] at H
     exact absurd H (by simp)
   ·
    rw [if_neg c11] at H
    have c11b0 : decide (x22_1 < (l1.length : Int)) = false := decide_eq_false c11
    clear c11
    simp only [Option.some.injEq, Prod.mk.injEq] at H
    obtain ⟨rfl, rfl⟩ := H
    go_wp2
    repeat (go_quiet (fail); try go_wp2)
    go_ret2
    exact ⟨_, _, zr, by (with_reducible repeat (first | apply Kd.R_alloc | apply Kd.R_drewN | apply Kd.R_drew)); exact HO_8.out, by (with_reducible repeat (first | apply Kd.R_alloc | apply Kd.R_drewN | apply Kd.R_drew)); exact HO_9.out, zb⟩

/-! ### impl_SilentHoles: function 21 -/
def impl_SilentHoles.f (k : Nat) (l0_0 : List Int) (a0_1 : Int) (l1 : List (S73)) (a2_0 : Int) (a2_1 : Int) (a2_2 : Int) : Option (List Int × Bool) := (impl_canBePlayed.f k l0_0 a0_1 l1 a2_0 a2_1 a2_2).bind fun t269 => (if t269 = true then ((impl_spoken.f k l0_0 a0_1 l1 a2_0 a2_1 a2_2).bind fun bt270 => (some (bt270.2, true))) else (some (([] : List Int), false)))
theorem impl_SilentHoles.mono : ∀ a0 a1 a2 a3 a4 a5 k, LeO (impl_SilentHoles.f k a0 a1 a2 a3 a4 a5) (impl_SilentHoles.f (k + 1) a0 a1 a2 a3 a4 a5) := by
  intro a0 a1 a2 a3 a4 a5 k
  unfold impl_SilentHoles.f
  repeat' first
      | (with_reducible exact impl_canBePlayed.mono _ _ _ _ _ _ _)
      | (with_reducible exact impl_spoken.mono _ _ _ _ _ _ _)
      | (with_reducible exact LeO.refl _)
      | (with_reducible exact LeO.none _)
      | (with_reducible refine LeO.ite ?_ ?_)
      | (with_reducible refine LeO.bind ?_ (fun _ => ?_))
      | exact impl_canBePlayed.mono _ _ _ _ _ _ _
      | exact impl_spoken.mono _ _ _ _ _ _ _
      | exact LeO.none _
      | refine LeO.ite ?_ ?_
      | refine LeO.bind ?_ (fun _ => ?_)
set_option maxHeartbeats 8000000 in
set_option maxRecDepth 100000 in
theorem impl_SilentHoles.calls (k : Nat) (A0_0 : Option Addr) (c0_0 : Nat) (l0_0 : List Int) (a0_1 : Int) (A1 : Option Addr) (c1 : Nat) (l1 : List (S73)) (a2_0 : Int) (a2_1 : Int) (a2_2 : Int) (r1 : List Int) (r2 : Bool) (w : World) (hr0_0 : Kd.C (Kd.int .i64) w A0_0 l0_0.length l0_0) (hc0_0 : l0_0.length ≤ c0_0) (hr1 : Kd.C k73 w A1 l1.length l1) (hc1 : l1.length ≤ c1) (h : impl_SilentHoles.f k l0_0 a0_1 l1 a2_0 a2_1 a2_2 = some (r1, r2)) :
  Calls Try.prog 21 #[.agg #[.slice A0_0 l0_0.length c0_0, .int .i64 a0_1], .slice A1 l1.length c1, .agg #[.int .i64 a2_0, .int .i64 a2_1, .int .i64 a2_2]] w fun e w' => ∃ v0_ : Value, e = .returned (.tuple #[v0_, .bool r2]) ∧ Kd.R (Kd.int .i64) 3 w' w.heap.size (fun _ => True) v0_ r1 ∧ Below w.heap.size w w' := by
 have hu32 := Try.underlying32
 have hu36 := Try.underlying36
 have HR0_0 := zm hr0_0
 have HC0_0 := zm hc0_0
 clear hr0_0 hc0_0
 have HR1 := zm hr1
 have HC1 := zm hc1
 clear hr1 hc1
 have HB := zm (Below.refl w.heap.size w)
 have H : ((impl_canBePlayed.f k l0_0 a0_1 l1 a2_0 a2_1 a2_2).bind fun t269 => (if t269 = true then ((impl_spoken.f k l0_0 a0_1 l1 a2_0 a2_1 a2_2).bind fun bt270 => (some (bt270.2, true))) else (some (([] : List Int), false)))) = some (r1, r2) := h
 clear h
 replace H := Option.bind_eq_some_iff.mp H
 obtain ⟨t269, A40, H⟩ := H
 replace H : (if t269 = true then ((impl_spoken.f k l0_0 a0_1 l1 a2_0 a2_1 a2_2).bind fun bt270 => (some (bt270.2, true))) else (some (([] : List Int), false))) = some (r1, r2) := H
 have A4 := zm A40
 clear A40
 by_cases c5 : t269 = true
 ·
  subst c5
  have H1 : ((impl_spoken.f k l0_0 a0_1 l1 a2_0 a2_1 a2_2).bind fun bt270 => (some (bt270.2, true))) = some (r1, r2) := by rw [if_pos rfl] at H; exact H
  clear H
  have H := H1
  clear H1
  replace H := Option.bind_eq_some_iff.mp H
  obtain ⟨⟨t270, t273⟩, A60, H⟩ := H
  replace H : (some (t273, true)) = some (r1, r2) := H
  have A6 := zm A60
  clear A60
  simp only [Option.some.injEq, Prod.mk.injEq] at H
  obtain ⟨rfl, rfl⟩ := H
  go_enter Try.func21, Try.ntmps21
  go_wp2_with (first | ((with_reducible refine gate_dst (N := 3) rfl ?_); refine box_event ?hg (N := 3) ?hd (cs := #[.slice A0_0 l0_0.length c0_0, .int .i64 a0_1]) (t := 32) ?hr ?_; (case hd => rfl); (case hg => rfl); (case hr => first | (go_simp; done) | (go_simp; rfl)); intro gb267 hg w7 hbox hb; have n0_ := zm (below_step zb hb); have n1_ := zm (hbox); have n2_ := zm (zs hg zb : w.heap.size ≤ gb267); have n3_ := zm (zs hg zb : w.heap.size ≤ gb267); clear HB; have HB := n0_; have BK267 := n1_; have GW267 := n2_; have GE267 := n3_; clear n0_ n1_ n2_ n3_; clear hb hbox hg) | ((with_reducible refine gate_dst (N := 5) rfl ?_); refine box_event ?hg (N := 5) ?hd (cs := #[.int .i64 a2_0, .int .i64 a2_1, .int .i64 a2_2]) (t := 36) ?hr ?_; (case hd => rfl); (case hg => rfl); (case hr => first | (go_simp; done) | (go_simp; rfl)); intro gb268 hg w8 hbox hb; have n0_ := zm (blk_below (g := gb267) zk hb); have n1_ := zm (below_step zb hb); have n2_ := zm (hbox); have n3_ := zm (zs hg zb : w.heap.size ≤ gb268); have n4_ := zm (zs hg zb : w.heap.size ≤ gb268); have n5_ := zm (zl hg zk : gb267 ≠ gb268); have n6_ := zm (zg hg zk : gb268 ≠ gb267); clear BK267; clear HB; have BK267 := n0_; have HB := n1_; have BK268 := n2_; have GW268 := n3_; have GE268 := n4_; have NB267_268 := n5_; have NB268_267 := n6_; clear n0_ n1_ n2_ n3_ n4_ n5_ n6_; clear hb hbox hg; have hnb9 := NB267_268.out; have hnc9 := NB268_267.out; obtain ⟨hcz10_0, hcz10_1, hfz10_0, hfz10_1⟩ := zc2 BK267.out; obtain ⟨hcz11_0, hcz11_1, hcz11_2, hfz11_0, hfz11_1, hfz11_2⟩ := zc3 BK268.out) | ((with_reducible refine gate_callee (f := 53) rfl ?_); refine goesL_ (some 13) rfl rfl Try.func53 (by kernel_rfl) rfl #[.agg #[.slice A0_0 l0_0.length c0_0, .int .i64 a0_1], .slice A1 l1.length c1, .agg #[.int .i64 a2_0, .int .i64 a2_1, .int .i64 a2_2]] rfl (by (try simp only [List.map_toArray, List.map_cons, List.map_nil]); first | done | rfl | (simp only [List.length_drop, List.length_take]; rfl)) ?_; (with_reducible refine (impl_canBePlayed.calls k _ _ l0_0 a0_1 _ _ l1 a2_0 a2_1 a2_2 true _ ?side1 ?side2 ?side3 ?side4 A4.out).mono ?_); (case side1 => repeat (first | exact (Kd.C_below HR0_0.out HB.out) | (with_reducible refine Kd.C_alloc ?_ _) | (with_reducible refine Kd.C_drewN ?_ _) | (with_reducible refine Kd.C_drew ?_))); (case side2 => exact HC0_0.out); (case side3 => repeat (first | exact (Kd.C_below HR1.out HB.out) | (with_reducible refine Kd.C_alloc ?_ _) | (with_reducible refine Kd.C_drewN ?_ _) | (with_reducible refine Kd.C_drew ?_))); (case side4 => exact HC1.out); rintro e w12 ⟨rfl, hb⟩; refine ⟨_, rfl, ?_⟩; have n0_ := zm (blk_below (g := gb267) zk hb); have n1_ := zm (blk_below (g := gb268) zk hb); have n2_ := zm (below_step zb hb); clear BK267; clear BK268; clear HB; have BK267 := n0_; have BK268 := n1_; have HB := n2_; clear n0_ n1_ n2_; (try clear hb); (try clear hb2); (try clear hk); (try clear hi); obtain ⟨hcz13_0, hcz13_1, hfz13_0, hfz13_1⟩ := zc2 BK267.out; obtain ⟨hcz14_0, hcz14_1, hcz14_2, hfz14_0, hfz14_1, hfz14_2⟩ := zc3 BK268.out) | ((with_reducible refine gate_callee (f := 54) rfl ?_); refine goesL_ (some 19) rfl rfl Try.func54 (by kernel_rfl) rfl #[.agg #[.slice A0_0 l0_0.length c0_0, .int .i64 a0_1], .slice A1 l1.length c1, .agg #[.int .i64 a2_0, .int .i64 a2_1, .int .i64 a2_2]] rfl (by (try simp only [List.map_toArray, List.map_cons, List.map_nil]); first | done | rfl | (simp only [List.length_drop, List.length_take]; rfl)) ?_; (with_reducible refine (impl_spoken.calls k _ _ l0_0 a0_1 _ _ l1 a2_0 a2_1 a2_2 t270 t273 _ ?side1 ?side2 ?side3 ?side4 A6.out).mono ?_); (case side1 => repeat (first | exact (Kd.C_below HR0_0.out HB.out) | (with_reducible refine Kd.C_alloc ?_ _) | (with_reducible refine Kd.C_drewN ?_ _) | (with_reducible refine Kd.C_drew ?_))); (case side2 => exact HC0_0.out); (case side3 => repeat (first | exact (Kd.C_below HR1.out HB.out) | (with_reducible refine Kd.C_alloc ?_ _) | (with_reducible refine Kd.C_drewN ?_ _) | (with_reducible refine Kd.C_drew ?_))); (case side4 => exact HC1.out); rintro e w15 ⟨v271, v274, rfl, ho0, ho1, hb⟩; refine ⟨_, rfl, ?_⟩; have n0_ := zm (Kd.R_lower ho0 (below_size zb)); have n1_ := zm (Kd.R_lower ho1 (below_size zb)); have n2_ := zm (blk_below (g := gb267) zk hb); have n3_ := zm (blk_below (g := gb268) zk hb); have n4_ := zm (below_step zb hb); clear BK267; clear BK268; clear HB; have HO272 := n0_; have HO275 := n1_; have BK267 := n2_; have BK268 := n3_; have HB := n4_; clear n0_ n1_ n2_ n3_ n4_; (try clear hb); (try clear hb2); (try clear hk); (try clear hi); (try clear ho0); (try clear ho1)))
  go_ret2
  exact ⟨_, zr, by (with_reducible repeat (first | apply Kd.R_alloc | apply Kd.R_drewN | apply Kd.R_drew)); exact HO275.out, zb⟩
 ·
  replace c5 := Bool.eq_false_iff.mpr c5
  subst c5
  have H1 : (some (([] : List Int), false)) = some (r1, r2) := by rw [if_neg (show ¬ (false = true) by decide)] at H; exact H
  clear H
  have H := H1
  clear H1
  simp only [Option.some.injEq, Prod.mk.injEq] at H
  obtain ⟨rfl, rfl⟩ := H
  go_enter Try.func21, Try.ntmps21
  go_wp2_with (first | ((with_reducible refine gate_dst (N := 3) rfl ?_); refine box_event ?hg (N := 3) ?hd (cs := #[.slice A0_0 l0_0.length c0_0, .int .i64 a0_1]) (t := 32) ?hr ?_; (case hd => rfl); (case hg => rfl); (case hr => first | (go_simp; done) | (go_simp; rfl)); intro gb267 hg w16 hbox hb; have n0_ := zm (below_step zb hb); have n1_ := zm (hbox); have n2_ := zm (zs hg zb : w.heap.size ≤ gb267); have n3_ := zm (zs hg zb : w.heap.size ≤ gb267); clear HB; have HB := n0_; have BK267 := n1_; have GW267 := n2_; have GE267 := n3_; clear n0_ n1_ n2_ n3_; clear hb hbox hg) | ((with_reducible refine gate_dst (N := 5) rfl ?_); refine box_event ?hg (N := 5) ?hd (cs := #[.int .i64 a2_0, .int .i64 a2_1, .int .i64 a2_2]) (t := 36) ?hr ?_; (case hd => rfl); (case hg => rfl); (case hr => first | (go_simp; done) | (go_simp; rfl)); intro gb268 hg w17 hbox hb; have n0_ := zm (blk_below (g := gb267) zk hb); have n1_ := zm (below_step zb hb); have n2_ := zm (hbox); have n3_ := zm (zs hg zb : w.heap.size ≤ gb268); have n4_ := zm (zs hg zb : w.heap.size ≤ gb268); have n5_ := zm (zl hg zk : gb267 ≠ gb268); have n6_ := zm (zg hg zk : gb268 ≠ gb267); clear BK267; clear HB; have BK267 := n0_; have HB := n1_; have BK268 := n2_; have GW268 := n3_; have GE268 := n4_; have NB267_268 := n5_; have NB268_267 := n6_; clear n0_ n1_ n2_ n3_ n4_ n5_ n6_; clear hb hbox hg; have hnb18 := NB267_268.out; have hnc18 := NB268_267.out; obtain ⟨hcz19_0, hcz19_1, hfz19_0, hfz19_1⟩ := zc2 BK267.out; obtain ⟨hcz20_0, hcz20_1, hcz20_2, hfz20_0, hfz20_1, hfz20_2⟩ := zc3 BK268.out) | ((with_reducible refine gate_callee (f := 53) rfl ?_); refine goesL_ (some 13) rfl rfl Try.func53 (by kernel_rfl) rfl #[.agg #[.slice A0_0 l0_0.length c0_0, .int .i64 a0_1], .slice A1 l1.length c1, .agg #[.int .i64 a2_0, .int .i64 a2_1, .int .i64 a2_2]] rfl (by (try simp only [List.map_toArray, List.map_cons, List.map_nil]); first | done | rfl | (simp only [List.length_drop, List.length_take]; rfl)) ?_; (with_reducible refine (impl_canBePlayed.calls k _ _ l0_0 a0_1 _ _ l1 a2_0 a2_1 a2_2 false _ ?side1 ?side2 ?side3 ?side4 A4.out).mono ?_); (case side1 => repeat (first | exact (Kd.C_below HR0_0.out HB.out) | (with_reducible refine Kd.C_alloc ?_ _) | (with_reducible refine Kd.C_drewN ?_ _) | (with_reducible refine Kd.C_drew ?_))); (case side2 => exact HC0_0.out); (case side3 => repeat (first | exact (Kd.C_below HR1.out HB.out) | (with_reducible refine Kd.C_alloc ?_ _) | (with_reducible refine Kd.C_drewN ?_ _) | (with_reducible refine Kd.C_drew ?_))); (case side4 => exact HC1.out); rintro e w21 ⟨rfl, hb⟩; refine ⟨_, rfl, ?_⟩; have n0_ := zm (blk_below (g := gb267) zk hb); have n1_ := zm (blk_below (g := gb268) zk hb); have n2_ := zm (below_step zb hb); clear BK267; clear BK268; clear HB; have BK267 := n0_; have BK268 := n1_; have HB := n2_; clear n0_ n1_ n2_; (try clear hb); (try clear hb2); (try clear hk); (try clear hi)))
  go_ret2
  exact ⟨_, zr, by first | exact Kd.R_nil _ _ _ _ _ | exact Kd.N_nil _ _ _ _ _ | exact Kd.V_nil _ _ _ _ _ | exact Kd.Q_nil _ _ _ _ _ | exact Kd.S_nil _ _ _ _ _, zb⟩

/-! ### laws_markIntS: function 25 -/
def laws_markIntS.l0 : Nat → List Int → Int → Int → Option (Int × List Int)
  | 0, _, _, _ => none
  | k + 1, x0, x1, x5 => if x5 < (x0.length : Int) then (if 0 ≤ x5 then (laws_markIntS.l0 k (x0.set (x5 : Int).toNat x1) (wrap64 (x1 + 1)) (wrap64 (x5 + 1))) else (none)) else (some (x1, x0))
def laws_markIntS.f (k : Nat) (l0 : List Int) (a1 : Int) : Option (Int × List Int) := laws_markIntS.l0 k l0 a1 0
theorem laws_markIntS.mono_l : ∀ k, (∀ y0 y1 y2, LeO (laws_markIntS.l0 k y0 y1 y2) (laws_markIntS.l0 (k + 1) y0 y1 y2))
  | 0 => fun _ _ _ r h => by simp [laws_markIntS.l0] at h
  | k + 1 => by
    have ih0 := laws_markIntS.mono_l k
    · intro y0 y1 y2
      unfold laws_markIntS.l0
      repeat' first
      | (with_reducible exact ih0 _ _ _)
      | (with_reducible exact LeO.refl _)
      | (with_reducible exact LeO.none _)
      | (with_reducible refine LeO.ite ?_ ?_)
      | (with_reducible refine LeO.bind ?_ (fun _ => ?_))
      | exact ih0 _ _ _
      | exact LeO.none _
      | refine LeO.ite ?_ ?_
      | refine LeO.bind ?_ (fun _ => ?_)
theorem laws_markIntS.mono : ∀ a0 a1 k, LeO (laws_markIntS.f k a0 a1) (laws_markIntS.f (k + 1) a0 a1) := by
  intro a0 a1 k
  have ih0 := laws_markIntS.mono_l k
  unfold laws_markIntS.f
  repeat' first
      | (with_reducible exact ih0 _ _ _)
      | (with_reducible exact LeO.refl _)
      | (with_reducible exact LeO.none _)
      | (with_reducible refine LeO.ite ?_ ?_)
      | (with_reducible refine LeO.bind ?_ (fun _ => ?_))
      | exact ih0 _ _ _
      | exact LeO.none _
      | refine LeO.ite ?_ ?_
      | refine LeO.bind ?_ (fun _ => ?_)
set_option maxHeartbeats 8000000 in
set_option maxRecDepth 100000 in
theorem laws_markIntS.calls (k : Nat) (P0_ : Nat → Prop) (u9000_ : Value) (l0 : List Int) (a1 : Int) (r1 : Int) (r2 : List Int) (w0 w : World) (hB : Below w0.heap.size w0 w) (ho0 : Kd.R (Kd.int .i64) 3 w w0.heap.size P0_ u9000_ l0) (h : laws_markIntS.f k l0 a1 = some (r1, r2)) :
  Calls Try.prog 25 #[u9000_, .int .i64 a1] w fun e w' => e = .returned (.int .i64 r1) ∧ Kd.R (Kd.int .i64) 3 w' w0.heap.size (fun k_ => (P0_ k_ ∨ w.heap.size ≤ k_)) u9000_ r2 ∧ Below w0.heap.size w0 w' ∧ Kept w w' (fun k_ => P0_ k_) := by
 have HO0 := zm (show Kd.R (Kd.int .i64) 3 w w0.heap.size (fun k_ => (P0_ k_ ∨ w.heap.size ≤ k_)) u9000_ l0 from Kd.R_mono ho0 (fun k_ hk => (.inl hk)))
 have HK := zm (Kept.refl w (fun k_ => P0_ k_))
 have HW0 := zm hB.size
 have HB := zm hB
 clear hB
 have H : (laws_markIntS.l0 k l0 a1 0) = some (r1, r2) := h
 clear h
 have H' := zm H
 clear H
 go_enter Try.func25, Try.ntmps25
 go_wp2
 go_loopg [1, 5] k (fun kq v1 v5 w' => ∃ (x0_1 : List Int) (x1_1 : Int) (x5_1 : Int), v1 = .int .i64 x1_1 ∧ v5 = .int .i64 x5_1 ∧ Aside0 (laws_markIntS.l0 kq x0_1 x1_1 x5_1 = some (r1, r2)) ∧ Aside0 (kq ≤ k) ∧ Aside0 (Kd.R (Kd.int .i64) 3 w' w0.heap.size (fun k_ => (P0_ k_ ∨ w.heap.size ≤ k_)) u9000_ x0_1) ∧ Aside0 (Kept w w' (fun k_ => P0_ k_)) ∧ Aside0 (Below w0.heap.size w0 w'))
 case atStart => exact ⟨(l0), (a1), (0), (by first | rfl | (simp; done) | (simp [*]; done)), (by first | rfl | (simp; done) | (simp [*]; done)), H', ⟨Nat.le_refl _⟩, ⟨by (with_reducible repeat (first | apply Kd.R_alloc | apply Kd.R_drewN | apply Kd.R_drew)); exact HO0.out⟩, ⟨by repeat (first | (with_reducible first | exact HK.out | apply Kept.alloc | apply Kept.drewN | apply Kept.drew) | exact HK.out)⟩, ⟨zb⟩⟩
 case round =>
  clear H'
  try clear c2
  try clear p2
  obtain ⟨x0_1, x1_1, x5_1, rfl, rfl, HA, HK1, HO_0, HK, HB⟩ := hrel
  cases gk with
  | zero => exact absurd HA.out (by simp [laws_markIntS.l0])
  | succ k1 =>
   have H := HA.out
   clear HA
   simp only [laws_markIntS.l0] at H
   by_cases c3 : x5_1 < (x0_1.length : Int)
   ·
    rw [if_pos c3] at H
    have c3b0 : decide (x5_1 < (x0_1.length : Int)) = true := decide_eq_true c3
    clear c3
    by_cases c4 : 0 ≤ x5_1
    ·
     rw [if_pos c4] at H
     have c4b0 : decide (0 ≤ x5_1) = true := decide_eq_true c4
     clear c4
     obtain ⟨y276, hy276⟩ : ∃ y_ : List Int, y_ = (x0_1.set (x5_1 : Int).toNat x1_1) := ⟨_, rfl⟩
     replace H : (laws_markIntS.l0 k1 y276 (wrap64 (x1_1 + 1)) (wrap64 (x5_1 + 1))) = some (r1, r2) := by first | (rw [hy276]; with_reducible exact H) | (have H2_ := (Option.bind_some _ _).symm.trans H; rw [hy276]; with_reducible exact H2_) | (have H2_ := (Option.bind_some _ _).symm.trans H; with_reducible exact H2_) | with_reducible exact H | (rw [hy276]; exact H) | exact H
     have Ny276 := zm hy276
     clear hy276
     have H' := zm H
     clear H
     obtain ⟨Ao6, co6, eo6⟩ := Kd.R_slice HO_0.out
     subst eo6
     have p5 : 0 ≤ (x5_1 : Int) := zd
     have q5 : (x5_1 : Int) < ((x0_1.length : Int) : Int) := zd
     obtain ⟨go5, co5, eo5, gb5, gl5, cl5, HG5⟩ := Kd.R_form HO_0.out (by omega)
     (first | cases eo5 | (injection eo5 with ea_ en_ ec_; (first | subst ea_ | (injection ea_ with ea_; subst ea_)); subst ec_; clear en_))
     have GB5 := zm gb5
     have GG5 := zm HG5
     clear gb5 gl5 HG5
     have HMgo5 := zm (show (P0_ go5 ∨ w.heap.size ≤ go5) from (HO_0.out.1 _ rfl))
     obtain ⟨hx5_0, hf5_0⟩ := Kd.R_celln 0 HO_0.out (x5_1 : Int) p5 q5
     replace p5 := eq_true p5
     replace q5 := eq_true q5
     have HP7 := Kd.R_putg HO_0.out (x5_1 : Int) x1_1
     go_wp2_with (first | ((with_reducible refine gate_store (t := 3) (p := 15) rfl ?_); refine store_event (t := 3) (p := 15) (v := ?vo_w8) (w1 := (wr.setCell ⟨go5, (x5_1 : Int).toNat, none⟩ (.int .i64 x1_1))) ?hg ?ho ?hn ?hr ?_; (case ho => rfl); (case hg => rfl); (case hn => rfl); (case hr => first | (go_simp; done) | (go_simp; rfl)); intro w8 hw; have hg : wr.grownBy w8 (some go5) := (by rw [hw]; exact HP7.2); have hp_ : Kd.R (Kd.int .i64) 3 w8 w0.heap.size (fun k_ => (P0_ k_ ∨ w.heap.size ≤ k_)) (.slice (some ⟨go5, 0, none⟩) x0_1.length co6) y276 := (by rw [hw, Ny276.out]; exact HP7.1); clear HP7; have n0_ := zm (hp_); have n1_ := zm ((by rw [hw]; exact below_set (HB.out) GB5.out : Below w0.heap.size w0 w8)); have n2_ := zm (Kept.of_grown (S := (fun k_ => P0_ k_)) hg (by repeat (first | (with_reducible first | exact HK.out | apply Kept.alloc | apply Kept.drewN | apply Kept.drew) | exact HK.out)) (fun k_ e_ => (HO_0.out.1 k_ e_))); clear HO_0; clear HB; clear HK; have HO_0 := n0_; have HB := n1_; have HK := n2_; clear n0_ n1_ n2_; clear hg hw hp_))
     go_roundg k1
     case measure => have := HK1.out; omega
     case rel => exact ⟨(y276), (wrap64 (x1_1 + 1)), (wrap64 (x5_1 + 1)), (by first | rfl | (simp; done) | (simp [*]; done)), (by first | rfl | (simp; done) | (simp [*]; done)), H', ⟨by have := HK1.out; omega⟩, ⟨by (with_reducible repeat (first | apply Kd.R_alloc | apply Kd.R_drewN | apply Kd.R_drew)); exact HO_0.out⟩, ⟨by repeat (first | (with_reducible first | exact HK.out | apply Kept.alloc | apply Kept.drewN | apply Kept.drew) | exact HK.out)⟩, ⟨zb⟩⟩
    ·
     rw [if_neg c4] at H
     exact absurd H (by simp)
   ·
    rw [if_neg c3] at H
    have c3b0 : decide (x5_1 < (x0_1.length : Int)) = false := decide_eq_false c3
    clear c3
    simp only [Option.some.injEq, Prod.mk.injEq] at H
    obtain ⟨rfl, rfl⟩ := H
    obtain ⟨Ao9, co9, eo9⟩ := Kd.R_slice HO_0.out
    subst eo9
    go_wp2
    go_ret
    exact ⟨zr, by (with_reducible repeat (first | apply Kd.R_alloc | apply Kd.R_drewN | apply Kd.R_drew)); exact HO_0.out, zb, by repeat (first | (with_reducible first | exact HK.out | apply Kept.alloc | apply Kept.drewN | apply Kept.drew) | exact HK.out)⟩

/-! ### laws_markInstrument: function 23 -/
def laws_markInstrument.f (k : Nat) (l0_0 : List Int) (a0_1 : Int) (a1 : Int) : Option (Int × List Int) := (laws_markIntS.f k l0_0 a1).bind fun bt278 => (some (bt278.1, bt278.2))
theorem laws_markInstrument.mono : ∀ a0 a1 a2 k, LeO (laws_markInstrument.f k a0 a1 a2) (laws_markInstrument.f (k + 1) a0 a1 a2) := by
  intro a0 a1 a2 k
  unfold laws_markInstrument.f
  repeat' first
      | (with_reducible exact laws_markIntS.mono _ _ _)
      | (with_reducible exact LeO.refl _)
      | (with_reducible exact LeO.none _)
      | (with_reducible refine LeO.ite ?_ ?_)
      | (with_reducible refine LeO.bind ?_ (fun _ => ?_))
      | exact laws_markIntS.mono _ _ _
      | exact LeO.none _
      | refine LeO.ite ?_ ?_
      | refine LeO.bind ?_ (fun _ => ?_)
set_option maxHeartbeats 8000000 in
set_option maxRecDepth 100000 in
theorem laws_markInstrument.calls (k : Nat) (P0_0_ : Nat → Prop) (u9000_ : Value) (l0_0 : List Int) (a0_1 : Int) (a1 : Int) (r1 : Int) (r2 : List Int) (w0 w : World) (hB : Below w0.heap.size w0 w) (ho0_0 : Kd.R (Kd.int .i64) 3 w w0.heap.size P0_0_ u9000_ l0_0) (h : laws_markInstrument.f k l0_0 a0_1 a1 = some (r1, r2)) :
  Calls Try.prog 23 #[.agg #[u9000_, .int .i64 a0_1], .int .i64 a1] w fun e w' => e = .returned (.int .i64 r1) ∧ Kd.R (Kd.int .i64) 3 w' w0.heap.size (fun k_ => (P0_0_ k_ ∨ w.heap.size ≤ k_)) u9000_ r2 ∧ Below w0.heap.size w0 w' ∧ Kept w w' (fun k_ => P0_0_ k_) := by
 have hu32 := Try.underlying32
 have HO0_0 := zm (show Kd.R (Kd.int .i64) 3 w w0.heap.size (fun k_ => (P0_0_ k_ ∨ w.heap.size ≤ k_)) u9000_ l0_0 from Kd.R_mono ho0_0 (fun k_ hk => (.inl hk)))
 have HK := zm (Kept.refl w (fun k_ => P0_0_ k_))
 have HW0 := zm hB.size
 have HB := zm hB
 clear hB
 have H : ((laws_markIntS.f k l0_0 a1).bind fun bt278 => (some (bt278.1, bt278.2))) = some (r1, r2) := h
 clear h
 replace H := Option.bind_eq_some_iff.mp H
 obtain ⟨⟨t278, t279⟩, A30, H⟩ := H
 replace H : (some (t278, t279)) = some (r1, r2) := H
 have A3 := zm A30
 clear A30
 simp only [Option.some.injEq, Prod.mk.injEq] at H
 obtain ⟨rfl, rfl⟩ := H
 obtain ⟨Ao4, co4, eo4⟩ := Kd.R_slice HO0_0.out
 subst eo4
 go_enter Try.func23, Try.ntmps23
 go_wp2_with (first | ((with_reducible refine gate_dst (N := 2) rfl ?_); refine box_event ?hg (N := 2) ?hd (cs := #[.slice Ao4 l0_0.length co4, .int .i64 a0_1]) (t := 32) ?hr ?_; (case hd => rfl); (case hg => rfl); (case hr => first | (go_simp; done) | (go_simp; rfl)); intro gb277 hg w5 hbox hb; have n0_ := zm (Kd.R_below (by (with_reducible repeat (first | apply Kd.R_alloc | apply Kd.R_drewN | apply Kd.R_drew)); exact HO0_0.out) hb); have n1_ := zm (Kept.below (S := (fun k_ => P0_0_ k_)) (by repeat (first | (with_reducible first | exact HK.out | apply Kept.alloc | apply Kept.drewN | apply Kept.drew) | exact HK.out)) hb); have n2_ := zm (below_step zb hb); have n3_ := zm (hbox); have n4_ := zm ((by rw [hg]; exact (by first | exact HK.out.1 | exact (show Kept w _ (fun k_ => P0_0_ k_) from by repeat (first | (with_reducible first | exact HK.out | apply Kept.alloc | apply Kept.drewN | apply Kept.drew) | exact HK.out)).1) : w.heap.size ≤ gb277)); have n5_ := zm (zs hg zb : w0.heap.size ≤ gb277); clear HO0_0; clear HK; clear HB; have HO0_0 := n0_; have HK := n1_; have HB := n2_; have BK277 := n3_; have GW277 := n4_; have GE277 := n5_; clear n0_ n1_ n2_ n3_ n4_ n5_; clear hb hbox hg; obtain ⟨hcz6_0, hcz6_1, hfz6_0, hfz6_1⟩ := zc2 BK277.out) | ((with_reducible refine gate_callee (f := 25) rfl ?_); refine goesL_ (some 8) rfl rfl Try.func25 (by kernel_rfl) rfl #[.slice Ao4 l0_0.length co4, .int .i64 a1] rfl (by (try simp only [List.map_toArray, List.map_cons, List.map_nil]); first | done | rfl | (simp only [List.length_drop, List.length_take]; rfl)) ?_; (with_reducible refine (laws_markIntS.calls k (fun k_ => some k_ = (.slice Ao4 l0_0.length co4 : Value).ownBlock) (.slice Ao4 l0_0.length co4) l0_0 a1 t278 t279 w0 _ ?side1 ?side2 A3.out).mono ?_); (case side1 => repeat (first | (with_reducible first | exact HB.out | apply below_alloc | apply pw_below_drewN | apply below_drew1 | refine below_set ?_ GE277.out) | exact HB.out)); (case side2 => exact Kd.R_tight rfl HO0_0.out); rintro e w7 ⟨rfl, hy0, hb, hkp⟩; refine ⟨_, rfl, ?_⟩; have n0_ := zm (Kd.R_reok rfl hy0 (fun k_ e_ => HO0_0.out.1 k_ e_)); have n1_ := zm (blk_kept zk hkp (fun hs_ => (fun e_ => (Kd.R_ne HO0_0.out BK277.out (by decide)) e_) hs_)); have n2_ := zm (Kept.then_ (S := (fun k_ => P0_0_ k_)) (by repeat (first | (with_reducible first | exact HK.out | apply Kept.alloc | apply Kept.drewN | apply Kept.drew | refine Kept.setCell ?_ (.inr GW277.out) _) | exact HK.out)) hkp (fun k_ hs_ => (fun e_ => (HO0_0.out.1 k_ e_.symm)) hs_)); have n3_ := zm (hb); clear HO0_0; clear BK277; clear HK; clear HB; have HO0_0 := n0_; have BK277 := n1_; have HK := n2_; have HB := n3_; clear n0_ n1_ n2_ n3_; (try clear hb); (try clear hkp); (try clear hy0)))
 go_ret
 exact ⟨zr, by (with_reducible repeat (first | apply Kd.R_alloc | apply Kd.R_drewN | apply Kd.R_drew)); exact HO0_0.out, zb, by repeat (first | (with_reducible first | exact HK.out | apply Kept.alloc | apply Kept.drewN | apply Kept.drew | refine Kept.setCell ?_ (.inr GW277.out) _) | exact HK.out)⟩

end Go.Proofs.Ytioheacdldgaaaa.PAll
