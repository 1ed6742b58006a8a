-- Written for this claim by a program of this session (wip/tpl/patchprint.py), not by print.sh.
import Derived.Test.YtepkedhmbfkenaaPTkx0
import Derived.Test.YtepkedhmbfkenaaPTkx2
namespace Go.Proofs.Ytepkedhmbfkenaa.PTk
open Go.RowKit Go.Proofs.YtepkedhmbfkenaaW.PrintWords Go.Proofs.YtepkedhmbfkenaaW.PrintLast Go.Proofs.YtepkedhmbfkenaaW.PrintMore
attribute [local go_sem] max2_int min2_int max_two min_two max_three min_three max_four min_four   -- for this text's walks alone
set_option linter.unusedVariables false
set_option linter.unusedSimpArgs false

/-! ### spec_tkAsked: function 117 -/
def spec_tkAsked.f (k : Nat) (a0_0 : Int) (a0_1 : Int) (a1 : Int) (l2 : List Int) : Option (Bool) := (spec_tkGood.f a0_0 a0_1).bind fun t235 => (if t235 = true then ((spec_tkOffset.f a1).bind fun t236 => (if t236 = true then (if (l2.length : Int) ≤ 100 then ((spec_l1All.f k l2 (-50) 50).bind fun t237 => (some t237)) else (some false)) else (some false))) else (some false))
theorem spec_tkAsked.mono : ∀ a0 a1 a2 a3 k, LeO (spec_tkAsked.f k a0 a1 a2 a3) (spec_tkAsked.f (k + 1) a0 a1 a2 a3) := by
  intro a0 a1 a2 a3 k
  unfold spec_tkAsked.f
  repeat' first
      | (with_reducible exact spec_l1All.mono _ _ _ _)
      | (with_reducible exact LeO.refl _)
      | (with_reducible exact LeO.none _)
      | (with_reducible refine LeO.ite ?_ ?_)
      | (with_reducible refine LeO.bind ?_ (fun _ => ?_))
      | exact spec_l1All.mono _ _ _ _
      | exact LeO.none _
      | refine LeO.ite ?_ ?_
      | refine LeO.bind ?_ (fun _ => ?_)
set_option maxHeartbeats 8000000 in
set_option maxRecDepth 100000 in
theorem spec_tkAsked.calls (k : Nat) (a0_0 : Int) (a0_1 : Int) (a1 : Int) (A2 : Option Addr) (c2 : Nat) (l2 : List Int) (r : Bool) (w : World) (hr2 : Kd.C (Kd.int .i64) w A2 l2.length l2) (hc2 : l2.length ≤ c2) (h : spec_tkAsked.f k a0_0 a0_1 a1 l2 = some r) :
  Calls Try.prog 117 #[.agg #[.int .i64 a0_0, .int .i64 a0_1], .int .i64 a1, .slice A2 l2.length c2] w fun e w' => e = .returned (.bool r) ∧ Below w.heap.size w w' := by
 have hu47 := Try.underlying47
 have HR2 := zm hr2
 have HC2 := zm hc2
 clear hr2 hc2
 have HB := zm (Below.refl w.heap.size w)
 have H : ((spec_tkGood.f a0_0 a0_1).bind fun t235 => (if t235 = true then ((spec_tkOffset.f a1).bind fun t236 => (if t236 = true then (if (l2.length : Int) ≤ 100 then ((spec_l1All.f k l2 (-50) 50).bind fun t237 => (some t237)) else (some false)) else (some false))) else (some false))) = some r := h
 clear h
 replace H := Option.bind_eq_some_iff.mp H
 obtain ⟨t235, A40, H⟩ := H
 replace H : (if t235 = true then ((spec_tkOffset.f a1).bind fun t236 => (if t236 = true then (if (l2.length : Int) ≤ 100 then ((spec_l1All.f k l2 (-50) 50).bind fun t237 => (some t237)) else (some false)) else (some false))) else (some false)) = some r := H
 have A4 := zm A40
 clear A40
 by_cases c5 : t235 = true
 ·
  subst c5
  have H1 : ((spec_tkOffset.f a1).bind fun t236 => (if t236 = true then (if (l2.length : Int) ≤ 100 then ((spec_l1All.f k l2 (-50) 50).bind fun t237 => (some t237)) else (some false)) else (some false))) = some r := by rw [if_pos rfl] at H; exact H
  clear H
  have H := H1
  clear H1
  replace H := Option.bind_eq_some_iff.mp H
  obtain ⟨t236, A60, H⟩ := H
  replace H : (if t236 = true then (if (l2.length : Int) ≤ 100 then ((spec_l1All.f k l2 (-50) 50).bind fun t237 => (some t237)) else (some false)) else (some false)) = some r := H
  have A6 := zm A60
  clear A60
  by_cases c7 : t236 = true
  ·
   subst c7
   have H1 : (if (l2.length : Int) ≤ 100 then ((spec_l1All.f k l2 (-50) 50).bind fun t237 => (some t237)) else (some false)) = some r := by rw [if_pos rfl] at H; exact H
   clear H
   have H := H1
   clear H1
   by_cases c8 : (l2.length : Int) ≤ 100
   ·
    rw [if_pos c8] at H
    have c8b0 : decide ((l2.length : Int) ≤ 100) = true := decide_eq_true c8
    have c8b1 : decide (l2.length ≤ 100) = true := decide_eq_true (by omega)
    clear c8
    replace H := Option.bind_eq_some_iff.mp H
    obtain ⟨t237, A90, H⟩ := H
    replace H : (some t237) = some r := H
    have A9 := zm A90
    clear A90
    obtain rfl := Option.some.inj H
    go_enter Try.func117, Try.ntmps117
    go_wp2_with (first | ((with_reducible refine gate_dst (N := 3) rfl ?_); (try (refine gate_guard (by rfl) ?_; dsimp only)); refine box_event ?hg (N := 3) ?hd (cs := #[.int .i64 a0_0, .int .i64 a0_1]) (t := 47) ?hr ?_; (case hd => rfl); (case hg => rfl); (case hr => first | (go_simp; done) | (go_simp; rfl)); intro gb234 hg w10 hbox hb; have n0_ := zm (below_step zb hb); have n1_ := zm (hbox); have n2_ := zm (zs hg zb : w.heap.size ≤ gb234); have n3_ := zm (zs hg zb : w.heap.size ≤ gb234); clear HB; have HB := n0_; have BK234 := n1_; have GW234 := n2_; have GE234 := n3_; clear n0_ n1_ n2_ n3_; clear hb hbox hg; obtain ⟨hcz11_0, hcz11_1, hfz11_0, hfz11_1⟩ := zc2 BK234.out) | ((with_reducible refine gate_callee (f := 123) rfl ?_); refine goesL_ (some 8) rfl rfl Try.func123 (by kernel_rfl) rfl #[.agg #[.int .i64 a0_0, .int .i64 a0_1]] rfl (by (try simp only [List.map_toArray, List.map_cons, List.map_nil]); first | done | rfl | (simp only [List.length_drop, List.length_take]; rfl)) ?_; (with_reducible refine (spec_tkGood.calls a0_0 a0_1 true _ A4.out).mono ?_); rintro e w12 ⟨rfl, hb⟩; refine ⟨_, rfl, ?_⟩; have n0_ := zm (blk_below (g := gb234) zk hb); have n1_ := zm (below_step zb hb); clear BK234; clear HB; have BK234 := n0_; have HB := n1_; clear n0_ n1_; (try clear hb); (try clear hb2); (try clear hk); (try clear hi)) | (go_at_call 124; (with_reducible refine (spec_tkOffset.calls a1 true _ A6.out).mono ?_); rintro e w' ⟨rfl, ⟨nd, rfl⟩⟩) | (go_at_call 155; (with_reducible refine (spec_l1All.calls k _ _ l2 (-50) 50 t237 _ ?side1 ?side2 A9.out).mono ?_); (case side1 => repeat (first | exact (Kd.C_below HR2.out zb) | (with_reducible refine Kd.C_alloc ?_ _) | (with_reducible refine Kd.C_drewN ?_ _) | (with_reducible refine Kd.C_drew ?_))); (case side2 => exact HC2.out); rintro e w' ⟨rfl, ⟨nd, rfl⟩⟩))
    go_ret
    exact ⟨zr, zb⟩
   ·
    rw [if_neg c8] at H
    have c8b0 : decide ((l2.length : Int) ≤ 100) = false := decide_eq_false c8
    have c8b1 : decide (l2.length ≤ 100) = false := decide_eq_false (by omega)
    clear c8
    obtain rfl := Option.some.inj H
    go_enter Try.func117, Try.ntmps117
    go_wp2_with (first | ((with_reducible refine gate_dst (N := 3) rfl ?_); (try (refine gate_guard (by rfl) ?_; dsimp only)); refine box_event ?hg (N := 3) ?hd (cs := #[.int .i64 a0_0, .int .i64 a0_1]) (t := 47) ?hr ?_; (case hd => rfl); (case hg => rfl); (case hr => first | (go_simp; done) | (go_simp; rfl)); intro gb234 hg w13 hbox hb; have n0_ := zm (below_step zb hb); have n1_ := zm (hbox); have n2_ := zm (zs hg zb : w.heap.size ≤ gb234); have n3_ := zm (zs hg zb : w.heap.size ≤ gb234); clear HB; have HB := n0_; have BK234 := n1_; have GW234 := n2_; have GE234 := n3_; clear n0_ n1_ n2_ n3_; clear hb hbox hg; obtain ⟨hcz14_0, hcz14_1, hfz14_0, hfz14_1⟩ := zc2 BK234.out) | ((with_reducible refine gate_callee (f := 123) rfl ?_); refine goesL_ (some 8) rfl rfl Try.func123 (by kernel_rfl) rfl #[.agg #[.int .i64 a0_0, .int .i64 a0_1]] rfl (by (try simp only [List.map_toArray, List.map_cons, List.map_nil]); first | done | rfl | (simp only [List.length_drop, List.length_take]; rfl)) ?_; (with_reducible refine (spec_tkGood.calls a0_0 a0_1 true _ A4.out).mono ?_); rintro e w15 ⟨rfl, hb⟩; refine ⟨_, rfl, ?_⟩; have n0_ := zm (blk_below (g := gb234) zk hb); have n1_ := zm (below_step zb hb); clear BK234; clear HB; have BK234 := n0_; have HB := n1_; clear n0_ n1_; (try clear hb); (try clear hb2); (try clear hk); (try clear hi)) | (go_at_call 124; (with_reducible refine (spec_tkOffset.calls a1 true _ A6.out).mono ?_); rintro e w' ⟨rfl, ⟨nd, rfl⟩⟩))
    go_ret
    exact ⟨zr, zb⟩
  ·
   replace c7 := Bool.eq_false_iff.mpr c7
   subst c7
   have H1 : (some false) = some r := by rw [if_neg (show ¬ (false = true) by decide)] at H; exact H
   clear H
   have H := H1
   clear H1
   obtain rfl := Option.some.inj H
   go_enter Try.func117, Try.ntmps117
   go_wp2_with (first | ((with_reducible refine gate_dst (N := 3) rfl ?_); (try (refine gate_guard (by rfl) ?_; dsimp only)); refine box_event ?hg (N := 3) ?hd (cs := #[.int .i64 a0_0, .int .i64 a0_1]) (t := 47) ?hr ?_; (case hd => rfl); (case hg => rfl); (case hr => first | (go_simp; done) | (go_simp; rfl)); intro gb234 hg w16 hbox hb; have n0_ := zm (below_step zb hb); have n1_ := zm (hbox); have n2_ := zm (zs hg zb : w.heap.size ≤ gb234); have n3_ := zm (zs hg zb : w.heap.size ≤ gb234); clear HB; have HB := n0_; have BK234 := n1_; have GW234 := n2_; have GE234 := n3_; clear n0_ n1_ n2_ n3_; clear hb hbox hg; obtain ⟨hcz17_0, hcz17_1, hfz17_0, hfz17_1⟩ := zc2 BK234.out) | ((with_reducible refine gate_callee (f := 123) rfl ?_); refine goesL_ (some 8) rfl rfl Try.func123 (by kernel_rfl) rfl #[.agg #[.int .i64 a0_0, .int .i64 a0_1]] rfl (by (try simp only [List.map_toArray, List.map_cons, List.map_nil]); first | done | rfl | (simp only [List.length_drop, List.length_take]; rfl)) ?_; (with_reducible refine (spec_tkGood.calls a0_0 a0_1 true _ A4.out).mono ?_); rintro e w18 ⟨rfl, hb⟩; refine ⟨_, rfl, ?_⟩; have n0_ := zm (blk_below (g := gb234) zk hb); have n1_ := zm (below_step zb hb); clear BK234; clear HB; have BK234 := n0_; have HB := n1_; clear n0_ n1_; (try clear hb); (try clear hb2); (try clear hk); (try clear hi)) | (go_at_call 124; (with_reducible refine (spec_tkOffset.calls a1 false _ A6.out).mono ?_); rintro e w' ⟨rfl, ⟨nd, rfl⟩⟩))
   go_ret
   exact ⟨zr, zb⟩
 ·
  replace c5 := Bool.eq_false_iff.mpr c5
  subst c5
  have H1 : (some false) = some r := by rw [if_neg (show ¬ (false = true) by decide)] at H; exact H
  clear H
  have H := H1
  clear H1
  obtain rfl := Option.some.inj H
  go_enter Try.func117, Try.ntmps117
  go_wp2_with (first | ((with_reducible refine gate_dst (N := 3) rfl ?_); (try (refine gate_guard (by rfl) ?_; dsimp only)); refine box_event ?hg (N := 3) ?hd (cs := #[.int .i64 a0_0, .int .i64 a0_1]) (t := 47) ?hr ?_; (case hd => rfl); (case hg => rfl); (case hr => first | (go_simp; done) | (go_simp; rfl)); intro gb234 hg w19 hbox hb; have n0_ := zm (below_step zb hb); have n1_ := zm (hbox); have n2_ := zm (zs hg zb : w.heap.size ≤ gb234); have n3_ := zm (zs hg zb : w.heap.size ≤ gb234); clear HB; have HB := n0_; have BK234 := n1_; have GW234 := n2_; have GE234 := n3_; clear n0_ n1_ n2_ n3_; clear hb hbox hg; obtain ⟨hcz20_0, hcz20_1, hfz20_0, hfz20_1⟩ := zc2 BK234.out) | ((with_reducible refine gate_callee (f := 123) rfl ?_); refine goesL_ (some 8) rfl rfl Try.func123 (by kernel_rfl) rfl #[.agg #[.int .i64 a0_0, .int .i64 a0_1]] rfl (by (try simp only [List.map_toArray, List.map_cons, List.map_nil]); first | done | rfl | (simp only [List.length_drop, List.length_take]; rfl)) ?_; (with_reducible refine (spec_tkGood.calls a0_0 a0_1 false _ A4.out).mono ?_); rintro e w21 ⟨rfl, hb⟩; refine ⟨_, rfl, ?_⟩; have n0_ := zm (blk_below (g := gb234) zk hb); have n1_ := zm (below_step zb hb); clear BK234; clear HB; have BK234 := n0_; have HB := n1_; clear n0_ n1_; (try clear hb); (try clear hb2); (try clear hk); (try clear hi)))
  go_ret
  exact ⟨zr, zb⟩

/-! ### spec_tkStep: function 95 -/
def spec_tkStep.f (a0_0 : Int) (a0_1 : Int) (a1 : Int) (a2 : Int) : Option (Int × Int) := if (wrap64 (a1 + a2)) > a0_0 then (some (wrap64 ((wrap64 (a1 + a2)) - a0_1), wrap64 (-a0_1))) else (if (wrap64 (a1 + a2)) < (wrap64 (-a0_0)) then (some (wrap64 ((wrap64 (a1 + a2)) + a0_1), a0_1)) else (some (wrap64 (a1 + a2), 0)))
theorem spec_tkStep.gq {P : Program} {i : Nat} {ops : Array Oper} {Q : Exit → Act → World → Prop} {a : Act} {W : World} (h : (Code.region i ops true).wp P Q a W) : (Code.region i ops true).wp P Q a W := h
set_option maxHeartbeats 8000000 in
set_option maxRecDepth 100000 in
theorem spec_tkStep.calls (a0_0 : Int) (a0_1 : Int) (a1 : Int) (a2 : Int) (r1 : Int) (r2 : Int) (w : World) (h : spec_tkStep.f a0_0 a0_1 a1 a2 = some (r1, r2)) :
  Calls Try.prog 95 #[.agg #[.int .i64 a0_0, .int .i64 a0_1], .int .i64 a1, .int .i64 a2] w fun e w' => e = .returned (.tuple #[.int .i64 r1, .int .i64 r2]) ∧ Below w.heap.size w w' := by
 have hu47 := Try.underlying47
 have HB := zm (Below.refl w.heap.size w)
 have H : (if (wrap64 (a1 + a2)) > a0_0 then (some (wrap64 ((wrap64 (a1 + a2)) - a0_1), wrap64 (-a0_1))) else (if (wrap64 (a1 + a2)) < (wrap64 (-a0_0)) then (some (wrap64 ((wrap64 (a1 + a2)) + a0_1), a0_1)) else (some (wrap64 (a1 + a2), 0)))) = some (r1, r2) := h
 clear h
 by_cases c4 : (wrap64 (a1 + a2)) > a0_0
 ·
  rw [if_pos c4] at H
  have c4b0 : decide (a0_0 < (wrap64 (a1 + a2))) = true := decide_eq_true c4
  clear c4
  simp only [Option.some.injEq, Prod.mk.injEq] at H
  obtain ⟨rfl, rfl⟩ := H
  go_enter Try.func95, Try.ntmps95
  go_wp2_with (first | ((with_reducible refine gate_dst (N := 3) rfl ?_); refine box_event ?hg (N := 3) ?hd (cs := #[.int .i64 a0_0, .int .i64 a0_1]) (t := 47) ?hr ?_; (case hd => rfl); (case hg => rfl); (case hr => first | (go_simp; done) | (go_simp; rfl)); intro gb238 hg w5 hbox hb; have n0_ := zm (below_step zb hb); have n1_ := zm (hbox); have n2_ := zm (zs hg zb : w.heap.size ≤ gb238); have n3_ := zm (zs hg zb : w.heap.size ≤ gb238); clear HB; have HB := n0_; have BK238 := n1_; have GW238 := n2_; have GE238 := n3_; clear n0_ n1_ n2_ n3_; clear hb hbox hg; obtain ⟨hcz6_0, hcz6_1, hfz6_0, hfz6_1⟩ := zc2 BK238.out) | ((with_reducible refine spec_tkStep.gq ?_); go_quiet (fail)))
  go_ret2
  exact ⟨zr, zb⟩
 ·
  rw [if_neg c4] at H
  have c4b0 : decide (a0_0 < (wrap64 (a1 + a2))) = false := decide_eq_false c4
  clear c4
  by_cases c7 : (wrap64 (a1 + a2)) < (wrap64 (-a0_0))
  ·
   rw [if_pos c7] at H
   have c7b0 : decide ((wrap64 (a1 + a2)) < (wrap64 (-a0_0))) = true := decide_eq_true c7
   clear c7
   simp only [Option.some.injEq, Prod.mk.injEq] at H
   obtain ⟨rfl, rfl⟩ := H
   go_enter Try.func95, Try.ntmps95
   go_wp2_with (first | ((with_reducible refine gate_dst (N := 3) rfl ?_); refine box_event ?hg (N := 3) ?hd (cs := #[.int .i64 a0_0, .int .i64 a0_1]) (t := 47) ?hr ?_; (case hd => rfl); (case hg => rfl); (case hr => first | (go_simp; done) | (go_simp; rfl)); intro gb238 hg w8 hbox hb; have n0_ := zm (below_step zb hb); have n1_ := zm (hbox); have n2_ := zm (zs hg zb : w.heap.size ≤ gb238); have n3_ := zm (zs hg zb : w.heap.size ≤ gb238); clear HB; have HB := n0_; have BK238 := n1_; have GW238 := n2_; have GE238 := n3_; clear n0_ n1_ n2_ n3_; clear hb hbox hg; obtain ⟨hcz9_0, hcz9_1, hfz9_0, hfz9_1⟩ := zc2 BK238.out) | ((with_reducible refine spec_tkStep.gq ?_); go_quiet (fail)))
   go_ret2
   exact ⟨zr, zb⟩
  ·
   rw [if_neg c7] at H
   have c7b0 : decide ((wrap64 (a1 + a2)) < (wrap64 (-a0_0))) = false := decide_eq_false c7
   clear c7
   simp only [Option.some.injEq, Prod.mk.injEq] at H
   obtain ⟨rfl, rfl⟩ := H
   go_enter Try.func95, Try.ntmps95
   go_wp2_with (first | ((with_reducible refine gate_dst (N := 3) rfl ?_); refine box_event ?hg (N := 3) ?hd (cs := #[.int .i64 a0_0, .int .i64 a0_1]) (t := 47) ?hr ?_; (case hd => rfl); (case hg => rfl); (case hr => first | (go_simp; done) | (go_simp; rfl)); intro gb238 hg w10 hbox hb; have n0_ := zm (below_step zb hb); have n1_ := zm (hbox); have n2_ := zm (zs hg zb : w.heap.size ≤ gb238); have n3_ := zm (zs hg zb : w.heap.size ≤ gb238); clear HB; have HB := n0_; have BK238 := n1_; have GW238 := n2_; have GE238 := n3_; clear n0_ n1_ n2_ n3_; clear hb hbox hg; obtain ⟨hcz11_0, hcz11_1, hfz11_0, hfz11_1⟩ := zc2 BK238.out) | ((with_reducible refine spec_tkStep.gq ?_); go_quiet (fail)))
   go_ret2
   exact ⟨zr, zb⟩

/-! ### spec_tkRun: function 118 -/
mutual
def spec_tkRun.l0 : Nat → Int → List Int → List Int → List Int → Int → Int → Int → Int → Option (List Int × List Int × Bool)
  | 0, _, _, _, _, _, _, _, _ => none
  | k + 1, x1, x9, x10, x16, x17, x18, x240000, x240001 => if x18 < x17 then (if 0 ≤ x18 then (if x18 < (x16.length : Int) then ((spec_tkStep.f x240000 x240001 x1 (rd x16 x18)).bind fun bt244 => (if bt244.2 < 0 then (if 0 < (x10.length : Int) then (spec_tkRun.j1 k x9 (x10.set (0 : Int).toNat (wrap64 ((rd x10 0) + 1))) bt244.1 bt244.2 x16 x17 x18 x240000 x240001) else (none)) else (spec_tkRun.j1 k x9 x10 bt244.1 bt244.2 x16 x17 x18 x240000 x240001))) else (none)) else (none)) else (some (x9, x10, true))
def spec_tkRun.j1 : Nat → List Int → List Int → Int → Int → List Int → Int → Int → Int → Int → Option (List Int × List Int × Bool)
  | 0, _, _, _, _, _, _, _, _, _ => none
  | k + 1, x9, x10, x13, x14, x16, x17, x18, x240000, x240001 => if x14 > 0 then (if 1 < (x10.length : Int) then ((spec_tkOffset.f x13).bind fun t250 => (if t250 = true then (if x9.length < 17592186044416 then (spec_tkRun.l0 k x13 (x9 ++ [x13]) (x10.set (1 : Int).toNat (wrap64 ((rd x10 1) + 1))) x16 x17 (wrap64 (x18 + 1)) x240000 x240001) else (none)) else (some (([] : List Int), ([] : List Int), false)))) else (none)) else ((spec_tkOffset.f x13).bind fun t254 => (if t254 = true then (if x9.length < 17592186044416 then (spec_tkRun.l0 k x13 (x9 ++ [x13]) x10 x16 x17 (wrap64 (x18 + 1)) x240000 x240001) else (none)) else (some (([] : List Int), ([] : List Int), false))))
end
def spec_tkRun.f (k : Nat) (a0_0 : Int) (a0_1 : Int) (a1 : Int) (l2 : List Int) : Option (List Int × List Int × Bool) := spec_tkRun.l0 k a1 ([] : List Int) (([0, 0] : List Int)) l2 (l2.length : Int) 0 a0_0 a0_1
theorem spec_tkRun.mono_l : ∀ k, (∀ y0 y1 y2 y3 y4 y5 y6 y7, LeO (spec_tkRun.l0 k y0 y1 y2 y3 y4 y5 y6 y7) (spec_tkRun.l0 (k + 1) y0 y1 y2 y3 y4 y5 y6 y7)) ∧ (∀ y0 y1 y2 y3 y4 y5 y6 y7 y8, LeO (spec_tkRun.j1 k y0 y1 y2 y3 y4 y5 y6 y7 y8) (spec_tkRun.j1 (k + 1) y0 y1 y2 y3 y4 y5 y6 y7 y8))
  | 0 => ⟨fun _ _ _ _ _ _ _ _ r h => by simp [spec_tkRun.l0] at h, fun _ _ _ _ _ _ _ _ _ r h => by simp [spec_tkRun.j1] at h⟩
  | k + 1 => by
    obtain ⟨ih0, ih1⟩ := spec_tkRun.mono_l k
    refine ⟨?_, ?_⟩
    · intro y0 y1 y2 y3 y4 y5 y6 y7
      unfold spec_tkRun.l0
      repeat' first
      | (with_reducible exact ih0 _ _ _ _ _ _ _ _)
      | (with_reducible exact ih1 _ _ _ _ _ _ _ _ _)
      | (with_reducible exact LeO.refl _)
      | (with_reducible exact LeO.none _)
      | (with_reducible refine LeO.ite ?_ ?_)
      | (with_reducible refine LeO.bind ?_ (fun _ => ?_))
      | exact ih0 _ _ _ _ _ _ _ _
      | exact ih1 _ _ _ _ _ _ _ _ _
      | exact LeO.none _
      | refine LeO.ite ?_ ?_
      | refine LeO.bind ?_ (fun _ => ?_)
    · intro y0 y1 y2 y3 y4 y5 y6 y7 y8
      unfold spec_tkRun.j1
      repeat' first
      | (with_reducible exact ih0 _ _ _ _ _ _ _ _)
      | (with_reducible exact ih1 _ _ _ _ _ _ _ _ _)
      | (with_reducible exact LeO.refl _)
      | (with_reducible exact LeO.none _)
      | (with_reducible refine LeO.ite ?_ ?_)
      | (with_reducible refine LeO.bind ?_ (fun _ => ?_))
      | exact ih0 _ _ _ _ _ _ _ _
      | exact ih1 _ _ _ _ _ _ _ _ _
      | exact LeO.none _
      | refine LeO.ite ?_ ?_
      | refine LeO.bind ?_ (fun _ => ?_)
theorem spec_tkRun.mono : ∀ a0 a1 a2 a3 k, LeO (spec_tkRun.f k a0 a1 a2 a3) (spec_tkRun.f (k + 1) a0 a1 a2 a3) := by
  intro a0 a1 a2 a3 k
  obtain ⟨ih0, ih1⟩ := spec_tkRun.mono_l k
  unfold spec_tkRun.f
  repeat' first
      | (with_reducible exact ih0 _ _ _ _ _ _ _ _)
      | (with_reducible exact ih1 _ _ _ _ _ _ _ _ _)
      | (with_reducible exact LeO.refl _)
      | (with_reducible exact LeO.none _)
      | (with_reducible refine LeO.ite ?_ ?_)
      | (with_reducible refine LeO.bind ?_ (fun _ => ?_))
      | exact ih0 _ _ _ _ _ _ _ _
      | exact ih1 _ _ _ _ _ _ _ _ _
      | exact LeO.none _
      | refine LeO.ite ?_ ?_
      | refine LeO.bind ?_ (fun _ => ?_)
set_option maxHeartbeats 8000000 in
set_option maxRecDepth 100000 in
theorem spec_tkRun.calls (k : Nat) (a0_0 : Int) (a0_1 : Int) (a1 : Int) (A2 : Option Addr) (c2 : Nat) (l2 : List Int) (r1 : List Int) (r2 : List Int) (r3 : Bool) (w : World) (hr2 : Kd.C (Kd.int .i64) w A2 l2.length l2) (hc2 : l2.length ≤ c2) (h : spec_tkRun.f k a0_0 a0_1 a1 l2 = some (r1, r2, r3)) :
  Calls Try.prog 118 #[.agg #[.int .i64 a0_0, .int .i64 a0_1], .int .i64 a1, .slice A2 l2.length c2] w fun e w' => ∃ v0_ v1_ : Value, e = .returned (.tuple #[v0_, v1_, .bool r3]) ∧ Kd.R (Kd.int .i64) 3 w' w.heap.size (fun k_ => some k_ ≠ (v1_ : Value).ownBlock) v0_ r1 ∧ Kd.R (Kd.int .i64) 3 w' w.heap.size (fun k_ => some k_ ≠ (v0_ : Value).ownBlock) v1_ r2 ∧ Below w.heap.size w w' := by
 have hu47 := Try.underlying47
 have HR2 := zm hr2
 have HC2 := zm hc2
 clear hr2 hc2
 have HB := zm (Below.refl w.heap.size w)
 have H : (spec_tkRun.l0 k a1 ([] : List Int) (([0, 0] : List Int)) l2 (l2.length : Int) 0 a0_0 a0_1) = some (r1, r2, r3) := h
 clear h
 obtain ⟨y240, hy240⟩ : ∃ y_ : List Int, y_ = (([0, 0] : List Int)) := ⟨_, rfl⟩
 replace H : (spec_tkRun.l0 k a1 ([] : List Int) y240 l2 (l2.length : Int) 0 a0_0 a0_1) = some (r1, r2, r3) := by first | (rw [hy240]; with_reducible exact H) | (have H2_ := (Option.bind_some _ _).symm.trans H; rw [hy240]; with_reducible exact H2_) | (have H2_ := (Option.bind_some _ _).symm.trans H; with_reducible exact H2_) | with_reducible exact H | (rw [hy240]; exact H) | exact H
 have Ny240 := zm hy240
 clear hy240
 have H' := zm H
 clear H
 go_enter Try.func118, Try.ntmps118
 go_wp2_with (first | ((with_reducible refine gate_dst (N := 3) rfl ?_); refine box_event ?hg (N := 3) ?hd (cs := #[.int .i64 a0_0, .int .i64 a0_1]) (t := 47) ?hr ?_; (case hd => rfl); (case hg => rfl); (case hr => first | (go_simp; done) | (go_simp; rfl)); intro gb239 hg w4 hbox hb; have n0_ := zm (below_step zb hb); have n1_ := zm (hbox); have n2_ := zm (zs hg zb : w.heap.size ≤ gb239); have n3_ := zm (zs hg zb : w.heap.size ≤ gb239); clear HB; have HB := n0_; have BK239 := n1_; have GW239 := n2_; have GE239 := n3_; clear n0_ n1_ n2_ n3_; clear hb hbox hg) | ((with_reducible refine gate_dst (N := 15) rfl ?_); refine Kd.R_lit (Kd.int .i64) _ 3 ?hg (N := 15) ?hd (xs := ([0, 0] : List Int)) (inner := [.int .i64 0, .int .i64 0]) (ok := fun _ => True) (okp := fun _ => True) ?hr ?hp (fun _ hk => hk) trivial (Below.refl _ _) (Nat.le_refl _) (by simp) ?_; (case hd => rfl); (case hg => rfl); (case hr => first | (go_simp; done) | (go_simp; rfl)); (case hp => exact (Reps.one (show Kd.M (Kd.int .i64) _ _ _ 0 [.int .i64 0] from rfl) (Reps.one (show Kd.M (Kd.int .i64) _ _ _ 0 [.int .i64 0] from rfl) (Reps.none _ _)))); intro v241 w5 ho6 hb hg_ hnew_; clear hg_ hnew_; (first | rw [← Ny240.out] at ho6 | (simp only [Int.reduceToNat] at ho6; rw [← Ny240.out] at ho6)); have n0_ := zm (Kd.R_lower ho6 (below_size zb)); have n1_ := zm (blk_below (g := gb239) zk hb); have n2_ := zm (below_step zb hb); clear BK239; clear HB; have HO242 := n0_; have BK239 := n1_; have HB := n2_; clear n0_ n1_ n2_; clear hb ho6))
 go_loopg [1, 9, 18] k (fun kq v1 v9 v18 w' => ∃ (x1_1 : Int) (x9_1 : List Int) (x10_1 : List Int) (x18_1 : Int), v1 = .int .i64 x1_1 ∧ v18 = .int .i64 x18_1 ∧ Aside0 (spec_tkRun.l0 kq x1_1 x9_1 x10_1 l2 (l2.length : Int) x18_1 a0_0 a0_1 = some (r1, r2, r3)) ∧ Aside0 (kq ≤ k) ∧ Aside0 (Kd.R (Kd.int .i64) 3 w' w.heap.size (fun k_ => some k_ ≠ (v241 : Value).ownBlock) v9 x9_1) ∧ Aside0 (Kd.R (Kd.int .i64) 3 w' w.heap.size (fun k_ => some k_ ≠ (v9 : Value).ownBlock) v241 x10_1) ∧ Aside0 (w'.heap[gb239]? = some (.cells #[.int .i64 a0_0, .int .i64 a0_1] 47 (0, 0))) ∧ Aside0 (Below w.heap.size w w'))
 case atStart => exact ⟨(a1), (([] : List Int)), (y240), (0), (by first | rfl | (simp; done) | (simp [*]; done)), (by first | rfl | (simp; done) | (simp [*]; done)), H', ⟨Nat.le_refl _⟩, ⟨by first | exact Kd.R_nil _ _ _ _ _ | exact Kd.N_nil _ _ _ _ _ | exact Kd.V_nil _ _ _ _ _ | exact Kd.Q_nil _ _ _ _ _ | exact Kd.S_nil _ _ _ _ _⟩, ⟨by (with_reducible repeat (first | apply Kd.R_alloc | apply Kd.R_drewN | apply Kd.R_drew)); exact Kd.R_mono HO242.out (fun _ hk => (by simp [Value.ownBlock]))⟩, ⟨zk⟩, ⟨zb⟩⟩
 case round =>
  clear H'
  try clear c1
  try clear c2
  try clear p2
  obtain ⟨x1_1, x9_1, x10_1, x18_1, rfl, rfl, HA, HK1, HO_9, HO_10, BK239, HB⟩ := hrel
  cases gk with
  | zero => exact absurd HA.out (by simp [spec_tkRun.l0])
  | succ k1 =>
   have H := HA.out
   clear HA
   simp only [spec_tkRun.l0] at H
   by_cases c7 : x18_1 < (l2.length : Int)
   ·
    rw [if_pos c7] at H
    have c7b0 : decide (x18_1 < (l2.length : Int)) = true := decide_eq_true c7
    clear c7
    by_cases c8 : 0 ≤ x18_1
    ·
     rw [if_pos c8] at H
     have c8b0 : decide (0 ≤ x18_1) = true := decide_eq_true c8
     clear c8
     by_cases c9 : x18_1 < (l2.length : Int)
     ·
      rw [if_pos c9] at H
      have c9b0 : decide (x18_1 < (l2.length : Int)) = true := decide_eq_true c9
      clear c9
      replace H := Option.bind_eq_some_iff.mp H
      obtain ⟨⟨t244, t245⟩, A100, H⟩ := H
      replace H : (if t245 < 0 then (if 0 < (x10_1.length : Int) then (spec_tkRun.j1 k1 x9_1 (x10_1.set (0 : Int).toNat (wrap64 ((rd x10_1 0) + 1))) t244 t245 l2 (l2.length : Int) x18_1 a0_0 a0_1) else (none)) else (spec_tkRun.j1 k1 x9_1 x10_1 t244 t245 l2 (l2.length : Int) x18_1 a0_0 a0_1)) = some (r1, r2, r3) := H
      have A10 := zm A100
      clear A100
      have HC11 := zm H
      clear H
      have p243 : 0 ≤ (x18_1 : Int) := zd
      have q243 : x18_1 < (l2.length : Int) := zd
      obtain ⟨ad243, e243, hx243_0⟩ := Kd.at_int HR2.out x18_1 p243 q243
      cases e243
      replace hx243_0 := zx HB.out hx243_0
      replace p243 := eq_true p243
      replace q243 := eq_true q243
      obtain ⟨hcz12_0, hcz12_1, hfz12_0, hfz12_1⟩ := zc2 BK239.out
      go_upto_if 30 with (first | ((with_reducible refine gate_callee (f := 95) rfl ?_); refine goesL_ (some 26) rfl rfl Try.func95 (by kernel_rfl) rfl #[.agg #[.int .i64 a0_0, .int .i64 a0_1], .int .i64 x1_1, .int .i64 (rd l2 x18_1)] rfl (by (try simp only [List.map_toArray, List.map_cons, List.map_nil]); first | done | rfl | (simp only [List.length_drop, List.length_take]; rfl)) ?_; (with_reducible refine (spec_tkStep.calls a0_0 a0_1 x1_1 (rd l2 x18_1) t244 t245 _ A10.out).mono ?_); rintro e w13 ⟨rfl, hb⟩; refine ⟨_, rfl, ?_⟩; have n0_ := zm (Kd.R_below (by (with_reducible repeat (first | apply Kd.R_alloc | apply Kd.R_drewN | apply Kd.R_drew)); exact HO_9.out) hb); have n1_ := zm (Kd.R_below (by (with_reducible repeat (first | apply Kd.R_alloc | apply Kd.R_drewN | apply Kd.R_drew)); exact HO_10.out) hb); have n2_ := zm (blk_below (g := gb239) zk hb); have n3_ := zm (below_step zb hb); clear HO_9; clear HO_10; clear BK239; clear HB; have HO_9 := n0_; have HO_10 := n1_; have BK239 := n2_; have HB := n3_; clear n0_ n1_ n2_ n3_; (try clear hb); (try clear hb2); (try clear hk); (try clear hi)))
      (try simp only [Act.put, List.setIfInBounds_toArray, List.set_cons_zero, List.set_cons_succ])
      go_cut [] (fun wc => ∃ (kq : Nat) (x10_10 : List Int), Aside0 (spec_tkRun.j1 kq x9_1 x10_10 t244 t245 l2 (l2.length : Int) x18_1 a0_0 a0_1 = some (r1, r2, r3)) ∧ Aside0 (kq ≤ k1) ∧ Aside0 (Kd.R (Kd.int .i64) 3 wc w.heap.size (fun k_ => some k_ ≠ (v241 : Value).ownBlock) u9 x9_1) ∧ Aside0 (Kd.R (Kd.int .i64) 3 wc w.heap.size (fun k_ => some k_ ≠ (u9 : Value).ownBlock) v241 x10_10) ∧ Aside0 (wc.heap[gb239]? = some (.cells #[.int .i64 a0_0, .int .i64 a0_1] 47 (0, 0))) ∧ Aside0 (Below w.heap.size w wc))
      case first =>
       have H := HC11.out
       clear HC11
       by_cases c14 : t245 < 0
       ·
        rw [if_pos c14] at H
        have c14b0 : decide (t245 < 0) = true := decide_eq_true c14
        clear c14
        (first | rw [c14b0] | (simp only [i64_w, i32_w]; rw [c14b0]) | skip)
        by_cases c15 : 0 < (x10_1.length : Int)
        ·
         rw [if_pos c15] at H
         have c15b0 : decide (0 < (x10_1.length : Int)) = true := decide_eq_true c15
         have c15b1 : decide (0 < x10_1.length) = true := decide_eq_true (by omega)
         clear c15
         obtain ⟨y247, hy247⟩ : ∃ y_ : List Int, y_ = (x10_1.set (0 : Int).toNat (wrap64 ((rd x10_1 0) + 1))) := ⟨_, rfl⟩
         replace H : (spec_tkRun.j1 k1 x9_1 y247 t244 t245 l2 (l2.length : Int) x18_1 a0_0 a0_1) = some (r1, r2, r3) := by first | (rw [hy247]; with_reducible exact H) | (have H2_ := (Option.bind_some _ _).symm.trans H; rw [hy247]; with_reducible exact H2_) | (have H2_ := (Option.bind_some _ _).symm.trans H; with_reducible exact H2_) | with_reducible exact H | (rw [hy247]; exact H) | exact H
         have Ny247 := zm hy247
         clear hy247
         have H' := zm H
         clear H
         obtain ⟨Ao17, co17, eo17⟩ := Kd.R_slice HO_10.out
         subst eo17
         have p246 : 0 ≤ (0 : Int) := (by omega)
         have q246 : 0 < (x10_1.length : Int) := zd
         obtain ⟨ad246, e246, hx246_0⟩ := Kd.at_int (Kd.R_reads' HO_10.out).2.2 0 p246 q246
         cases e246
         have qi246 : (0 < x10_1.length) = True := eq_true (by omega)
         (try rw [show ((0 : Int)).toNat = 0 from rfl] at hx246_0)
         (try rw [Addr.add_zero'] at hx246_0)
         replace p246 := eq_true p246
         replace q246 := eq_true q246
         have p16 : 0 ≤ (0 : Int) := (by omega)
         have q16 : (0 : Int) < ((x10_1.length : Int) : Int) := zd
         have qi16 : (0 < x10_1.length) = True := eq_true (by omega)
         obtain ⟨go16, co16, eo16, gb16, gl16, cl16, HG16⟩ := Kd.R_form HO_10.out (by omega)
         (first | cases eo16 | (injection eo16 with ea_ en_ ec_; (first | subst ea_ | (injection ea_ with ea_; subst ea_)); subst ec_; clear en_))
         have GB16 := zm gb16
         have GG16 := zm HG16
         clear gb16 gl16 HG16
         (first | simp only [add_plain] at hx246_0 | skip)
         obtain ⟨hx16_0, hf16_0⟩ := Kd.R_celln 0 HO_10.out (0 : Int) p16 q16
         (try rw [show ((0 : Int)).toNat = 0 from rfl] at hx16_0)
         (try simp only [Nat.reduceMul, Nat.zero_mul, Nat.zero_add, Nat.reduceAdd] at hx16_0)
         (try rw [show ((0 : Int)).toNat = 0 from rfl] at hf16_0)
         (try simp only [Nat.reduceMul, Nat.zero_mul, Nat.zero_add, Nat.reduceAdd] at hf16_0)
         replace p16 := eq_true p16
         replace q16 := eq_true q16
         have HP18 := Kd.R_putg HO_10.out (0 : Int) (wrap64 ((rd x10_1 0) + 1))
         go_wp2_with (first | ((with_reducible refine gate_store (t := 3) (p := 35) rfl ?_); refine store_event (t := 3) (p := 35) (v := ?vo_w19) (w1 := (w13.setCell ⟨go16, (0 : Int).toNat, none⟩ (.int .i64 (wrap64 ((rd x10_1 0) + 1))))) ?hg ?ho ?hn ?hr ?_; (case ho => rfl); (case hg => rfl); (case hn => rfl); (case hr => first | (go_simp; done) | (go_simp; rfl)); intro w19 hw; have hg : w13.grownBy w19 (some go16) := (by rw [hw]; exact HP18.2); have hp_ : Kd.R (Kd.int .i64) 3 w19 w.heap.size (fun k_ => some k_ ≠ (u9 : Value).ownBlock) (.slice (some ⟨go16, 0, none⟩) x10_1.length co17) y247 := (by rw [hw, Ny247.out]; exact HP18.1); clear HP18; have n0_ := zm (Kd.R_after (v := (.slice (some ⟨go16, 0, none⟩) x10_1.length co17)) (v1 := (.slice (some ⟨go16, 0, none⟩) x10_1.length co17)) (ok := (fun _ => True)) (by (with_reducible repeat (first | apply Kd.R_alloc | apply Kd.R_drewN | apply Kd.R_drew)); exact Kd.R_mono HO_9.out (fun _ hk => ⟨trivial, hk⟩)) hg (.inl rfl)); have n1_ := zm (hp_); have n2_ := zm (blk_grown (g := gb239) (o := .cells #[.int .i64 a0_0, .int .i64 a0_1] 47 (0, 0)) zk hg (Kd.R_ne HO_10.out BK239.out (by decide))); have n3_ := zm ((by rw [hw]; exact below_set (HB.out) GB16.out : Below w.heap.size w w19)); clear HO_9; clear HO_10; clear BK239; clear HB; have HO_9 := n0_; have HO_10 := n1_; have BK239 := n2_; have HB := n3_; clear n0_ n1_ n2_ n3_; clear hg hw hp_))
         go_meet
         case rel => exact ⟨_, (y247), H', ⟨by have := HK1.out; first | omega | exact Nat.le_refl _⟩, ⟨by (with_reducible repeat (first | apply Kd.R_alloc | apply Kd.R_drewN | apply Kd.R_drew)); exact zM HO_9.out⟩, ⟨by (with_reducible repeat (first | apply Kd.R_alloc | apply Kd.R_drewN | apply Kd.R_drew)); exact HO_10.out⟩, ⟨zk⟩, ⟨zb⟩⟩
        ·
         rw [if_neg c15] at H
         exact absurd H (by simp)
       ·
        rw [if_neg c14] at H
        have c14b0 : decide (t245 < 0) = false := decide_eq_false c14
        clear c14
        (first | rw [c14b0] | (simp only [i64_w, i32_w]; rw [c14b0]) | skip)
        have H' := zm H
        clear H
        go_wp2
        go_meet
        case rel => exact ⟨_, (x10_1), H', ⟨by have := HK1.out; first | omega | exact Nat.le_refl _⟩, ⟨by (with_reducible repeat (first | apply Kd.R_alloc | apply Kd.R_drewN | apply Kd.R_drew)); exact HO_9.out⟩, ⟨by (with_reducible repeat (first | apply Kd.R_alloc | apply Kd.R_drewN | apply Kd.R_drew)); exact HO_10.out⟩, ⟨zk⟩, ⟨zb⟩⟩
      case rest =>
       clear HC11
       try clear c1
       try clear p1
       try clear q1
       try clear hx1
       try clear qi1
       try clear c2
       try clear p2
       try clear q2
       try clear hx2
       try clear qi2
       try clear p6
       try clear c7
       try clear c7b0
       try clear c8
       try clear c8b0
       try clear c9
       try clear c9b0
       try clear c11
       try clear c14
       try clear c14b0
       try clear c15
       try clear c15b0
       try clear c15b1
       try clear p16
       try clear q16
       try clear hx16
       try clear qi16
       try clear hf16
       try clear hcz12_0
       try clear hcz12_1
       try clear hfz12_0
       try clear hfz12_1
       try clear hx16_0
       try clear hx243_0
       try clear hx246_0
       try clear p16
       try clear p2
       try clear p243
       try clear p246
       try clear q16
       try clear q243
       try clear q246
       obtain ⟨kq, x10_10, HA, HJ10, HO_9, HO_10, BK239, HB⟩ := hcut
       cases kq with
       | zero => exact absurd HA.out (by simp [spec_tkRun.j1])
       | succ kj10 =>
        have H := HA.out
        clear HA
        simp only [spec_tkRun.j1] at H
        by_cases c20 : t245 > 0
        ·
         rw [if_pos c20] at H
         have c20b0 : decide (0 < t245) = true := decide_eq_true c20
         clear c20
         by_cases c21 : 1 < (x10_10.length : Int)
         ·
          rw [if_pos c21] at H
          have c21b0 : decide (1 < (x10_10.length : Int)) = true := decide_eq_true c21
          have c21b1 : decide (1 < x10_10.length) = true := decide_eq_true (by omega)
          clear c21
          obtain ⟨y249, hy249⟩ : ∃ y_ : List Int, y_ = (x10_10.set (1 : Int).toNat (wrap64 ((rd x10_10 1) + 1))) := ⟨_, rfl⟩
          replace H : ((spec_tkOffset.f t244).bind fun t250 => (if t250 = true then (if x9_1.length < 17592186044416 then (spec_tkRun.l0 kj10 t244 (x9_1 ++ [t244]) y249 l2 (l2.length : Int) (wrap64 (x18_1 + 1)) a0_0 a0_1) else (none)) else (some (([] : List Int), ([] : List Int), false)))) = some (r1, r2, r3) := by first | (rw [hy249]; with_reducible exact H) | (have H2_ := (Option.bind_some _ _).symm.trans H; rw [hy249]; with_reducible exact H2_) | (have H2_ := (Option.bind_some _ _).symm.trans H; with_reducible exact H2_) | with_reducible exact H | (rw [hy249]; exact H) | exact H
          have Ny249 := zm hy249
          clear hy249
          replace H := Option.bind_eq_some_iff.mp H
          obtain ⟨t250, A230, H⟩ := H
          replace H : (if t250 = true then (if x9_1.length < 17592186044416 then (spec_tkRun.l0 kj10 t244 (x9_1 ++ [t244]) y249 l2 (l2.length : Int) (wrap64 (x18_1 + 1)) a0_0 a0_1) else (none)) else (some (([] : List Int), ([] : List Int), false))) = some (r1, r2, r3) := H
          have A23 := zm A230
          clear A230
          by_cases c24 : t250 = true
          ·
           subst c24
           have H1 : (if x9_1.length < 17592186044416 then (spec_tkRun.l0 kj10 t244 (x9_1 ++ [t244]) y249 l2 (l2.length : Int) (wrap64 (x18_1 + 1)) a0_0 a0_1) else (none)) = some (r1, r2, r3) := by rw [if_pos rfl] at H; exact H
           clear H
           have H := H1
           clear H1
           by_cases c25 : x9_1.length < 17592186044416
           ·
            rw [if_pos c25] at H
            have LMc25 := zm c25
            clear c25
            obtain ⟨y251, hy251⟩ : ∃ y_ : List Int, y_ = (x9_1 ++ [t244]) := ⟨_, rfl⟩
            replace H : (spec_tkRun.l0 kj10 t244 y251 y249 l2 (l2.length : Int) (wrap64 (x18_1 + 1)) a0_0 a0_1) = some (r1, r2, r3) := by first | (rw [hy251]; with_reducible exact H) | (have H2_ := (Option.bind_some _ _).symm.trans H; rw [hy251]; with_reducible exact H2_) | (have H2_ := (Option.bind_some _ _).symm.trans H; with_reducible exact H2_) | with_reducible exact H | (rw [hy251]; exact H) | exact H
            have Ny251 := zm hy251
            clear hy251
            have H' := zm H
            clear H
            obtain ⟨Ao26, co26, eo26⟩ := Kd.R_slice HO_10.out
            subst eo26
            have p248 : 0 ≤ (1 : Int) := (by omega)
            have q248 : 1 < (x10_10.length : Int) := zd
            obtain ⟨ad248, e248, hx248_0⟩ := Kd.at_int (Kd.R_reads' HO_10.out).2.2 1 p248 q248
            cases e248
            (try simp only [show (1 : Int).toNat = 1 from rfl, Nat.reduceMul, Nat.reduceEqDiff, Go.Addr.add, ↓reduceIte] at hx248_0)
            have qi248 : (1 < x10_10.length) = True := eq_true (by omega)
            (try rw [show ((1 : Int)).toNat = 1 from rfl] at hx248_0)
            replace p248 := eq_true p248
            replace q248 := eq_true q248
            have p22 : 0 ≤ (1 : Int) := (by omega)
            have q22 : (1 : Int) < ((x10_10.length : Int) : Int) := zd
            have qi22 : (1 < x10_10.length) = True := eq_true (by omega)
            obtain ⟨go22, co22, eo22, gb22, gl22, cl22, HG22⟩ := Kd.R_form HO_10.out (by omega)
            (first | cases eo22 | (injection eo22 with ea_ en_ ec_; (first | subst ea_ | (injection ea_ with ea_; subst ea_)); subst ec_; clear en_))
            have GB22 := zm gb22
            have GG22 := zm HG22
            clear gb22 gl22 HG22
            (first | simp only [add_plain] at hx248_0 | skip)
            obtain ⟨hx22_0, hf22_0⟩ := Kd.R_celln 0 HO_10.out (1 : Int) p22 q22
            (try rw [show ((1 : Int)).toNat = 1 from rfl] at hx22_0)
            (try simp only [Nat.reduceMul, Nat.zero_mul, Nat.zero_add, Nat.reduceAdd] at hx22_0)
            (try rw [show ((1 : Int)).toNat = 1 from rfl] at hf22_0)
            (try simp only [Nat.reduceMul, Nat.zero_mul, Nat.zero_add, Nat.reduceAdd] at hf22_0)
            replace p22 := eq_true p22
            replace q22 := eq_true q22
            have HP27 := Kd.R_putg HO_10.out (1 : Int) (wrap64 ((rd x10_10 1) + 1))
            go_wp2_with (first | ((with_reducible refine gate_store (t := 3) (p := 42) rfl ?_); refine store_event (t := 3) (p := 42) (v := ?vo_w28) (w1 := (wc.setCell ⟨go22, (1 : Int).toNat, none⟩ (.int .i64 (wrap64 ((rd x10_10 1) + 1))))) ?hg ?ho ?hn ?hr ?_; (case ho => rfl); (case hg => rfl); (case hn => rfl); (case hr => first | (go_simp; done) | (go_simp; rfl)); intro w28 hw; have hg : wc.grownBy w28 (some go22) := (by rw [hw]; exact HP27.2); have hp_ : Kd.R (Kd.int .i64) 3 w28 w.heap.size (fun k_ => some k_ ≠ (u9 : Value).ownBlock) (.slice (some ⟨go22, 0, none⟩) x10_10.length co26) y249 := (by rw [hw, Ny249.out]; exact HP27.1); clear HP27; have n0_ := zm (Kd.R_after (v := (.slice (some ⟨go22, 0, none⟩) x10_10.length co26)) (v1 := (.slice (some ⟨go22, 0, none⟩) x10_10.length co26)) (ok := (fun _ => True)) (by (with_reducible repeat (first | apply Kd.R_alloc | apply Kd.R_drewN | apply Kd.R_drew)); exact Kd.R_mono HO_9.out (fun _ hk => ⟨trivial, hk⟩)) hg (.inl rfl)); have n1_ := zm (hp_); have n2_ := zm (blk_grown (g := gb239) (o := .cells #[.int .i64 a0_0, .int .i64 a0_1] 47 (0, 0)) zk hg (Kd.R_ne HO_10.out BK239.out (by decide))); have n3_ := zm ((by rw [hw]; exact below_set (HB.out) GB22.out : Below w.heap.size w w28)); clear HO_9; clear HO_10; clear BK239; clear HB; have HO_9 := n0_; have HO_10 := n1_; have BK239 := n2_; have HB := n3_; clear n0_ n1_ n2_ n3_; clear hg hw hp_) | ((with_reducible refine gate_callee (f := 124) rfl ?_); refine goesL_ (some 44) rfl rfl Try.func124 (by kernel_rfl) rfl #[.int .i64 t244] rfl (by (try simp only [List.map_toArray, List.map_cons, List.map_nil]); first | done | rfl | (simp only [List.length_drop, List.length_take]; rfl)) ?_; (with_reducible refine (spec_tkOffset.calls t244 true _ A23.out).mono ?_); rintro e w' ⟨rfl, ⟨nd, rfl⟩⟩; refine ⟨_, rfl, ?_⟩) | ((with_reducible refine gate_builtin (b := .append) (xs := #[.tmp 46, .tmp 48]) rfl ?_); at_builtin; refine Kd.R_append (Kd.int .i64) (w0 := w) w.heap.size rfl (.tmp 46) (.tmp 48) 23 3 (.int .i64 0) 8 rfl Try.underlying23 info3 rfl (by decide) (by omega) u9 x9_1 t244 [.int .i64 t244] (fun k_ => some k_ ≠ (.slice (some ⟨go22, 0, none⟩) x10_10.length co26 : Value).ownBlock) (fun _ => False) rfl rfl ?aP (fun _ hk => hk.elim) ?aF ?aO ?aB ?aS ?aL ?_; (case aP => exact rfl); (case aB => exact zb); (case aF => exact (fun k_ hk => Kd.fresh' (Kd.R_lt (by (with_reducible repeat (first | apply Kd.R_alloc | apply Kd.R_drewN | apply Kd.R_drew)); exact HO_10.out)) k_ hk)); (case aO => exact (by (with_reducible repeat (first | apply Kd.R_alloc | apply Kd.R_drewN | apply Kd.R_drew)); exact zM HO_9.out)); (case aS => exact (below_size zb)); (case aL => have := LMc25.out; omega); intro v252 w29 ho hb hg hat; rw [← Ny251.out] at ho; have n0_ := zm (Kd.R_after (ok := (fun _ => True)) (by (with_reducible repeat (first | apply Kd.R_alloc | apply Kd.R_drewN | apply Kd.R_drew)); exact Kd.R_mono HO_10.out (fun _ hk => ⟨trivial, hk⟩)) hg hat); have n1_ := zm (blk_grown (g := gb239) (o := .cells #[.int .i64 a0_0, .int .i64 a0_1] 47 (0, 0)) zk hg (Kd.R_ne HO_9.out BK239.out (by decide))); have n2_ := zm (hb); have n3_ := zm (ho); clear HO_10; clear BK239; clear HB; clear HO_9; have HO_10 := n0_; have BK239 := n1_; have HB := n2_; have HO253 := n3_; clear n0_ n1_ n2_ n3_; clear ho hb hg hat))
            go_roundg kj10
            case measure => have := HK1.out; have := HJ10.out; omega
            case rel => exact ⟨(t244), (y251), (y249), (wrap64 (x18_1 + 1)), (by first | rfl | (simp; done) | (simp [*]; done)), (by first | rfl | (simp; done) | (simp [*]; done)), H', ⟨by have := HK1.out; have := HJ10.out; omega⟩, ⟨by (with_reducible repeat (first | apply Kd.R_alloc | apply Kd.R_drewN | apply Kd.R_drew)); exact HO253.out⟩, ⟨by (with_reducible repeat (first | apply Kd.R_alloc | apply Kd.R_drewN | apply Kd.R_drew)); exact zM HO_10.out⟩, ⟨zk⟩, ⟨zb⟩⟩
           ·
            rw [if_neg c25] at H
            exact absurd H (by simp)
          ·
           replace c24 := Bool.eq_false_iff.mpr c24
           subst c24
           have H1 : (some (([] : List Int), ([] : List Int), false)) = some (r1, r2, r3) := by rw [if_neg (show ¬ (false = true) by decide)] at H; exact H
           clear H
           have H := H1
           clear H1
           simp only [Option.some.injEq, Prod.mk.injEq] at H
           obtain ⟨rfl, rfl, rfl⟩ := H
           obtain ⟨Ao30, co30, eo30⟩ := Kd.R_slice HO_10.out
           subst eo30
           have p248 : 0 ≤ (1 : Int) := (by omega)
           have q248 : 1 < (x10_10.length : Int) := zd
           obtain ⟨ad248, e248, hx248_0⟩ := Kd.at_int (Kd.R_reads' HO_10.out).2.2 1 p248 q248
           cases e248
           (try simp only [show (1 : Int).toNat = 1 from rfl, Nat.reduceMul, Nat.reduceEqDiff, Go.Addr.add, ↓reduceIte] at hx248_0)
           have qi248 : (1 < x10_10.length) = True := eq_true (by omega)
           (try rw [show ((1 : Int)).toNat = 1 from rfl] at hx248_0)
           replace p248 := eq_true p248
           replace q248 := eq_true q248
           have p22 : 0 ≤ (1 : Int) := (by omega)
           have q22 : (1 : Int) < ((x10_10.length : Int) : Int) := zd
           have qi22 : (1 < x10_10.length) = True := eq_true (by omega)
           obtain ⟨go22, co22, eo22, gb22, gl22, cl22, HG22⟩ := Kd.R_form HO_10.out (by omega)
           (first | cases eo22 | (injection eo22 with ea_ en_ ec_; (first | subst ea_ | (injection ea_ with ea_; subst ea_)); subst ec_; clear en_))
           have GB22 := zm gb22
           have GG22 := zm HG22
           clear gb22 gl22 HG22
           (first | simp only [add_plain] at hx248_0 | skip)
           obtain ⟨hx22_0, hf22_0⟩ := Kd.R_celln 0 HO_10.out (1 : Int) p22 q22
           (try rw [show ((1 : Int)).toNat = 1 from rfl] at hx22_0)
           (try simp only [Nat.reduceMul, Nat.zero_mul, Nat.zero_add, Nat.reduceAdd] at hx22_0)
           (try rw [show ((1 : Int)).toNat = 1 from rfl] at hf22_0)
           (try simp only [Nat.reduceMul, Nat.zero_mul, Nat.zero_add, Nat.reduceAdd] at hf22_0)
           replace p22 := eq_true p22
           replace q22 := eq_true q22
           have HP31 := Kd.R_putg HO_10.out (1 : Int) (wrap64 ((rd x10_10 1) + 1))
           go_wp2_with (first | ((with_reducible refine gate_store (t := 3) (p := 42) rfl ?_); refine store_event (t := 3) (p := 42) (v := ?vo_w32) (w1 := (wc.setCell ⟨go22, (1 : Int).toNat, none⟩ (.int .i64 (wrap64 ((rd x10_10 1) + 1))))) ?hg ?ho ?hn ?hr ?_; (case ho => rfl); (case hg => rfl); (case hn => rfl); (case hr => first | (go_simp; done) | (go_simp; rfl)); intro w32 hw; have hg : wc.grownBy w32 (some go22) := (by rw [hw]; exact HP31.2); have hp_ : Kd.R (Kd.int .i64) 3 w32 w.heap.size (fun k_ => some k_ ≠ (u9 : Value).ownBlock) (.slice (some ⟨go22, 0, none⟩) x10_10.length co30) y249 := (by rw [hw, Ny249.out]; exact HP31.1); clear HP31; have n0_ := zm (Kd.R_after (v := (.slice (some ⟨go22, 0, none⟩) x10_10.length co30)) (v1 := (.slice (some ⟨go22, 0, none⟩) x10_10.length co30)) (ok := (fun _ => True)) (by (with_reducible repeat (first | apply Kd.R_alloc | apply Kd.R_drewN | apply Kd.R_drew)); exact Kd.R_mono HO_9.out (fun _ hk => ⟨trivial, hk⟩)) hg (.inl rfl)); have n1_ := zm (hp_); have n2_ := zm (blk_grown (g := gb239) (o := .cells #[.int .i64 a0_0, .int .i64 a0_1] 47 (0, 0)) zk hg (Kd.R_ne HO_10.out BK239.out (by decide))); have n3_ := zm ((by rw [hw]; exact below_set (HB.out) GB22.out : Below w.heap.size w w32)); clear HO_9; clear HO_10; clear BK239; clear HB; have HO_9 := n0_; have HO_10 := n1_; have BK239 := n2_; have HB := n3_; clear n0_ n1_ n2_ n3_; clear hg hw hp_) | ((with_reducible refine gate_callee (f := 124) rfl ?_); refine goesL_ (some 44) rfl rfl Try.func124 (by kernel_rfl) rfl #[.int .i64 t244] rfl (by (try simp only [List.map_toArray, List.map_cons, List.map_nil]); first | done | rfl | (simp only [List.length_drop, List.length_take]; rfl)) ?_; (with_reducible refine (spec_tkOffset.calls t244 false _ A23.out).mono ?_); rintro e w' ⟨rfl, ⟨nd, rfl⟩⟩; refine ⟨_, rfl, ?_⟩))
           go_ret3
           exact ⟨_, _, zr, by first | exact Kd.R_nil _ _ _ _ _ | exact Kd.N_nil _ _ _ _ _ | exact Kd.V_nil _ _ _ _ _ | exact Kd.Q_nil _ _ _ _ _ | exact Kd.S_nil _ _ _ _ _, by first | exact Kd.R_nil _ _ _ _ _ | exact Kd.N_nil _ _ _ _ _ | exact Kd.V_nil _ _ _ _ _ | exact Kd.Q_nil _ _ _ _ _ | exact Kd.S_nil _ _ _ _ _, zb⟩
         ·
          rw [if_neg c21] at H
          exact absurd H (by simp)
        ·
         rw [if_neg c20] at H
         have c20b0 : decide (0 < t245) = false := decide_eq_false c20
         clear c20
         replace H := Option.bind_eq_some_iff.mp H
         obtain ⟨t254, A330, H⟩ := H
         replace H : (if t254 = true then (if x9_1.length < 17592186044416 then (spec_tkRun.l0 kj10 t244 (x9_1 ++ [t244]) x10_10 l2 (l2.length : Int) (wrap64 (x18_1 + 1)) a0_0 a0_1) else (none)) else (some (([] : List Int), ([] : List Int), false))) = some (r1, r2, r3) := H
         have A33 := zm A330
         clear A330
         by_cases c34 : t254 = true
         ·
          subst c34
          have H1 : (if x9_1.length < 17592186044416 then (spec_tkRun.l0 kj10 t244 (x9_1 ++ [t244]) x10_10 l2 (l2.length : Int) (wrap64 (x18_1 + 1)) a0_0 a0_1) else (none)) = some (r1, r2, r3) := by rw [if_pos rfl] at H; exact H
          clear H
          have H := H1
          clear H1
          by_cases c35 : x9_1.length < 17592186044416
          ·
           rw [if_pos c35] at H
           have LMc35 := zm c35
           clear c35
           obtain ⟨y255, hy255⟩ : ∃ y_ : List Int, y_ = (x9_1 ++ [t244]) := ⟨_, rfl⟩
           replace H : (spec_tkRun.l0 kj10 t244 y255 x10_10 l2 (l2.length : Int) (wrap64 (x18_1 + 1)) a0_0 a0_1) = some (r1, r2, r3) := by first | (rw [hy255]; with_reducible exact H) | (have H2_ := (Option.bind_some _ _).symm.trans H; rw [hy255]; with_reducible exact H2_) | (have H2_ := (Option.bind_some _ _).symm.trans H; with_reducible exact H2_) | with_reducible exact H | (rw [hy255]; exact H) | exact H
           have Ny255 := zm hy255
           clear hy255
           have H' := zm H
           clear H
           go_wp2_with (first | ((with_reducible refine gate_callee (f := 124) rfl ?_); refine goesL_ (some 44) rfl rfl Try.func124 (by kernel_rfl) rfl #[.int .i64 t244] rfl (by (try simp only [List.map_toArray, List.map_cons, List.map_nil]); first | done | rfl | (simp only [List.length_drop, List.length_take]; rfl)) ?_; (with_reducible refine (spec_tkOffset.calls t244 true _ A33.out).mono ?_); rintro e w' ⟨rfl, ⟨nd, rfl⟩⟩; refine ⟨_, rfl, ?_⟩) | ((with_reducible refine gate_builtin (b := .append) (xs := #[.tmp 46, .tmp 48]) rfl ?_); at_builtin; refine Kd.R_append (Kd.int .i64) (w0 := w) w.heap.size rfl (.tmp 46) (.tmp 48) 23 3 (.int .i64 0) 8 rfl Try.underlying23 info3 rfl (by decide) (by omega) u9 x9_1 t244 [.int .i64 t244] (fun k_ => some k_ ≠ (v241 : Value).ownBlock) (fun _ => False) rfl rfl ?aP (fun _ hk => hk.elim) ?aF ?aO ?aB ?aS ?aL ?_; (case aP => exact rfl); (case aB => exact zb); (case aF => exact (fun k_ hk => Kd.fresh' (Kd.R_lt (by (with_reducible repeat (first | apply Kd.R_alloc | apply Kd.R_drewN | apply Kd.R_drew)); exact HO_10.out)) k_ hk)); (case aO => exact (by (with_reducible repeat (first | apply Kd.R_alloc | apply Kd.R_drewN | apply Kd.R_drew)); exact HO_9.out)); (case aS => exact (below_size zb)); (case aL => have := LMc35.out; omega); intro v256 w36 ho hb hg hat; rw [← Ny255.out] at ho; have n0_ := zm (Kd.R_after (ok := (fun _ => True)) (by (with_reducible repeat (first | apply Kd.R_alloc | apply Kd.R_drewN | apply Kd.R_drew)); exact Kd.R_mono HO_10.out (fun _ hk => ⟨trivial, hk⟩)) hg hat); have n1_ := zm (blk_grown (g := gb239) (o := .cells #[.int .i64 a0_0, .int .i64 a0_1] 47 (0, 0)) zk hg (Kd.R_ne HO_9.out BK239.out (by decide))); have n2_ := zm (hb); have n3_ := zm (ho); clear HO_10; clear BK239; clear HB; clear HO_9; have HO_10 := n0_; have BK239 := n1_; have HB := n2_; have HO257 := n3_; clear n0_ n1_ n2_ n3_; clear ho hb hg hat))
           go_roundg kj10
           case measure => have := HK1.out; have := HJ10.out; omega
           case rel => exact ⟨(t244), (y255), (x10_10), (wrap64 (x18_1 + 1)), (by first | rfl | (simp; done) | (simp [*]; done)), (by first | rfl | (simp; done) | (simp [*]; done)), H', ⟨by have := HK1.out; have := HJ10.out; omega⟩, ⟨by (with_reducible repeat (first | apply Kd.R_alloc | apply Kd.R_drewN | apply Kd.R_drew)); exact HO257.out⟩, ⟨by (with_reducible repeat (first | apply Kd.R_alloc | apply Kd.R_drewN | apply Kd.R_drew)); exact zM HO_10.out⟩, ⟨zk⟩, ⟨zb⟩⟩
          ·
           rw [if_neg c35] at H
           exact absurd H (by simp)
         ·
          replace c34 := Bool.eq_false_iff.mpr c34
          subst c34
          have H1 : (some (([] : List Int), ([] : List Int), false)) = some (r1, r2, r3) := by rw [if_neg (show ¬ (false = true) by decide)] at H; exact H
          clear H
          have H := H1
          clear H1
          simp only [Option.some.injEq, Prod.mk.injEq] at H
          obtain ⟨rfl, rfl, rfl⟩ := H
          go_wp2_with (first | ((with_reducible refine gate_callee (f := 124) rfl ?_); refine goesL_ (some 44) rfl rfl Try.func124 (by kernel_rfl) rfl #[.int .i64 t244] rfl (by (try simp only [List.map_toArray, List.map_cons, List.map_nil]); first | done | rfl | (simp only [List.length_drop, List.length_take]; rfl)) ?_; (with_reducible refine (spec_tkOffset.calls t244 false _ A33.out).mono ?_); rintro e w' ⟨rfl, ⟨nd, rfl⟩⟩; refine ⟨_, rfl, ?_⟩))
          go_ret3
          exact ⟨_, _, zr, by first | exact Kd.R_nil _ _ _ _ _ | exact Kd.N_nil _ _ _ _ _ | exact Kd.V_nil _ _ _ _ _ | exact Kd.Q_nil _ _ _ _ _ | exact Kd.S_nil _ _ _ _ _, by first | exact Kd.R_nil _ _ _ _ _ | exact Kd.N_nil _ _ _ _ _ | exact Kd.V_nil _ _ _ _ _ | exact Kd.Q_nil _ _ _ _ _ | exact Kd.S_nil _ _ _ _ _, zb⟩
     ·
      rw [if_neg c9] at H
      exact absurd H (by simp)
    ·
     rw [if_neg c8] at H
     exact absurd H (by simp)
   ·
    rw [if_neg c7] at H
    have c7b0 : decide (x18_1 < (l2.length : Int)) = false := decide_eq_false c7
    clear c7
    simp only [Option.some.injEq, Prod.mk.injEq] at H
    obtain ⟨rfl, rfl, rfl⟩ := H
    go_wp2
    go_ret3
    exact ⟨_, _, zr, by (with_reducible repeat (first | apply Kd.R_alloc | apply Kd.R_drewN | apply Kd.R_drew)); exact HO_9.out, by (with_reducible repeat (first | apply Kd.R_alloc | apply Kd.R_drewN | apply Kd.R_drew)); exact HO_10.out, zb⟩

/-! ### spec_TrackRun: function 38 -/
def spec_TrackRun.f (k : Nat) (a0_0 : Int) (a0_1 : Int) (a1 : Int) (l2 : List Int) : Option (List Int × Bool) := (spec_tkAsked.f k a0_0 a0_1 a1 l2).bind fun t259 => (if t259 = true then ((spec_tkRun.f k a0_0 a0_1 a1 l2).bind fun bt260 => (some (bt260.1, bt260.2.2))) else (some (([] : List Int), false)))
theorem spec_TrackRun.mono : ∀ a0 a1 a2 a3 k, LeO (spec_TrackRun.f k a0 a1 a2 a3) (spec_TrackRun.f (k + 1) a0 a1 a2 a3) := by
  intro a0 a1 a2 a3 k
  unfold spec_TrackRun.f
  repeat' first
      | (with_reducible exact spec_tkAsked.mono _ _ _ _ _)
      | (with_reducible exact spec_tkRun.mono _ _ _ _ _)
      | (with_reducible exact LeO.refl _)
      | (with_reducible exact LeO.none _)
      | (with_reducible refine LeO.ite ?_ ?_)
      | (with_reducible refine LeO.bind ?_ (fun _ => ?_))
      | exact spec_tkAsked.mono _ _ _ _ _
      | exact spec_tkRun.mono _ _ _ _ _
      | exact LeO.none _
      | refine LeO.ite ?_ ?_
      | refine LeO.bind ?_ (fun _ => ?_)
set_option maxHeartbeats 8000000 in
set_option maxRecDepth 100000 in
theorem spec_TrackRun.calls (k : Nat) (a0_0 : Int) (a0_1 : Int) (a1 : Int) (A2 : Option Addr) (c2 : Nat) (l2 : List Int) (r1 : List Int) (r2 : Bool) (w : World) (hr2 : Kd.C (Kd.int .i64) w A2 l2.length l2) (hc2 : l2.length ≤ c2) (h : spec_TrackRun.f k a0_0 a0_1 a1 l2 = some (r1, r2)) :
  Calls Try.prog 38 #[.agg #[.int .i64 a0_0, .int .i64 a0_1], .int .i64 a1, .slice A2 l2.length c2] w fun e w' => ∃ v0_ : Value, e = .returned (.tuple #[v0_, .bool r2]) ∧ Kd.R (Kd.int .i64) 3 w' w.heap.size (fun _ => True) v0_ r1 ∧ Below w.heap.size w w' := by
 have hu47 := Try.underlying47
 have HR2 := zm hr2
 have HC2 := zm hc2
 clear hr2 hc2
 have HB := zm (Below.refl w.heap.size w)
 have H : ((spec_tkAsked.f k a0_0 a0_1 a1 l2).bind fun t259 => (if t259 = true then ((spec_tkRun.f k a0_0 a0_1 a1 l2).bind fun bt260 => (some (bt260.1, bt260.2.2))) else (some (([] : List Int), false)))) = some (r1, r2) := h
 clear h
 replace H := Option.bind_eq_some_iff.mp H
 obtain ⟨t259, A40, H⟩ := H
 replace H : (if t259 = true then ((spec_tkRun.f k a0_0 a0_1 a1 l2).bind fun bt260 => (some (bt260.1, bt260.2.2))) else (some (([] : List Int), false))) = some (r1, r2) := H
 have A4 := zm A40
 clear A40
 by_cases c5 : t259 = true
 ·
  subst c5
  have H1 : ((spec_tkRun.f k a0_0 a0_1 a1 l2).bind fun bt260 => (some (bt260.1, bt260.2.2))) = some (r1, r2) := by rw [if_pos rfl] at H; exact H
  clear H
  have H := H1
  clear H1
  replace H := Option.bind_eq_some_iff.mp H
  obtain ⟨⟨t260, t263, t266⟩, A60, H⟩ := H
  replace H : (some (t260, t266)) = some (r1, r2) := H
  have A6 := zm A60
  clear A60
  simp only [Option.some.injEq, Prod.mk.injEq] at H
  obtain ⟨rfl, rfl⟩ := H
  go_enter Try.func38, Try.ntmps38
  go_wp2_with (first | ((with_reducible refine gate_dst (N := 3) rfl ?_); refine box_event ?hg (N := 3) ?hd (cs := #[.int .i64 a0_0, .int .i64 a0_1]) (t := 47) ?hr ?_; (case hd => rfl); (case hg => rfl); (case hr => first | (go_simp; done) | (go_simp; rfl)); intro gb258 hg w7 hbox hb; have n0_ := zm (below_step zb hb); have n1_ := zm (hbox); have n2_ := zm (zs hg zb : w.heap.size ≤ gb258); have n3_ := zm (zs hg zb : w.heap.size ≤ gb258); clear HB; have HB := n0_; have BK258 := n1_; have GW258 := n2_; have GE258 := n3_; clear n0_ n1_ n2_ n3_; clear hb hbox hg; obtain ⟨hcz8_0, hcz8_1, hfz8_0, hfz8_1⟩ := zc2 BK258.out) | ((with_reducible refine gate_callee (f := 117) rfl ?_); refine goesL_ (some 14) rfl rfl Try.func117 (by kernel_rfl) rfl #[.agg #[.int .i64 a0_0, .int .i64 a0_1], .int .i64 a1, .slice A2 l2.length c2] rfl (by (try simp only [List.map_toArray, List.map_cons, List.map_nil]); first | done | rfl | (simp only [List.length_drop, List.length_take]; rfl)) ?_; (with_reducible refine (spec_tkAsked.calls k a0_0 a0_1 a1 _ _ l2 true _ ?side1 ?side2 A4.out).mono ?_); (case side1 => repeat (first | exact (Kd.C_below HR2.out HB.out) | (with_reducible refine Kd.C_alloc ?_ _) | (with_reducible refine Kd.C_drewN ?_ _) | (with_reducible refine Kd.C_drew ?_))); (case side2 => exact HC2.out); rintro e w9 ⟨rfl, hb⟩; refine ⟨_, rfl, ?_⟩; have n0_ := zm (blk_below (g := gb258) zk hb); have n1_ := zm (below_step zb hb); clear BK258; clear HB; have BK258 := n0_; have HB := n1_; clear n0_ n1_; (try clear hb); (try clear hb2); (try clear hk); (try clear hi); obtain ⟨hcz10_0, hcz10_1, hfz10_0, hfz10_1⟩ := zc2 BK258.out) | ((with_reducible refine gate_callee (f := 118) rfl ?_); refine goesL_ (some 20) rfl rfl Try.func118 (by kernel_rfl) rfl #[.agg #[.int .i64 a0_0, .int .i64 a0_1], .int .i64 a1, .slice A2 l2.length c2] rfl (by (try simp only [List.map_toArray, List.map_cons, List.map_nil]); first | done | rfl | (simp only [List.length_drop, List.length_take]; rfl)) ?_; (with_reducible refine (spec_tkRun.calls k a0_0 a0_1 a1 _ _ l2 t260 t263 t266 _ ?side1 ?side2 A6.out).mono ?_); (case side1 => repeat (first | exact (Kd.C_below HR2.out HB.out) | (with_reducible refine Kd.C_alloc ?_ _) | (with_reducible refine Kd.C_drewN ?_ _) | (with_reducible refine Kd.C_drew ?_))); (case side2 => exact HC2.out); rintro e w11 ⟨v261, v264, rfl, ho0, ho1, hb⟩; refine ⟨_, rfl, ?_⟩; have n0_ := zm (Kd.R_lower ho0 (below_size zb)); have n1_ := zm (Kd.R_lower ho1 (below_size zb)); have n2_ := zm (blk_below (g := gb258) zk hb); have n3_ := zm (below_step zb hb); clear BK258; clear HB; have HO262 := n0_; have HO265 := n1_; have BK258 := n2_; have HB := n3_; clear n0_ n1_ n2_ n3_; (try clear hb); (try clear hb2); (try clear hk); (try clear hi); (try clear ho0); (try clear ho1)))
  go_ret2
  exact ⟨_, zr, by (with_reducible repeat (first | apply Kd.R_alloc | apply Kd.R_drewN | apply Kd.R_drew)); exact Kd.R_mono HO262.out (fun _ hk => trivial), zb⟩
 ·
  replace c5 := Bool.eq_false_iff.mpr c5
  subst c5
  have H1 : (some (([] : List Int), false)) = some (r1, r2) := by rw [if_neg (show ¬ (false = true) by decide)] at H; exact H
  clear H
  have H := H1
  clear H1
  simp only [Option.some.injEq, Prod.mk.injEq] at H
  obtain ⟨rfl, rfl⟩ := H
  go_enter Try.func38, Try.ntmps38
  go_wp2_with (first | ((with_reducible refine gate_dst (N := 3) rfl ?_); refine box_event ?hg (N := 3) ?hd (cs := #[.int .i64 a0_0, .int .i64 a0_1]) (t := 47) ?hr ?_; (case hd => rfl); (case hg => rfl); (case hr => first | (go_simp; done) | (go_simp; rfl)); intro gb258 hg w12 hbox hb; have n0_ := zm (below_step zb hb); have n1_ := zm (hbox); have n2_ := zm (zs hg zb : w.heap.size ≤ gb258); have n3_ := zm (zs hg zb : w.heap.size ≤ gb258); clear HB; have HB := n0_; have BK258 := n1_; have GW258 := n2_; have GE258 := n3_; clear n0_ n1_ n2_ n3_; clear hb hbox hg; obtain ⟨hcz13_0, hcz13_1, hfz13_0, hfz13_1⟩ := zc2 BK258.out) | ((with_reducible refine gate_callee (f := 117) rfl ?_); refine goesL_ (some 14) rfl rfl Try.func117 (by kernel_rfl) rfl #[.agg #[.int .i64 a0_0, .int .i64 a0_1], .int .i64 a1, .slice A2 l2.length c2] rfl (by (try simp only [List.map_toArray, List.map_cons, List.map_nil]); first | done | rfl | (simp only [List.length_drop, List.length_take]; rfl)) ?_; (with_reducible refine (spec_tkAsked.calls k a0_0 a0_1 a1 _ _ l2 false _ ?side1 ?side2 A4.out).mono ?_); (case side1 => repeat (first | exact (Kd.C_below HR2.out HB.out) | (with_reducible refine Kd.C_alloc ?_ _) | (with_reducible refine Kd.C_drewN ?_ _) | (with_reducible refine Kd.C_drew ?_))); (case side2 => exact HC2.out); rintro e w14 ⟨rfl, hb⟩; refine ⟨_, rfl, ?_⟩; have n0_ := zm (blk_below (g := gb258) zk hb); have n1_ := zm (below_step zb hb); clear BK258; clear HB; have BK258 := n0_; have HB := n1_; clear n0_ n1_; (try clear hb); (try clear hb2); (try clear hk); (try clear hi)))
  go_ret2
  exact ⟨_, zr, by first | exact Kd.R_nil _ _ _ _ _ | exact Kd.N_nil _ _ _ _ _ | exact Kd.V_nil _ _ _ _ _ | exact Kd.Q_nil _ _ _ _ _ | exact Kd.S_nil _ _ _ _ _, zb⟩

/-! ### impl_distance: function 99 -/
def impl_distance.f (a0 : Int) (a1 : Int) : Option (Int) := some (mx (wrap64 (a0 - a1)) (wrap64 (a1 - a0)))
set_option maxHeartbeats 8000000 in
set_option maxRecDepth 100000 in
theorem impl_distance.calls (a0 : Int) (a1 : Int) (r : Int) (w : World) (h : impl_distance.f a0 a1 = some r) :
  Calls Try.prog 99 #[.int .i64 a0, .int .i64 a1] w fun e w' => e = .returned (.int .i64 r) ∧ Below w.heap.size w w' := by
 have HB := zm (Below.refl w.heap.size w)
 have H : (some (mx (wrap64 (a0 - a1)) (wrap64 (a1 - a0)))) = some r := h
 clear h
 obtain ⟨ji3, hji3⟩ : ∃ j_ : Int, (mx (wrap64 (a0 - a1)) (wrap64 (a1 - a0))) = j_ := ⟨_, rfl⟩
 replace H : (some ji3) = some r := by first | (rw [hji3] at H; exact H) | (simp only [hji3] at H ⊢; exact H)
 have hji3_ : (if (wrap64 (a0 - a1)) < (wrap64 (a1 - a0)) then (wrap64 (a1 - a0)) else (wrap64 (a0 - a1))) = ji3 := hji3
 obtain rfl := Option.some.inj H
 go_enter Try.func99, Try.ntmps99
 go_wp2
 go_ret
 exact ⟨by first | rfl | (simp [errW_none, errW_some] <;> rfl) | (simp only [← hji3]; first | rfl | (simp [errW_none, errW_some] <;> rfl)) | (simp [*, errW_none, errW_some] <;> rfl), zb⟩

/-! ### impl_WorstOffset: function 39 -/
def impl_WorstOffset.l0 : Nat → Int → List Int → Int → Int → Option (Int × Bool)
  | 0, _, _, _, _ => none
  | k + 1, x10, x24, x25, x26 => if x26 < x25 then (if 0 ≤ x26 then (if x26 < (x24.length : Int) then ((impl_distance.f (rd x24 x26) 0).bind fun t274 => (impl_WorstOffset.l0 k (mx x10 t274) x24 x25 (wrap64 (x26 + 1)))) else (none)) else (none)) else (some (x10, true))
def impl_WorstOffset.f (k : Nat) (a0_0 : Int) (a0_1 : Int) (a1 : Int) (l2 : List Int) : Option (Int × Bool) := (impl_TrackRun.f k a0_0 a0_1 a1 l2).bind fun bt268 => (if bt268.2 = true then ((impl_distance.f a1 0).bind fun t272 => (impl_WorstOffset.l0 k t272 bt268.1 (bt268.1.length : Int) 0)) else (some (0, false)))
theorem impl_WorstOffset.mono_l : ∀ k, (∀ y0 y1 y2 y3, LeO (impl_WorstOffset.l0 k y0 y1 y2 y3) (impl_WorstOffset.l0 (k + 1) y0 y1 y2 y3))
  | 0 => fun _ _ _ _ r h => by simp [impl_WorstOffset.l0] at h
  | k + 1 => by
    have ih0 := impl_WorstOffset.mono_l k
    · intro y0 y1 y2 y3
      unfold impl_WorstOffset.l0
      repeat' first
      | (with_reducible exact ih0 _ _ _ _)
      | (with_reducible exact impl_TrackRun.mono _ _ _ _ _)
      | (with_reducible exact LeO.refl _)
      | (with_reducible exact LeO.none _)
      | (with_reducible refine LeO.ite ?_ ?_)
      | (with_reducible refine LeO.bind ?_ (fun _ => ?_))
      | exact ih0 _ _ _ _
      | exact impl_TrackRun.mono _ _ _ _ _
      | exact LeO.none _
      | refine LeO.ite ?_ ?_
      | refine LeO.bind ?_ (fun _ => ?_)
theorem impl_WorstOffset.mono : ∀ a0 a1 a2 a3 k, LeO (impl_WorstOffset.f k a0 a1 a2 a3) (impl_WorstOffset.f (k + 1) a0 a1 a2 a3) := by
  intro a0 a1 a2 a3 k
  have ih0 := impl_WorstOffset.mono_l k
  unfold impl_WorstOffset.f
  repeat' first
      | (with_reducible exact ih0 _ _ _ _)
      | (with_reducible exact impl_TrackRun.mono _ _ _ _ _)
      | (with_reducible exact LeO.refl _)
      | (with_reducible exact LeO.none _)
      | (with_reducible refine LeO.ite ?_ ?_)
      | (with_reducible refine LeO.bind ?_ (fun _ => ?_))
      | exact ih0 _ _ _ _
      | exact impl_TrackRun.mono _ _ _ _ _
      | exact LeO.none _
      | refine LeO.ite ?_ ?_
      | refine LeO.bind ?_ (fun _ => ?_)
set_option maxHeartbeats 8000000 in
set_option maxRecDepth 100000 in
theorem impl_WorstOffset.calls (k : Nat) (a0_0 : Int) (a0_1 : Int) (a1 : Int) (A2 : Option Addr) (c2 : Nat) (l2 : List Int) (r1 : Int) (r2 : Bool) (w : World) (hr2 : Kd.C (Kd.int .i64) w A2 l2.length l2) (hc2 : l2.length ≤ c2) (h : impl_WorstOffset.f k a0_0 a0_1 a1 l2 = some (r1, r2)) :
  Calls Try.prog 39 #[.agg #[.int .i64 a0_0, .int .i64 a0_1], .int .i64 a1, .slice A2 l2.length c2] w fun e w' => e = .returned (.tuple #[.int .i64 r1, .bool r2]) ∧ Below w.heap.size w w' := by
 have hu47 := Try.underlying47
 have HR2 := zm hr2
 have HC2 := zm hc2
 clear hr2 hc2
 have HB := zm (Below.refl w.heap.size w)
 have H : ((impl_TrackRun.f k a0_0 a0_1 a1 l2).bind fun bt268 => (if bt268.2 = true then ((impl_distance.f a1 0).bind fun t272 => (impl_WorstOffset.l0 k t272 bt268.1 (bt268.1.length : Int) 0)) else (some (0, false)))) = some (r1, r2) := h
 clear h
 replace H := Option.bind_eq_some_iff.mp H
 obtain ⟨⟨t268, t271⟩, A40, H⟩ := H
 replace H : (if t271 = true then ((impl_distance.f a1 0).bind fun t272 => (impl_WorstOffset.l0 k t272 t268 (t268.length : Int) 0)) else (some (0, false))) = some (r1, r2) := H
 have A4 := zm A40
 clear A40
 by_cases c5 : t271 = true
 ·
  subst c5
  have H1 : ((impl_distance.f a1 0).bind fun t272 => (impl_WorstOffset.l0 k t272 t268 (t268.length : Int) 0)) = some (r1, r2) := by rw [if_pos rfl] at H; exact H
  clear H
  have H := H1
  clear H1
  replace H := Option.bind_eq_some_iff.mp H
  obtain ⟨t272, A60, H⟩ := H
  replace H : (impl_WorstOffset.l0 k t272 t268 (t268.length : Int) 0) = some (r1, r2) := H
  have A6 := zm A60
  clear A60
  have H' := zm H
  clear H
  go_enter Try.func39, Try.ntmps39
  go_wp2_with (first | ((with_reducible refine gate_dst (N := 3) rfl ?_); refine box_event ?hg (N := 3) ?hd (cs := #[.int .i64 a0_0, .int .i64 a0_1]) (t := 47) ?hr ?_; (case hd => rfl); (case hg => rfl); (case hr => first | (go_simp; done) | (go_simp; rfl)); intro gb267 hg w7 hbox hb; have n0_ := zm (below_step zb hb); have n1_ := zm (hbox); have n2_ := zm (zs hg zb : w.heap.size ≤ gb267); have n3_ := zm (zs hg zb : w.heap.size ≤ gb267); clear HB; have HB := n0_; have BK267 := n1_; have GW267 := n2_; have GE267 := n3_; clear n0_ n1_ n2_ n3_; clear hb hbox hg; obtain ⟨hcz8_0, hcz8_1, hfz8_0, hfz8_1⟩ := zc2 BK267.out) | ((with_reducible refine gate_callee (f := 37) rfl ?_); refine goesL_ (some 17) rfl rfl Try.func37 (by kernel_rfl) rfl #[.agg #[.int .i64 a0_0, .int .i64 a0_1], .int .i64 a1, .slice A2 l2.length c2] rfl (by (try simp only [List.map_toArray, List.map_cons, List.map_nil]); first | done | rfl | (simp only [List.length_drop, List.length_take]; rfl)) ?_; (with_reducible refine (impl_TrackRun.calls k a0_0 a0_1 a1 _ _ l2 t268 true _ ?side1 ?side2 A4.out).mono ?_); (case side1 => repeat (first | exact (Kd.C_below HR2.out HB.out) | (with_reducible refine Kd.C_alloc ?_ _) | (with_reducible refine Kd.C_drewN ?_ _) | (with_reducible refine Kd.C_drew ?_))); (case side2 => exact HC2.out); rintro e w9 ⟨v269, rfl, ho0, hb⟩; refine ⟨_, rfl, ?_⟩; have n0_ := zm (Kd.R_lower ho0 (below_size zb)); have n1_ := zm (blk_below (g := gb267) zk hb); have n2_ := zm (below_step zb hb); clear BK267; clear HB; have HO270 := n0_; have BK267 := n1_; have HB := n2_; clear n0_ n1_ n2_; (try clear hb); (try clear hb2); (try clear hk); (try clear hi); (try clear ho0)) | ((with_reducible refine gate_callee (f := 99) rfl ?_); refine goesL_ (some 23) rfl rfl Try.func99 (by kernel_rfl) rfl #[.int .i64 a1, .int .i64 0] rfl (by (try simp only [List.map_toArray, List.map_cons, List.map_nil]); first | done | rfl | (simp only [List.length_drop, List.length_take]; rfl)) ?_; (with_reducible refine (impl_distance.calls a1 0 t272 _ A6.out).mono ?_); rintro e w10 ⟨rfl, hb⟩; refine ⟨_, rfl, ?_⟩; have n0_ := zm (Kd.R_below (by (with_reducible repeat (first | apply Kd.R_alloc | apply Kd.R_drewN | apply Kd.R_drew)); exact HO270.out) hb); have n1_ := zm (blk_below (g := gb267) zk hb); have n2_ := zm (below_step zb hb); clear HO270; clear BK267; clear HB; have HO270 := n0_; have BK267 := n1_; have HB := n2_; clear n0_ n1_ n2_; (try clear hb); (try clear hb2); (try clear hk); (try clear hi); obtain ⟨Ao11, co11, eo11⟩ := Kd.R_slice HO270.out; subst eo11))
  go_loopg [10, 26] k (fun kq v10 v26 w' => ∃ (x10_1 : Int) (x26_1 : Int), v10 = .int .i64 x10_1 ∧ v26 = .int .i64 x26_1 ∧ Aside0 (impl_WorstOffset.l0 kq x10_1 t268 (t268.length : Int) x26_1 = some (r1, r2)) ∧ Aside0 (kq ≤ k) ∧ Aside0 (Kd.R (Kd.int .i64) 3 w' w.heap.size (fun _ => True) (.slice Ao11 t268.length co11) t268) ∧ Aside0 (w'.heap[gb267]? = some (.cells #[.int .i64 a0_0, .int .i64 a0_1] 47 (0, 0))) ∧ Aside0 (Below w.heap.size w w'))
  case atStart => exact ⟨(t272), (0), (by first | rfl | (simp; done) | (simp [*]; done)), (by first | rfl | (simp; done) | (simp [*]; done)), H', ⟨Nat.le_refl _⟩, ⟨by (with_reducible repeat (first | apply Kd.R_alloc | apply Kd.R_drewN | apply Kd.R_drew)); exact HO270.out⟩, ⟨zk⟩, ⟨zb⟩⟩
  case round =>
   clear H'
   try clear c2
   try clear p2
   try clear c3
   try clear c5
   try clear c9
   try clear hcz8_0
   try clear hcz8_1
   try clear hfz8_0
   try clear hfz8_1
   obtain ⟨x10_1, x26_1, rfl, rfl, HA, HK1, HO_24, BK267, HB⟩ := hrel
   cases gk with
   | zero => exact absurd HA.out (by simp [impl_WorstOffset.l0])
   | succ k1 =>
    have H := HA.out
    clear HA
    simp only [impl_WorstOffset.l0] at H
    by_cases c12 : x26_1 < (t268.length : Int)
    ·
     rw [if_pos c12] at H
     have c12b0 : decide (x26_1 < (t268.length : Int)) = true := decide_eq_true c12
     clear c12
     by_cases c13 : 0 ≤ x26_1
     ·
      rw [if_pos c13] at H
      have c13b0 : decide (0 ≤ x26_1) = true := decide_eq_true c13
      clear c13
      by_cases c14 : x26_1 < (t268.length : Int)
      ·
       rw [if_pos c14] at H
       have c14b0 : decide (x26_1 < (t268.length : Int)) = true := decide_eq_true c14
       clear c14
       replace H := Option.bind_eq_some_iff.mp H
       obtain ⟨t274, A150, H⟩ := H
       replace H : (impl_WorstOffset.l0 k1 (mx x10_1 t274) t268 (t268.length : Int) (wrap64 (x26_1 + 1))) = some (r1, r2) := H
       have A15 := zm A150
       clear A150
       obtain ⟨ji16, hji16⟩ : ∃ j_ : Int, (mx x10_1 t274) = j_ := ⟨_, rfl⟩
       replace H : (impl_WorstOffset.l0 k1 ji16 t268 (t268.length : Int) (wrap64 (x26_1 + 1))) = some (r1, r2) := by first | (rw [hji16] at H; exact H) | (simp only [hji16] at H ⊢; exact H)
       (try rw [hji16] at A15)
       have hji16_ : (if x10_1 < t274 then t274 else x10_1) = ji16 := hji16
       have H' := zm H
       clear H
       have p273 : 0 ≤ (x26_1 : Int) := zd
       have q273 : x26_1 < (t268.length : Int) := zd
       obtain ⟨ad273, e273, hx273_0⟩ := Kd.at_int (Kd.R_reads' HO_24.out).2.2 x26_1 p273 q273
       cases e273
       replace p273 := eq_true p273
       replace q273 := eq_true q273
       go_wp2_with (first | ((with_reducible refine gate_callee (f := 99) rfl ?_); refine goesL_ (some 32) rfl rfl Try.func99 (by kernel_rfl) rfl #[.int .i64 (rd t268 x26_1), .int .i64 0] rfl (by (try simp only [List.map_toArray, List.map_cons, List.map_nil]); first | done | rfl | (simp only [List.length_drop, List.length_take]; rfl)) ?_; (with_reducible refine (impl_distance.calls (rd t268 x26_1) 0 t274 _ A15.out).mono ?_); rintro e w17 ⟨rfl, hb⟩; refine ⟨_, rfl, ?_⟩; have n0_ := zm (Kd.R_below (by (with_reducible repeat (first | apply Kd.R_alloc | apply Kd.R_drewN | apply Kd.R_drew)); exact HO_24.out) hb); have n1_ := zm (blk_below (g := gb267) zk hb); have n2_ := zm (below_step zb hb); clear HO_24; clear BK267; clear HB; have HO_24 := n0_; have BK267 := n1_; have HB := n2_; clear n0_ n1_ n2_; (try clear hb); (try clear hb2); (try clear hk); (try clear hi)))
       go_roundg k1
       case measure => have := HK1.out; omega
       case rel => exact ⟨(ji16), (wrap64 (x26_1 + 1)), (by first | rfl | (simp; done) | (simp only [← hji16] <;> (first | rfl | simp)) | (simp [*]; done)), (by first | rfl | (simp; done) | (simp [*]; done)), H', ⟨by have := HK1.out; omega⟩, ⟨by (with_reducible repeat (first | apply Kd.R_alloc | apply Kd.R_drewN | apply Kd.R_drew)); exact HO_24.out⟩, ⟨zk⟩, ⟨zb⟩⟩
      ·
       rw [if_neg c14] at H
       exact absurd H (by simp)
     ·
      rw [if_neg c13] at H
      exact absurd H (by simp)
    ·
     rw [if_neg c12] at H
     have c12b0 : decide (x26_1 < (t268.length : Int)) = false := decide_eq_false c12
     clear c12
     simp only [Option.some.injEq, Prod.mk.injEq] at H
     obtain ⟨rfl, rfl⟩ := H
     go_wp2
     go_ret2
     exact ⟨zr, zb⟩
 ·
  replace c5 := Bool.eq_false_iff.mpr c5
  subst c5
  have H1 : (some (0, false)) = some (r1, r2) := by rw [if_neg (show ¬ (false = true) by decide)] at H; exact H
  clear H
  have H := H1
  clear H1
  simp only [Option.some.injEq, Prod.mk.injEq] at H
  obtain ⟨rfl, rfl⟩ := H
  go_enter Try.func39, Try.ntmps39
  go_wp2_with (first | ((with_reducible refine gate_dst (N := 3) rfl ?_); refine box_event ?hg (N := 3) ?hd (cs := #[.int .i64 a0_0, .int .i64 a0_1]) (t := 47) ?hr ?_; (case hd => rfl); (case hg => rfl); (case hr => first | (go_simp; done) | (go_simp; rfl)); intro gb267 hg w18 hbox hb; have n0_ := zm (below_step zb hb); have n1_ := zm (hbox); have n2_ := zm (zs hg zb : w.heap.size ≤ gb267); have n3_ := zm (zs hg zb : w.heap.size ≤ gb267); clear HB; have HB := n0_; have BK267 := n1_; have GW267 := n2_; have GE267 := n3_; clear n0_ n1_ n2_ n3_; clear hb hbox hg; obtain ⟨hcz19_0, hcz19_1, hfz19_0, hfz19_1⟩ := zc2 BK267.out) | ((with_reducible refine gate_callee (f := 37) rfl ?_); refine goesL_ (some 17) rfl rfl Try.func37 (by kernel_rfl) rfl #[.agg #[.int .i64 a0_0, .int .i64 a0_1], .int .i64 a1, .slice A2 l2.length c2] rfl (by (try simp only [List.map_toArray, List.map_cons, List.map_nil]); first | done | rfl | (simp only [List.length_drop, List.length_take]; rfl)) ?_; (with_reducible refine (impl_TrackRun.calls k a0_0 a0_1 a1 _ _ l2 t268 false _ ?side1 ?side2 A4.out).mono ?_); (case side1 => repeat (first | exact (Kd.C_below HR2.out HB.out) | (with_reducible refine Kd.C_alloc ?_ _) | (with_reducible refine Kd.C_drewN ?_ _) | (with_reducible refine Kd.C_drew ?_))); (case side2 => exact HC2.out); rintro e w20 ⟨v269, rfl, ho0, hb⟩; refine ⟨_, rfl, ?_⟩; have n0_ := zm (Kd.R_lower ho0 (below_size zb)); have n1_ := zm (blk_below (g := gb267) zk hb); have n2_ := zm (below_step zb hb); clear BK267; clear HB; have HO270 := n0_; have BK267 := n1_; have HB := n2_; clear n0_ n1_ n2_; (try clear hb); (try clear hb2); (try clear hk); (try clear hi); (try clear ho0)))
  go_ret2
  exact ⟨zr, zb⟩

/-! ### spec_l1Most: function 96 -/
def spec_l1Most.f (a0 : Int) (a1 : Int) : Option (Int) := if a0 > a1 then (some a0) else (some a1)
set_option maxHeartbeats 8000000 in
set_option maxRecDepth 100000 in
theorem spec_l1Most.calls (a0 : Int) (a1 : Int) (r : Int) (w : World) (h : spec_l1Most.f a0 a1 = some r) :
  Calls Try.prog 96 #[.int .i64 a0, .int .i64 a1] w fun e w' => e = .returned (.int .i64 r) ∧ Drawn0 w w' := by
 have H : (if a0 > a1 then (some a0) else (some a1)) = some r := h
 clear h
 by_cases c3 : a0 > a1
 ·
  rw [if_pos c3] at H
  have c3b0 : decide (a1 < a0) = true := decide_eq_true c3
  clear c3
  obtain rfl := Option.some.inj H
  go_enter Try.func96, Try.ntmps96
  go_wp2
  go_ret
  exact ⟨by first | rfl | (simp; done) | (simp [*]; done), by repeat (first | exact Drawn0.refl _ | apply Drawn0.step)⟩
 ·
  rw [if_neg c3] at H
  have c3b0 : decide (a1 < a0) = false := decide_eq_false c3
  clear c3
  obtain rfl := Option.some.inj H
  go_enter Try.func96, Try.ntmps96
  go_wp2
  go_ret
  exact ⟨by first | rfl | (simp; done) | (simp [*]; done), by repeat (first | exact Drawn0.refl _ | apply Drawn0.step)⟩

/-! ### spec_l1Abs: function 97 -/
def spec_l1Abs.f (a0 : Int) : Option (Int) := (spec_l1Most.f a0 (wrap64 (-a0))).bind fun t275 => (some t275)
set_option maxHeartbeats 8000000 in
set_option maxRecDepth 100000 in
theorem spec_l1Abs.calls (a0 : Int) (r : Int) (w : World) (h : spec_l1Abs.f a0 = some r) :
  Calls Try.prog 97 #[.int .i64 a0] w fun e w' => e = .returned (.int .i64 r) ∧ Drawn0 w w' := by
 have H : ((spec_l1Most.f a0 (wrap64 (-a0))).bind fun t275 => (some t275)) = some r := h
 clear h
 replace H := Option.bind_eq_some_iff.mp H
 obtain ⟨t275, A20, H⟩ := H
 replace H : (some t275) = some r := H
 have A2 := zm A20
 clear A20
 obtain rfl := Option.some.inj H
 go_enter Try.func97, Try.ntmps97
 go_wp2_with (first | ((with_reducible refine gate_callee (f := 96) rfl ?_); refine goesL_ (some 6) rfl rfl Try.func96 (by kernel_rfl) rfl #[.int .i64 a0, .int .i64 (wrap64 (-a0))] rfl (by (try simp only [List.map_toArray, List.map_cons, List.map_nil]); first | done | rfl | (simp only [List.length_drop, List.length_take]; rfl)) ?_; (with_reducible refine (spec_l1Most.calls a0 (wrap64 (-a0)) t275 _ A2.out).mono ?_); rintro e w' ⟨rfl, ⟨nd, rfl⟩⟩; refine ⟨_, rfl, ?_⟩))
 go_ret
 exact ⟨by first | rfl | (simp; done) | (simp [*]; done), by repeat (first | exact Drawn0.refl _ | apply Drawn0.step)⟩

end Go.Proofs.Ytepkedhmbfkenaa.PTk
