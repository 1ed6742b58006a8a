-- Written for this claim by a program of this session (wip/tpl/patchprint.py), not by print.sh.
import Derived.Test.YtjdkdbeenggfaaaDoorPPtx0
import Derived.Test.YtjdkdbeenggfaaaDoorPPtx6
import Derived.Test.YtjdkdbeenggfaaaDoorPPtx7
namespace Go.Proofs.YtjdkdbeenggfaaaDoor.PPt
open Go.RowKit Go.Proofs.YtjdkdbeenggfaaaDoorW.PrintWords Go.Proofs.YtjdkdbeenggfaaaDoorW.PrintLast Go.Proofs.YtjdkdbeenggfaaaDoorW.PrintMore
attribute [local go_sem] max2_int min2_int max_two min_two max_three min_three max_four min_four   -- for this text's walks alone
set_option linter.unusedVariables false
set_option linter.unusedSimpArgs false

/-! ### impl_IsAction: function 43 -/
def impl_IsAction.f (a0_0 : Int) (a0_1 : Int) (a0_2 : Int) : Option (Bool) := if a0_0 ≥ 0 then (if a0_0 ≤ 40 then (if a0_1 ≥ 0 then (if a0_1 ≤ 40 then (if a0_2 ≥ 0 then (some (decide (a0_2 ≤ 40))) else (some false)) else (some false)) else (some false)) else (some false)) else (some false)
set_option maxHeartbeats 8000000 in
set_option maxRecDepth 100000 in
theorem impl_IsAction.calls (a0_0 : Int) (a0_1 : Int) (a0_2 : Int) (r : Bool) (w : World) (h : impl_IsAction.f a0_0 a0_1 a0_2 = some r) :
  Calls Tryd.prog 43 #[.agg #[.int .i64 a0_0, .int .i64 a0_1, .int .i64 a0_2]] w fun e w' => e = .returned (.bool r) ∧ Below w.heap.size w w' := by
 have hu36 := Tryd.underlying36
 have HB := zm (Below.refl w.heap.size w)
 have H : (if a0_0 ≥ 0 then (if a0_0 ≤ 40 then (if a0_1 ≥ 0 then (if a0_1 ≤ 40 then (if a0_2 ≥ 0 then (some (decide (a0_2 ≤ 40))) else (some false)) else (some false)) else (some false)) else (some false)) else (some false)) = some r := h
 clear h
 by_cases c2 : a0_0 ≥ 0
 rotate_left
 ·
  rw [if_neg c2] at H
  have c2b0 : decide (0 ≤ a0_0) = false := decide_eq_false c2
  clear c2
  obtain rfl := Option.some.inj H
  go_enter Tryd.func43, Tryd.ntmps43
  go_wp2_with (first | ((with_reducible refine gate_dst (N := 1) rfl ?_); refine box_event ?hg (N := 1) ?hd (cs := #[.int .i64 a0_0, .int .i64 a0_1, .int .i64 a0_2]) (t := 36) ?hr ?_; (case hd => rfl); (case hg => rfl); (case hr => first | (go_simp; done) | (go_simp; rfl)); intro gb237 hg w17 hbox hb; have n0_ := zm (below_step zb hb); have BK237 := zm (hbox); have GW237 := zm (zs hg zb : w.heap.size ≤ gb237); have GE237 := zm (zs hg zb : w.heap.size ≤ gb237); replace HB := n0_; clear n0_; clear hb hbox hg; obtain ⟨hcz18_0, hcz18_1, hcz18_2, hfz18_0, hfz18_1, hfz18_2⟩ := zc3 BK237.out))
  go_ret
  exact ⟨zr, zb⟩

 rw [if_pos c2] at H
 have c2b0 : decide (0 ≤ a0_0) = true := decide_eq_true c2
 clear c2
 by_cases c3 : a0_0 ≤ 40
 rotate_left
 ·
  rw [if_neg c3] at H
  have c3b0 : decide (a0_0 ≤ 40) = false := decide_eq_false c3
  clear c3
  obtain rfl := Option.some.inj H
  go_enter Tryd.func43, Tryd.ntmps43
  go_wp2_with (first | ((with_reducible refine gate_dst (N := 1) rfl ?_); refine box_event ?hg (N := 1) ?hd (cs := #[.int .i64 a0_0, .int .i64 a0_1, .int .i64 a0_2]) (t := 36) ?hr ?_; (case hd => rfl); (case hg => rfl); (case hr => first | (go_simp; done) | (go_simp; rfl)); intro gb237 hg w15 hbox hb; have n0_ := zm (below_step zb hb); have BK237 := zm (hbox); have GW237 := zm (zs hg zb : w.heap.size ≤ gb237); have GE237 := zm (zs hg zb : w.heap.size ≤ gb237); replace HB := n0_; clear n0_; clear hb hbox hg; obtain ⟨hcz16_0, hcz16_1, hcz16_2, hfz16_0, hfz16_1, hfz16_2⟩ := zc3 BK237.out))
  go_ret
  exact ⟨zr, zb⟩
 rw [if_pos c3] at H
 have c3b0 : decide (a0_0 ≤ 40) = true := decide_eq_true c3
 clear c3
 by_cases c4 : a0_1 ≥ 0
 rotate_left
 ·
  rw [if_neg c4] at H
  have c4b0 : decide (0 ≤ a0_1) = false := decide_eq_false c4
  clear c4
  obtain rfl := Option.some.inj H
  go_enter Tryd.func43, Tryd.ntmps43
  go_wp2_with (first | ((with_reducible refine gate_dst (N := 1) rfl ?_); refine box_event ?hg (N := 1) ?hd (cs := #[.int .i64 a0_0, .int .i64 a0_1, .int .i64 a0_2]) (t := 36) ?hr ?_; (case hd => rfl); (case hg => rfl); (case hr => first | (go_simp; done) | (go_simp; rfl)); intro gb237 hg w13 hbox hb; have n0_ := zm (below_step zb hb); have BK237 := zm (hbox); have GW237 := zm (zs hg zb : w.heap.size ≤ gb237); have GE237 := zm (zs hg zb : w.heap.size ≤ gb237); replace HB := n0_; clear n0_; clear hb hbox hg; obtain ⟨hcz14_0, hcz14_1, hcz14_2, hfz14_0, hfz14_1, hfz14_2⟩ := zc3 BK237.out))
  go_ret
  exact ⟨zr, zb⟩
 rw [if_pos c4] at H
 have c4b0 : decide (0 ≤ a0_1) = true := decide_eq_true c4
 clear c4
 by_cases c5 : a0_1 ≤ 40
 rotate_left
 ·
  rw [if_neg c5] at H
  have c5b0 : decide (a0_1 ≤ 40) = false := decide_eq_false c5
  clear c5
  obtain rfl := Option.some.inj H
  go_enter Tryd.func43, Tryd.ntmps43
  go_wp2_with (first | ((with_reducible refine gate_dst (N := 1) rfl ?_); refine box_event ?hg (N := 1) ?hd (cs := #[.int .i64 a0_0, .int .i64 a0_1, .int .i64 a0_2]) (t := 36) ?hr ?_; (case hd => rfl); (case hg => rfl); (case hr => first | (go_simp; done) | (go_simp; rfl)); intro gb237 hg w11 hbox hb; have n0_ := zm (below_step zb hb); have BK237 := zm (hbox); have GW237 := zm (zs hg zb : w.heap.size ≤ gb237); have GE237 := zm (zs hg zb : w.heap.size ≤ gb237); replace HB := n0_; clear n0_; clear hb hbox hg; obtain ⟨hcz12_0, hcz12_1, hcz12_2, hfz12_0, hfz12_1, hfz12_2⟩ := zc3 BK237.out))
  go_ret
  exact ⟨zr, zb⟩
 rw [if_pos c5] at H
 have c5b0 : decide (a0_1 ≤ 40) = true := decide_eq_true c5
 clear c5
 by_cases c6 : a0_2 ≥ 0
 rotate_left
 ·
  rw [if_neg c6] at H
  have c6b0 : decide (0 ≤ a0_2) = false := decide_eq_false c6
  clear c6
  obtain rfl := Option.some.inj H
  go_enter Tryd.func43, Tryd.ntmps43
  go_wp2_with (first | ((with_reducible refine gate_dst (N := 1) rfl ?_); refine box_event ?hg (N := 1) ?hd (cs := #[.int .i64 a0_0, .int .i64 a0_1, .int .i64 a0_2]) (t := 36) ?hr ?_; (case hd => rfl); (case hg => rfl); (case hr => first | (go_simp; done) | (go_simp; rfl)); intro gb237 hg w9 hbox hb; have n0_ := zm (below_step zb hb); have BK237 := zm (hbox); have GW237 := zm (zs hg zb : w.heap.size ≤ gb237); have GE237 := zm (zs hg zb : w.heap.size ≤ gb237); replace HB := n0_; clear n0_; clear hb hbox hg; obtain ⟨hcz10_0, hcz10_1, hcz10_2, hfz10_0, hfz10_1, hfz10_2⟩ := zc3 BK237.out))
  go_ret
  exact ⟨zr, zb⟩
 rw [if_pos c6] at H
 have c6b0 : decide (0 ≤ a0_2) = true := decide_eq_true c6
 clear c6
 obtain rfl := Option.some.inj H
 go_enter Tryd.func43, Tryd.ntmps43
 go_wp2_with (first | ((with_reducible refine gate_dst (N := 1) rfl ?_); refine box_event ?hg (N := 1) ?hd (cs := #[.int .i64 a0_0, .int .i64 a0_1, .int .i64 a0_2]) (t := 36) ?hr ?_; (case hd => rfl); (case hg => rfl); (case hr => first | (go_simp; done) | (go_simp; rfl)); intro gb237 hg w7 hbox hb; have n0_ := zm (below_step zb hb); have BK237 := zm (hbox); have GW237 := zm (zs hg zb : w.heap.size ≤ gb237); have GE237 := zm (zs hg zb : w.heap.size ≤ gb237); replace HB := n0_; clear n0_; clear hb hbox hg; obtain ⟨hcz8_0, hcz8_1, hcz8_2, hfz8_0, hfz8_1, hfz8_2⟩ := zc3 BK237.out))
 go_ret
 exact ⟨zr, zb⟩
/-! ### impl_canBePlayed: function 26 -/
def impl_canBePlayed.f (k : Nat) (l0_0 : List Int) (a0_1 : Int) (l1 : List (S60)) (a2_0 : Int) (a2_1 : Int) (a2_2 : Int) : Option (Bool) := (impl_IsInstrument.f k l0_0 a0_1).bind fun t240 => (if t240 = true then ((impl_IsSheet.f k l1).bind fun t241 => (if t241 = true then ((impl_IsAction.f a2_0 a2_1 a2_2).bind fun t242 => (some t242)) else (some false))) else (some false))
theorem impl_canBePlayed.mono : ∀ a0 a1 a2 a3 a4 a5 k, LeO (impl_canBePlayed.f k a0 a1 a2 a3 a4 a5) (impl_canBePlayed.f (k + 1) a0 a1 a2 a3 a4 a5) := by
  intro a0 a1 a2 a3 a4 a5 k
  unfold impl_canBePlayed.f
  repeat' first
      | (with_reducible exact impl_IsInstrument.mono _ _ _)
      | (with_reducible exact impl_IsSheet.mono _ _)
      | (with_reducible exact LeO.refl _)
      | (with_reducible exact LeO.none _)
      | (with_reducible refine LeO.ite ?_ ?_)
      | (with_reducible refine LeO.bind ?_ (fun _ => ?_))
      | exact impl_IsInstrument.mono _ _ _
      | exact impl_IsSheet.mono _ _
      | exact LeO.none _
      | refine LeO.ite ?_ ?_
      | refine LeO.bind ?_ (fun _ => ?_)
set_option maxHeartbeats 8000000 in
set_option maxRecDepth 100000 in
theorem impl_canBePlayed.calls (k : Nat) (A0_0 : Option Addr) (c0_0 : Nat) (l0_0 : List Int) (a0_1 : Int) (A1 : Option Addr) (c1 : Nat) (l1 : List (S60)) (a2_0 : Int) (a2_1 : Int) (a2_2 : Int) (r : Bool) (w : World) (hr0_0 : Kd.C (Kd.int .i64) w A0_0 l0_0.length l0_0) (hc0_0 : l0_0.length ≤ c0_0) (hr1 : Kd.C k60 w A1 l1.length l1) (hc1 : l1.length ≤ c1) (h : impl_canBePlayed.f k l0_0 a0_1 l1 a2_0 a2_1 a2_2 = some r) :
  Calls Tryd.prog 26 #[.agg #[.slice A0_0 l0_0.length c0_0, .int .i64 a0_1], .slice A1 l1.length c1, .agg #[.int .i64 a2_0, .int .i64 a2_1, .int .i64 a2_2]] w fun e w' => e = .returned (.bool r) ∧ Below w.heap.size w w' := by
 have hu32 := Tryd.underlying32
 have hu36 := Tryd.underlying36
 have HR0_0 := zm hr0_0
 have HC0_0 := zm hc0_0
 clear hr0_0 hc0_0
 have HR1 := zm hr1
 have HC1 := zm hc1
 clear hr1 hc1
 have HB := zm (Below.refl w.heap.size w)
 have H : ((impl_IsInstrument.f k l0_0 a0_1).bind fun t240 => (if t240 = true then ((impl_IsSheet.f k l1).bind fun t241 => (if t241 = true then ((impl_IsAction.f a2_0 a2_1 a2_2).bind fun t242 => (some t242)) else (some false))) else (some false))) = some r := h
 clear h
 replace H := Option.bind_eq_some_iff.mp H
 obtain ⟨t240, A40, H⟩ := H
 (try dsimp only at H)
 have A4 := zm A40
 clear A40
 by_cases c5 : t240 = true
 rotate_left
 ·
  replace c5 := Bool.eq_false_iff.mpr c5
  subst c5
  have H1 : (some false) = some r := by rw [if_neg (show ¬ (false = true) by decide)] at H; exact H
  clear H
  have H := H1
  clear H1
  obtain rfl := Option.some.inj H
  go_enter Tryd.func26, Tryd.ntmps26
  go_wp2_with (first | ((with_reducible refine gate_dst (N := 3) rfl ?_); refine box_event ?hg (N := 3) ?hd (cs := #[.slice A0_0 l0_0.length c0_0, .int .i64 a0_1]) (t := 32) ?hr ?_; (case hd => rfl); (case hg => rfl); (case hr => first | (go_simp; done) | (go_simp; rfl)); intro gb238 hg w23 hbox hb; have n0_ := zm (below_step zb hb); have BK238 := zm (hbox); have GW238 := zm (zs hg zb : w.heap.size ≤ gb238); have GE238 := zm (zs hg zb : w.heap.size ≤ gb238); replace HB := n0_; clear n0_; clear hb hbox hg) | ((with_reducible refine gate_dst (N := 5) rfl ?_); refine box_event ?hg (N := 5) ?hd (cs := #[.int .i64 a2_0, .int .i64 a2_1, .int .i64 a2_2]) (t := 36) ?hr ?_; (case hd => rfl); (case hg => rfl); (case hr => first | (go_simp; done) | (go_simp; rfl)); intro gb239 hg w24 hbox hb; have n0_ := zm (blk_below (g := gb238) zk hb); have n1_ := zm (below_step zb hb); have BK239 := zm (hbox); have GW239 := zm (zs hg zb : w.heap.size ≤ gb239); have GE239 := zm (zs hg zb : w.heap.size ≤ gb239); have NB238_239 := zm (zl hg zk : gb238 ≠ gb239); have NB239_238 := zm (zg hg zk : gb239 ≠ gb238); replace BK238 := n0_; replace HB := n1_; clear n0_ n1_; clear hb hbox hg; have hnb25 := NB238_239.out; have hnc25 := NB239_238.out; obtain ⟨hcz26_0, hcz26_1, hfz26_0, hfz26_1⟩ := zc2 BK238.out) | ((with_reducible refine gate_callee (f := 41) rfl ?_); refine goesA_ (some 8) Tryd.func41 #[.agg #[.slice A0_0 l0_0.length c0_0, .int .i64 a0_1]] rfl ?_; (with_reducible refine (impl_IsInstrument.calls k _ _ l0_0 a0_1 false _ ?side1 ?side2 A4.out).mono ?_); (case side1 => repeat (first | exact (Kd.C_below HR0_0.out HB.out) | (with_reducible refine Kd.C_alloc ?_ _) | (with_reducible refine Kd.C_drewN ?_ _) | (with_reducible refine Kd.C_drew ?_))); (case side2 => exact HC0_0.out); rintro e w27 ⟨rfl, hb⟩; refine ⟨_, rfl, ?_⟩; have n0_ := zm (blk_below (g := gb238) zk hb); replace BK239 := zm (blk_below (g := gb239) zk hb); replace HB := zm (below_step zb hb); replace BK238 := n0_; clear n0_; (try clear hb); (try clear hb2); (try clear hk); (try clear hi)))
  go_ret
  exact ⟨zr, zb⟩

 subst c5
 have H1 : ((impl_IsSheet.f k l1).bind fun t241 => (if t241 = true then ((impl_IsAction.f a2_0 a2_1 a2_2).bind fun t242 => (some t242)) else (some false))) = some r := by rw [if_pos rfl] at H; exact H
 clear H
 have H := H1
 clear H1
 replace H := Option.bind_eq_some_iff.mp H
 obtain ⟨t241, A60, H⟩ := H
 (try dsimp only at H)
 have A6 := zm A60
 clear A60
 by_cases c7 : t241 = true
 rotate_left
 ·
  replace c7 := Bool.eq_false_iff.mpr c7
  subst c7
  have H1 : (some false) = some r := by rw [if_neg (show ¬ (false = true) by decide)] at H; exact H
  clear H
  have H := H1
  clear H1
  obtain rfl := Option.some.inj H
  go_enter Tryd.func26, Tryd.ntmps26
  go_wp2_with (first | ((with_reducible refine gate_dst (N := 3) rfl ?_); refine box_event ?hg (N := 3) ?hd (cs := #[.slice A0_0 l0_0.length c0_0, .int .i64 a0_1]) (t := 32) ?hr ?_; (case hd => rfl); (case hg => rfl); (case hr => first | (go_simp; done) | (go_simp; rfl)); intro gb238 hg w17 hbox hb; have n0_ := zm (below_step zb hb); have BK238 := zm (hbox); have GW238 := zm (zs hg zb : w.heap.size ≤ gb238); have GE238 := zm (zs hg zb : w.heap.size ≤ gb238); replace HB := n0_; clear n0_; clear hb hbox hg) | ((with_reducible refine gate_dst (N := 5) rfl ?_); refine box_event ?hg (N := 5) ?hd (cs := #[.int .i64 a2_0, .int .i64 a2_1, .int .i64 a2_2]) (t := 36) ?hr ?_; (case hd => rfl); (case hg => rfl); (case hr => first | (go_simp; done) | (go_simp; rfl)); intro gb239 hg w18 hbox hb; have n0_ := zm (blk_below (g := gb238) zk hb); have n1_ := zm (below_step zb hb); have BK239 := zm (hbox); have GW239 := zm (zs hg zb : w.heap.size ≤ gb239); have GE239 := zm (zs hg zb : w.heap.size ≤ gb239); have NB238_239 := zm (zl hg zk : gb238 ≠ gb239); have NB239_238 := zm (zg hg zk : gb239 ≠ gb238); replace BK238 := n0_; replace HB := n1_; clear n0_ n1_; clear hb hbox hg; have hnb19 := NB238_239.out; have hnc19 := NB239_238.out; obtain ⟨hcz20_0, hcz20_1, hfz20_0, hfz20_1⟩ := zc2 BK238.out) | ((with_reducible refine gate_callee (f := 41) rfl ?_); refine goesA_ (some 8) Tryd.func41 #[.agg #[.slice A0_0 l0_0.length c0_0, .int .i64 a0_1]] rfl ?_; (with_reducible refine (impl_IsInstrument.calls k _ _ l0_0 a0_1 true _ ?side1 ?side2 A4.out).mono ?_); (case side1 => repeat (first | exact (Kd.C_below HR0_0.out HB.out) | (with_reducible refine Kd.C_alloc ?_ _) | (with_reducible refine Kd.C_drewN ?_ _) | (with_reducible refine Kd.C_drew ?_))); (case side2 => exact HC0_0.out); rintro e w21 ⟨rfl, hb⟩; refine ⟨_, rfl, ?_⟩; have n0_ := zm (blk_below (g := gb238) zk hb); replace BK239 := zm (blk_below (g := gb239) zk hb); replace HB := zm (below_step zb hb); replace BK238 := n0_; clear n0_; (try clear hb); (try clear hb2); (try clear hk); (try clear hi)) | (go_at_call 42; (with_reducible refine (impl_IsSheet.calls k _ _ l1 false _ ?side1 ?side2 A6.out).mono ?_); (case side1 => repeat (first | exact (Kd.C_below HR1.out HB.out) | (with_reducible refine Kd.C_alloc ?_ _) | (with_reducible refine Kd.C_drewN ?_ _) | (with_reducible refine Kd.C_drew ?_))); (case side2 => exact HC1.out); rintro e w22 ⟨rfl, hb⟩; have n0_ := zm (blk_below (g := gb238) zk hb); replace BK239 := zm (blk_below (g := gb239) zk hb); replace HB := zm (below_step zb hb); replace BK238 := n0_; clear n0_; (try clear hb); (try clear hb2); (try clear hk); (try clear hi)))
  go_ret
  exact ⟨zr, zb⟩
 subst c7
 have H1 : ((impl_IsAction.f a2_0 a2_1 a2_2).bind fun t242 => (some t242)) = some r := by rw [if_pos rfl] at H; exact H
 clear H
 have H := H1
 clear H1
 replace H := Option.bind_eq_some_iff.mp H
 obtain ⟨t242, A80, H⟩ := H
 (try dsimp only at H)
 have A8 := zm A80
 clear A80
 obtain rfl := Option.some.inj H
 go_enter Tryd.func26, Tryd.ntmps26
 go_wp2_with (first | ((with_reducible refine gate_dst (N := 3) rfl ?_); refine box_event ?hg (N := 3) ?hd (cs := #[.slice A0_0 l0_0.length c0_0, .int .i64 a0_1]) (t := 32) ?hr ?_; (case hd => rfl); (case hg => rfl); (case hr => first | (go_simp; done) | (go_simp; rfl)); intro gb238 hg w9 hbox hb; have n0_ := zm (below_step zb hb); have BK238 := zm (hbox); have GW238 := zm (zs hg zb : w.heap.size ≤ gb238); have GE238 := zm (zs hg zb : w.heap.size ≤ gb238); replace HB := n0_; clear n0_; clear hb hbox hg) | ((with_reducible refine gate_dst (N := 5) rfl ?_); refine box_event ?hg (N := 5) ?hd (cs := #[.int .i64 a2_0, .int .i64 a2_1, .int .i64 a2_2]) (t := 36) ?hr ?_; (case hd => rfl); (case hg => rfl); (case hr => first | (go_simp; done) | (go_simp; rfl)); intro gb239 hg w10 hbox hb; have n0_ := zm (blk_below (g := gb238) zk hb); have n1_ := zm (below_step zb hb); have BK239 := zm (hbox); have GW239 := zm (zs hg zb : w.heap.size ≤ gb239); have GE239 := zm (zs hg zb : w.heap.size ≤ gb239); have NB238_239 := zm (zl hg zk : gb238 ≠ gb239); have NB239_238 := zm (zg hg zk : gb239 ≠ gb238); replace BK238 := n0_; replace HB := n1_; clear n0_ n1_; clear hb hbox hg; have hnb11 := NB238_239.out; have hnc11 := NB239_238.out; obtain ⟨hcz12_0, hcz12_1, hfz12_0, hfz12_1⟩ := zc2 BK238.out) | ((with_reducible refine gate_callee (f := 41) rfl ?_); refine goesA_ (some 8) Tryd.func41 #[.agg #[.slice A0_0 l0_0.length c0_0, .int .i64 a0_1]] rfl ?_; (with_reducible refine (impl_IsInstrument.calls k _ _ l0_0 a0_1 true _ ?side1 ?side2 A4.out).mono ?_); (case side1 => repeat (first | exact (Kd.C_below HR0_0.out HB.out) | (with_reducible refine Kd.C_alloc ?_ _) | (with_reducible refine Kd.C_drewN ?_ _) | (with_reducible refine Kd.C_drew ?_))); (case side2 => exact HC0_0.out); rintro e w13 ⟨rfl, hb⟩; refine ⟨_, rfl, ?_⟩; have n0_ := zm (blk_below (g := gb238) zk hb); replace BK239 := zm (blk_below (g := gb239) zk hb); replace HB := zm (below_step zb hb); replace BK238 := n0_; clear n0_; (try clear hb); (try clear hb2); (try clear hk); (try clear hi)) | (go_at_call 42; (with_reducible refine (impl_IsSheet.calls k _ _ l1 true _ ?side1 ?side2 A6.out).mono ?_); (case side1 => repeat (first | exact (Kd.C_below HR1.out HB.out) | (with_reducible refine Kd.C_alloc ?_ _) | (with_reducible refine Kd.C_drewN ?_ _) | (with_reducible refine Kd.C_drew ?_))); (case side2 => exact HC1.out); rintro e w14 ⟨rfl, hb⟩; have n0_ := zm (blk_below (g := gb238) zk hb); replace BK239 := zm (blk_below (g := gb239) zk hb); replace HB := zm (below_step zb hb); replace BK238 := n0_; clear n0_; (try clear hb); (try clear hb2); (try clear hk); (try clear hi); obtain ⟨hcz15_0, hcz15_1, hcz15_2, hfz15_0, hfz15_1, hfz15_2⟩ := zc3 BK239.out) | (go_at_call 43; (with_reducible refine (impl_IsAction.calls a2_0 a2_1 a2_2 t242 _ A8.out).mono ?_); rintro e w16 ⟨rfl, hb⟩; have n0_ := zm (blk_below (g := gb238) zk hb); replace BK239 := zm (blk_below (g := gb239) zk hb); replace HB := zm (below_step zb hb); replace BK238 := n0_; clear n0_; (try clear hb); (try clear hb2); (try clear hk); (try clear hi)))
 go_ret
 exact ⟨zr, zb⟩
theorem impl_spoken.zeroM84 (w : World) : (zeroValue 3).run Tryd.prog w = .ok ((Value.int .i64) (0 : Int)) w := by kernel_rfl
/-! ### impl_spoken: function 27 -/
def impl_spoken.l0 : Nat → List (S56) → List Int → List (S60) → Int → Int → List Int → Int → Int → Int → Int → List (Int × Int) → Option ((List (S56)) × List Int)
  | 0, _, _, _, _, _, _, _, _, _, _, _ => none
  | k + 1, x8, x9, x20, x21, x22, x244000, x244001, x245000, x245001, x245002, x252000 => if x22 < x21 then (if 0 ≤ x22 then (if x22 < (x20.length : Int) then (if ((rd_T60 x20 x22).f0) ≥ (x244000.length : Int) then (if x9.length < 17592186044416 then (impl_spoken.l0 k x8 (x9 ++ [x22]) x20 x21 (wrap64 (x22 + 1)) x244000 x244001 x245000 x245001 x245002 x252000) else (none)) else (if (wrap64 (((rd_T60 x20 x22).f2) - ((rd_T60 x20 x22).f1))) < x245002 then (if x9.length < 17592186044416 then (impl_spoken.l0 k x8 (x9 ++ [x22]) x20 x21 (wrap64 (x22 + 1)) x244000 x244001 x245000 x245001 x245002 x252000) else (none)) else (if Mp.mhas x252000 ((rd_T60 x20 x22).f0) = true then (if (wrap64 (((rd_T60 x20 x22).f1) - (Mp.mget (0 : Int) x252000 ((rd_T60 x20 x22).f0)))) < (wrap64 (2 * x244001)) then (if x9.length < 17592186044416 then (impl_spoken.l0 k x8 (x9 ++ [x22]) x20 x21 (wrap64 (x22 + 1)) x244000 x244001 x245000 x245001 x245002 x252000) else (none)) else (if (wrap64 (((rd_T60 x20 x22).f1) + x245000)) ≥ (wrap64 (((rd_T60 x20 x22).f2) + x245001)) then (if x9.length < 17592186044416 then (impl_spoken.l0 k x8 (x9 ++ [x22]) x20 x21 (wrap64 (x22 + 1)) x244000 x244001 x245000 x245001 x245002 x252000) else (none)) else (if 0 ≤ ((rd_T60 x20 x22).f0) then (if ((rd_T60 x20 x22).f0) < (x244000.length : Int) then (if x8.length < 5864062014805 then (impl_spoken.l0 k (x8 ++ [(⟨rd x244000 ((rd_T60 x20 x22).f0), wrap64 (((rd_T60 x20 x22).f1) + x245000), wrap64 (((rd_T60 x20 x22).f2) + x245001)⟩ : S56)]) x9 x20 x21 (wrap64 (x22 + 1)) x244000 x244001 x245000 x245001 x245002 (Mp.mput x252000 ((rd_T60 x20 x22).f0) ((rd_T60 x20 x22).f1))) else (none)) else (none)) else (none)))) else (if (wrap64 (((rd_T60 x20 x22).f1) + x245000)) ≥ (wrap64 (((rd_T60 x20 x22).f2) + x245001)) then (if x9.length < 17592186044416 then (impl_spoken.l0 k x8 (x9 ++ [x22]) x20 x21 (wrap64 (x22 + 1)) x244000 x244001 x245000 x245001 x245002 x252000) else (none)) else (if 0 ≤ ((rd_T60 x20 x22).f0) then (if ((rd_T60 x20 x22).f0) < (x244000.length : Int) then (if x8.length < 5864062014805 then (impl_spoken.l0 k (x8 ++ [(⟨rd x244000 ((rd_T60 x20 x22).f0), wrap64 (((rd_T60 x20 x22).f1) + x245000), wrap64 (((rd_T60 x20 x22).f2) + x245001)⟩ : S56)]) x9 x20 x21 (wrap64 (x22 + 1)) x244000 x244001 x245000 x245001 x245002 (Mp.mput x252000 ((rd_T60 x20 x22).f0) ((rd_T60 x20 x22).f1))) else (none)) else (none)) else (none)))))) else (none)) else (none)) else (some (x8, x9))
def impl_spoken.f (k : Nat) (l0_0 : List Int) (a0_1 : Int) (l1 : List (S60)) (a2_0 : Int) (a2_1 : Int) (a2_2 : Int) : Option ((List (S56)) × List Int) := impl_spoken.l0 k (([] : List (S56))) (([] : List Int)) l1 (l1.length : Int) 0 l0_0 a0_1 a2_0 a2_1 a2_2 ([] : List (Int × Int))
theorem impl_spoken.mono_l : ∀ k, (∀ y0 y1 y2 y3 y4 y5 y6 y7 y8 y9 y10, LeO (impl_spoken.l0 k y0 y1 y2 y3 y4 y5 y6 y7 y8 y9 y10) (impl_spoken.l0 (k + 1) y0 y1 y2 y3 y4 y5 y6 y7 y8 y9 y10))
  | 0 => fun _ _ _ _ _ _ _ _ _ _ _ r h => by simp [impl_spoken.l0] at h
  | k + 1 => by
    have ih0 := impl_spoken.mono_l k
    · intro y0 y1 y2 y3 y4 y5 y6 y7 y8 y9 y10
      unfold impl_spoken.l0
      repeat' first
      | (with_reducible exact ih0 _ _ _ _ _ _ _ _ _ _ _)
      | (with_reducible exact LeO.refl _)
      | (with_reducible exact LeO.none _)
      | (with_reducible refine LeO.ite ?_ ?_)
      | (with_reducible refine LeO.bind ?_ (fun _ => ?_))
      | exact ih0 _ _ _ _ _ _ _ _ _ _ _
      | exact LeO.none _
      | refine LeO.ite ?_ ?_
      | refine LeO.bind ?_ (fun _ => ?_)
theorem impl_spoken.mono : ∀ a0 a1 a2 a3 a4 a5 k, LeO (impl_spoken.f k a0 a1 a2 a3 a4 a5) (impl_spoken.f (k + 1) a0 a1 a2 a3 a4 a5) := by
  intro a0 a1 a2 a3 a4 a5 k
  have ih0 := impl_spoken.mono_l k
  unfold impl_spoken.f
  repeat' first
      | (with_reducible exact ih0 _ _ _ _ _ _ _ _ _ _ _)
      | (with_reducible exact LeO.refl _)
      | (with_reducible exact LeO.none _)
      | (with_reducible refine LeO.ite ?_ ?_)
      | (with_reducible refine LeO.bind ?_ (fun _ => ?_))
      | exact ih0 _ _ _ _ _ _ _ _ _ _ _
      | exact LeO.none _
      | refine LeO.ite ?_ ?_
      | refine LeO.bind ?_ (fun _ => ?_)
theorem impl_spoken.gq {P : Program} {i : Nat} {ops : Array Oper} {Q : Exit → Act → World → Prop} {a : Act} {W : World} (h : (Code.region i ops true).wp P Q a W) : (Code.region i ops true).wp P Q a W := h

set_option maxHeartbeats 8000000 in
set_option maxRecDepth 100000 in
theorem impl_spoken.calls (k : Nat) (A0_0 : Option Addr) (c0_0 : Nat) (l0_0 : List Int) (a0_1 : Int) (A1 : Option Addr) (c1 : Nat) (l1 : List (S60)) (a2_0 : Int) (a2_1 : Int) (a2_2 : Int) (r1 : List (S56)) (r2 : List Int) (w : World) (hr0_0 : Kd.C (Kd.int .i64) w A0_0 l0_0.length l0_0) (hc0_0 : l0_0.length ≤ c0_0) (hr1 : Kd.C k60 w A1 l1.length l1) (hc1 : l1.length ≤ c1) (h : impl_spoken.f k l0_0 a0_1 l1 a2_0 a2_1 a2_2 = some (r1, r2)) :
  Calls Tryd.prog 27 #[.agg #[.slice A0_0 l0_0.length c0_0, .int .i64 a0_1], .slice A1 l1.length c1, .agg #[.int .i64 a2_0, .int .i64 a2_1, .int .i64 a2_2]] w fun e w' => ∃ v0_ v1_ : Value, e = .returned (.tuple #[v0_, v1_]) ∧ Kd.R k56 56 w' w.heap.size (fun _ => True) v0_ r1 ∧ Kd.R (Kd.int .i64) 3 w' w.heap.size (fun _ => True) v1_ r2 ∧ Below w.heap.size w w' := by
 have hu32 := Tryd.underlying32
 have hu36 := Tryd.underlying36
 have hu60 := Tryd.underlying60
 have hu56 := Tryd.underlying56
 have HR0_0 := zm hr0_0
 have HC0_0 := zm hc0_0
 clear hr0_0 hc0_0
 have HR1 := zm hr1
 have HC1 := zm hc1
 clear hr1 hc1
 have HB := zm (Below.refl w.heap.size w)
 have H : (impl_spoken.l0 k (([] : List (S56))) (([] : List Int)) l1 (l1.length : Int) 0 l0_0 a0_1 a2_0 a2_1 a2_2 ([] : List (Int × Int))) = some (r1, r2) := h
 clear h
 obtain ⟨y245, hy245⟩ : ∃ y_ : List (S56), y_ = (([] : List (S56))) := ⟨_, rfl⟩
 replace H : (impl_spoken.l0 k y245 (([] : List Int)) l1 (l1.length : Int) 0 l0_0 a0_1 a2_0 a2_1 a2_2 ([] : List (Int × Int))) = some (r1, r2) := by first | (rw [hy245]; with_reducible exact H) | (have H2_ := (Option.bind_some _ _).symm.trans H; rw [hy245]; with_reducible exact H2_) | (have H2_ := (Option.bind_some _ _).symm.trans H; with_reducible exact H2_) | with_reducible exact H | (rw [hy245]; exact H) | exact H
 have Ny245 := zm hy245
 clear hy245
 obtain ⟨y248, hy248⟩ : ∃ y_ : List Int, y_ = (([] : List Int)) := ⟨_, rfl⟩
 replace H : (impl_spoken.l0 k y245 y248 l1 (l1.length : Int) 0 l0_0 a0_1 a2_0 a2_1 a2_2 ([] : List (Int × Int))) = some (r1, r2) := by first | (rw [hy248]; with_reducible exact H) | (have H2_ := (Option.bind_some _ _).symm.trans H; rw [hy248]; with_reducible exact H2_) | (have H2_ := (Option.bind_some _ _).symm.trans H; with_reducible exact H2_) | with_reducible exact H | (rw [hy248]; exact H) | exact H
 have Ny248 := zm hy248
 clear hy248
 have H' := zm H
 clear H
 go_enter Tryd.func27, Tryd.ntmps27
 go_wp2_with (first | ((with_reducible refine gate_dst (N := 3) rfl ?_); refine box_event ?hg (N := 3) ?hd (cs := #[.slice A0_0 l0_0.length c0_0, .int .i64 a0_1]) (t := 32) ?hr ?_; (case hd => rfl); (case hg => rfl); (case hr => first | (go_simp; done) | (go_simp; rfl)); intro gb243 hg w4 hbox hb; have n0_ := zm (below_step zb hb); have BK243 := zm (hbox); have GW243 := zm (zs hg zb : w.heap.size ≤ gb243); have GE243 := zm (zs hg zb : w.heap.size ≤ gb243); replace HB := n0_; clear n0_; clear hb hbox hg) | ((with_reducible refine gate_dst (N := 5) rfl ?_); refine box_event ?hg (N := 5) ?hd (cs := #[.int .i64 a2_0, .int .i64 a2_1, .int .i64 a2_2]) (t := 36) ?hr ?_; (case hd => rfl); (case hg => rfl); (case hr => first | (go_simp; done) | (go_simp; rfl)); intro gb244 hg w5 hbox hb; have n0_ := zm (blk_below (g := gb243) zk hb); have n1_ := zm (below_step zb hb); have BK244 := zm (hbox); have GW244 := zm (zs hg zb : w.heap.size ≤ gb244); have GE244 := zm (zs hg zb : w.heap.size ≤ gb244); have NB243_244 := zm (zl hg zk : gb243 ≠ gb244); have NB244_243 := zm (zg hg zk : gb244 ≠ gb243); replace BK243 := n0_; replace HB := n1_; clear n0_ n1_; clear hb hbox hg) | ((with_reducible refine gate_dst (N := 17) rfl ?_); refine Kd.R_lit k56 _ 56 ?hg (N := 17) ?hd (xs := ([] : List (S56))) (inner := []) (ok := fun _ => True) (okp := fun _ => True) ?hr ?hp (fun _ hk => hk) trivial (Below.refl _ _) (Nat.le_refl _) (by simp) ?_; (case hd => rfl); (case hg => rfl); (case hr => first | (go_simp; done) | (go_simp; rfl)); (case hp => exact (Reps.none _ _)); intro v246 w6 ho7 hb hg_ hnew_; clear hg_ hnew_; (first | rw [← Ny245.out] at ho7 | (simp only [Int.reduceToNat] at ho7; rw [← Ny245.out] at ho7)); have HO247 := zm (Kd.R_lower ho7 (below_size zb)); have n1_ := zm (blk_below (g := gb243) zk hb); replace BK244 := zm (blk_below (g := gb244) zk hb); replace HB := zm (below_step zb hb); replace BK243 := n1_; clear n1_; clear hb ho7) | ((with_reducible refine gate_dst (N := 18) rfl ?_); refine Kd.R_lit (Kd.int .i64) _ 3 ?hg (N := 18) ?hd (xs := ([] : List Int)) (inner := []) (ok := fun _ => True) (okp := fun _ => True) ?hr ?hp (fun _ hk => hk) trivial (Below.refl _ _) (Nat.le_refl _) (by simp) ?_; (case hd => rfl); (case hg => rfl); (case hr => first | (go_simp; done) | (go_simp; rfl)); (case hp => exact (Reps.none _ _)); intro v249 w8 ho9 hb hg_ hnew_; clear hg_ hnew_; (first | rw [← Ny248.out] at ho9 | (simp only [Int.reduceToNat] at ho9; rw [← Ny248.out] at ho9)); replace HO247 := zm (Kd.R_below (zP HO247.out) hb); have HO250 := zm (Kd.R_lower ho9 (below_size zb)); have n2_ := zm (blk_below (g := gb243) zk hb); replace BK244 := zm (blk_below (g := gb244) zk hb); replace HB := zm (below_step zb hb); replace BK243 := n2_; clear n2_; clear hb ho9) | ((with_reducible refine gate_dst (N := 19) rfl ?_); refine Mp.make_event (Value.int .i64) ?hg (N := 19) ?hd (t := 84) ?ho ?_; (case hd => rfl); (case hg => rfl); (case ho => rfl); intro gb251 hg w10 hbox hb; replace HO247 := zm (Kd.R_below (zP HO247.out) hb); replace HO250 := zm (Kd.R_below (zP HO250.out) hb); have n2_ := zm (blk_below (g := gb243) zk hb); have n3_ := zm (blk_below (g := gb244) zk hb); have n4_ := zm (below_step zb hb); have BK251 := zm (hbox); have GW251 := zm (zs hg zb : w.heap.size ≤ gb251); have GE251 := zm (zs hg zb : w.heap.size ≤ gb251); have NB243_251 := zm (zl hg zk : gb243 ≠ gb251); have NB251_243 := zm (zg hg zk : gb251 ≠ gb243); have NB244_251 := zm (zl hg zk : gb244 ≠ gb251); have NB251_244 := zm (zg hg zk : gb251 ≠ gb244); replace BK243 := n2_; replace BK244 := n3_; replace HB := n4_; clear n2_ n3_ n4_; clear hb hbox hg) | ((with_reducible refine impl_spoken.gq ?_); go_quiet (fail)))
 go_loopg [8, 9, 22] k (fun kq v8 v9 v22 w' => ∃ (x8_1 : List (S56)) (x9_1 : List Int) (x22_1 : Int) (x252000_1 : List (Int × Int)), v22 = .int .i64 x22_1 ∧ Aside0 (impl_spoken.l0 kq x8_1 x9_1 l1 (l1.length : Int) x22_1 l0_0 a0_1 a2_0 a2_1 a2_2 x252000_1 = some (r1, r2)) ∧ Aside0 (kq ≤ k) ∧ Aside0 (Kd.R k56 56 w' w.heap.size (fun _ => True) v8 x8_1) ∧ Aside0 (Kd.R (Kd.int .i64) 3 w' w.heap.size (fun _ => True) v9 x9_1) ∧ Aside0 (w'.heap[gb243]? = some (.cells #[(.slice A0_0 l0_0.length c0_0), .int .i64 a0_1] 32 (0, 0))) ∧ Aside0 (w'.heap[gb244]? = some (.cells #[.int .i64 a2_0, .int .i64 a2_1, .int .i64 a2_2] 36 (0, 0))) ∧ Aside0 (w'.heap[gb251]? = some (Mp.mObj (Value.int .i64) x252000_1)) ∧ Aside0 (Below w.heap.size w w'))
 case atStart => exact ⟨(y245), (y248), (0), (([] : List (Int × Int))), (by first | rfl | (simp; done) | (simp [*]; done)), H', ⟨Nat.le_refl _⟩, ⟨zP HO247.out⟩, ⟨zP HO250.out⟩, ⟨zk⟩, ⟨zk⟩, ⟨zk⟩, ⟨zb⟩⟩
 case round =>
  clear H'
  (try clear c1); (try clear c2); (try clear p2)
  obtain ⟨x8_1, x9_1, x22_1, x252000_1, rfl, HA, HK1, HO_8, HO_9, BK243, BK244, BK251, HB⟩ := hrel
  cases gk with
  | zero => exact absurd HA.out (by simp [impl_spoken.l0])
  | succ k1 =>
   have H := HA.out
   clear HA
   simp only [impl_spoken.l0] at H
   by_cases c11 : x22_1 < (l1.length : Int)
   rotate_left
   ·
    rw [if_neg c11] at H
    have c11b0 : decide (x22_1 < (l1.length : Int)) = false := decide_eq_false c11
    clear c11
    simp only [Option.some.injEq, Prod.mk.injEq] at H
    obtain ⟨rfl, rfl⟩ := H
    go_wp2
    repeat (go_quiet (fail); try go_wp2)
    go_ret2
    exact ⟨_, _, zr, zP HO_8.out, zP HO_9.out, zb⟩

   rw [if_pos c11] at H
   have c11b0 : decide (x22_1 < (l1.length : Int)) = true := decide_eq_true c11
   clear c11
   by_cases c12 : 0 ≤ x22_1
   rotate_left
   ·
    rw [if_neg c12] at H
    exact absurd H (by simp)
   rw [if_pos c12] at H
   have c12b0 : decide (0 ≤ x22_1) = true := decide_eq_true c12
   clear c12
   by_cases c13 : x22_1 < (l1.length : Int)
   rotate_left
   ·
    rw [if_neg c13] at H
    exact absurd H (by simp)
   rw [if_pos c13] at H
   have c13b0 : decide (x22_1 < (l1.length : Int)) = true := decide_eq_true c13
   clear c13
   by_cases c14 : ((rd_T60 l1 x22_1).f0) ≥ (l0_0.length : Int)
   ·
    rw [if_pos c14] at H
    have c14b0 : decide ((l0_0.length : Int) ≤ ((rd_T60 l1 x22_1).f0)) = true := decide_eq_true c14
    clear c14
    by_cases c15 : x9_1.length < 17592186044416
    rotate_left
    ·
     rw [if_neg c15] at H
     exact absurd H (by simp)
    rw [if_pos c15] at H
    have LMc15 := zm c15
    clear c15
    obtain ⟨y254, hy254⟩ : ∃ y_ : List Int, y_ = (x9_1 ++ [x22_1]) := ⟨_, rfl⟩
    replace H : (impl_spoken.l0 k1 x8_1 y254 l1 (l1.length : Int) (wrap64 (x22_1 + 1)) l0_0 a0_1 a2_0 a2_1 a2_2 x252000_1) = some (r1, r2) := by first | (rw [hy254]; with_reducible exact H) | (have H2_ := (Option.bind_some _ _).symm.trans H; rw [hy254]; with_reducible exact H2_) | (have H2_ := (Option.bind_some _ _).symm.trans H; with_reducible exact H2_) | with_reducible exact H | (rw [hy254]; exact H) | exact H
    have Ny254 := zm hy254
    clear hy254
    have H' := zm H
    clear H
    have p252 : 0 ≤ (x22_1 : Int) := zd
    have q252 : x22_1 < (l1.length : Int) := zd
    obtain ⟨ad252, e252, hx252_0, hx252_1, hx252_2⟩ := at_T60 HR1.out x22_1 p252 q252
    cases e252
    replace hx252_0 := zx HB.out hx252_0
    replace hx252_1 := zx HB.out hx252_1
    replace hx252_2 := zx HB.out hx252_2
    replace p252 := eq_true p252
    replace q252 := eq_true q252
    go_wp2_with (first | ((with_reducible refine gate_dst (N := 12) rfl ?_); refine box_event ?hg (N := 12) ?hd (cs := #[.int .i64 0, .int .i64 0, .int .i64 0]) (t := 60) ?hr ?_; (case hd => rfl); (case hg => rfl); (case hr => first | (go_simp; done) | (go_simp; rfl)); intro gb253 hg w16 hbox hb; replace HO_8 := zm (Kd.R_below (zP HO_8.out) hb); replace HO_9 := zm (Kd.R_below (zP HO_9.out) hb); have n2_ := zm (blk_below (g := gb243) zk hb); have n3_ := zm (blk_below (g := gb244) zk hb); have n4_ := zm (blk_below (g := gb251) zk hb); have n5_ := zm (below_step zb hb); have BK253 := zm (hbox); have GW253 := zm (zs hg zb : w.heap.size ≤ gb253); have GE253 := zm (zs hg zb : w.heap.size ≤ gb253); have NB243_253 := zm (zl hg zk : gb243 ≠ gb253); have NB253_243 := zm (zg hg zk : gb253 ≠ gb243); have NB244_253 := zm (zl hg zk : gb244 ≠ gb253); have NB253_244 := zm (zg hg zk : gb253 ≠ gb244); have NB251_253 := zm (zl hg zk : gb251 ≠ gb253); have NB253_251 := zm (zg hg zk : gb253 ≠ gb251); replace BK243 := n2_; replace BK244 := n3_; replace BK251 := n4_; replace HB := n5_; clear n2_ n3_ n4_ n5_; clear hb hbox hg; have hnb17 := NB253_243.out; have hnc17 := NB243_253.out; have hnb18 := NB253_244.out; have hnc18 := NB244_253.out; have hnb19 := NB253_251.out; have hnc19 := NB251_253.out; obtain ⟨hcz20_0, hcz20_1, hcz20_2, hfz20_0, hfz20_1, hfz20_2⟩ := zc3 BK253.out) | ((with_reducible refine gate_store (t := 60) (p := 12) rfl ?_); (try (rw [drewN_self w16]; generalize hq_ : World.drewN w16 _ = w16; have n0_ := zm (Kd.R_at hq_ HO_8.out); have n1_ := zm (Kd.R_at hq_ HO_9.out); have n2_ := zm (blk_at hq_ BK243.out); have n3_ := zm (blk_at hq_ BK244.out); have n4_ := zm (blk_at hq_ BK251.out); have n5_ := zm (blk_at hq_ BK253.out); have n6_ := zm (below_at hq_ HB.out); clear hq_ HO_8 HO_9 BK243 BK244 BK251 BK253 HB; have HO_8 := n0_; have HO_9 := n1_; have BK243 := n2_; have BK244 := n3_; have BK251 := n4_; have BK253 := n5_; have HB := n6_; clear n0_ n1_ n2_ n3_ n4_ n5_ n6_)); refine store_event (t := 60) (p := 12) (v := ?vo_w21) (w1 := (((w16.setCell ⟨gb253, 0, none⟩ (.int .i64 ((rd_T60 l1 x22_1).f0))).setCell ⟨gb253, 1, none⟩ (.int .i64 ((rd_T60 l1 x22_1).f1))).setCell ⟨gb253, 2, none⟩ (.int .i64 ((rd_T60 l1 x22_1).f2)))) ?hg ?ho ?hn ?hr ?_; (case ho => rfl); (case hg => rfl); (case hn => rfl); (case hr => first | (go_simp; done) | (go_simp; rfl)); intro w21 hw; have n0_ : Aside0 (Kd.R k56 56 w21 w.heap.size (fun _ => True) u8 x8_1) := ⟨(by rw [hw]; exact (zP (Kd.R_mono (Kd.R_far (p := ⟨gb253, 2, none⟩) (Kd.R_far (p := ⟨gb253, 1, none⟩) (Kd.R_far (p := ⟨gb253, 0, none⟩) (Kd.R_types HO_8.out BK253.out (by decide)) (fun _ hk => hk.2) (.int .i64 ((rd_T60 l1 x22_1).f0))) (fun _ hk => hk.2) (.int .i64 ((rd_T60 l1 x22_1).f1))) (fun _ hk => hk.2) (.int .i64 ((rd_T60 l1 x22_1).f2))) (fun _ hk => trivial))))⟩; have n1_ : Aside0 (Kd.R (Kd.int .i64) 3 w21 w.heap.size (fun _ => True) u9 x9_1) := ⟨(by rw [hw]; exact (zP (Kd.R_mono (Kd.R_far (p := ⟨gb253, 2, none⟩) (Kd.R_far (p := ⟨gb253, 1, none⟩) (Kd.R_far (p := ⟨gb253, 0, none⟩) (Kd.R_types HO_9.out BK253.out (by decide)) (fun _ hk => hk.2) (.int .i64 ((rd_T60 l1 x22_1).f0))) (fun _ hk => hk.2) (.int .i64 ((rd_T60 l1 x22_1).f1))) (fun _ hk => hk.2) (.int .i64 ((rd_T60 l1 x22_1).f2))) (fun _ hk => trivial))))⟩; have n2_ : Aside0 (w21.heap[gb243]? = some (.cells #[.slice A0_0 l0_0.length c0_0, .int .i64 a0_1] 32 (0, 0))) := ⟨(by rw [hw]; exact zK)⟩; have n3_ : Aside0 (w21.heap[gb244]? = some (.cells #[.int .i64 a2_0, .int .i64 a2_1, .int .i64 a2_2] 36 (0, 0))) := ⟨(by rw [hw]; exact zK)⟩; have n4_ : Aside0 (w21.heap[gb251]? = some (Mp.mObj (Value.int .i64) x252000_1)) := ⟨(by rw [hw]; exact (by (with_reducible repeat (first | refine blk_drewN ?_ _ | refine blk_drew ?_ | refine blk_alloc ?_ _)); refine Mp.far ?_ NB251_253.out _; (with_reducible repeat (first | refine blk_drewN ?_ _ | refine blk_drew ?_ | refine blk_alloc ?_ _)); refine Mp.far ?_ NB251_253.out _; (with_reducible repeat (first | refine blk_drewN ?_ _ | refine blk_drew ?_ | refine blk_alloc ?_ _)); refine Mp.far ?_ NB251_253.out _; (with_reducible repeat (first | refine blk_drewN ?_ _ | refine blk_drew ?_ | refine blk_alloc ?_ _)); exact BK251.out))⟩; have n5_ : Aside0 (w21.heap[gb253]? = some (.cells #[.int .i64 ((rd_T60 l1 x22_1).f0), .int .i64 ((rd_T60 l1 x22_1).f1), .int .i64 ((rd_T60 l1 x22_1).f2)] 60 (0, 0))) := ⟨(by rw [hw]; exact (by (with_reducible repeat (first | refine blk_drewN ?_ _ | refine blk_drew ?_ | refine blk_alloc ?_ _)); refine blk_put (cs := #[.int .i64 ((rd_T60 l1 x22_1).f0), .int .i64 ((rd_T60 l1 x22_1).f1), .int .i64 0]) ?_ 2 _ rfl; (with_reducible repeat (first | refine blk_drewN ?_ _ | refine blk_drew ?_ | refine blk_alloc ?_ _)); refine blk_put (cs := #[.int .i64 ((rd_T60 l1 x22_1).f0), .int .i64 0, .int .i64 0]) ?_ 1 _ rfl; (with_reducible repeat (first | refine blk_drewN ?_ _ | refine blk_drew ?_ | refine blk_alloc ?_ _)); refine blk_put (cs := #[.int .i64 0, .int .i64 0, .int .i64 0]) ?_ 0 _ rfl; (with_reducible repeat (first | refine blk_drewN ?_ _ | refine blk_drew ?_ | refine blk_alloc ?_ _)); exact BK253.out))⟩; have n6_ : Aside0 (Below w.heap.size w w21) := ⟨(by rw [hw]; exact zb)⟩; clear hw; clear HO_8; clear HO_9; clear BK243; clear BK244; clear BK251; clear BK253; clear HB; have HO_8 := n0_; have HO_9 := n1_; have BK243 := n2_; have BK244 := n3_; have BK251 := n4_; have BK253 := n5_; have HB := n6_; clear n0_ n1_ n2_ n3_ n4_ n5_ n6_; obtain ⟨hcz22_0, hcz22_1, hcz22_2, hfz22_0, hfz22_1, hfz22_2⟩ := zc3 BK253.out; have hnb23 := NB251_243.out; have hnc23 := NB243_251.out; have hnb24 := NB251_244.out; have hnc24 := NB244_251.out; have hlz25_true : ∀ k_ : Int, (Instr.lookup 84 (.map (some gb251)) (.int .i64 k_) true).run Tryd.prog w21 = .ok (.tuple #[(Value.int .i64) (Mp.mget (0 : Int) x252000_1 k_), .bool (Mp.mhas x252000_1 k_)]) w21 := fun k_ => Mp.run_lookup (enc := (Value.int .i64)) Tryd.underlying84 Tryd.underlying3 (0 : Int) (fun w_ => impl_spoken.zeroM84 w_) BK251.out k_ true; have hlz25_false : ∀ k_ : Int, (Instr.lookup 84 (.map (some gb251)) (.int .i64 k_) false).run Tryd.prog w21 = .ok ((Value.int .i64) (Mp.mget (0 : Int) x252000_1 k_)) w21 := fun k_ => Mp.run_lookup (enc := (Value.int .i64)) Tryd.underlying84 Tryd.underlying3 (0 : Int) (fun w_ => impl_spoken.zeroM84 w_) BK251.out k_ false; have hlz25_truen : ∀ (n_ : Nat) (k_ : Int), (Instr.lookup 84 (.map (some gb251)) (.int .i64 k_) true).run Tryd.prog (w21.drewN n_) = .ok (.tuple #[(Value.int .i64) (Mp.mget (0 : Int) x252000_1 k_), .bool (Mp.mhas x252000_1 k_)]) (w21.drewN n_) := fun n_ k_ => Mp.run_lookup (enc := (Value.int .i64)) Tryd.underlying84 Tryd.underlying3 (0 : Int) (fun w_ => impl_spoken.zeroM84 w_) (show (w21.drewN n_).heap[gb251]? = _ from BK251.out) k_ true; have hlz25_falsen : ∀ (n_ : Nat) (k_ : Int), (Instr.lookup 84 (.map (some gb251)) (.int .i64 k_) false).run Tryd.prog (w21.drewN n_) = .ok ((Value.int .i64) (Mp.mget (0 : Int) x252000_1 k_)) (w21.drewN n_) := fun n_ k_ => Mp.run_lookup (enc := (Value.int .i64)) Tryd.underlying84 Tryd.underlying3 (0 : Int) (fun w_ => impl_spoken.zeroM84 w_) (show (w21.drewN n_).heap[gb251]? = _ from BK251.out) k_ false; have hnb26 := NB244_243.out; have hnc26 := NB243_244.out; obtain ⟨hcz27_0, hcz27_1, hcz27_2, hfz27_0, hfz27_1, hfz27_2⟩ := zc3 BK244.out; obtain ⟨hcz28_0, hcz28_1, hfz28_0, hfz28_1⟩ := zc2 BK243.out) | ((with_reducible refine gate_builtin (b := .append) (xs := #[.tmp 78, .tmp 80]) rfl ?_); at_builtin; refine Kd.R_append (Kd.int .i64) (w0 := w) w.heap.size rfl (.tmp 78) (.tmp 80) 22 3 (.int .i64 0) 8 rfl Tryd.underlying22 info3 rfl (by decide) (by omega) u9 x9_1 x22_1 [.int .i64 x22_1] (fun _ => True) (fun _ => False) rfl rfl ?aP (fun _ hk => hk.elim) ?aF ?aO ?aB ?aS ?aL ?_; (case aP => exact rfl); (case aB => exact zb); (case aF => exact (fun _ _ => trivial)); (case aO => exact (zP HO_9.out)); (case aS => exact (below_size zb)); (case aL => have := LMc15.out; omega); intro v255 w29 ho hb hg hat; rw [← Ny254.out] at ho; replace HO_8 := zm (Kd.R_over' (zP HO_8.out) (Kd.R_typed (zP HO_9.out)) (by decide) hg); have n1_ := zm (blk_grown (g := gb243) (o := .cells #[.slice A0_0 l0_0.length c0_0, .int .i64 a0_1] 32 (0, 0)) zk hg (Kd.R_ne HO_9.out BK243.out (by decide))); have n2_ := zm (blk_grown (g := gb244) (o := .cells #[.int .i64 a2_0, .int .i64 a2_1, .int .i64 a2_2] 36 (0, 0)) zk hg (Kd.R_ne HO_9.out BK244.out (by decide))); have n3_ := zm (blk_grown (g := gb251) (o := Mp.mObj (Value.int .i64) x252000_1) zk hg (Mp.R_ne HO_9.out BK251.out)); replace BK253 := zm (blk_grown (g := gb253) (o := .cells #[.int .i64 ((rd_T60 l1 x22_1).f0), .int .i64 ((rd_T60 l1 x22_1).f1), .int .i64 ((rd_T60 l1 x22_1).f2)] 60 (0, 0)) zk hg (Kd.R_ne HO_9.out BK253.out (by decide))); replace HB := zm (hb); have HO256 := zm (ho); replace BK243 := n1_; replace BK244 := n2_; replace BK251 := n3_; clear HO_9 n1_ n2_ n3_; clear ho hb hg hat) | ((with_reducible refine impl_spoken.gq ?_); go_quiet (fail)))
    go_roundg k1
    case measure => have := HK1.out; omega
    case rel => exact ⟨(x8_1), (y254), (wrap64 (x22_1 + 1)), (x252000_1), (by first | rfl | (simp; done) | (simp [*]; done)), H', ⟨by have := HK1.out; omega⟩, ⟨zP HO_8.out⟩, ⟨zP HO256.out⟩, ⟨zk⟩, ⟨zk⟩, ⟨zk⟩, ⟨zb⟩⟩
   rw [if_neg c14] at H
   have c14b0 : decide ((l0_0.length : Int) ≤ ((rd_T60 l1 x22_1).f0)) = false := decide_eq_false c14
   clear c14
   by_cases c30 : (wrap64 (((rd_T60 l1 x22_1).f2) - ((rd_T60 l1 x22_1).f1))) < a2_2
   ·
    rw [if_pos c30] at H
    have c30b0 : decide ((wrap64 (((rd_T60 l1 x22_1).f2) - ((rd_T60 l1 x22_1).f1))) < a2_2) = true := decide_eq_true c30
    clear c30
    by_cases c31 : x9_1.length < 17592186044416
    rotate_left
    ·
     rw [if_neg c31] at H
     exact absurd H (by simp)
    rw [if_pos c31] at H
    have LMc31 := zm c31
    clear c31
    obtain ⟨y257, hy257⟩ : ∃ y_ : List Int, y_ = (x9_1 ++ [x22_1]) := ⟨_, rfl⟩
    replace H : (impl_spoken.l0 k1 x8_1 y257 l1 (l1.length : Int) (wrap64 (x22_1 + 1)) l0_0 a0_1 a2_0 a2_1 a2_2 x252000_1) = some (r1, r2) := by first | (rw [hy257]; with_reducible exact H) | (have H2_ := (Option.bind_some _ _).symm.trans H; rw [hy257]; with_reducible exact H2_) | (have H2_ := (Option.bind_some _ _).symm.trans H; with_reducible exact H2_) | with_reducible exact H | (rw [hy257]; exact H) | exact H
    have Ny257 := zm hy257
    clear hy257
    have H' := zm H
    clear H
    have p252 : 0 ≤ (x22_1 : Int) := zd
    have q252 : x22_1 < (l1.length : Int) := zd
    obtain ⟨ad252, e252, hx252_0, hx252_1, hx252_2⟩ := at_T60 HR1.out x22_1 p252 q252
    cases e252
    replace hx252_0 := zx HB.out hx252_0
    replace hx252_1 := zx HB.out hx252_1
    replace hx252_2 := zx HB.out hx252_2
    replace p252 := eq_true p252
    replace q252 := eq_true q252
    go_wp2_with (first | ((with_reducible refine gate_dst (N := 12) rfl ?_); refine box_event ?hg (N := 12) ?hd (cs := #[.int .i64 0, .int .i64 0, .int .i64 0]) (t := 60) ?hr ?_; (case hd => rfl); (case hg => rfl); (case hr => first | (go_simp; done) | (go_simp; rfl)); intro gb253 hg w32 hbox hb; replace HO_8 := zm (Kd.R_below (zP HO_8.out) hb); replace HO_9 := zm (Kd.R_below (zP HO_9.out) hb); have n2_ := zm (blk_below (g := gb243) zk hb); have n3_ := zm (blk_below (g := gb244) zk hb); have n4_ := zm (blk_below (g := gb251) zk hb); have n5_ := zm (below_step zb hb); have BK253 := zm (hbox); have GW253 := zm (zs hg zb : w.heap.size ≤ gb253); have GE253 := zm (zs hg zb : w.heap.size ≤ gb253); have NB243_253 := zm (zl hg zk : gb243 ≠ gb253); have NB253_243 := zm (zg hg zk : gb253 ≠ gb243); have NB244_253 := zm (zl hg zk : gb244 ≠ gb253); have NB253_244 := zm (zg hg zk : gb253 ≠ gb244); have NB251_253 := zm (zl hg zk : gb251 ≠ gb253); have NB253_251 := zm (zg hg zk : gb253 ≠ gb251); replace BK243 := n2_; replace BK244 := n3_; replace BK251 := n4_; replace HB := n5_; clear n2_ n3_ n4_ n5_; clear hb hbox hg; have hnb33 := NB253_243.out; have hnc33 := NB243_253.out; have hnb34 := NB253_244.out; have hnc34 := NB244_253.out; have hnb35 := NB253_251.out; have hnc35 := NB251_253.out; obtain ⟨hcz36_0, hcz36_1, hcz36_2, hfz36_0, hfz36_1, hfz36_2⟩ := zc3 BK253.out) | ((with_reducible refine gate_store (t := 60) (p := 12) rfl ?_); (try (rw [drewN_self w32]; generalize hq_ : World.drewN w32 _ = w32; have n0_ := zm (Kd.R_at hq_ HO_8.out); have n1_ := zm (Kd.R_at hq_ HO_9.out); have n2_ := zm (blk_at hq_ BK243.out); have n3_ := zm (blk_at hq_ BK244.out); have n4_ := zm (blk_at hq_ BK251.out); have n5_ := zm (blk_at hq_ BK253.out); have n6_ := zm (below_at hq_ HB.out); clear hq_ HO_8 HO_9 BK243 BK244 BK251 BK253 HB; have HO_8 := n0_; have HO_9 := n1_; have BK243 := n2_; have BK244 := n3_; have BK251 := n4_; have BK253 := n5_; have HB := n6_; clear n0_ n1_ n2_ n3_ n4_ n5_ n6_)); refine store_event (t := 60) (p := 12) (v := ?vo_w37) (w1 := (((w32.setCell ⟨gb253, 0, none⟩ (.int .i64 ((rd_T60 l1 x22_1).f0))).setCell ⟨gb253, 1, none⟩ (.int .i64 ((rd_T60 l1 x22_1).f1))).setCell ⟨gb253, 2, none⟩ (.int .i64 ((rd_T60 l1 x22_1).f2)))) ?hg ?ho ?hn ?hr ?_; (case ho => rfl); (case hg => rfl); (case hn => rfl); (case hr => first | (go_simp; done) | (go_simp; rfl)); intro w37 hw; have n0_ : Aside0 (Kd.R k56 56 w37 w.heap.size (fun _ => True) u8 x8_1) := ⟨(by rw [hw]; exact (zP (Kd.R_mono (Kd.R_far (p := ⟨gb253, 2, none⟩) (Kd.R_far (p := ⟨gb253, 1, none⟩) (Kd.R_far (p := ⟨gb253, 0, none⟩) (Kd.R_types HO_8.out BK253.out (by decide)) (fun _ hk => hk.2) (.int .i64 ((rd_T60 l1 x22_1).f0))) (fun _ hk => hk.2) (.int .i64 ((rd_T60 l1 x22_1).f1))) (fun _ hk => hk.2) (.int .i64 ((rd_T60 l1 x22_1).f2))) (fun _ hk => trivial))))⟩; have n1_ : Aside0 (Kd.R (Kd.int .i64) 3 w37 w.heap.size (fun _ => True) u9 x9_1) := ⟨(by rw [hw]; exact (zP (Kd.R_mono (Kd.R_far (p := ⟨gb253, 2, none⟩) (Kd.R_far (p := ⟨gb253, 1, none⟩) (Kd.R_far (p := ⟨gb253, 0, none⟩) (Kd.R_types HO_9.out BK253.out (by decide)) (fun _ hk => hk.2) (.int .i64 ((rd_T60 l1 x22_1).f0))) (fun _ hk => hk.2) (.int .i64 ((rd_T60 l1 x22_1).f1))) (fun _ hk => hk.2) (.int .i64 ((rd_T60 l1 x22_1).f2))) (fun _ hk => trivial))))⟩; have n2_ : Aside0 (w37.heap[gb243]? = some (.cells #[.slice A0_0 l0_0.length c0_0, .int .i64 a0_1] 32 (0, 0))) := ⟨(by rw [hw]; exact zK)⟩; have n3_ : Aside0 (w37.heap[gb244]? = some (.cells #[.int .i64 a2_0, .int .i64 a2_1, .int .i64 a2_2] 36 (0, 0))) := ⟨(by rw [hw]; exact zK)⟩; have n4_ : Aside0 (w37.heap[gb251]? = some (Mp.mObj (Value.int .i64) x252000_1)) := ⟨(by rw [hw]; exact (by (with_reducible repeat (first | refine blk_drewN ?_ _ | refine blk_drew ?_ | refine blk_alloc ?_ _)); refine Mp.far ?_ NB251_253.out _; (with_reducible repeat (first | refine blk_drewN ?_ _ | refine blk_drew ?_ | refine blk_alloc ?_ _)); refine Mp.far ?_ NB251_253.out _; (with_reducible repeat (first | refine blk_drewN ?_ _ | refine blk_drew ?_ | refine blk_alloc ?_ _)); refine Mp.far ?_ NB251_253.out _; (with_reducible repeat (first | refine blk_drewN ?_ _ | refine blk_drew ?_ | refine blk_alloc ?_ _)); exact BK251.out))⟩; have n5_ : Aside0 (w37.heap[gb253]? = some (.cells #[.int .i64 ((rd_T60 l1 x22_1).f0), .int .i64 ((rd_T60 l1 x22_1).f1), .int .i64 ((rd_T60 l1 x22_1).f2)] 60 (0, 0))) := ⟨(by rw [hw]; exact (by (with_reducible repeat (first | refine blk_drewN ?_ _ | refine blk_drew ?_ | refine blk_alloc ?_ _)); refine blk_put (cs := #[.int .i64 ((rd_T60 l1 x22_1).f0), .int .i64 ((rd_T60 l1 x22_1).f1), .int .i64 0]) ?_ 2 _ rfl; (with_reducible repeat (first | refine blk_drewN ?_ _ | refine blk_drew ?_ | refine blk_alloc ?_ _)); refine blk_put (cs := #[.int .i64 ((rd_T60 l1 x22_1).f0), .int .i64 0, .int .i64 0]) ?_ 1 _ rfl; (with_reducible repeat (first | refine blk_drewN ?_ _ | refine blk_drew ?_ | refine blk_alloc ?_ _)); refine blk_put (cs := #[.int .i64 0, .int .i64 0, .int .i64 0]) ?_ 0 _ rfl; (with_reducible repeat (first | refine blk_drewN ?_ _ | refine blk_drew ?_ | refine blk_alloc ?_ _)); exact BK253.out))⟩; have n6_ : Aside0 (Below w.heap.size w w37) := ⟨(by rw [hw]; exact zb)⟩; clear hw; clear HO_8; clear HO_9; clear BK243; clear BK244; clear BK251; clear BK253; clear HB; have HO_8 := n0_; have HO_9 := n1_; have BK243 := n2_; have BK244 := n3_; have BK251 := n4_; have BK253 := n5_; have HB := n6_; clear n0_ n1_ n2_ n3_ n4_ n5_ n6_; obtain ⟨hcz38_0, hcz38_1, hcz38_2, hfz38_0, hfz38_1, hfz38_2⟩ := zc3 BK253.out; have hnb39 := NB251_243.out; have hnc39 := NB243_251.out; have hnb40 := NB251_244.out; have hnc40 := NB244_251.out; have hlz41_true : ∀ k_ : Int, (Instr.lookup 84 (.map (some gb251)) (.int .i64 k_) true).run Tryd.prog w37 = .ok (.tuple #[(Value.int .i64) (Mp.mget (0 : Int) x252000_1 k_), .bool (Mp.mhas x252000_1 k_)]) w37 := fun k_ => Mp.run_lookup (enc := (Value.int .i64)) Tryd.underlying84 Tryd.underlying3 (0 : Int) (fun w_ => impl_spoken.zeroM84 w_) BK251.out k_ true; have hlz41_false : ∀ k_ : Int, (Instr.lookup 84 (.map (some gb251)) (.int .i64 k_) false).run Tryd.prog w37 = .ok ((Value.int .i64) (Mp.mget (0 : Int) x252000_1 k_)) w37 := fun k_ => Mp.run_lookup (enc := (Value.int .i64)) Tryd.underlying84 Tryd.underlying3 (0 : Int) (fun w_ => impl_spoken.zeroM84 w_) BK251.out k_ false; have hlz41_truen : ∀ (n_ : Nat) (k_ : Int), (Instr.lookup 84 (.map (some gb251)) (.int .i64 k_) true).run Tryd.prog (w37.drewN n_) = .ok (.tuple #[(Value.int .i64) (Mp.mget (0 : Int) x252000_1 k_), .bool (Mp.mhas x252000_1 k_)]) (w37.drewN n_) := fun n_ k_ => Mp.run_lookup (enc := (Value.int .i64)) Tryd.underlying84 Tryd.underlying3 (0 : Int) (fun w_ => impl_spoken.zeroM84 w_) (show (w37.drewN n_).heap[gb251]? = _ from BK251.out) k_ true; have hlz41_falsen : ∀ (n_ : Nat) (k_ : Int), (Instr.lookup 84 (.map (some gb251)) (.int .i64 k_) false).run Tryd.prog (w37.drewN n_) = .ok ((Value.int .i64) (Mp.mget (0 : Int) x252000_1 k_)) (w37.drewN n_) := fun n_ k_ => Mp.run_lookup (enc := (Value.int .i64)) Tryd.underlying84 Tryd.underlying3 (0 : Int) (fun w_ => impl_spoken.zeroM84 w_) (show (w37.drewN n_).heap[gb251]? = _ from BK251.out) k_ false; have hnb42 := NB244_243.out; have hnc42 := NB243_244.out; obtain ⟨hcz43_0, hcz43_1, hcz43_2, hfz43_0, hfz43_1, hfz43_2⟩ := zc3 BK244.out; obtain ⟨hcz44_0, hcz44_1, hfz44_0, hfz44_1⟩ := zc2 BK243.out) | ((with_reducible refine gate_builtin (b := .append) (xs := #[.tmp 78, .tmp 80]) rfl ?_); at_builtin; refine Kd.R_append (Kd.int .i64) (w0 := w) w.heap.size rfl (.tmp 78) (.tmp 80) 22 3 (.int .i64 0) 8 rfl Tryd.underlying22 info3 rfl (by decide) (by omega) u9 x9_1 x22_1 [.int .i64 x22_1] (fun _ => True) (fun _ => False) rfl rfl ?aP (fun _ hk => hk.elim) ?aF ?aO ?aB ?aS ?aL ?_; (case aP => exact rfl); (case aB => exact zb); (case aF => exact (fun _ _ => trivial)); (case aO => exact (zP HO_9.out)); (case aS => exact (below_size zb)); (case aL => have := LMc31.out; omega); intro v258 w45 ho hb hg hat; rw [← Ny257.out] at ho; replace HO_8 := zm (Kd.R_over' (zP HO_8.out) (Kd.R_typed (zP HO_9.out)) (by decide) hg); have n1_ := zm (blk_grown (g := gb243) (o := .cells #[.slice A0_0 l0_0.length c0_0, .int .i64 a0_1] 32 (0, 0)) zk hg (Kd.R_ne HO_9.out BK243.out (by decide))); have n2_ := zm (blk_grown (g := gb244) (o := .cells #[.int .i64 a2_0, .int .i64 a2_1, .int .i64 a2_2] 36 (0, 0)) zk hg (Kd.R_ne HO_9.out BK244.out (by decide))); have n3_ := zm (blk_grown (g := gb251) (o := Mp.mObj (Value.int .i64) x252000_1) zk hg (Mp.R_ne HO_9.out BK251.out)); replace BK253 := zm (blk_grown (g := gb253) (o := .cells #[.int .i64 ((rd_T60 l1 x22_1).f0), .int .i64 ((rd_T60 l1 x22_1).f1), .int .i64 ((rd_T60 l1 x22_1).f2)] 60 (0, 0)) zk hg (Kd.R_ne HO_9.out BK253.out (by decide))); replace HB := zm (hb); have HO259 := zm (ho); replace BK243 := n1_; replace BK244 := n2_; replace BK251 := n3_; clear HO_9 n1_ n2_ n3_; clear ho hb hg hat) | ((with_reducible refine impl_spoken.gq ?_); go_quiet (fail)))
    go_roundg k1
    case measure => have := HK1.out; omega
    case rel => exact ⟨(x8_1), (y257), (wrap64 (x22_1 + 1)), (x252000_1), (by first | rfl | (simp; done) | (simp [*]; done)), H', ⟨by have := HK1.out; omega⟩, ⟨zP HO_8.out⟩, ⟨zP HO259.out⟩, ⟨zk⟩, ⟨zk⟩, ⟨zk⟩, ⟨zb⟩⟩
   rw [if_neg c30] at H
   have c30b0 : decide ((wrap64 (((rd_T60 l1 x22_1).f2) - ((rd_T60 l1 x22_1).f1))) < a2_2) = false := decide_eq_false c30
   clear c30
   by_cases c46 : Mp.mhas x252000_1 ((rd_T60 l1 x22_1).f0) = true
   rotate_left
   ·
    rw [if_neg c46] at H
    have c46b0 : Mp.mhas x252000_1 ((rd_T60 l1 x22_1).f0) = false := by simpa using c46
    clear c46
    by_cases c99 : (wrap64 (((rd_T60 l1 x22_1).f1) + a2_0)) ≥ (wrap64 (((rd_T60 l1 x22_1).f2) + a2_1))
    ·
     rw [if_pos c99] at H
     have c99b0 : decide ((wrap64 (((rd_T60 l1 x22_1).f2) + a2_1)) ≤ (wrap64 (((rd_T60 l1 x22_1).f1) + a2_0))) = true := decide_eq_true c99
     clear c99
     by_cases c100 : x9_1.length < 17592186044416
     rotate_left
     ·
      rw [if_neg c100] at H
      exact absurd H (by simp)
     rw [if_pos c100] at H
     have LMc100 := zm c100
     clear c100
     obtain ⟨y270, hy270⟩ : ∃ y_ : List Int, y_ = (x9_1 ++ [x22_1]) := ⟨_, rfl⟩
     replace H : (impl_spoken.l0 k1 x8_1 y270 l1 (l1.length : Int) (wrap64 (x22_1 + 1)) l0_0 a0_1 a2_0 a2_1 a2_2 x252000_1) = some (r1, r2) := by first | (rw [hy270]; with_reducible exact H) | (have H2_ := (Option.bind_some _ _).symm.trans H; rw [hy270]; with_reducible exact H2_) | (have H2_ := (Option.bind_some _ _).symm.trans H; with_reducible exact H2_) | with_reducible exact H | (rw [hy270]; exact H) | exact H
     have Ny270 := zm hy270
     clear hy270
     have H' := zm H
     clear H
     have p252 : 0 ≤ (x22_1 : Int) := zd
     have q252 : x22_1 < (l1.length : Int) := zd
     obtain ⟨ad252, e252, hx252_0, hx252_1, hx252_2⟩ := at_T60 HR1.out x22_1 p252 q252
     cases e252
     replace hx252_0 := zx HB.out hx252_0
     replace hx252_1 := zx HB.out hx252_1
     replace hx252_2 := zx HB.out hx252_2
     replace p252 := eq_true p252
     replace q252 := eq_true q252
     go_wp2_with (first | ((with_reducible refine gate_dst (N := 12) rfl ?_); refine box_event ?hg (N := 12) ?hd (cs := #[.int .i64 0, .int .i64 0, .int .i64 0]) (t := 60) ?hr ?_; (case hd => rfl); (case hg => rfl); (case hr => first | (go_simp; done) | (go_simp; rfl)); intro gb253 hg w101 hbox hb; replace HO_8 := zm (Kd.R_below (zP HO_8.out) hb); replace HO_9 := zm (Kd.R_below (zP HO_9.out) hb); have n2_ := zm (blk_below (g := gb243) zk hb); have n3_ := zm (blk_below (g := gb244) zk hb); have n4_ := zm (blk_below (g := gb251) zk hb); have n5_ := zm (below_step zb hb); have BK253 := zm (hbox); have GW253 := zm (zs hg zb : w.heap.size ≤ gb253); have GE253 := zm (zs hg zb : w.heap.size ≤ gb253); have NB243_253 := zm (zl hg zk : gb243 ≠ gb253); have NB253_243 := zm (zg hg zk : gb253 ≠ gb243); have NB244_253 := zm (zl hg zk : gb244 ≠ gb253); have NB253_244 := zm (zg hg zk : gb253 ≠ gb244); have NB251_253 := zm (zl hg zk : gb251 ≠ gb253); have NB253_251 := zm (zg hg zk : gb253 ≠ gb251); replace BK243 := n2_; replace BK244 := n3_; replace BK251 := n4_; replace HB := n5_; clear n2_ n3_ n4_ n5_; clear hb hbox hg; have hnb102 := NB253_243.out; have hnc102 := NB243_253.out; have hnb103 := NB253_244.out; have hnc103 := NB244_253.out; have hnb104 := NB253_251.out; have hnc104 := NB251_253.out; obtain ⟨hcz105_0, hcz105_1, hcz105_2, hfz105_0, hfz105_1, hfz105_2⟩ := zc3 BK253.out) | ((with_reducible refine gate_store (t := 60) (p := 12) rfl ?_); (try (rw [drewN_self w101]; generalize hq_ : World.drewN w101 _ = w101; have n0_ := zm (Kd.R_at hq_ HO_8.out); have n1_ := zm (Kd.R_at hq_ HO_9.out); have n2_ := zm (blk_at hq_ BK243.out); have n3_ := zm (blk_at hq_ BK244.out); have n4_ := zm (blk_at hq_ BK251.out); have n5_ := zm (blk_at hq_ BK253.out); have n6_ := zm (below_at hq_ HB.out); clear hq_ HO_8 HO_9 BK243 BK244 BK251 BK253 HB; have HO_8 := n0_; have HO_9 := n1_; have BK243 := n2_; have BK244 := n3_; have BK251 := n4_; have BK253 := n5_; have HB := n6_; clear n0_ n1_ n2_ n3_ n4_ n5_ n6_)); refine store_event (t := 60) (p := 12) (v := ?vo_w106) (w1 := (((w101.setCell ⟨gb253, 0, none⟩ (.int .i64 ((rd_T60 l1 x22_1).f0))).setCell ⟨gb253, 1, none⟩ (.int .i64 ((rd_T60 l1 x22_1).f1))).setCell ⟨gb253, 2, none⟩ (.int .i64 ((rd_T60 l1 x22_1).f2)))) ?hg ?ho ?hn ?hr ?_; (case ho => rfl); (case hg => rfl); (case hn => rfl); (case hr => first | (go_simp; done) | (go_simp; rfl)); intro w106 hw; have n0_ : Aside0 (Kd.R k56 56 w106 w.heap.size (fun _ => True) u8 x8_1) := ⟨(by rw [hw]; exact (zP (Kd.R_mono (Kd.R_far (p := ⟨gb253, 2, none⟩) (Kd.R_far (p := ⟨gb253, 1, none⟩) (Kd.R_far (p := ⟨gb253, 0, none⟩) (Kd.R_types HO_8.out BK253.out (by decide)) (fun _ hk => hk.2) (.int .i64 ((rd_T60 l1 x22_1).f0))) (fun _ hk => hk.2) (.int .i64 ((rd_T60 l1 x22_1).f1))) (fun _ hk => hk.2) (.int .i64 ((rd_T60 l1 x22_1).f2))) (fun _ hk => trivial))))⟩; have n1_ : Aside0 (Kd.R (Kd.int .i64) 3 w106 w.heap.size (fun _ => True) u9 x9_1) := ⟨(by rw [hw]; exact (zP (Kd.R_mono (Kd.R_far (p := ⟨gb253, 2, none⟩) (Kd.R_far (p := ⟨gb253, 1, none⟩) (Kd.R_far (p := ⟨gb253, 0, none⟩) (Kd.R_types HO_9.out BK253.out (by decide)) (fun _ hk => hk.2) (.int .i64 ((rd_T60 l1 x22_1).f0))) (fun _ hk => hk.2) (.int .i64 ((rd_T60 l1 x22_1).f1))) (fun _ hk => hk.2) (.int .i64 ((rd_T60 l1 x22_1).f2))) (fun _ hk => trivial))))⟩; have n2_ : Aside0 (w106.heap[gb243]? = some (.cells #[.slice A0_0 l0_0.length c0_0, .int .i64 a0_1] 32 (0, 0))) := ⟨(by rw [hw]; exact zK)⟩; have n3_ : Aside0 (w106.heap[gb244]? = some (.cells #[.int .i64 a2_0, .int .i64 a2_1, .int .i64 a2_2] 36 (0, 0))) := ⟨(by rw [hw]; exact zK)⟩; have n4_ : Aside0 (w106.heap[gb251]? = some (Mp.mObj (Value.int .i64) x252000_1)) := ⟨(by rw [hw]; exact (by (with_reducible repeat (first | refine blk_drewN ?_ _ | refine blk_drew ?_ | refine blk_alloc ?_ _)); refine Mp.far ?_ NB251_253.out _; (with_reducible repeat (first | refine blk_drewN ?_ _ | refine blk_drew ?_ | refine blk_alloc ?_ _)); refine Mp.far ?_ NB251_253.out _; (with_reducible repeat (first | refine blk_drewN ?_ _ | refine blk_drew ?_ | refine blk_alloc ?_ _)); refine Mp.far ?_ NB251_253.out _; (with_reducible repeat (first | refine blk_drewN ?_ _ | refine blk_drew ?_ | refine blk_alloc ?_ _)); exact BK251.out))⟩; have n5_ : Aside0 (w106.heap[gb253]? = some (.cells #[.int .i64 ((rd_T60 l1 x22_1).f0), .int .i64 ((rd_T60 l1 x22_1).f1), .int .i64 ((rd_T60 l1 x22_1).f2)] 60 (0, 0))) := ⟨(by rw [hw]; exact (by (with_reducible repeat (first | refine blk_drewN ?_ _ | refine blk_drew ?_ | refine blk_alloc ?_ _)); refine blk_put (cs := #[.int .i64 ((rd_T60 l1 x22_1).f0), .int .i64 ((rd_T60 l1 x22_1).f1), .int .i64 0]) ?_ 2 _ rfl; (with_reducible repeat (first | refine blk_drewN ?_ _ | refine blk_drew ?_ | refine blk_alloc ?_ _)); refine blk_put (cs := #[.int .i64 ((rd_T60 l1 x22_1).f0), .int .i64 0, .int .i64 0]) ?_ 1 _ rfl; (with_reducible repeat (first | refine blk_drewN ?_ _ | refine blk_drew ?_ | refine blk_alloc ?_ _)); refine blk_put (cs := #[.int .i64 0, .int .i64 0, .int .i64 0]) ?_ 0 _ rfl; (with_reducible repeat (first | refine blk_drewN ?_ _ | refine blk_drew ?_ | refine blk_alloc ?_ _)); exact BK253.out))⟩; have n6_ : Aside0 (Below w.heap.size w w106) := ⟨(by rw [hw]; exact zb)⟩; clear hw; clear HO_8; clear HO_9; clear BK243; clear BK244; clear BK251; clear BK253; clear HB; have HO_8 := n0_; have HO_9 := n1_; have BK243 := n2_; have BK244 := n3_; have BK251 := n4_; have BK253 := n5_; have HB := n6_; clear n0_ n1_ n2_ n3_ n4_ n5_ n6_; obtain ⟨hcz107_0, hcz107_1, hcz107_2, hfz107_0, hfz107_1, hfz107_2⟩ := zc3 BK253.out; have hnb108 := NB251_243.out; have hnc108 := NB243_251.out; have hnb109 := NB251_244.out; have hnc109 := NB244_251.out; have hlz110_true : ∀ k_ : Int, (Instr.lookup 84 (.map (some gb251)) (.int .i64 k_) true).run Tryd.prog w106 = .ok (.tuple #[(Value.int .i64) (Mp.mget (0 : Int) x252000_1 k_), .bool (Mp.mhas x252000_1 k_)]) w106 := fun k_ => Mp.run_lookup (enc := (Value.int .i64)) Tryd.underlying84 Tryd.underlying3 (0 : Int) (fun w_ => impl_spoken.zeroM84 w_) BK251.out k_ true; have hlz110_false : ∀ k_ : Int, (Instr.lookup 84 (.map (some gb251)) (.int .i64 k_) false).run Tryd.prog w106 = .ok ((Value.int .i64) (Mp.mget (0 : Int) x252000_1 k_)) w106 := fun k_ => Mp.run_lookup (enc := (Value.int .i64)) Tryd.underlying84 Tryd.underlying3 (0 : Int) (fun w_ => impl_spoken.zeroM84 w_) BK251.out k_ false; have hlz110_truen : ∀ (n_ : Nat) (k_ : Int), (Instr.lookup 84 (.map (some gb251)) (.int .i64 k_) true).run Tryd.prog (w106.drewN n_) = .ok (.tuple #[(Value.int .i64) (Mp.mget (0 : Int) x252000_1 k_), .bool (Mp.mhas x252000_1 k_)]) (w106.drewN n_) := fun n_ k_ => Mp.run_lookup (enc := (Value.int .i64)) Tryd.underlying84 Tryd.underlying3 (0 : Int) (fun w_ => impl_spoken.zeroM84 w_) (show (w106.drewN n_).heap[gb251]? = _ from BK251.out) k_ true; have hlz110_falsen : ∀ (n_ : Nat) (k_ : Int), (Instr.lookup 84 (.map (some gb251)) (.int .i64 k_) false).run Tryd.prog (w106.drewN n_) = .ok ((Value.int .i64) (Mp.mget (0 : Int) x252000_1 k_)) (w106.drewN n_) := fun n_ k_ => Mp.run_lookup (enc := (Value.int .i64)) Tryd.underlying84 Tryd.underlying3 (0 : Int) (fun w_ => impl_spoken.zeroM84 w_) (show (w106.drewN n_).heap[gb251]? = _ from BK251.out) k_ false; have hnb111 := NB244_243.out; have hnc111 := NB243_244.out; obtain ⟨hcz112_0, hcz112_1, hcz112_2, hfz112_0, hfz112_1, hfz112_2⟩ := zc3 BK244.out; obtain ⟨hcz113_0, hcz113_1, hfz113_0, hfz113_1⟩ := zc2 BK243.out) | ((with_reducible refine gate_builtin (b := .append) (xs := #[.tmp 78, .tmp 80]) rfl ?_); at_builtin; refine Kd.R_append (Kd.int .i64) (w0 := w) w.heap.size rfl (.tmp 78) (.tmp 80) 22 3 (.int .i64 0) 8 rfl Tryd.underlying22 info3 rfl (by decide) (by omega) u9 x9_1 x22_1 [.int .i64 x22_1] (fun _ => True) (fun _ => False) rfl rfl ?aP (fun _ hk => hk.elim) ?aF ?aO ?aB ?aS ?aL ?_; (case aP => exact rfl); (case aB => exact zb); (case aF => exact (fun _ _ => trivial)); (case aO => exact (zP HO_9.out)); (case aS => exact (below_size zb)); (case aL => have := LMc100.out; omega); intro v271 w114 ho hb hg hat; rw [← Ny270.out] at ho; replace HO_8 := zm (Kd.R_over' (zP HO_8.out) (Kd.R_typed (zP HO_9.out)) (by decide) hg); have n1_ := zm (blk_grown (g := gb243) (o := .cells #[.slice A0_0 l0_0.length c0_0, .int .i64 a0_1] 32 (0, 0)) zk hg (Kd.R_ne HO_9.out BK243.out (by decide))); have n2_ := zm (blk_grown (g := gb244) (o := .cells #[.int .i64 a2_0, .int .i64 a2_1, .int .i64 a2_2] 36 (0, 0)) zk hg (Kd.R_ne HO_9.out BK244.out (by decide))); have n3_ := zm (blk_grown (g := gb251) (o := Mp.mObj (Value.int .i64) x252000_1) zk hg (Mp.R_ne HO_9.out BK251.out)); replace BK253 := zm (blk_grown (g := gb253) (o := .cells #[.int .i64 ((rd_T60 l1 x22_1).f0), .int .i64 ((rd_T60 l1 x22_1).f1), .int .i64 ((rd_T60 l1 x22_1).f2)] 60 (0, 0)) zk hg (Kd.R_ne HO_9.out BK253.out (by decide))); replace HB := zm (hb); have HO272 := zm (ho); replace BK243 := n1_; replace BK244 := n2_; replace BK251 := n3_; clear HO_9 n1_ n2_ n3_; clear ho hb hg hat) | ((with_reducible refine impl_spoken.gq ?_); go_quiet (fail)))
     go_roundg k1
     case measure => have := HK1.out; omega
     case rel => exact ⟨(x8_1), (y270), (wrap64 (x22_1 + 1)), (x252000_1), (by first | rfl | (simp; done) | (simp [*]; done)), H', ⟨by have := HK1.out; omega⟩, ⟨zP HO_8.out⟩, ⟨zP HO272.out⟩, ⟨zk⟩, ⟨zk⟩, ⟨zk⟩, ⟨zb⟩⟩
    rw [if_neg c99] at H
    have c99b0 : decide ((wrap64 (((rd_T60 l1 x22_1).f2) + a2_1)) ≤ (wrap64 (((rd_T60 l1 x22_1).f1) + a2_0))) = false := decide_eq_false c99
    clear c99
    by_cases c115 : 0 ≤ ((rd_T60 l1 x22_1).f0)
    rotate_left
    ·
     rw [if_neg c115] at H
     exact absurd H (by simp)
    rw [if_pos c115] at H
    have c115b0 : decide (0 ≤ ((rd_T60 l1 x22_1).f0)) = true := decide_eq_true c115
    clear c115
    by_cases c116 : ((rd_T60 l1 x22_1).f0) < (l0_0.length : Int)
    rotate_left
    ·
     rw [if_neg c116] at H
     exact absurd H (by simp)
    rw [if_pos c116] at H
    have c116b0 : decide (((rd_T60 l1 x22_1).f0) < (l0_0.length : Int)) = true := decide_eq_true c116
    clear c116
    by_cases c117 : x8_1.length < 5864062014805
    rotate_left
    ·
     rw [if_neg c117] at H
     exact absurd H (by simp)
    rw [if_pos c117] at H
    have LMc117 := zm c117
    clear c117
    obtain ⟨y274, hy274⟩ : ∃ y_ : List (S56), y_ = (x8_1 ++ [(⟨rd l0_0 ((rd_T60 l1 x22_1).f0), wrap64 (((rd_T60 l1 x22_1).f1) + a2_0), wrap64 (((rd_T60 l1 x22_1).f2) + a2_1)⟩ : S56)]) := ⟨_, rfl⟩
    replace H : (impl_spoken.l0 k1 y274 x9_1 l1 (l1.length : Int) (wrap64 (x22_1 + 1)) l0_0 a0_1 a2_0 a2_1 a2_2 (Mp.mput x252000_1 ((rd_T60 l1 x22_1).f0) ((rd_T60 l1 x22_1).f1))) = some (r1, r2) := by first | (rw [hy274]; with_reducible exact H) | (have H2_ := (Option.bind_some _ _).symm.trans H; rw [hy274]; with_reducible exact H2_) | (have H2_ := (Option.bind_some _ _).symm.trans H; with_reducible exact H2_) | with_reducible exact H | (rw [hy274]; exact H) | exact H
    have Ny274 := zm hy274
    clear hy274
    have H' := zm H
    clear H
    have p252 : 0 ≤ (x22_1 : Int) := zd
    have q252 : x22_1 < (l1.length : Int) := zd
    obtain ⟨ad252, e252, hx252_0, hx252_1, hx252_2⟩ := at_T60 HR1.out x22_1 p252 q252
    cases e252
    replace hx252_0 := zx HB.out hx252_0
    replace hx252_1 := zx HB.out hx252_1
    replace hx252_2 := zx HB.out hx252_2
    replace p252 := eq_true p252
    replace q252 := eq_true q252
    go_wp2_with (first | ((with_reducible refine gate_dst (N := 12) rfl ?_); refine box_event ?hg (N := 12) ?hd (cs := #[.int .i64 0, .int .i64 0, .int .i64 0]) (t := 60) ?hr ?_; (case hd => rfl); (case hg => rfl); (case hr => first | (go_simp; done) | (go_simp; rfl)); intro gb253 hg w118 hbox hb; replace HO_8 := zm (Kd.R_below (zP HO_8.out) hb); replace HO_9 := zm (Kd.R_below (zP HO_9.out) hb); have n2_ := zm (blk_below (g := gb243) zk hb); have n3_ := zm (blk_below (g := gb244) zk hb); have n4_ := zm (blk_below (g := gb251) zk hb); have n5_ := zm (below_step zb hb); have BK253 := zm (hbox); have GW253 := zm (zs hg zb : w.heap.size ≤ gb253); have GE253 := zm (zs hg zb : w.heap.size ≤ gb253); have NB243_253 := zm (zl hg zk : gb243 ≠ gb253); have NB253_243 := zm (zg hg zk : gb253 ≠ gb243); have NB244_253 := zm (zl hg zk : gb244 ≠ gb253); have NB253_244 := zm (zg hg zk : gb253 ≠ gb244); have NB251_253 := zm (zl hg zk : gb251 ≠ gb253); have NB253_251 := zm (zg hg zk : gb253 ≠ gb251); replace BK243 := n2_; replace BK244 := n3_; replace BK251 := n4_; replace HB := n5_; clear n2_ n3_ n4_ n5_; clear hb hbox hg; have hnb119 := NB253_243.out; have hnc119 := NB243_253.out; have hnb120 := NB253_244.out; have hnc120 := NB244_253.out; have hnb121 := NB253_251.out; have hnc121 := NB251_253.out; obtain ⟨hcz122_0, hcz122_1, hcz122_2, hfz122_0, hfz122_1, hfz122_2⟩ := zc3 BK253.out) | ((with_reducible refine gate_store (t := 60) (p := 12) rfl ?_); (try (rw [drewN_self w118]; generalize hq_ : World.drewN w118 _ = w118; have n0_ := zm (Kd.R_at hq_ HO_8.out); have n1_ := zm (Kd.R_at hq_ HO_9.out); have n2_ := zm (blk_at hq_ BK243.out); have n3_ := zm (blk_at hq_ BK244.out); have n4_ := zm (blk_at hq_ BK251.out); have n5_ := zm (blk_at hq_ BK253.out); have n6_ := zm (below_at hq_ HB.out); clear hq_ HO_8 HO_9 BK243 BK244 BK251 BK253 HB; have HO_8 := n0_; have HO_9 := n1_; have BK243 := n2_; have BK244 := n3_; have BK251 := n4_; have BK253 := n5_; have HB := n6_; clear n0_ n1_ n2_ n3_ n4_ n5_ n6_)); refine store_event (t := 60) (p := 12) (v := ?vo_w123) (w1 := (((w118.setCell ⟨gb253, 0, none⟩ (.int .i64 ((rd_T60 l1 x22_1).f0))).setCell ⟨gb253, 1, none⟩ (.int .i64 ((rd_T60 l1 x22_1).f1))).setCell ⟨gb253, 2, none⟩ (.int .i64 ((rd_T60 l1 x22_1).f2)))) ?hg ?ho ?hn ?hr ?_; (case ho => rfl); (case hg => rfl); (case hn => rfl); (case hr => first | (go_simp; done) | (go_simp; rfl)); intro w123 hw; have n0_ : Aside0 (Kd.R k56 56 w123 w.heap.size (fun _ => True) u8 x8_1) := ⟨(by rw [hw]; exact (zP (Kd.R_mono (Kd.R_far (p := ⟨gb253, 2, none⟩) (Kd.R_far (p := ⟨gb253, 1, none⟩) (Kd.R_far (p := ⟨gb253, 0, none⟩) (Kd.R_types HO_8.out BK253.out (by decide)) (fun _ hk => hk.2) (.int .i64 ((rd_T60 l1 x22_1).f0))) (fun _ hk => hk.2) (.int .i64 ((rd_T60 l1 x22_1).f1))) (fun _ hk => hk.2) (.int .i64 ((rd_T60 l1 x22_1).f2))) (fun _ hk => trivial))))⟩; have n1_ : Aside0 (Kd.R (Kd.int .i64) 3 w123 w.heap.size (fun _ => True) u9 x9_1) := ⟨(by rw [hw]; exact (zP (Kd.R_mono (Kd.R_far (p := ⟨gb253, 2, none⟩) (Kd.R_far (p := ⟨gb253, 1, none⟩) (Kd.R_far (p := ⟨gb253, 0, none⟩) (Kd.R_types HO_9.out BK253.out (by decide)) (fun _ hk => hk.2) (.int .i64 ((rd_T60 l1 x22_1).f0))) (fun _ hk => hk.2) (.int .i64 ((rd_T60 l1 x22_1).f1))) (fun _ hk => hk.2) (.int .i64 ((rd_T60 l1 x22_1).f2))) (fun _ hk => trivial))))⟩; have n2_ : Aside0 (w123.heap[gb243]? = some (.cells #[.slice A0_0 l0_0.length c0_0, .int .i64 a0_1] 32 (0, 0))) := ⟨(by rw [hw]; exact zK)⟩; have n3_ : Aside0 (w123.heap[gb244]? = some (.cells #[.int .i64 a2_0, .int .i64 a2_1, .int .i64 a2_2] 36 (0, 0))) := ⟨(by rw [hw]; exact zK)⟩; have n4_ : Aside0 (w123.heap[gb251]? = some (Mp.mObj (Value.int .i64) x252000_1)) := ⟨(by rw [hw]; exact (by (with_reducible repeat (first | refine blk_drewN ?_ _ | refine blk_drew ?_ | refine blk_alloc ?_ _)); refine Mp.far ?_ NB251_253.out _; (with_reducible repeat (first | refine blk_drewN ?_ _ | refine blk_drew ?_ | refine blk_alloc ?_ _)); refine Mp.far ?_ NB251_253.out _; (with_reducible repeat (first | refine blk_drewN ?_ _ | refine blk_drew ?_ | refine blk_alloc ?_ _)); refine Mp.far ?_ NB251_253.out _; (with_reducible repeat (first | refine blk_drewN ?_ _ | refine blk_drew ?_ | refine blk_alloc ?_ _)); exact BK251.out))⟩; have n5_ : Aside0 (w123.heap[gb253]? = some (.cells #[.int .i64 ((rd_T60 l1 x22_1).f0), .int .i64 ((rd_T60 l1 x22_1).f1), .int .i64 ((rd_T60 l1 x22_1).f2)] 60 (0, 0))) := ⟨(by rw [hw]; exact (by (with_reducible repeat (first | refine blk_drewN ?_ _ | refine blk_drew ?_ | refine blk_alloc ?_ _)); refine blk_put (cs := #[.int .i64 ((rd_T60 l1 x22_1).f0), .int .i64 ((rd_T60 l1 x22_1).f1), .int .i64 0]) ?_ 2 _ rfl; (with_reducible repeat (first | refine blk_drewN ?_ _ | refine blk_drew ?_ | refine blk_alloc ?_ _)); refine blk_put (cs := #[.int .i64 ((rd_T60 l1 x22_1).f0), .int .i64 0, .int .i64 0]) ?_ 1 _ rfl; (with_reducible repeat (first | refine blk_drewN ?_ _ | refine blk_drew ?_ | refine blk_alloc ?_ _)); refine blk_put (cs := #[.int .i64 0, .int .i64 0, .int .i64 0]) ?_ 0 _ rfl; (with_reducible repeat (first | refine blk_drewN ?_ _ | refine blk_drew ?_ | refine blk_alloc ?_ _)); exact BK253.out))⟩; have n6_ : Aside0 (Below w.heap.size w w123) := ⟨(by rw [hw]; exact zb)⟩; clear hw; clear HO_8; clear HO_9; clear BK243; clear BK244; clear BK251; clear BK253; clear HB; have HO_8 := n0_; have HO_9 := n1_; have BK243 := n2_; have BK244 := n3_; have BK251 := n4_; have BK253 := n5_; have HB := n6_; clear n0_ n1_ n2_ n3_ n4_ n5_ n6_; obtain ⟨hcz124_0, hcz124_1, hcz124_2, hfz124_0, hfz124_1, hfz124_2⟩ := zc3 BK253.out; have hnb125 := NB251_243.out; have hnc125 := NB243_251.out; have hnb126 := NB251_244.out; have hnc126 := NB244_251.out; have hlz127_true : ∀ k_ : Int, (Instr.lookup 84 (.map (some gb251)) (.int .i64 k_) true).run Tryd.prog w123 = .ok (.tuple #[(Value.int .i64) (Mp.mget (0 : Int) x252000_1 k_), .bool (Mp.mhas x252000_1 k_)]) w123 := fun k_ => Mp.run_lookup (enc := (Value.int .i64)) Tryd.underlying84 Tryd.underlying3 (0 : Int) (fun w_ => impl_spoken.zeroM84 w_) BK251.out k_ true; have hlz127_false : ∀ k_ : Int, (Instr.lookup 84 (.map (some gb251)) (.int .i64 k_) false).run Tryd.prog w123 = .ok ((Value.int .i64) (Mp.mget (0 : Int) x252000_1 k_)) w123 := fun k_ => Mp.run_lookup (enc := (Value.int .i64)) Tryd.underlying84 Tryd.underlying3 (0 : Int) (fun w_ => impl_spoken.zeroM84 w_) BK251.out k_ false; have hlz127_truen : ∀ (n_ : Nat) (k_ : Int), (Instr.lookup 84 (.map (some gb251)) (.int .i64 k_) true).run Tryd.prog (w123.drewN n_) = .ok (.tuple #[(Value.int .i64) (Mp.mget (0 : Int) x252000_1 k_), .bool (Mp.mhas x252000_1 k_)]) (w123.drewN n_) := fun n_ k_ => Mp.run_lookup (enc := (Value.int .i64)) Tryd.underlying84 Tryd.underlying3 (0 : Int) (fun w_ => impl_spoken.zeroM84 w_) (show (w123.drewN n_).heap[gb251]? = _ from BK251.out) k_ true; have hlz127_falsen : ∀ (n_ : Nat) (k_ : Int), (Instr.lookup 84 (.map (some gb251)) (.int .i64 k_) false).run Tryd.prog (w123.drewN n_) = .ok ((Value.int .i64) (Mp.mget (0 : Int) x252000_1 k_)) (w123.drewN n_) := fun n_ k_ => Mp.run_lookup (enc := (Value.int .i64)) Tryd.underlying84 Tryd.underlying3 (0 : Int) (fun w_ => impl_spoken.zeroM84 w_) (show (w123.drewN n_).heap[gb251]? = _ from BK251.out) k_ false; have hnb128 := NB244_243.out; have hnc128 := NB243_244.out; obtain ⟨hcz129_0, hcz129_1, hcz129_2, hfz129_0, hfz129_1, hfz129_2⟩ := zc3 BK244.out; obtain ⟨hcz130_0, hcz130_1, hfz130_0, hfz130_1⟩ := zc2 BK243.out) | (at_mapUpdate; refine Mp.put_event (t := 84) Tryd.underlying84 Tryd.underlying3 (Value.int .i64) rfl rfl rfl zk rfl ((rd_T60 l1 x22_1).f0) ((rd_T60 l1 x22_1).f1) ?hx ?hy ?_; (case hx => first | rfl | (go_simp; done) | (go_simp; rfl)); (case hy => first | rfl | (go_simp; done) | (go_simp; rfl)); intro w131 hp_ hg; replace HO_8 := zm (Mp.R_put (zP HO_8.out) zk hg); replace HO_9 := zm (Mp.R_put (zP HO_9.out) zk hg); replace BK243 := zm (Mp.blk_put (by exact BK243.out) hg NB243_251.out); replace BK244 := zm (Mp.blk_put (by exact BK244.out) hg NB244_251.out); replace BK251 := zm (hp_); replace BK253 := zm (Mp.blk_put (by exact BK253.out) hg NB253_251.out); replace HB := zm (Below.grown zb hg (below_size zb) (fun j_ hj_ => by cases hj_; exact GE251.out)); clear hp_ hg; obtain ⟨hcz132_0, hcz132_1, hfz132_0, hfz132_1⟩ := zc2 BK243.out; obtain ⟨hcz133_0, hcz133_1, hcz133_2, hfz133_0, hfz133_1, hfz133_2⟩ := zc3 BK253.out; have p273 : 0 ≤ (((rd_T60 l1 x22_1).f0) : Int) := zd; have q273 : ((rd_T60 l1 x22_1).f0) < (l0_0.length : Int) := zd; obtain ⟨ad273, e273, hx273_0⟩ := Kd.at_int HR0_0.out ((rd_T60 l1 x22_1).f0) p273 q273; cases e273; replace hx273_0 := zx HB.out hx273_0; replace p273 := eq_true p273; replace q273 := eq_true q273) | ((with_reducible refine gate_builtin (b := .append) (xs := #[.tmp 87, .tmp 97]) rfl ?_); at_builtin; refine Kd.R_append k56 (w0 := w) w.heap.size rfl (.tmp 87) (.tmp 97) 52 56 (.agg #[(.int .i64 0), (.int .i64 0), (.int .i64 0)]) 24 rfl Tryd.underlying52 info56 rfl (by decide) (by omega) u8 x8_1 (⟨rd l0_0 ((rd_T60 l1 x22_1).f0), wrap64 (((rd_T60 l1 x22_1).f1) + a2_0), wrap64 (((rd_T60 l1 x22_1).f2) + a2_1)⟩ : S56) [.int .i64 (rd l0_0 ((rd_T60 l1 x22_1).f0)), .int .i64 (wrap64 (((rd_T60 l1 x22_1).f1) + a2_0)), .int .i64 (wrap64 (((rd_T60 l1 x22_1).f2) + a2_1))] (fun _ => True) (fun _ => False) rfl rfl ?aP (fun _ hk => hk.elim) ?aF ?aO ?aB ?aS ?aL ?_; (case aP => exact k56_mkM _ _ _ (⟨rd l0_0 ((rd_T60 l1 x22_1).f0), wrap64 (((rd_T60 l1 x22_1).f1) + a2_0), wrap64 (((rd_T60 l1 x22_1).f2) + a2_1)⟩ : S56)); (case aB => exact zb); (case aF => exact (fun _ _ => trivial)); (case aO => exact (zP HO_8.out)); (case aS => exact (below_size zb)); (case aL => have := LMc117.out; omega); intro v275 w134 ho hb hg hat; rw [← Ny274.out] at ho; replace HO_9 := zm (Kd.R_over' (zP HO_9.out) (Kd.R_typed (zP HO_8.out)) (by decide) hg); have n1_ := zm (blk_grown (g := gb243) (o := .cells #[.slice (some ad273) l0_0.length c0_0, .int .i64 a0_1] 32 (0, 0)) zk hg (Kd.R_ne HO_8.out BK243.out (by decide))); have n2_ := zm (blk_grown (g := gb244) (o := .cells #[.int .i64 a2_0, .int .i64 a2_1, .int .i64 a2_2] 36 (0, 0)) zk hg (Kd.R_ne HO_8.out BK244.out (by decide))); have n3_ := zm (blk_grown (g := gb251) (o := Mp.mObj (Value.int .i64) (Mp.mput x252000_1 ((rd_T60 l1 x22_1).f0) ((rd_T60 l1 x22_1).f1))) zk hg (Mp.R_ne HO_8.out BK251.out)); replace BK253 := zm (blk_grown (g := gb253) (o := .cells #[.int .i64 ((rd_T60 l1 x22_1).f0), .int .i64 ((rd_T60 l1 x22_1).f1), .int .i64 ((rd_T60 l1 x22_1).f2)] 60 (0, 0)) zk hg (Kd.R_ne HO_8.out BK253.out (by decide))); replace HB := zm (hb); have HO276 := zm (ho); replace BK243 := n1_; replace BK244 := n2_; replace BK251 := n3_; clear HO_8 n1_ n2_ n3_; clear ho hb hg hat) | ((with_reducible refine impl_spoken.gq ?_); go_quiet (fail)))
    go_roundg k1
    case measure => have := HK1.out; omega
    case rel => exact ⟨(y274), (x9_1), (wrap64 (x22_1 + 1)), (Mp.mput x252000_1 ((rd_T60 l1 x22_1).f0) ((rd_T60 l1 x22_1).f1)), (by first | rfl | (simp; done) | (simp [*]; done)), H', ⟨by have := HK1.out; omega⟩, ⟨zP HO276.out⟩, ⟨zP HO_9.out⟩, ⟨zk⟩, ⟨zk⟩, ⟨zk⟩, ⟨zb⟩⟩
   rw [if_pos c46] at H
   have c46b0 : Mp.mhas x252000_1 ((rd_T60 l1 x22_1).f0) = true := c46
   clear c46
   by_cases c47 : (wrap64 (((rd_T60 l1 x22_1).f1) - (Mp.mget (0 : Int) x252000_1 ((rd_T60 l1 x22_1).f0)))) < (wrap64 (2 * a0_1))
   ·
    rw [if_pos c47] at H
    have c47b0 : decide ((wrap64 (((rd_T60 l1 x22_1).f1) - (Mp.mget (0 : Int) x252000_1 ((rd_T60 l1 x22_1).f0)))) < (wrap64 (2 * a0_1))) = true := decide_eq_true c47
    clear c47
    by_cases c48 : x9_1.length < 17592186044416
    rotate_left
    ·
     rw [if_neg c48] at H
     exact absurd H (by simp)
    rw [if_pos c48] at H
    have LMc48 := zm c48
    clear c48
    obtain ⟨y260, hy260⟩ : ∃ y_ : List Int, y_ = (x9_1 ++ [x22_1]) := ⟨_, rfl⟩
    replace H : (impl_spoken.l0 k1 x8_1 y260 l1 (l1.length : Int) (wrap64 (x22_1 + 1)) l0_0 a0_1 a2_0 a2_1 a2_2 x252000_1) = some (r1, r2) := by first | (rw [hy260]; with_reducible exact H) | (have H2_ := (Option.bind_some _ _).symm.trans H; rw [hy260]; with_reducible exact H2_) | (have H2_ := (Option.bind_some _ _).symm.trans H; with_reducible exact H2_) | with_reducible exact H | (rw [hy260]; exact H) | exact H
    have Ny260 := zm hy260
    clear hy260
    have H' := zm H
    clear H
    have p252 : 0 ≤ (x22_1 : Int) := zd
    have q252 : x22_1 < (l1.length : Int) := zd
    obtain ⟨ad252, e252, hx252_0, hx252_1, hx252_2⟩ := at_T60 HR1.out x22_1 p252 q252
    cases e252
    replace hx252_0 := zx HB.out hx252_0
    replace hx252_1 := zx HB.out hx252_1
    replace hx252_2 := zx HB.out hx252_2
    replace p252 := eq_true p252
    replace q252 := eq_true q252
    go_wp2_with (first | ((with_reducible refine gate_dst (N := 12) rfl ?_); refine box_event ?hg (N := 12) ?hd (cs := #[.int .i64 0, .int .i64 0, .int .i64 0]) (t := 60) ?hr ?_; (case hd => rfl); (case hg => rfl); (case hr => first | (go_simp; done) | (go_simp; rfl)); intro gb253 hg w49 hbox hb; replace HO_8 := zm (Kd.R_below (zP HO_8.out) hb); replace HO_9 := zm (Kd.R_below (zP HO_9.out) hb); have n2_ := zm (blk_below (g := gb243) zk hb); have n3_ := zm (blk_below (g := gb244) zk hb); have n4_ := zm (blk_below (g := gb251) zk hb); have n5_ := zm (below_step zb hb); have BK253 := zm (hbox); have GW253 := zm (zs hg zb : w.heap.size ≤ gb253); have GE253 := zm (zs hg zb : w.heap.size ≤ gb253); have NB243_253 := zm (zl hg zk : gb243 ≠ gb253); have NB253_243 := zm (zg hg zk : gb253 ≠ gb243); have NB244_253 := zm (zl hg zk : gb244 ≠ gb253); have NB253_244 := zm (zg hg zk : gb253 ≠ gb244); have NB251_253 := zm (zl hg zk : gb251 ≠ gb253); have NB253_251 := zm (zg hg zk : gb253 ≠ gb251); replace BK243 := n2_; replace BK244 := n3_; replace BK251 := n4_; replace HB := n5_; clear n2_ n3_ n4_ n5_; clear hb hbox hg; have hnb50 := NB253_243.out; have hnc50 := NB243_253.out; have hnb51 := NB253_244.out; have hnc51 := NB244_253.out; have hnb52 := NB253_251.out; have hnc52 := NB251_253.out; obtain ⟨hcz53_0, hcz53_1, hcz53_2, hfz53_0, hfz53_1, hfz53_2⟩ := zc3 BK253.out) | ((with_reducible refine gate_store (t := 60) (p := 12) rfl ?_); (try (rw [drewN_self w49]; generalize hq_ : World.drewN w49 _ = w49; have n0_ := zm (Kd.R_at hq_ HO_8.out); have n1_ := zm (Kd.R_at hq_ HO_9.out); have n2_ := zm (blk_at hq_ BK243.out); have n3_ := zm (blk_at hq_ BK244.out); have n4_ := zm (blk_at hq_ BK251.out); have n5_ := zm (blk_at hq_ BK253.out); have n6_ := zm (below_at hq_ HB.out); clear hq_ HO_8 HO_9 BK243 BK244 BK251 BK253 HB; have HO_8 := n0_; have HO_9 := n1_; have BK243 := n2_; have BK244 := n3_; have BK251 := n4_; have BK253 := n5_; have HB := n6_; clear n0_ n1_ n2_ n3_ n4_ n5_ n6_)); refine store_event (t := 60) (p := 12) (v := ?vo_w54) (w1 := (((w49.setCell ⟨gb253, 0, none⟩ (.int .i64 ((rd_T60 l1 x22_1).f0))).setCell ⟨gb253, 1, none⟩ (.int .i64 ((rd_T60 l1 x22_1).f1))).setCell ⟨gb253, 2, none⟩ (.int .i64 ((rd_T60 l1 x22_1).f2)))) ?hg ?ho ?hn ?hr ?_; (case ho => rfl); (case hg => rfl); (case hn => rfl); (case hr => first | (go_simp; done) | (go_simp; rfl)); intro w54 hw; have n0_ : Aside0 (Kd.R k56 56 w54 w.heap.size (fun _ => True) u8 x8_1) := ⟨(by rw [hw]; exact (zP (Kd.R_mono (Kd.R_far (p := ⟨gb253, 2, none⟩) (Kd.R_far (p := ⟨gb253, 1, none⟩) (Kd.R_far (p := ⟨gb253, 0, none⟩) (Kd.R_types HO_8.out BK253.out (by decide)) (fun _ hk => hk.2) (.int .i64 ((rd_T60 l1 x22_1).f0))) (fun _ hk => hk.2) (.int .i64 ((rd_T60 l1 x22_1).f1))) (fun _ hk => hk.2) (.int .i64 ((rd_T60 l1 x22_1).f2))) (fun _ hk => trivial))))⟩; have n1_ : Aside0 (Kd.R (Kd.int .i64) 3 w54 w.heap.size (fun _ => True) u9 x9_1) := ⟨(by rw [hw]; exact (zP (Kd.R_mono (Kd.R_far (p := ⟨gb253, 2, none⟩) (Kd.R_far (p := ⟨gb253, 1, none⟩) (Kd.R_far (p := ⟨gb253, 0, none⟩) (Kd.R_types HO_9.out BK253.out (by decide)) (fun _ hk => hk.2) (.int .i64 ((rd_T60 l1 x22_1).f0))) (fun _ hk => hk.2) (.int .i64 ((rd_T60 l1 x22_1).f1))) (fun _ hk => hk.2) (.int .i64 ((rd_T60 l1 x22_1).f2))) (fun _ hk => trivial))))⟩; have n2_ : Aside0 (w54.heap[gb243]? = some (.cells #[.slice A0_0 l0_0.length c0_0, .int .i64 a0_1] 32 (0, 0))) := ⟨(by rw [hw]; exact zK)⟩; have n3_ : Aside0 (w54.heap[gb244]? = some (.cells #[.int .i64 a2_0, .int .i64 a2_1, .int .i64 a2_2] 36 (0, 0))) := ⟨(by rw [hw]; exact zK)⟩; have n4_ : Aside0 (w54.heap[gb251]? = some (Mp.mObj (Value.int .i64) x252000_1)) := ⟨(by rw [hw]; exact (by (with_reducible repeat (first | refine blk_drewN ?_ _ | refine blk_drew ?_ | refine blk_alloc ?_ _)); refine Mp.far ?_ NB251_253.out _; (with_reducible repeat (first | refine blk_drewN ?_ _ | refine blk_drew ?_ | refine blk_alloc ?_ _)); refine Mp.far ?_ NB251_253.out _; (with_reducible repeat (first | refine blk_drewN ?_ _ | refine blk_drew ?_ | refine blk_alloc ?_ _)); refine Mp.far ?_ NB251_253.out _; (with_reducible repeat (first | refine blk_drewN ?_ _ | refine blk_drew ?_ | refine blk_alloc ?_ _)); exact BK251.out))⟩; have n5_ : Aside0 (w54.heap[gb253]? = some (.cells #[.int .i64 ((rd_T60 l1 x22_1).f0), .int .i64 ((rd_T60 l1 x22_1).f1), .int .i64 ((rd_T60 l1 x22_1).f2)] 60 (0, 0))) := ⟨(by rw [hw]; exact (by (with_reducible repeat (first | refine blk_drewN ?_ _ | refine blk_drew ?_ | refine blk_alloc ?_ _)); refine blk_put (cs := #[.int .i64 ((rd_T60 l1 x22_1).f0), .int .i64 ((rd_T60 l1 x22_1).f1), .int .i64 0]) ?_ 2 _ rfl; (with_reducible repeat (first | refine blk_drewN ?_ _ | refine blk_drew ?_ | refine blk_alloc ?_ _)); refine blk_put (cs := #[.int .i64 ((rd_T60 l1 x22_1).f0), .int .i64 0, .int .i64 0]) ?_ 1 _ rfl; (with_reducible repeat (first | refine blk_drewN ?_ _ | refine blk_drew ?_ | refine blk_alloc ?_ _)); refine blk_put (cs := #[.int .i64 0, .int .i64 0, .int .i64 0]) ?_ 0 _ rfl; (with_reducible repeat (first | refine blk_drewN ?_ _ | refine blk_drew ?_ | refine blk_alloc ?_ _)); exact BK253.out))⟩; have n6_ : Aside0 (Below w.heap.size w w54) := ⟨(by rw [hw]; exact zb)⟩; clear hw; clear HO_8; clear HO_9; clear BK243; clear BK244; clear BK251; clear BK253; clear HB; have HO_8 := n0_; have HO_9 := n1_; have BK243 := n2_; have BK244 := n3_; have BK251 := n4_; have BK253 := n5_; have HB := n6_; clear n0_ n1_ n2_ n3_ n4_ n5_ n6_; obtain ⟨hcz55_0, hcz55_1, hcz55_2, hfz55_0, hfz55_1, hfz55_2⟩ := zc3 BK253.out; have hnb56 := NB251_243.out; have hnc56 := NB243_251.out; have hnb57 := NB251_244.out; have hnc57 := NB244_251.out; have hlz58_true : ∀ k_ : Int, (Instr.lookup 84 (.map (some gb251)) (.int .i64 k_) true).run Tryd.prog w54 = .ok (.tuple #[(Value.int .i64) (Mp.mget (0 : Int) x252000_1 k_), .bool (Mp.mhas x252000_1 k_)]) w54 := fun k_ => Mp.run_lookup (enc := (Value.int .i64)) Tryd.underlying84 Tryd.underlying3 (0 : Int) (fun w_ => impl_spoken.zeroM84 w_) BK251.out k_ true; have hlz58_false : ∀ k_ : Int, (Instr.lookup 84 (.map (some gb251)) (.int .i64 k_) false).run Tryd.prog w54 = .ok ((Value.int .i64) (Mp.mget (0 : Int) x252000_1 k_)) w54 := fun k_ => Mp.run_lookup (enc := (Value.int .i64)) Tryd.underlying84 Tryd.underlying3 (0 : Int) (fun w_ => impl_spoken.zeroM84 w_) BK251.out k_ false; have hlz58_truen : ∀ (n_ : Nat) (k_ : Int), (Instr.lookup 84 (.map (some gb251)) (.int .i64 k_) true).run Tryd.prog (w54.drewN n_) = .ok (.tuple #[(Value.int .i64) (Mp.mget (0 : Int) x252000_1 k_), .bool (Mp.mhas x252000_1 k_)]) (w54.drewN n_) := fun n_ k_ => Mp.run_lookup (enc := (Value.int .i64)) Tryd.underlying84 Tryd.underlying3 (0 : Int) (fun w_ => impl_spoken.zeroM84 w_) (show (w54.drewN n_).heap[gb251]? = _ from BK251.out) k_ true; have hlz58_falsen : ∀ (n_ : Nat) (k_ : Int), (Instr.lookup 84 (.map (some gb251)) (.int .i64 k_) false).run Tryd.prog (w54.drewN n_) = .ok ((Value.int .i64) (Mp.mget (0 : Int) x252000_1 k_)) (w54.drewN n_) := fun n_ k_ => Mp.run_lookup (enc := (Value.int .i64)) Tryd.underlying84 Tryd.underlying3 (0 : Int) (fun w_ => impl_spoken.zeroM84 w_) (show (w54.drewN n_).heap[gb251]? = _ from BK251.out) k_ false; have hnb59 := NB244_243.out; have hnc59 := NB243_244.out; obtain ⟨hcz60_0, hcz60_1, hcz60_2, hfz60_0, hfz60_1, hfz60_2⟩ := zc3 BK244.out; obtain ⟨hcz61_0, hcz61_1, hfz61_0, hfz61_1⟩ := zc2 BK243.out) | ((with_reducible refine gate_builtin (b := .append) (xs := #[.tmp 78, .tmp 80]) rfl ?_); at_builtin; refine Kd.R_append (Kd.int .i64) (w0 := w) w.heap.size rfl (.tmp 78) (.tmp 80) 22 3 (.int .i64 0) 8 rfl Tryd.underlying22 info3 rfl (by decide) (by omega) u9 x9_1 x22_1 [.int .i64 x22_1] (fun _ => True) (fun _ => False) rfl rfl ?aP (fun _ hk => hk.elim) ?aF ?aO ?aB ?aS ?aL ?_; (case aP => exact rfl); (case aB => exact zb); (case aF => exact (fun _ _ => trivial)); (case aO => exact (zP HO_9.out)); (case aS => exact (below_size zb)); (case aL => have := LMc48.out; omega); intro v261 w62 ho hb hg hat; rw [← Ny260.out] at ho; replace HO_8 := zm (Kd.R_over' (zP HO_8.out) (Kd.R_typed (zP HO_9.out)) (by decide) hg); have n1_ := zm (blk_grown (g := gb243) (o := .cells #[.slice A0_0 l0_0.length c0_0, .int .i64 a0_1] 32 (0, 0)) zk hg (Kd.R_ne HO_9.out BK243.out (by decide))); have n2_ := zm (blk_grown (g := gb244) (o := .cells #[.int .i64 a2_0, .int .i64 a2_1, .int .i64 a2_2] 36 (0, 0)) zk hg (Kd.R_ne HO_9.out BK244.out (by decide))); have n3_ := zm (blk_grown (g := gb251) (o := Mp.mObj (Value.int .i64) x252000_1) zk hg (Mp.R_ne HO_9.out BK251.out)); replace BK253 := zm (blk_grown (g := gb253) (o := .cells #[.int .i64 ((rd_T60 l1 x22_1).f0), .int .i64 ((rd_T60 l1 x22_1).f1), .int .i64 ((rd_T60 l1 x22_1).f2)] 60 (0, 0)) zk hg (Kd.R_ne HO_9.out BK253.out (by decide))); replace HB := zm (hb); have HO262 := zm (ho); replace BK243 := n1_; replace BK244 := n2_; replace BK251 := n3_; clear HO_9 n1_ n2_ n3_; clear ho hb hg hat) | ((with_reducible refine impl_spoken.gq ?_); go_quiet (fail)))
    go_roundg k1
    case measure => have := HK1.out; omega
    case rel => exact ⟨(x8_1), (y260), (wrap64 (x22_1 + 1)), (x252000_1), (by first | rfl | (simp; done) | (simp [*]; done)), H', ⟨by have := HK1.out; omega⟩, ⟨zP HO_8.out⟩, ⟨zP HO262.out⟩, ⟨zk⟩, ⟨zk⟩, ⟨zk⟩, ⟨zb⟩⟩
   rw [if_neg c47] at H
   have c47b0 : decide ((wrap64 (((rd_T60 l1 x22_1).f1) - (Mp.mget (0 : Int) x252000_1 ((rd_T60 l1 x22_1).f0)))) < (wrap64 (2 * a0_1))) = false := decide_eq_false c47
   clear c47
   by_cases c63 : (wrap64 (((rd_T60 l1 x22_1).f1) + a2_0)) ≥ (wrap64 (((rd_T60 l1 x22_1).f2) + a2_1))
   ·
    rw [if_pos c63] at H
    have c63b0 : decide ((wrap64 (((rd_T60 l1 x22_1).f2) + a2_1)) ≤ (wrap64 (((rd_T60 l1 x22_1).f1) + a2_0))) = true := decide_eq_true c63
    clear c63
    by_cases c64 : x9_1.length < 17592186044416
    rotate_left
    ·
     rw [if_neg c64] at H
     exact absurd H (by simp)
    rw [if_pos c64] at H
    have LMc64 := zm c64
    clear c64
    obtain ⟨y263, hy263⟩ : ∃ y_ : List Int, y_ = (x9_1 ++ [x22_1]) := ⟨_, rfl⟩
    replace H : (impl_spoken.l0 k1 x8_1 y263 l1 (l1.length : Int) (wrap64 (x22_1 + 1)) l0_0 a0_1 a2_0 a2_1 a2_2 x252000_1) = some (r1, r2) := by first | (rw [hy263]; with_reducible exact H) | (have H2_ := (Option.bind_some _ _).symm.trans H; rw [hy263]; with_reducible exact H2_) | (have H2_ := (Option.bind_some _ _).symm.trans H; with_reducible exact H2_) | with_reducible exact H | (rw [hy263]; exact H) | exact H
    have Ny263 := zm hy263
    clear hy263
    have H' := zm H
    clear H
    have p252 : 0 ≤ (x22_1 : Int) := zd
    have q252 : x22_1 < (l1.length : Int) := zd
    obtain ⟨ad252, e252, hx252_0, hx252_1, hx252_2⟩ := at_T60 HR1.out x22_1 p252 q252
    cases e252
    replace hx252_0 := zx HB.out hx252_0
    replace hx252_1 := zx HB.out hx252_1
    replace hx252_2 := zx HB.out hx252_2
    replace p252 := eq_true p252
    replace q252 := eq_true q252
    go_wp2_with (first | ((with_reducible refine gate_dst (N := 12) rfl ?_); refine box_event ?hg (N := 12) ?hd (cs := #[.int .i64 0, .int .i64 0, .int .i64 0]) (t := 60) ?hr ?_; (case hd => rfl); (case hg => rfl); (case hr => first | (go_simp; done) | (go_simp; rfl)); intro gb253 hg w65 hbox hb; replace HO_8 := zm (Kd.R_below (zP HO_8.out) hb); replace HO_9 := zm (Kd.R_below (zP HO_9.out) hb); have n2_ := zm (blk_below (g := gb243) zk hb); have n3_ := zm (blk_below (g := gb244) zk hb); have n4_ := zm (blk_below (g := gb251) zk hb); have n5_ := zm (below_step zb hb); have BK253 := zm (hbox); have GW253 := zm (zs hg zb : w.heap.size ≤ gb253); have GE253 := zm (zs hg zb : w.heap.size ≤ gb253); have NB243_253 := zm (zl hg zk : gb243 ≠ gb253); have NB253_243 := zm (zg hg zk : gb253 ≠ gb243); have NB244_253 := zm (zl hg zk : gb244 ≠ gb253); have NB253_244 := zm (zg hg zk : gb253 ≠ gb244); have NB251_253 := zm (zl hg zk : gb251 ≠ gb253); have NB253_251 := zm (zg hg zk : gb253 ≠ gb251); replace BK243 := n2_; replace BK244 := n3_; replace BK251 := n4_; replace HB := n5_; clear n2_ n3_ n4_ n5_; clear hb hbox hg; have hnb66 := NB253_243.out; have hnc66 := NB243_253.out; have hnb67 := NB253_244.out; have hnc67 := NB244_253.out; have hnb68 := NB253_251.out; have hnc68 := NB251_253.out; obtain ⟨hcz69_0, hcz69_1, hcz69_2, hfz69_0, hfz69_1, hfz69_2⟩ := zc3 BK253.out) | ((with_reducible refine gate_store (t := 60) (p := 12) rfl ?_); (try (rw [drewN_self w65]; generalize hq_ : World.drewN w65 _ = w65; have n0_ := zm (Kd.R_at hq_ HO_8.out); have n1_ := zm (Kd.R_at hq_ HO_9.out); have n2_ := zm (blk_at hq_ BK243.out); have n3_ := zm (blk_at hq_ BK244.out); have n4_ := zm (blk_at hq_ BK251.out); have n5_ := zm (blk_at hq_ BK253.out); have n6_ := zm (below_at hq_ HB.out); clear hq_ HO_8 HO_9 BK243 BK244 BK251 BK253 HB; have HO_8 := n0_; have HO_9 := n1_; have BK243 := n2_; have BK244 := n3_; have BK251 := n4_; have BK253 := n5_; have HB := n6_; clear n0_ n1_ n2_ n3_ n4_ n5_ n6_)); refine store_event (t := 60) (p := 12) (v := ?vo_w70) (w1 := (((w65.setCell ⟨gb253, 0, none⟩ (.int .i64 ((rd_T60 l1 x22_1).f0))).setCell ⟨gb253, 1, none⟩ (.int .i64 ((rd_T60 l1 x22_1).f1))).setCell ⟨gb253, 2, none⟩ (.int .i64 ((rd_T60 l1 x22_1).f2)))) ?hg ?ho ?hn ?hr ?_; (case ho => rfl); (case hg => rfl); (case hn => rfl); (case hr => first | (go_simp; done) | (go_simp; rfl)); intro w70 hw; have n0_ : Aside0 (Kd.R k56 56 w70 w.heap.size (fun _ => True) u8 x8_1) := ⟨(by rw [hw]; exact (zP (Kd.R_mono (Kd.R_far (p := ⟨gb253, 2, none⟩) (Kd.R_far (p := ⟨gb253, 1, none⟩) (Kd.R_far (p := ⟨gb253, 0, none⟩) (Kd.R_types HO_8.out BK253.out (by decide)) (fun _ hk => hk.2) (.int .i64 ((rd_T60 l1 x22_1).f0))) (fun _ hk => hk.2) (.int .i64 ((rd_T60 l1 x22_1).f1))) (fun _ hk => hk.2) (.int .i64 ((rd_T60 l1 x22_1).f2))) (fun _ hk => trivial))))⟩; have n1_ : Aside0 (Kd.R (Kd.int .i64) 3 w70 w.heap.size (fun _ => True) u9 x9_1) := ⟨(by rw [hw]; exact (zP (Kd.R_mono (Kd.R_far (p := ⟨gb253, 2, none⟩) (Kd.R_far (p := ⟨gb253, 1, none⟩) (Kd.R_far (p := ⟨gb253, 0, none⟩) (Kd.R_types HO_9.out BK253.out (by decide)) (fun _ hk => hk.2) (.int .i64 ((rd_T60 l1 x22_1).f0))) (fun _ hk => hk.2) (.int .i64 ((rd_T60 l1 x22_1).f1))) (fun _ hk => hk.2) (.int .i64 ((rd_T60 l1 x22_1).f2))) (fun _ hk => trivial))))⟩; have n2_ : Aside0 (w70.heap[gb243]? = some (.cells #[.slice A0_0 l0_0.length c0_0, .int .i64 a0_1] 32 (0, 0))) := ⟨(by rw [hw]; exact zK)⟩; have n3_ : Aside0 (w70.heap[gb244]? = some (.cells #[.int .i64 a2_0, .int .i64 a2_1, .int .i64 a2_2] 36 (0, 0))) := ⟨(by rw [hw]; exact zK)⟩; have n4_ : Aside0 (w70.heap[gb251]? = some (Mp.mObj (Value.int .i64) x252000_1)) := ⟨(by rw [hw]; exact (by (with_reducible repeat (first | refine blk_drewN ?_ _ | refine blk_drew ?_ | refine blk_alloc ?_ _)); refine Mp.far ?_ NB251_253.out _; (with_reducible repeat (first | refine blk_drewN ?_ _ | refine blk_drew ?_ | refine blk_alloc ?_ _)); refine Mp.far ?_ NB251_253.out _; (with_reducible repeat (first | refine blk_drewN ?_ _ | refine blk_drew ?_ | refine blk_alloc ?_ _)); refine Mp.far ?_ NB251_253.out _; (with_reducible repeat (first | refine blk_drewN ?_ _ | refine blk_drew ?_ | refine blk_alloc ?_ _)); exact BK251.out))⟩; have n5_ : Aside0 (w70.heap[gb253]? = some (.cells #[.int .i64 ((rd_T60 l1 x22_1).f0), .int .i64 ((rd_T60 l1 x22_1).f1), .int .i64 ((rd_T60 l1 x22_1).f2)] 60 (0, 0))) := ⟨(by rw [hw]; exact (by (with_reducible repeat (first | refine blk_drewN ?_ _ | refine blk_drew ?_ | refine blk_alloc ?_ _)); refine blk_put (cs := #[.int .i64 ((rd_T60 l1 x22_1).f0), .int .i64 ((rd_T60 l1 x22_1).f1), .int .i64 0]) ?_ 2 _ rfl; (with_reducible repeat (first | refine blk_drewN ?_ _ | refine blk_drew ?_ | refine blk_alloc ?_ _)); refine blk_put (cs := #[.int .i64 ((rd_T60 l1 x22_1).f0), .int .i64 0, .int .i64 0]) ?_ 1 _ rfl; (with_reducible repeat (first | refine blk_drewN ?_ _ | refine blk_drew ?_ | refine blk_alloc ?_ _)); refine blk_put (cs := #[.int .i64 0, .int .i64 0, .int .i64 0]) ?_ 0 _ rfl; (with_reducible repeat (first | refine blk_drewN ?_ _ | refine blk_drew ?_ | refine blk_alloc ?_ _)); exact BK253.out))⟩; have n6_ : Aside0 (Below w.heap.size w w70) := ⟨(by rw [hw]; exact zb)⟩; clear hw; clear HO_8; clear HO_9; clear BK243; clear BK244; clear BK251; clear BK253; clear HB; have HO_8 := n0_; have HO_9 := n1_; have BK243 := n2_; have BK244 := n3_; have BK251 := n4_; have BK253 := n5_; have HB := n6_; clear n0_ n1_ n2_ n3_ n4_ n5_ n6_; obtain ⟨hcz71_0, hcz71_1, hcz71_2, hfz71_0, hfz71_1, hfz71_2⟩ := zc3 BK253.out; have hnb72 := NB251_243.out; have hnc72 := NB243_251.out; have hnb73 := NB251_244.out; have hnc73 := NB244_251.out; have hlz74_true : ∀ k_ : Int, (Instr.lookup 84 (.map (some gb251)) (.int .i64 k_) true).run Tryd.prog w70 = .ok (.tuple #[(Value.int .i64) (Mp.mget (0 : Int) x252000_1 k_), .bool (Mp.mhas x252000_1 k_)]) w70 := fun k_ => Mp.run_lookup (enc := (Value.int .i64)) Tryd.underlying84 Tryd.underlying3 (0 : Int) (fun w_ => impl_spoken.zeroM84 w_) BK251.out k_ true; have hlz74_false : ∀ k_ : Int, (Instr.lookup 84 (.map (some gb251)) (.int .i64 k_) false).run Tryd.prog w70 = .ok ((Value.int .i64) (Mp.mget (0 : Int) x252000_1 k_)) w70 := fun k_ => Mp.run_lookup (enc := (Value.int .i64)) Tryd.underlying84 Tryd.underlying3 (0 : Int) (fun w_ => impl_spoken.zeroM84 w_) BK251.out k_ false; have hlz74_truen : ∀ (n_ : Nat) (k_ : Int), (Instr.lookup 84 (.map (some gb251)) (.int .i64 k_) true).run Tryd.prog (w70.drewN n_) = .ok (.tuple #[(Value.int .i64) (Mp.mget (0 : Int) x252000_1 k_), .bool (Mp.mhas x252000_1 k_)]) (w70.drewN n_) := fun n_ k_ => Mp.run_lookup (enc := (Value.int .i64)) Tryd.underlying84 Tryd.underlying3 (0 : Int) (fun w_ => impl_spoken.zeroM84 w_) (show (w70.drewN n_).heap[gb251]? = _ from BK251.out) k_ true; have hlz74_falsen : ∀ (n_ : Nat) (k_ : Int), (Instr.lookup 84 (.map (some gb251)) (.int .i64 k_) false).run Tryd.prog (w70.drewN n_) = .ok ((Value.int .i64) (Mp.mget (0 : Int) x252000_1 k_)) (w70.drewN n_) := fun n_ k_ => Mp.run_lookup (enc := (Value.int .i64)) Tryd.underlying84 Tryd.underlying3 (0 : Int) (fun w_ => impl_spoken.zeroM84 w_) (show (w70.drewN n_).heap[gb251]? = _ from BK251.out) k_ false; have hnb75 := NB244_243.out; have hnc75 := NB243_244.out; obtain ⟨hcz76_0, hcz76_1, hcz76_2, hfz76_0, hfz76_1, hfz76_2⟩ := zc3 BK244.out; obtain ⟨hcz77_0, hcz77_1, hfz77_0, hfz77_1⟩ := zc2 BK243.out) | ((with_reducible refine gate_builtin (b := .append) (xs := #[.tmp 78, .tmp 80]) rfl ?_); at_builtin; refine Kd.R_append (Kd.int .i64) (w0 := w) w.heap.size rfl (.tmp 78) (.tmp 80) 22 3 (.int .i64 0) 8 rfl Tryd.underlying22 info3 rfl (by decide) (by omega) u9 x9_1 x22_1 [.int .i64 x22_1] (fun _ => True) (fun _ => False) rfl rfl ?aP (fun _ hk => hk.elim) ?aF ?aO ?aB ?aS ?aL ?_; (case aP => exact rfl); (case aB => exact zb); (case aF => exact (fun _ _ => trivial)); (case aO => exact (zP HO_9.out)); (case aS => exact (below_size zb)); (case aL => have := LMc64.out; omega); intro v264 w78 ho hb hg hat; rw [← Ny263.out] at ho; replace HO_8 := zm (Kd.R_over' (zP HO_8.out) (Kd.R_typed (zP HO_9.out)) (by decide) hg); have n1_ := zm (blk_grown (g := gb243) (o := .cells #[.slice A0_0 l0_0.length c0_0, .int .i64 a0_1] 32 (0, 0)) zk hg (Kd.R_ne HO_9.out BK243.out (by decide))); have n2_ := zm (blk_grown (g := gb244) (o := .cells #[.int .i64 a2_0, .int .i64 a2_1, .int .i64 a2_2] 36 (0, 0)) zk hg (Kd.R_ne HO_9.out BK244.out (by decide))); have n3_ := zm (blk_grown (g := gb251) (o := Mp.mObj (Value.int .i64) x252000_1) zk hg (Mp.R_ne HO_9.out BK251.out)); replace BK253 := zm (blk_grown (g := gb253) (o := .cells #[.int .i64 ((rd_T60 l1 x22_1).f0), .int .i64 ((rd_T60 l1 x22_1).f1), .int .i64 ((rd_T60 l1 x22_1).f2)] 60 (0, 0)) zk hg (Kd.R_ne HO_9.out BK253.out (by decide))); replace HB := zm (hb); have HO265 := zm (ho); replace BK243 := n1_; replace BK244 := n2_; replace BK251 := n3_; clear HO_9 n1_ n2_ n3_; clear ho hb hg hat) | ((with_reducible refine impl_spoken.gq ?_); go_quiet (fail)))
    go_roundg k1
    case measure => have := HK1.out; omega
    case rel => exact ⟨(x8_1), (y263), (wrap64 (x22_1 + 1)), (x252000_1), (by first | rfl | (simp; done) | (simp [*]; done)), H', ⟨by have := HK1.out; omega⟩, ⟨zP HO_8.out⟩, ⟨zP HO265.out⟩, ⟨zk⟩, ⟨zk⟩, ⟨zk⟩, ⟨zb⟩⟩
   rw [if_neg c63] at H
   have c63b0 : decide ((wrap64 (((rd_T60 l1 x22_1).f2) + a2_1)) ≤ (wrap64 (((rd_T60 l1 x22_1).f1) + a2_0))) = false := decide_eq_false c63
   clear c63
   by_cases c79 : 0 ≤ ((rd_T60 l1 x22_1).f0)
   rotate_left
   ·
    rw [if_neg c79] at H
    exact absurd H (by simp)
   rw [if_pos c79] at H
   have c79b0 : decide (0 ≤ ((rd_T60 l1 x22_1).f0)) = true := decide_eq_true c79
   clear c79
   by_cases c80 : ((rd_T60 l1 x22_1).f0) < (l0_0.length : Int)
   rotate_left
   ·
    rw [if_neg c80] at H
    exact absurd H (by simp)
   rw [if_pos c80] at H
   have c80b0 : decide (((rd_T60 l1 x22_1).f0) < (l0_0.length : Int)) = true := decide_eq_true c80
   clear c80
   by_cases c81 : x8_1.length < 5864062014805
   rotate_left
   ·
    rw [if_neg c81] at H
    exact absurd H (by simp)
   rw [if_pos c81] at H
   have LMc81 := zm c81
   clear c81
   obtain ⟨y267, hy267⟩ : ∃ y_ : List (S56), y_ = (x8_1 ++ [(⟨rd l0_0 ((rd_T60 l1 x22_1).f0), wrap64 (((rd_T60 l1 x22_1).f1) + a2_0), wrap64 (((rd_T60 l1 x22_1).f2) + a2_1)⟩ : S56)]) := ⟨_, rfl⟩
   replace H : (impl_spoken.l0 k1 y267 x9_1 l1 (l1.length : Int) (wrap64 (x22_1 + 1)) l0_0 a0_1 a2_0 a2_1 a2_2 (Mp.mput x252000_1 ((rd_T60 l1 x22_1).f0) ((rd_T60 l1 x22_1).f1))) = some (r1, r2) := by first | (rw [hy267]; with_reducible exact H) | (have H2_ := (Option.bind_some _ _).symm.trans H; rw [hy267]; with_reducible exact H2_) | (have H2_ := (Option.bind_some _ _).symm.trans H; with_reducible exact H2_) | with_reducible exact H | (rw [hy267]; exact H) | exact H
   have Ny267 := zm hy267
   clear hy267
   have H' := zm H
   clear H
   have p252 : 0 ≤ (x22_1 : Int) := zd
   have q252 : x22_1 < (l1.length : Int) := zd
   obtain ⟨ad252, e252, hx252_0, hx252_1, hx252_2⟩ := at_T60 HR1.out x22_1 p252 q252
   cases e252
   replace hx252_0 := zx HB.out hx252_0
   replace hx252_1 := zx HB.out hx252_1
   replace hx252_2 := zx HB.out hx252_2
   replace p252 := eq_true p252
   replace q252 := eq_true q252
   go_wp2_with (first | ((with_reducible refine gate_dst (N := 12) rfl ?_); refine box_event ?hg (N := 12) ?hd (cs := #[.int .i64 0, .int .i64 0, .int .i64 0]) (t := 60) ?hr ?_; (case hd => rfl); (case hg => rfl); (case hr => first | (go_simp; done) | (go_simp; rfl)); intro gb253 hg w82 hbox hb; replace HO_8 := zm (Kd.R_below (zP HO_8.out) hb); replace HO_9 := zm (Kd.R_below (zP HO_9.out) hb); have n2_ := zm (blk_below (g := gb243) zk hb); have n3_ := zm (blk_below (g := gb244) zk hb); have n4_ := zm (blk_below (g := gb251) zk hb); have n5_ := zm (below_step zb hb); have BK253 := zm (hbox); have GW253 := zm (zs hg zb : w.heap.size ≤ gb253); have GE253 := zm (zs hg zb : w.heap.size ≤ gb253); have NB243_253 := zm (zl hg zk : gb243 ≠ gb253); have NB253_243 := zm (zg hg zk : gb253 ≠ gb243); have NB244_253 := zm (zl hg zk : gb244 ≠ gb253); have NB253_244 := zm (zg hg zk : gb253 ≠ gb244); have NB251_253 := zm (zl hg zk : gb251 ≠ gb253); have NB253_251 := zm (zg hg zk : gb253 ≠ gb251); replace BK243 := n2_; replace BK244 := n3_; replace BK251 := n4_; replace HB := n5_; clear n2_ n3_ n4_ n5_; clear hb hbox hg; have hnb83 := NB253_243.out; have hnc83 := NB243_253.out; have hnb84 := NB253_244.out; have hnc84 := NB244_253.out; have hnb85 := NB253_251.out; have hnc85 := NB251_253.out; obtain ⟨hcz86_0, hcz86_1, hcz86_2, hfz86_0, hfz86_1, hfz86_2⟩ := zc3 BK253.out) | ((with_reducible refine gate_store (t := 60) (p := 12) rfl ?_); (try (rw [drewN_self w82]; generalize hq_ : World.drewN w82 _ = w82; have n0_ := zm (Kd.R_at hq_ HO_8.out); have n1_ := zm (Kd.R_at hq_ HO_9.out); have n2_ := zm (blk_at hq_ BK243.out); have n3_ := zm (blk_at hq_ BK244.out); have n4_ := zm (blk_at hq_ BK251.out); have n5_ := zm (blk_at hq_ BK253.out); have n6_ := zm (below_at hq_ HB.out); clear hq_ HO_8 HO_9 BK243 BK244 BK251 BK253 HB; have HO_8 := n0_; have HO_9 := n1_; have BK243 := n2_; have BK244 := n3_; have BK251 := n4_; have BK253 := n5_; have HB := n6_; clear n0_ n1_ n2_ n3_ n4_ n5_ n6_)); refine store_event (t := 60) (p := 12) (v := ?vo_w87) (w1 := (((w82.setCell ⟨gb253, 0, none⟩ (.int .i64 ((rd_T60 l1 x22_1).f0))).setCell ⟨gb253, 1, none⟩ (.int .i64 ((rd_T60 l1 x22_1).f1))).setCell ⟨gb253, 2, none⟩ (.int .i64 ((rd_T60 l1 x22_1).f2)))) ?hg ?ho ?hn ?hr ?_; (case ho => rfl); (case hg => rfl); (case hn => rfl); (case hr => first | (go_simp; done) | (go_simp; rfl)); intro w87 hw; have n0_ : Aside0 (Kd.R k56 56 w87 w.heap.size (fun _ => True) u8 x8_1) := ⟨(by rw [hw]; exact (zP (Kd.R_mono (Kd.R_far (p := ⟨gb253, 2, none⟩) (Kd.R_far (p := ⟨gb253, 1, none⟩) (Kd.R_far (p := ⟨gb253, 0, none⟩) (Kd.R_types HO_8.out BK253.out (by decide)) (fun _ hk => hk.2) (.int .i64 ((rd_T60 l1 x22_1).f0))) (fun _ hk => hk.2) (.int .i64 ((rd_T60 l1 x22_1).f1))) (fun _ hk => hk.2) (.int .i64 ((rd_T60 l1 x22_1).f2))) (fun _ hk => trivial))))⟩; have n1_ : Aside0 (Kd.R (Kd.int .i64) 3 w87 w.heap.size (fun _ => True) u9 x9_1) := ⟨(by rw [hw]; exact (zP (Kd.R_mono (Kd.R_far (p := ⟨gb253, 2, none⟩) (Kd.R_far (p := ⟨gb253, 1, none⟩) (Kd.R_far (p := ⟨gb253, 0, none⟩) (Kd.R_types HO_9.out BK253.out (by decide)) (fun _ hk => hk.2) (.int .i64 ((rd_T60 l1 x22_1).f0))) (fun _ hk => hk.2) (.int .i64 ((rd_T60 l1 x22_1).f1))) (fun _ hk => hk.2) (.int .i64 ((rd_T60 l1 x22_1).f2))) (fun _ hk => trivial))))⟩; have n2_ : Aside0 (w87.heap[gb243]? = some (.cells #[.slice A0_0 l0_0.length c0_0, .int .i64 a0_1] 32 (0, 0))) := ⟨(by rw [hw]; exact zK)⟩; have n3_ : Aside0 (w87.heap[gb244]? = some (.cells #[.int .i64 a2_0, .int .i64 a2_1, .int .i64 a2_2] 36 (0, 0))) := ⟨(by rw [hw]; exact zK)⟩; have n4_ : Aside0 (w87.heap[gb251]? = some (Mp.mObj (Value.int .i64) x252000_1)) := ⟨(by rw [hw]; exact (by (with_reducible repeat (first | refine blk_drewN ?_ _ | refine blk_drew ?_ | refine blk_alloc ?_ _)); refine Mp.far ?_ NB251_253.out _; (with_reducible repeat (first | refine blk_drewN ?_ _ | refine blk_drew ?_ | refine blk_alloc ?_ _)); refine Mp.far ?_ NB251_253.out _; (with_reducible repeat (first | refine blk_drewN ?_ _ | refine blk_drew ?_ | refine blk_alloc ?_ _)); refine Mp.far ?_ NB251_253.out _; (with_reducible repeat (first | refine blk_drewN ?_ _ | refine blk_drew ?_ | refine blk_alloc ?_ _)); exact BK251.out))⟩; have n5_ : Aside0 (w87.heap[gb253]? = some (.cells #[.int .i64 ((rd_T60 l1 x22_1).f0), .int .i64 ((rd_T60 l1 x22_1).f1), .int .i64 ((rd_T60 l1 x22_1).f2)] 60 (0, 0))) := ⟨(by rw [hw]; exact (by (with_reducible repeat (first | refine blk_drewN ?_ _ | refine blk_drew ?_ | refine blk_alloc ?_ _)); refine blk_put (cs := #[.int .i64 ((rd_T60 l1 x22_1).f0), .int .i64 ((rd_T60 l1 x22_1).f1), .int .i64 0]) ?_ 2 _ rfl; (with_reducible repeat (first | refine blk_drewN ?_ _ | refine blk_drew ?_ | refine blk_alloc ?_ _)); refine blk_put (cs := #[.int .i64 ((rd_T60 l1 x22_1).f0), .int .i64 0, .int .i64 0]) ?_ 1 _ rfl; (with_reducible repeat (first | refine blk_drewN ?_ _ | refine blk_drew ?_ | refine blk_alloc ?_ _)); refine blk_put (cs := #[.int .i64 0, .int .i64 0, .int .i64 0]) ?_ 0 _ rfl; (with_reducible repeat (first | refine blk_drewN ?_ _ | refine blk_drew ?_ | refine blk_alloc ?_ _)); exact BK253.out))⟩; have n6_ : Aside0 (Below w.heap.size w w87) := ⟨(by rw [hw]; exact zb)⟩; clear hw; clear HO_8; clear HO_9; clear BK243; clear BK244; clear BK251; clear BK253; clear HB; have HO_8 := n0_; have HO_9 := n1_; have BK243 := n2_; have BK244 := n3_; have BK251 := n4_; have BK253 := n5_; have HB := n6_; clear n0_ n1_ n2_ n3_ n4_ n5_ n6_; obtain ⟨hcz88_0, hcz88_1, hcz88_2, hfz88_0, hfz88_1, hfz88_2⟩ := zc3 BK253.out; have hnb89 := NB251_243.out; have hnc89 := NB243_251.out; have hnb90 := NB251_244.out; have hnc90 := NB244_251.out; have hlz91_true : ∀ k_ : Int, (Instr.lookup 84 (.map (some gb251)) (.int .i64 k_) true).run Tryd.prog w87 = .ok (.tuple #[(Value.int .i64) (Mp.mget (0 : Int) x252000_1 k_), .bool (Mp.mhas x252000_1 k_)]) w87 := fun k_ => Mp.run_lookup (enc := (Value.int .i64)) Tryd.underlying84 Tryd.underlying3 (0 : Int) (fun w_ => impl_spoken.zeroM84 w_) BK251.out k_ true; have hlz91_false : ∀ k_ : Int, (Instr.lookup 84 (.map (some gb251)) (.int .i64 k_) false).run Tryd.prog w87 = .ok ((Value.int .i64) (Mp.mget (0 : Int) x252000_1 k_)) w87 := fun k_ => Mp.run_lookup (enc := (Value.int .i64)) Tryd.underlying84 Tryd.underlying3 (0 : Int) (fun w_ => impl_spoken.zeroM84 w_) BK251.out k_ false; have hlz91_truen : ∀ (n_ : Nat) (k_ : Int), (Instr.lookup 84 (.map (some gb251)) (.int .i64 k_) true).run Tryd.prog (w87.drewN n_) = .ok (.tuple #[(Value.int .i64) (Mp.mget (0 : Int) x252000_1 k_), .bool (Mp.mhas x252000_1 k_)]) (w87.drewN n_) := fun n_ k_ => Mp.run_lookup (enc := (Value.int .i64)) Tryd.underlying84 Tryd.underlying3 (0 : Int) (fun w_ => impl_spoken.zeroM84 w_) (show (w87.drewN n_).heap[gb251]? = _ from BK251.out) k_ true; have hlz91_falsen : ∀ (n_ : Nat) (k_ : Int), (Instr.lookup 84 (.map (some gb251)) (.int .i64 k_) false).run Tryd.prog (w87.drewN n_) = .ok ((Value.int .i64) (Mp.mget (0 : Int) x252000_1 k_)) (w87.drewN n_) := fun n_ k_ => Mp.run_lookup (enc := (Value.int .i64)) Tryd.underlying84 Tryd.underlying3 (0 : Int) (fun w_ => impl_spoken.zeroM84 w_) (show (w87.drewN n_).heap[gb251]? = _ from BK251.out) k_ false; have hnb92 := NB244_243.out; have hnc92 := NB243_244.out; obtain ⟨hcz93_0, hcz93_1, hcz93_2, hfz93_0, hfz93_1, hfz93_2⟩ := zc3 BK244.out; obtain ⟨hcz94_0, hcz94_1, hfz94_0, hfz94_1⟩ := zc2 BK243.out) | (at_mapUpdate; refine Mp.put_event (t := 84) Tryd.underlying84 Tryd.underlying3 (Value.int .i64) rfl rfl rfl zk rfl ((rd_T60 l1 x22_1).f0) ((rd_T60 l1 x22_1).f1) ?hx ?hy ?_; (case hx => first | rfl | (go_simp; done) | (go_simp; rfl)); (case hy => first | rfl | (go_simp; done) | (go_simp; rfl)); intro w95 hp_ hg; replace HO_8 := zm (Mp.R_put (zP HO_8.out) zk hg); replace HO_9 := zm (Mp.R_put (zP HO_9.out) zk hg); replace BK243 := zm (Mp.blk_put (by exact BK243.out) hg NB243_251.out); replace BK244 := zm (Mp.blk_put (by exact BK244.out) hg NB244_251.out); replace BK251 := zm (hp_); replace BK253 := zm (Mp.blk_put (by exact BK253.out) hg NB253_251.out); replace HB := zm (Below.grown zb hg (below_size zb) (fun j_ hj_ => by cases hj_; exact GE251.out)); clear hp_ hg; obtain ⟨hcz96_0, hcz96_1, hfz96_0, hfz96_1⟩ := zc2 BK243.out; obtain ⟨hcz97_0, hcz97_1, hcz97_2, hfz97_0, hfz97_1, hfz97_2⟩ := zc3 BK253.out; have p266 : 0 ≤ (((rd_T60 l1 x22_1).f0) : Int) := zd; have q266 : ((rd_T60 l1 x22_1).f0) < (l0_0.length : Int) := zd; obtain ⟨ad266, e266, hx266_0⟩ := Kd.at_int HR0_0.out ((rd_T60 l1 x22_1).f0) p266 q266; cases e266; replace hx266_0 := zx HB.out hx266_0; replace p266 := eq_true p266; replace q266 := eq_true q266) | ((with_reducible refine gate_builtin (b := .append) (xs := #[.tmp 87, .tmp 97]) rfl ?_); at_builtin; refine Kd.R_append k56 (w0 := w) w.heap.size rfl (.tmp 87) (.tmp 97) 52 56 (.agg #[(.int .i64 0), (.int .i64 0), (.int .i64 0)]) 24 rfl Tryd.underlying52 info56 rfl (by decide) (by omega) u8 x8_1 (⟨rd l0_0 ((rd_T60 l1 x22_1).f0), wrap64 (((rd_T60 l1 x22_1).f1) + a2_0), wrap64 (((rd_T60 l1 x22_1).f2) + a2_1)⟩ : S56) [.int .i64 (rd l0_0 ((rd_T60 l1 x22_1).f0)), .int .i64 (wrap64 (((rd_T60 l1 x22_1).f1) + a2_0)), .int .i64 (wrap64 (((rd_T60 l1 x22_1).f2) + a2_1))] (fun _ => True) (fun _ => False) rfl rfl ?aP (fun _ hk => hk.elim) ?aF ?aO ?aB ?aS ?aL ?_; (case aP => exact k56_mkM _ _ _ (⟨rd l0_0 ((rd_T60 l1 x22_1).f0), wrap64 (((rd_T60 l1 x22_1).f1) + a2_0), wrap64 (((rd_T60 l1 x22_1).f2) + a2_1)⟩ : S56)); (case aB => exact zb); (case aF => exact (fun _ _ => trivial)); (case aO => exact (zP HO_8.out)); (case aS => exact (below_size zb)); (case aL => have := LMc81.out; omega); intro v268 w98 ho hb hg hat; rw [← Ny267.out] at ho; replace HO_9 := zm (Kd.R_over' (zP HO_9.out) (Kd.R_typed (zP HO_8.out)) (by decide) hg); have n1_ := zm (blk_grown (g := gb243) (o := .cells #[.slice (some ad266) l0_0.length c0_0, .int .i64 a0_1] 32 (0, 0)) zk hg (Kd.R_ne HO_8.out BK243.out (by decide))); have n2_ := zm (blk_grown (g := gb244) (o := .cells #[.int .i64 a2_0, .int .i64 a2_1, .int .i64 a2_2] 36 (0, 0)) zk hg (Kd.R_ne HO_8.out BK244.out (by decide))); have n3_ := zm (blk_grown (g := gb251) (o := Mp.mObj (Value.int .i64) (Mp.mput x252000_1 ((rd_T60 l1 x22_1).f0) ((rd_T60 l1 x22_1).f1))) zk hg (Mp.R_ne HO_8.out BK251.out)); replace BK253 := zm (blk_grown (g := gb253) (o := .cells #[.int .i64 ((rd_T60 l1 x22_1).f0), .int .i64 ((rd_T60 l1 x22_1).f1), .int .i64 ((rd_T60 l1 x22_1).f2)] 60 (0, 0)) zk hg (Kd.R_ne HO_8.out BK253.out (by decide))); replace HB := zm (hb); have HO269 := zm (ho); replace BK243 := n1_; replace BK244 := n2_; replace BK251 := n3_; clear HO_8 n1_ n2_ n3_; clear ho hb hg hat) | ((with_reducible refine impl_spoken.gq ?_); go_quiet (fail)))
   go_roundg k1
   case measure => have := HK1.out; omega
   case rel => exact ⟨(y267), (x9_1), (wrap64 (x22_1 + 1)), (Mp.mput x252000_1 ((rd_T60 l1 x22_1).f0) ((rd_T60 l1 x22_1).f1)), (by first | rfl | (simp; done) | (simp [*]; done)), H', ⟨by have := HK1.out; omega⟩, ⟨zP HO269.out⟩, ⟨zP HO_9.out⟩, ⟨zk⟩, ⟨zk⟩, ⟨zk⟩, ⟨zb⟩⟩
-- NOT PRINTED: function 62 (abi_NoEscape)

-- NOT PRINTED: function 44 (strings_Builder_copyCheck)

-- NOT PRINTED: function 28 (strings_Builder_WriteString)

/-! ### strconv_Itoa: function 45 -/
def strconv_Itoa.f (a0 : Int) : Option (ByteArray) := if -9223372036854775808 ≤ a0 ∧ a0 ≤ 9223372036854775807 then some (⟨(Go.Lib.itoa a0).toArray⟩ : ByteArray) else none
theorem strconv_Itoa.calls (a0 : Int) (r : ByteArray) (w : World) (h : strconv_Itoa.f a0 = some r) (ht : Lib.HTab w := by exact Lib.zt HT0.out zb) :
    Calls Tryd.prog 45 #[.int .i64 a0] w fun e w' => e = .returned (.string r) ∧ Below w.heap.size w w' :=
  Lib.Itoa_calls a0 r w ht h

/-! ### impl_pitchName: function 29 -/
def impl_pitchName.f (a0 : Int) : Option (ByteArray) := (some (([(⟨#[99]⟩ : ByteArray), (⟨#[99, 35]⟩ : ByteArray), (⟨#[100]⟩ : ByteArray), (⟨#[100, 35]⟩ : ByteArray), (⟨#[101]⟩ : ByteArray), (⟨#[102]⟩ : ByteArray), (⟨#[102, 35]⟩ : ByteArray), (⟨#[103]⟩ : ByteArray), (⟨#[103, 35]⟩ : ByteArray), (⟨#[97]⟩ : ByteArray), (⟨#[97, 35]⟩ : ByteArray), (⟨#[98]⟩ : ByteArray)] : List ByteArray) : List ByteArray)).bind fun y277 => (if 0 ≤ (Int.tmod a0 12) then (if (Int.tmod a0 12) < (y277.length : Int) then ((strconv_Itoa.f (wrap64 (Int.tdiv a0 12))).bind fun t281 => (if (rdOf ByteArray.empty y277 (Int.tmod a0 12)).size + t281.size ≤ 9223372036854775807 then (some ((rdOf ByteArray.empty y277 (Int.tmod a0 12)) ++ t281)) else (none))) else (none)) else (none))
def impl_pitchName.T2 : Bool × List (List Nat × List Nat) := (true, [([], []), ([], []), ([1], [1]), ([0, 2], [0, 2]), ([3], [3]), ([], []), ([5], [5]), ([6], [6]), ([4, 7], [4, 7]), ([8, 7, 0, 1, 2, 3, 4, 5, 6, 7, 8], [8])])
def impl_pitchName.B2 : List Nat := [0, 0, 2, 7, 15, 0, 32, 96, 255, 511]
theorem impl_pitchName.tab2 : rtab .any (opsOf Tryd.f29 2) = impl_pitchName.T2 := by kernel_rfl
theorem impl_pitchName.bits2 : waitsOk impl_pitchName.T2.2 impl_pitchName.B2 = true := by kernel_rfl
set_option maxHeartbeats 8000000 in
set_option maxRecDepth 100000 in
theorem impl_pitchName.calls (a0 : Int) (r : ByteArray) (w : World) (h : impl_pitchName.f a0 = some r) (ht : Lib.HTab w := by exact Lib.zt HT0.out zb) :
  Calls Tryd.prog 29 #[.int .i64 a0] w fun e w' => e = .returned (.string r) ∧ Below w.heap.size w w' := by
 have HT0 := zm ht
 clear ht
 have HB := zm (Below.refl w.heap.size w)
 have H : ((some (([(⟨#[99]⟩ : ByteArray), (⟨#[99, 35]⟩ : ByteArray), (⟨#[100]⟩ : ByteArray), (⟨#[100, 35]⟩ : ByteArray), (⟨#[101]⟩ : ByteArray), (⟨#[102]⟩ : ByteArray), (⟨#[102, 35]⟩ : ByteArray), (⟨#[103]⟩ : ByteArray), (⟨#[103, 35]⟩ : ByteArray), (⟨#[97]⟩ : ByteArray), (⟨#[97, 35]⟩ : ByteArray), (⟨#[98]⟩ : ByteArray)] : List ByteArray) : List ByteArray)).bind fun y277 => (if 0 ≤ (Int.tmod a0 12) then (if (Int.tmod a0 12) < (y277.length : Int) then ((strconv_Itoa.f (wrap64 (Int.tdiv a0 12))).bind fun t281 => (if (rdOf ByteArray.empty y277 (Int.tmod a0 12)).size + t281.size ≤ 9223372036854775807 then (some ((rdOf ByteArray.empty y277 (Int.tmod a0 12)) ++ t281)) else (none))) else (none)) else (none))) = some r := h
 clear h
 obtain ⟨y277, hy277⟩ : ∃ y_ : List ByteArray, y_ = (([(⟨#[99]⟩ : ByteArray), (⟨#[99, 35]⟩ : ByteArray), (⟨#[100]⟩ : ByteArray), (⟨#[100, 35]⟩ : ByteArray), (⟨#[101]⟩ : ByteArray), (⟨#[102]⟩ : ByteArray), (⟨#[102, 35]⟩ : ByteArray), (⟨#[103]⟩ : ByteArray), (⟨#[103, 35]⟩ : ByteArray), (⟨#[97]⟩ : ByteArray), (⟨#[97, 35]⟩ : ByteArray), (⟨#[98]⟩ : ByteArray)] : List ByteArray)) := ⟨_, rfl⟩
 replace H : (if 0 ≤ (Int.tmod a0 12) then (if (Int.tmod a0 12) < (y277.length : Int) then ((strconv_Itoa.f (wrap64 (Int.tdiv a0 12))).bind fun t281 => (if (rdOf ByteArray.empty y277 (Int.tmod a0 12)).size + t281.size ≤ 9223372036854775807 then (some ((rdOf ByteArray.empty y277 (Int.tmod a0 12)) ++ t281)) else (none))) else (none)) else (none)) = some r := by first | (rw [hy277]; with_reducible exact H) | (have H2_ := (Option.bind_some _ _).symm.trans H; rw [hy277]; with_reducible exact H2_) | (have H2_ := (Option.bind_some _ _).symm.trans H; with_reducible exact H2_) | with_reducible exact H | (rw [hy277]; exact H) | exact H
 have Ny277 := zm hy277
 clear hy277
 obtain ⟨ji2, hji2⟩ : ∃ j_ : Int, (Int.tmod a0 12) = j_ := ⟨_, rfl⟩
 replace H : (if 0 ≤ (ji2) then (if (ji2) < (y277.length : Int) then ((strconv_Itoa.f (wrap64 (Int.tdiv a0 12))).bind fun t281 => (if (rdOf ByteArray.empty y277 (ji2)).size + t281.size ≤ 9223372036854775807 then (some ((rdOf ByteArray.empty y277 (ji2)) ++ t281)) else (none))) else (none)) else (none)) = some r := by first | (rw [hji2] at H; exact H) | (simp only [hji2] at H ⊢; exact H)
 by_cases c3 : 0 ≤ (ji2)
 rotate_left
 ·
  rw [if_neg c3] at H
  exact absurd H (by simp)

 rw [if_pos c3] at H
 have c3b0 : decide (0 ≤ (ji2)) = true := decide_eq_true c3
 clear c3
 by_cases c4 : (ji2) < (y277.length : Int)
 rotate_left
 ·
  rw [if_neg c4] at H
  exact absurd H (by simp)
 rw [if_pos c4] at H
 have c4b0 : decide ((ji2) < (y277.length : Int)) = true := decide_eq_true c4
 clear c4
 replace H := Option.bind_eq_some_iff.mp H
 obtain ⟨t281, A50, H⟩ := H
 (try dsimp only at H)
 have A5 := zm A50
 clear A50
 by_cases c6 : (rdOf ByteArray.empty y277 (ji2)).size + t281.size ≤ 9223372036854775807
 rotate_left
 ·
  rw [if_neg c6] at H
  exact absurd H (by simp)
 rw [if_pos c6] at H
 have c6b0 := eq_true c6
 have c6b1 : decide ((rdOf ByteArray.empty y277 (ji2)).size + t281.size ≤ 9223372036854775807) = true := decide_eq_true c6
 try have c6b2 : (9223372036854775807 < (rdOf ByteArray.empty y277 (ji2)).size + t281.size) = False := eq_false (Nat.not_lt.2 c6)
 obtain rfl := Option.some.inj H
 go_enter Tryd.func29, Tryd.ntmps29
 try go_wp2_with (first | ((with_reducible refine gate_dst (N := 4) rfl ?_); refine Kd.R_lit Kd.string _ 9 ?hg (N := 4) ?hd (xs := ([(⟨#[99]⟩ : ByteArray), (⟨#[99, 35]⟩ : ByteArray), (⟨#[100]⟩ : ByteArray), (⟨#[100, 35]⟩ : ByteArray), (⟨#[101]⟩ : ByteArray), (⟨#[102]⟩ : ByteArray), (⟨#[102, 35]⟩ : ByteArray), (⟨#[103]⟩ : ByteArray), (⟨#[103, 35]⟩ : ByteArray), (⟨#[97]⟩ : ByteArray), (⟨#[97, 35]⟩ : ByteArray), (⟨#[98]⟩ : ByteArray)] : List ByteArray)) (inner := [.string (⟨#[99]⟩ : ByteArray), .string (⟨#[99, 35]⟩ : ByteArray), .string (⟨#[100]⟩ : ByteArray), .string (⟨#[100, 35]⟩ : ByteArray), .string (⟨#[101]⟩ : ByteArray), .string (⟨#[102]⟩ : ByteArray), .string (⟨#[102, 35]⟩ : ByteArray), .string (⟨#[103]⟩ : ByteArray), .string (⟨#[103, 35]⟩ : ByteArray), .string (⟨#[97]⟩ : ByteArray), .string (⟨#[97, 35]⟩ : ByteArray), .string (⟨#[98]⟩ : ByteArray)]) (ok := fun _ => True) (okp := fun _ => True) ?hr ?hp (fun _ hk => hk) trivial (Below.refl _ _) (Nat.le_refl _) (by simp) ?_; (case hd => rfl); (case hg => rfl); (case hr => first | (go_simp; done) | (go_simp; rfl)); (case hp => exact (Reps.one (show Kd.M Kd.string _ _ _ (⟨#[99]⟩ : ByteArray) [.string (⟨#[99]⟩ : ByteArray)] from rfl) (Reps.one (show Kd.M Kd.string _ _ _ (⟨#[99, 35]⟩ : ByteArray) [.string (⟨#[99, 35]⟩ : ByteArray)] from rfl) (Reps.one (show Kd.M Kd.string _ _ _ (⟨#[100]⟩ : ByteArray) [.string (⟨#[100]⟩ : ByteArray)] from rfl) (Reps.one (show Kd.M Kd.string _ _ _ (⟨#[100, 35]⟩ : ByteArray) [.string (⟨#[100, 35]⟩ : ByteArray)] from rfl) (Reps.one (show Kd.M Kd.string _ _ _ (⟨#[101]⟩ : ByteArray) [.string (⟨#[101]⟩ : ByteArray)] from rfl) (Reps.one (show Kd.M Kd.string _ _ _ (⟨#[102]⟩ : ByteArray) [.string (⟨#[102]⟩ : ByteArray)] from rfl) (Reps.one (show Kd.M Kd.string _ _ _ (⟨#[102, 35]⟩ : ByteArray) [.string (⟨#[102, 35]⟩ : ByteArray)] from rfl) (Reps.one (show Kd.M Kd.string _ _ _ (⟨#[103]⟩ : ByteArray) [.string (⟨#[103]⟩ : ByteArray)] from rfl) (Reps.one (show Kd.M Kd.string _ _ _ (⟨#[103, 35]⟩ : ByteArray) [.string (⟨#[103, 35]⟩ : ByteArray)] from rfl) (Reps.one (show Kd.M Kd.string _ _ _ (⟨#[97]⟩ : ByteArray) [.string (⟨#[97]⟩ : ByteArray)] from rfl) (Reps.one (show Kd.M Kd.string _ _ _ (⟨#[97, 35]⟩ : ByteArray) [.string (⟨#[97, 35]⟩ : ByteArray)] from rfl) (Reps.one (show Kd.M Kd.string _ _ _ (⟨#[98]⟩ : ByteArray) [.string (⟨#[98]⟩ : ByteArray)] from rfl) (Reps.none _ _)))))))))))))); intro v278 w7 ho8 hb hg_ hnew_; clear hg_ hnew_; (first | rw [← Ny277.out] at ho8 | (simp only [Int.reduceToNat] at ho8; rw [← Ny277.out] at ho8)); have HO279 := zm (Kd.R_lower ho8 (below_size zb)); replace HB := zm (below_step zb hb); clear hb ho8))
 have n0_ := zm (Kd.R_drew HO279.out)
 have n1_ := zm (below_drew1 HB.out)
 clear HO279
 clear HB
 have HO279 := n0_
 have HB := n1_
 clear n0_ n1_
 obtain ⟨Ao10, co10, eo10⟩ := Kd.R_slice HO279.out
 (first | subst eo10 | (injection eo10 with f1_ f2_ f3_; have f4_ := f1_.symm; have f5_ := f3_.symm; clear f1_ f2_ f3_; subst f4_; subst f5_))
 have p280 : 0 ≤ ((ji2) : Int) := zd
 have q280 : (ji2) < (y277.length : Int) := zd
 obtain ⟨ad280, e280, hx280_0⟩ := Kd.at_string (Kd.R_reads' HO279.out).2.2 (ji2) p280 q280
 cases e280
 replace p280 := eq_true p280
 replace q280 := eq_true q280
 refine start_ (n := 10) (S := fun w' => w'.cell? (ad280.add ((ji2)).toNat) = some (.string (rdOf ByteArray.empty y277 (ji2)))) (ds := []) #[false, false, false, false, false, false, false, false, false, false] (by kernel_rfl) rfl rfl (hx280_0) (fun hHeld => ?_); refine with_tabW impl_pitchName.tab2 impl_pitchName.bits2 (fun HT_ HW_ => ?_)
 generalize w7.drew = w9 at HO279 HB hx280_0 hHeld ⊢
 refine pure_ (i := 0) (N := some 5) (v := ?_) (a' := ?_) #[true, false, false, false, false, false, false, false, false, false] rfl rfl (any_of HT_.out (by kernel_rfl)) (fun _ _ _ h => h) (Or.inl ⟨by rfl, ?_⟩) ?_ ?_
 rotate_left
 ·
  intro w'
  go_simp
  with_reducible rfl
 rotate_left
 ·
  simp only [Act.put, zA, zB, zD, i64_w, i32_w]
  rfl
 refine pure_ (i := 1) (N := some 6) (v := ?_) (a' := ?_) #[true, true, false, false, false, false, false, false, false, false] rfl rfl (any_of HT_.out (by kernel_rfl)) (fun _ _ _ h => h) (Or.inl ⟨by rfl, ?_⟩) ?_ ?_
 rotate_left
 ·
  intro w'
  go_simp
  with_reducible rfl
 rotate_left
 ·
  simp only [Act.put, zA, zB, zD, i64_w, i32_w]
  rfl
 refine pure_ (i := 2) (N := some 7) (v := ?_) (a' := ?_) #[true, true, true, false, false, false, false, false, false, false] rfl rfl (any_of HT_.out (by kernel_rfl)) (fun _ _ _ h => h) (Or.inl ⟨by rfl, ?_⟩) ?_ ?_
 rotate_left
 ·
  intro w'
  go_simp
  with_reducible rfl
 rotate_left
 ·
  simp only [Act.put, zA, zB, zD, i64_w, i32_w]
  rfl
 refine pure_ (i := 3) (N := some 8) (v := ?_) (a' := ?_) #[true, true, true, true, false, false, false, false, false, false] rfl rfl (any_of HT_.out (by kernel_rfl)) (fun _ _ _ h => h) (Or.inl ⟨by rfl, ?_⟩) ?_ ?_
 rotate_left
 ·
  intro w'
  go_simp
  with_reducible rfl
 rotate_left
 ·
  simp only [Act.put, zA, zB, zD, i64_w, i32_w]
  rfl
 refine pure_ (i := 5) (N := some 10) (v := ?_) (a' := ?_) #[true, true, true, true, false, true, false, false, false, false] rfl rfl (any_of HT_.out (by kernel_rfl)) (fun _ _ _ h => h) (Or.inl ⟨by rfl, ?_⟩) ?_ ?_
 rotate_left
 ·
  intro w'
  go_simp
  with_reducible rfl
 rotate_left
 ·
  simp only [Act.put, zA, zB, zD, i64_w, i32_w]
  rfl
 refine pure_ (i := 6) (N := some 11) (v := ?_) (a' := ?_) #[true, true, true, true, false, true, true, false, false, false] rfl rfl (any_of HT_.out (by kernel_rfl)) (fun _ _ _ h => h) (Or.inl ⟨by rfl, ?_⟩) ?_ ?_
 rotate_left
 ·
  intro w'
  go_simp
  with_reducible rfl
 rotate_left
 ·
  simp only [Act.put, zA, zB, zD, i64_w, i32_w]
  rfl
 refine take_ (i := 4) (N := some 9) (v := ?_) (a' := ?_) #[true, true, true, true, true, true, true, false, false, false] rfl rfl (take_ofW HT_.out HW_.out (by kernel_rfl)) (fun _ _ _ h => h) (Or.inl ⟨by rfl, ?_⟩) hHeld ?_ ?_
 rotate_left
 ·
  intro w' s0
  go_simp
  with_reducible rfl
 rotate_left
 ·
  simp only [Act.put, zA, zB, zD, i64_w, i32_w]
  rfl
 refine one_ (i := 7) (N := some 12) #[true, true, true, true, true, true, true, true, false, false] rfl rfl (one_of HT_.out (by kernel_rfl)) (by decide) (fun K hK => ?_)
 refine goes_ Tryd.func45 (by kernel_rfl) rfl #[.int .i64 (wrap64 (Int.tdiv a0 12))] (by rfl) rfl rfl (by (try simp only [List.map_toArray, List.map_cons, List.map_nil]); first | done | rfl | (simp only [List.length_drop, List.length_take]; rfl)) ?_
 with_reducible refine (strconv_Itoa.calls (wrap64 (Int.tdiv a0 12)) t281 _ A5.out).mono ?_
 rintro e w11 ⟨rfl, hb⟩
 have HS0_ := (hb.cell (World.block_lt_of_cell? _ _ (hHeld))).trans (hHeld)
 refine ⟨_, rfl, ?_⟩
 have n0_ := zm (Kd.R_below (zP HO279.out) hb)
 have n1_ := zm (below_step zb hb)
 clear HO279
 clear HB
 have HO279 := n0_
 have HB := n1_
 clear n0_ n1_
 (try clear hb)
 (try clear hb2)
 (try clear hk)
 (try clear hi)
 refine hK.out _ _ (HS0_) (fun hHeld => ?_)
 clear hK K
 refine norm_ (a' := ?_) ?_ ?_
 rotate_left
 ·
  show Act.put _ (some 12) _ = _
  simp only [Act.put, zA, zB, zD, i64_w, i32_w]
  rfl
 refine pure_ (i := 8) (N := some 13) (v := ?_) (a' := ?_) #[true, true, true, true, true, true, true, true, true, false] rfl rfl (any_of HT_.out (by kernel_rfl)) (fun _ _ _ h => h) (Or.inl ⟨by rfl, ?_⟩) ?_ ?_
 rotate_left
 ·
  intro w'
  go_simp
  with_reducible rfl
 rotate_left
 ·
  simp only [Act.put, zA, zB, zD, i64_w, i32_w]
  rfl
 refine pure_ (i := 9) (N := some 2) (v := ?_) (a' := ?_) #[true, true, true, true, true, true, true, true, true, true] rfl rfl (any_of HT_.out (by kernel_rfl)) (fun _ _ _ h => h) (Or.inl ⟨by rfl, ?_⟩) ?_ ?_
 rotate_left
 ·
  intro w'
  go_simp
  with_reducible rfl
 rotate_left
 ·
  simp only [Act.put, zA, zB, zD, i64_w, i32_w]
  rfl
 refine done_ (done_of HT_.out (by kernel_rfl)) ?_
 try go_wp2
 go_ret
 exact ⟨by first | rfl | (simp [errW_none, errW_some] <;> rfl) | (simp only [← hji2]; first | rfl | (simp [errW_none, errW_some] <;> rfl)) | (simp [*, errW_none, errW_some] <;> rfl), zb⟩
/-! ### strings_Join: function 46 -/
def strings_Join.f (l0 : List ByteArray) (a1 : ByteArray) : Option (ByteArray) := if l0.length ≤ 140737488355328 ∧ (Go.Lib.join (l0.map (·.data.toList)) a1.data.toList).length ≤ 140737488355328 then some (⟨(Go.Lib.join (l0.map (·.data.toList)) a1.data.toList).toArray⟩ : ByteArray) else none
theorem strings_Join.calls (A0 : Option Addr) (c0 : Nat) (l0 : List ByteArray) (a1 : ByteArray) (r : ByteArray) (w : World) (hr0 : Kd.C Kd.string w A0 l0.length l0) (hc0 : l0.length ≤ c0) (h : strings_Join.f l0 a1 = some r) :
    Calls Tryd.prog 46 #[.slice A0 l0.length c0, .string a1] w fun e w' => e = .returned (.string r) ∧ Below w.heap.size w w' :=
  Lib.Join_calls A0 c0 l0 a1 r w hr0 hc0 h

/-! ### impl_words: function 30 -/
def impl_words.l0 : Nat → List ByteArray → List Int → Int → Int → Option (ByteArray)
  | 0, _, _, _, _ => none
  | k + 1, x3, x7, x8, x9 => if x9 < x8 then (if 0 ≤ x9 then (if x9 < (x7.length : Int) then ((strconv_Itoa.f (rd x7 x9)).bind fun t286 => (if x3.length < 8796093022208 then (impl_words.l0 k (x3 ++ [t286]) x7 x8 (wrap64 (x9 + 1))) else (none))) else (none)) else (none)) else ((strings_Join.f x3 (⟨#[32]⟩ : ByteArray)).bind fun t290 => (some t290))
def impl_words.f (k : Nat) (l0 : List Int) : Option (ByteArray) := impl_words.l0 k (([] : List ByteArray)) l0 (l0.length : Int) 0
theorem impl_words.mono_l : ∀ k, (∀ y0 y1 y2 y3, LeO (impl_words.l0 k y0 y1 y2 y3) (impl_words.l0 (k + 1) y0 y1 y2 y3))
  | 0 => fun _ _ _ _ r h => by simp [impl_words.l0] at h
  | k + 1 => by
    have ih0 := impl_words.mono_l k
    · intro y0 y1 y2 y3
      unfold impl_words.l0
      repeat' first
      | (with_reducible exact ih0 _ _ _ _)
      | (with_reducible exact LeO.refl _)
      | (with_reducible exact LeO.none _)
      | (with_reducible refine LeO.ite ?_ ?_)
      | (with_reducible refine LeO.bind ?_ (fun _ => ?_))
      | exact ih0 _ _ _ _
      | exact LeO.none _
      | refine LeO.ite ?_ ?_
      | refine LeO.bind ?_ (fun _ => ?_)
theorem impl_words.mono : ∀ a0 k, LeO (impl_words.f k a0) (impl_words.f (k + 1) a0) := by
  intro a0 k
  have ih0 := impl_words.mono_l k
  unfold impl_words.f
  repeat' first
      | (with_reducible exact ih0 _ _ _ _)
      | (with_reducible exact LeO.refl _)
      | (with_reducible exact LeO.none _)
      | (with_reducible refine LeO.ite ?_ ?_)
      | (with_reducible refine LeO.bind ?_ (fun _ => ?_))
      | exact ih0 _ _ _ _
      | exact LeO.none _
      | refine LeO.ite ?_ ?_
      | refine LeO.bind ?_ (fun _ => ?_)
set_option maxHeartbeats 8000000 in
set_option maxRecDepth 100000 in
theorem impl_words.calls (k : Nat) (A0 : Option Addr) (c0 : Nat) (l0 : List Int) (r : ByteArray) (w : World) (hr0 : Kd.C (Kd.int .i64) w A0 l0.length l0) (hc0 : l0.length ≤ c0) (h : impl_words.f k l0 = some r) (ht : Lib.HTab w := by exact Lib.zt HT0.out zb) :
  Calls Tryd.prog 30 #[.slice A0 l0.length c0] w fun e w' => e = .returned (.string r) ∧ Below w.heap.size w w' := by
 have HT0 := zm ht
 clear ht
 have HR0 := zm hr0
 have HC0 := zm hc0
 clear hr0 hc0
 have HB := zm (Below.refl w.heap.size w)
 have H : (impl_words.l0 k (([] : List ByteArray)) l0 (l0.length : Int) 0) = some r := h
 clear h
 obtain ⟨y282, hy282⟩ : ∃ y_ : List ByteArray, y_ = (([] : List ByteArray)) := ⟨_, rfl⟩
 replace H : (impl_words.l0 k y282 l0 (l0.length : Int) 0) = some r := by first | (rw [hy282]; with_reducible exact H) | (have H2_ := (Option.bind_some _ _).symm.trans H; rw [hy282]; with_reducible exact H2_) | (have H2_ := (Option.bind_some _ _).symm.trans H; with_reducible exact H2_) | with_reducible exact H | (rw [hy282]; exact H) | exact H
 have Ny282 := zm hy282
 clear hy282
 have H' := zm H
 clear H
 go_enter Tryd.func30, Tryd.ntmps30
 go_wp2_with (first | ((with_reducible refine gate_dst (N := 6) rfl ?_); refine Kd.R_lit Kd.string _ 9 ?hg (N := 6) ?hd (xs := ([] : List ByteArray)) (inner := []) (ok := fun _ => True) (okp := fun _ => True) ?hr ?hp (fun _ hk => hk) trivial (Below.refl _ _) (Nat.le_refl _) (by simp) ?_; (case hd => rfl); (case hg => rfl); (case hr => first | (go_simp; done) | (go_simp; rfl)); (case hp => exact (Reps.none _ _)); intro v283 w2 ho3 hb hg_ hnew_; clear hg_ hnew_; (first | rw [← Ny282.out] at ho3 | (simp only [Int.reduceToNat] at ho3; rw [← Ny282.out] at ho3)); have HO284 := zm (Kd.R_lower ho3 (below_size zb)); replace HB := zm (below_step zb hb); clear hb ho3))
 go_loopg [3, 9] k (fun kq v3 v9 w' => ∃ (x3_1 : List ByteArray) (x9_1 : Int), v9 = .int .i64 x9_1 ∧ Aside0 (impl_words.l0 kq x3_1 l0 (l0.length : Int) x9_1 = some r) ∧ Aside0 (kq ≤ k) ∧ Aside0 (Kd.R Kd.string 9 w' w.heap.size (fun _ => True) v3 x3_1) ∧ Aside0 (Below w.heap.size w w'))
 case atStart => exact ⟨(y282), (0), (by first | rfl | (simp; done) | (simp [*]; done)), H', ⟨Nat.le_refl _⟩, ⟨zP HO284.out⟩, ⟨zb⟩⟩
 case round =>
  clear H'
  (try clear p2); (try clear c3)
  obtain ⟨x3_1, x9_1, rfl, HA, HK1, HO_3, HB⟩ := hrel
  cases gk with
  | zero => exact absurd HA.out (by simp [impl_words.l0])
  | succ k1 =>
   have H := HA.out
   clear HA
   simp only [impl_words.l0] at H
   by_cases c4 : x9_1 < (l0.length : Int)
   rotate_left
   ·
    rw [if_neg c4] at H
    have c4b0 : decide (x9_1 < (l0.length : Int)) = false := decide_eq_false c4
    clear c4
    replace H := Option.bind_eq_some_iff.mp H
    obtain ⟨t290, A110, H⟩ := H
    (try dsimp only at H)
    have A11 := zm A110
    clear A110
    obtain rfl := Option.some.inj H
    obtain ⟨Ao12, co12, eo12⟩ := Kd.R_slice HO_3.out
    subst eo12
    go_wp2_with (first | ((with_reducible refine gate_callee (f := 46) rfl ?_); refine goesA_ (some 20) Tryd.func46 #[.slice Ao12 x3_1.length co12, .string (⟨#[32]⟩ : ByteArray)] rfl ?_; (with_reducible refine (strings_Join.calls _ _ x3_1 (⟨#[32]⟩ : ByteArray) t290 _ ?side1 ?side2 A11.out).mono ?_); (case side1 => repeat (first | exact (Kd.R_reads' HO_3.out).2.2 | (with_reducible refine Kd.C_alloc ?_ _) | (with_reducible refine Kd.C_drewN ?_ _) | (with_reducible refine Kd.C_drew ?_))); (case side2 => exact (Kd.R_reads' HO_3.out).2.1); rintro e w13 ⟨rfl, hb⟩; refine ⟨_, rfl, ?_⟩; replace HO_3 := zm (Kd.R_below (zP HO_3.out) hb); replace HB := zm (below_step zb hb); (try clear hb); (try clear hb2); (try clear hk); (try clear hi)))
    go_ret
    exact ⟨zr, zb⟩

   rw [if_pos c4] at H
   have c4b0 : decide (x9_1 < (l0.length : Int)) = true := decide_eq_true c4
   clear c4
   by_cases c5 : 0 ≤ x9_1
   rotate_left
   ·
    rw [if_neg c5] at H
    exact absurd H (by simp)
   rw [if_pos c5] at H
   have c5b0 : decide (0 ≤ x9_1) = true := decide_eq_true c5
   clear c5
   by_cases c6 : x9_1 < (l0.length : Int)
   rotate_left
   ·
    rw [if_neg c6] at H
    exact absurd H (by simp)
   rw [if_pos c6] at H
   have c6b0 : decide (x9_1 < (l0.length : Int)) = true := decide_eq_true c6
   clear c6
   replace H := Option.bind_eq_some_iff.mp H
   obtain ⟨t286, A70, H⟩ := H
   (try dsimp only at H)
   have A7 := zm A70
   clear A70
   by_cases c8 : x3_1.length < 8796093022208
   rotate_left
   ·
    rw [if_neg c8] at H
    exact absurd H (by simp)
   rw [if_pos c8] at H
   have LMc8 := zm c8
   clear c8
   obtain ⟨y287, hy287⟩ : ∃ y_ : List ByteArray, y_ = (x3_1 ++ [t286]) := ⟨_, rfl⟩
   replace H : (impl_words.l0 k1 y287 l0 (l0.length : Int) (wrap64 (x9_1 + 1))) = some r := by first | (rw [hy287]; with_reducible exact H) | (have H2_ := (Option.bind_some _ _).symm.trans H; rw [hy287]; with_reducible exact H2_) | (have H2_ := (Option.bind_some _ _).symm.trans H; with_reducible exact H2_) | with_reducible exact H | (rw [hy287]; exact H) | exact H
   have Ny287 := zm hy287
   clear hy287
   have H' := zm H
   clear H
   have p285 : 0 ≤ (x9_1 : Int) := zd
   have q285 : x9_1 < (l0.length : Int) := zd
   obtain ⟨ad285, e285, hx285_0⟩ := Kd.at_int HR0.out x9_1 p285 q285
   cases e285
   replace hx285_0 := zx HB.out hx285_0
   replace p285 := eq_true p285
   replace q285 := eq_true q285
   go_wp2_with (first | ((with_reducible refine gate_callee (f := 45) rfl ?_); refine goesA_ (some 15) Tryd.func45 #[.int .i64 (rd l0 x9_1)] rfl ?_; (with_reducible refine (strconv_Itoa.calls (rd l0 x9_1) t286 _ A7.out).mono ?_); rintro e w9 ⟨rfl, hb⟩; refine ⟨_, rfl, ?_⟩; replace HO_3 := zm (Kd.R_below (zP HO_3.out) hb); replace HB := zm (below_step zb hb); (try clear hb); (try clear hb2); (try clear hk); (try clear hi)) | ((with_reducible refine gate_builtin (b := .append) (xs := #[.tmp 13, .tmp 16]) rfl ?_); at_builtin; refine Kd.R_append Kd.string (w0 := w) w.heap.size rfl (.tmp 13) (.tmp 16) 80 9 (.string ⟨#[]⟩) 16 rfl Tryd.underlying80 info9 rfl (by decide) (by omega) u3 x3_1 t286 [.string t286] (fun _ => True) (fun _ => False) rfl rfl ?aP (fun _ hk => hk.elim) ?aF ?aO ?aB ?aS ?aL ?_; (case aP => exact rfl); (case aB => exact zb); (case aF => exact (fun _ _ => trivial)); (case aO => exact (zP HO_3.out)); (case aS => exact (below_size zb)); (case aL => have := LMc8.out; omega); intro v288 w10 ho hb hg hat; rw [← Ny287.out] at ho; replace HB := zm (hb); have HO289 := zm (ho); clear HO_3; clear ho hb hg hat))
   go_roundg k1
   case measure => have := HK1.out; omega
   case rel => exact ⟨(y287), (wrap64 (x9_1 + 1)), (by first | rfl | (simp; done) | (simp [*]; done)), H', ⟨by have := HK1.out; omega⟩, ⟨zP HO289.out⟩, ⟨zb⟩⟩
-- NOT PRINTED: function 31 (strings_Builder_String)

end Go.Proofs.YtjdkdbeenggfaaaDoor.PPt
