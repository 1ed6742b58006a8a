-- Written for this claim by a program of this session (wip/tpl/patchprint.py), not by print.sh.
import Derived.Test.YtioheacdldgaaaaPAllx0
import Derived.Test.YtioheacdldgaaaaPAllx2
import Derived.Test.YtioheacdldgaaaaPAllx3
namespace Go.Proofs.Ytioheacdldgaaaa.PAll
open Go.RowKit Go.Proofs.YtioheacdldgaaaaW.PrintWords Go.Proofs.YtioheacdldgaaaaW.PrintLast Go.Proofs.YtioheacdldgaaaaW.PrintMore
attribute [local go_sem] max2_int min2_int max_two min_two max_three min_three max_four min_four   -- for this text's walks alone
set_option linter.unusedVariables false
set_option linter.unusedSimpArgs false

/-! ### spec_laAsked: function 69 -/
def spec_laAsked.f (k : Nat) (l0_0 : List Int) (a0_1 : Int) (l1 : List (S73)) : Option (Bool) := (spec_inGood.f k l0_0 a0_1).bind fun t163 => (if t163 = true then ((spec_shGood.f k l1).bind fun t164 => (some t164)) else (some false))
theorem spec_laAsked.mono : ∀ a0 a1 a2 k, LeO (spec_laAsked.f k a0 a1 a2) (spec_laAsked.f (k + 1) a0 a1 a2) := by
  intro a0 a1 a2 k
  unfold spec_laAsked.f
  repeat' first
      | (with_reducible exact spec_inGood.mono _ _ _)
      | (with_reducible exact spec_shGood.mono _ _)
      | (with_reducible exact LeO.refl _)
      | (with_reducible exact LeO.none _)
      | (with_reducible refine LeO.ite ?_ ?_)
      | (with_reducible refine LeO.bind ?_ (fun _ => ?_))
      | exact spec_inGood.mono _ _ _
      | exact spec_shGood.mono _ _
      | exact LeO.none _
      | refine LeO.ite ?_ ?_
      | refine LeO.bind ?_ (fun _ => ?_)
set_option maxHeartbeats 8000000 in
set_option maxRecDepth 100000 in
theorem spec_laAsked.calls (k : Nat) (A0_0 : Option Addr) (c0_0 : Nat) (l0_0 : List Int) (a0_1 : Int) (A1 : Option Addr) (c1 : Nat) (l1 : List (S73)) (r : Bool) (w : World) (hr0_0 : Kd.C (Kd.int .i64) w A0_0 l0_0.length l0_0) (hc0_0 : l0_0.length ≤ c0_0) (hr1 : Kd.C k73 w A1 l1.length l1) (hc1 : l1.length ≤ c1) (h : spec_laAsked.f k l0_0 a0_1 l1 = some r) :
  Calls Try.prog 69 #[.agg #[.slice A0_0 l0_0.length c0_0, .int .i64 a0_1], .slice A1 l1.length c1] w fun e w' => e = .returned (.bool r) ∧ Below w.heap.size w w' := by
 have hu32 := Try.underlying32
 have HR0_0 := zm hr0_0
 have HC0_0 := zm hc0_0
 clear hr0_0 hc0_0
 have HR1 := zm hr1
 have HC1 := zm hc1
 clear hr1 hc1
 have HB := zm (Below.refl w.heap.size w)
 have H : ((spec_inGood.f k l0_0 a0_1).bind fun t163 => (if t163 = true then ((spec_shGood.f k l1).bind fun t164 => (some t164)) else (some false))) = some r := h
 clear h
 replace H := Option.bind_eq_some_iff.mp H
 obtain ⟨t163, A30, H⟩ := H
 replace H : (if t163 = true then ((spec_shGood.f k l1).bind fun t164 => (some t164)) else (some false)) = some r := H
 have A3 := zm A30
 clear A30
 by_cases c4 : t163 = true
 ·
  subst c4
  have H1 : ((spec_shGood.f k l1).bind fun t164 => (some t164)) = some r := by rw [if_pos rfl] at H; exact H
  clear H
  have H := H1
  clear H1
  replace H := Option.bind_eq_some_iff.mp H
  obtain ⟨t164, A50, H⟩ := H
  replace H : (some t164) = some r := H
  have A5 := zm A50
  clear A50
  obtain rfl := Option.some.inj H
  go_enter Try.func69, Try.ntmps69
  go_wp2_with (first | ((with_reducible refine gate_dst (N := 2) rfl ?_); refine box_event ?hg (N := 2) ?hd (cs := #[.slice A0_0 l0_0.length c0_0, .int .i64 a0_1]) (t := 32) ?hr ?_; (case hd => rfl); (case hg => rfl); (case hr => first | (go_simp; done) | (go_simp; rfl)); intro gb162 hg w6 hbox hb; have n0_ := zm (below_step zb hb); have n1_ := zm (hbox); have n2_ := zm (zs hg zb : w.heap.size ≤ gb162); have n3_ := zm (zs hg zb : w.heap.size ≤ gb162); clear HB; have HB := n0_; have BK162 := n1_; have GW162 := n2_; have GE162 := n3_; clear n0_ n1_ n2_ n3_; clear hb hbox hg; obtain ⟨hcz7_0, hcz7_1, hfz7_0, hfz7_1⟩ := zc2 BK162.out) | ((with_reducible refine gate_callee (f := 82) rfl ?_); refine goesL_ (some 6) rfl rfl Try.func82 (by kernel_rfl) rfl #[.agg #[.slice A0_0 l0_0.length c0_0, .int .i64 a0_1]] rfl (by (try simp only [List.map_toArray, List.map_cons, List.map_nil]); first | done | rfl | (simp only [List.length_drop, List.length_take]; rfl)) ?_; (with_reducible refine (spec_inGood.calls k _ _ l0_0 a0_1 true _ ?side1 ?side2 A3.out).mono ?_); (case side1 => repeat (first | exact (Kd.C_below HR0_0.out HB.out) | (with_reducible refine Kd.C_alloc ?_ _) | (with_reducible refine Kd.C_drewN ?_ _) | (with_reducible refine Kd.C_drew ?_))); (case side2 => exact HC0_0.out); rintro e w8 ⟨rfl, hb⟩; refine ⟨_, rfl, ?_⟩; have n0_ := zm (blk_below (g := gb162) zk hb); have n1_ := zm (below_step zb hb); clear BK162; clear HB; have BK162 := n0_; have HB := n1_; clear n0_ n1_; (try clear hb); (try clear hb2); (try clear hk); (try clear hi)) | (go_at_call 83; (with_reducible refine (spec_shGood.calls k _ _ l1 t164 _ ?side1 ?side2 A5.out).mono ?_); (case side1 => repeat (first | exact (Kd.C_below HR1.out HB.out) | (with_reducible refine Kd.C_alloc ?_ _) | (with_reducible refine Kd.C_drewN ?_ _) | (with_reducible refine Kd.C_drew ?_))); (case side2 => exact HC1.out); rintro e w9 ⟨rfl, hb⟩; have n0_ := zm (blk_below (g := gb162) zk hb); have n1_ := zm (below_step zb hb); clear BK162; clear HB; have BK162 := n0_; have HB := n1_; clear n0_ n1_; (try clear hb); (try clear hb2); (try clear hk); (try clear hi)))
  go_ret
  exact ⟨zr, zb⟩
 ·
  replace c4 := Bool.eq_false_iff.mpr c4
  subst c4
  have H1 : (some false) = some r := by rw [if_neg (show ¬ (false = true) by decide)] at H; exact H
  clear H
  have H := H1
  clear H1
  obtain rfl := Option.some.inj H
  go_enter Try.func69, Try.ntmps69
  go_wp2_with (first | ((with_reducible refine gate_dst (N := 2) rfl ?_); refine box_event ?hg (N := 2) ?hd (cs := #[.slice A0_0 l0_0.length c0_0, .int .i64 a0_1]) (t := 32) ?hr ?_; (case hd => rfl); (case hg => rfl); (case hr => first | (go_simp; done) | (go_simp; rfl)); intro gb162 hg w10 hbox hb; have n0_ := zm (below_step zb hb); have n1_ := zm (hbox); have n2_ := zm (zs hg zb : w.heap.size ≤ gb162); have n3_ := zm (zs hg zb : w.heap.size ≤ gb162); clear HB; have HB := n0_; have BK162 := n1_; have GW162 := n2_; have GE162 := n3_; clear n0_ n1_ n2_ n3_; clear hb hbox hg; obtain ⟨hcz11_0, hcz11_1, hfz11_0, hfz11_1⟩ := zc2 BK162.out) | ((with_reducible refine gate_callee (f := 82) rfl ?_); refine goesL_ (some 6) rfl rfl Try.func82 (by kernel_rfl) rfl #[.agg #[.slice A0_0 l0_0.length c0_0, .int .i64 a0_1]] rfl (by (try simp only [List.map_toArray, List.map_cons, List.map_nil]); first | done | rfl | (simp only [List.length_drop, List.length_take]; rfl)) ?_; (with_reducible refine (spec_inGood.calls k _ _ l0_0 a0_1 false _ ?side1 ?side2 A3.out).mono ?_); (case side1 => repeat (first | exact (Kd.C_below HR0_0.out HB.out) | (with_reducible refine Kd.C_alloc ?_ _) | (with_reducible refine Kd.C_drewN ?_ _) | (with_reducible refine Kd.C_drew ?_))); (case side2 => exact HC0_0.out); rintro e w12 ⟨rfl, hb⟩; refine ⟨_, rfl, ?_⟩; have n0_ := zm (blk_below (g := gb162) zk hb); have n1_ := zm (below_step zb hb); clear BK162; clear HB; have BK162 := n0_; have HB := n1_; clear n0_ n1_; (try clear hb); (try clear hb2); (try clear hk); (try clear hi)))
  go_ret
  exact ⟨zr, zb⟩

/-! ### spec_pyAction: function 70 -/
def spec_pyAction.f (a0_0 : Int) (a0_1 : Int) (a0_2 : Int) : Option (Bool) := (spec_l1In.f a0_0 0 40).bind fun t166 => (if t166 = true then ((spec_l1In.f a0_1 0 40).bind fun t167 => (if t167 = true then ((spec_l1In.f a0_2 0 40).bind fun t168 => (some t168)) else (some false))) else (some false))
set_option maxHeartbeats 8000000 in
set_option maxRecDepth 100000 in
theorem spec_pyAction.calls (a0_0 : Int) (a0_1 : Int) (a0_2 : Int) (r : Bool) (w : World) (h : spec_pyAction.f a0_0 a0_1 a0_2 = some r) :
  Calls Try.prog 70 #[.agg #[.int .i64 a0_0, .int .i64 a0_1, .int .i64 a0_2]] w fun e w' => e = .returned (.bool r) ∧ Below w.heap.size w w' := by
 have hu36 := Try.underlying36
 have HB := zm (Below.refl w.heap.size w)
 have H : ((spec_l1In.f a0_0 0 40).bind fun t166 => (if t166 = true then ((spec_l1In.f a0_1 0 40).bind fun t167 => (if t167 = true then ((spec_l1In.f a0_2 0 40).bind fun t168 => (some t168)) else (some false))) else (some false))) = some r := h
 clear h
 replace H := Option.bind_eq_some_iff.mp H
 obtain ⟨t166, A20, H⟩ := H
 replace H : (if t166 = true then ((spec_l1In.f a0_1 0 40).bind fun t167 => (if t167 = true then ((spec_l1In.f a0_2 0 40).bind fun t168 => (some t168)) else (some false))) else (some false)) = some r := H
 have A2 := zm A20
 clear A20
 by_cases c3 : t166 = true
 ·
  subst c3
  have H1 : ((spec_l1In.f a0_1 0 40).bind fun t167 => (if t167 = true then ((spec_l1In.f a0_2 0 40).bind fun t168 => (some t168)) else (some false))) = some r := by rw [if_pos rfl] at H; exact H
  clear H
  have H := H1
  clear H1
  replace H := Option.bind_eq_some_iff.mp H
  obtain ⟨t167, A40, H⟩ := H
  replace H : (if t167 = true then ((spec_l1In.f a0_2 0 40).bind fun t168 => (some t168)) else (some false)) = some r := H
  have A4 := zm A40
  clear A40
  by_cases c5 : t167 = true
  ·
   subst c5
   have H1 : ((spec_l1In.f a0_2 0 40).bind fun t168 => (some t168)) = some r := by rw [if_pos rfl] at H; exact H
   clear H
   have H := H1
   clear H1
   replace H := Option.bind_eq_some_iff.mp H
   obtain ⟨t168, A60, H⟩ := H
   replace H : (some t168) = some r := H
   have A6 := zm A60
   clear A60
   obtain rfl := Option.some.inj H
   go_enter Try.func70, Try.ntmps70
   go_wp2_with (first | ((with_reducible refine gate_dst (N := 1) rfl ?_); refine box_event ?hg (N := 1) ?hd (cs := #[.int .i64 a0_0, .int .i64 a0_1, .int .i64 a0_2]) (t := 36) ?hr ?_; (case hd => rfl); (case hg => rfl); (case hr => first | (go_simp; done) | (go_simp; rfl)); intro gb165 hg w7 hbox hb; have n0_ := zm (below_step zb hb); have n1_ := zm (hbox); have n2_ := zm (zs hg zb : w.heap.size ≤ gb165); have n3_ := zm (zs hg zb : w.heap.size ≤ gb165); clear HB; have HB := n0_; have BK165 := n1_; have GW165 := n2_; have GE165 := n3_; clear n0_ n1_ n2_ n3_; clear hb hbox hg; obtain ⟨hcz8_0, hcz8_1, hcz8_2, hfz8_0, hfz8_1, hfz8_2⟩ := zc3 BK165.out) | ((with_reducible refine gate_callee (f := 79) rfl ?_); refine goesL_ (some 5) rfl rfl Try.func79 (by kernel_rfl) rfl #[.int .i64 a0_0, .int .i64 0, .int .i64 40] rfl (by (try simp only [List.map_toArray, List.map_cons, List.map_nil]); first | done | rfl | (simp only [List.length_drop, List.length_take]; rfl)) ?_; (with_reducible refine (spec_l1In.calls a0_0 0 40 true _ A2.out).mono ?_); rintro e w' ⟨rfl, ⟨nd, rfl⟩⟩; refine ⟨_, rfl, ?_⟩) | (go_at_call 79; (with_reducible refine (spec_l1In.calls a0_1 0 40 true _ A4.out).mono ?_); rintro e w' ⟨rfl, ⟨nd, rfl⟩⟩) | (go_at_call 79; (with_reducible refine (spec_l1In.calls a0_2 0 40 t168 _ A6.out).mono ?_); rintro e w' ⟨rfl, ⟨nd, rfl⟩⟩))
   go_ret
   exact ⟨zr, zb⟩
  ·
   replace c5 := Bool.eq_false_iff.mpr c5
   subst c5
   have H1 : (some false) = some r := by rw [if_neg (show ¬ (false = true) by decide)] at H; exact H
   clear H
   have H := H1
   clear H1
   obtain rfl := Option.some.inj H
   go_enter Try.func70, Try.ntmps70
   go_wp2_with (first | ((with_reducible refine gate_dst (N := 1) rfl ?_); refine box_event ?hg (N := 1) ?hd (cs := #[.int .i64 a0_0, .int .i64 a0_1, .int .i64 a0_2]) (t := 36) ?hr ?_; (case hd => rfl); (case hg => rfl); (case hr => first | (go_simp; done) | (go_simp; rfl)); intro gb165 hg w9 hbox hb; have n0_ := zm (below_step zb hb); have n1_ := zm (hbox); have n2_ := zm (zs hg zb : w.heap.size ≤ gb165); have n3_ := zm (zs hg zb : w.heap.size ≤ gb165); clear HB; have HB := n0_; have BK165 := n1_; have GW165 := n2_; have GE165 := n3_; clear n0_ n1_ n2_ n3_; clear hb hbox hg; obtain ⟨hcz10_0, hcz10_1, hcz10_2, hfz10_0, hfz10_1, hfz10_2⟩ := zc3 BK165.out) | ((with_reducible refine gate_callee (f := 79) rfl ?_); refine goesL_ (some 5) rfl rfl Try.func79 (by kernel_rfl) rfl #[.int .i64 a0_0, .int .i64 0, .int .i64 40] rfl (by (try simp only [List.map_toArray, List.map_cons, List.map_nil]); first | done | rfl | (simp only [List.length_drop, List.length_take]; rfl)) ?_; (with_reducible refine (spec_l1In.calls a0_0 0 40 true _ A2.out).mono ?_); rintro e w' ⟨rfl, ⟨nd, rfl⟩⟩; refine ⟨_, rfl, ?_⟩) | (go_at_call 79; (with_reducible refine (spec_l1In.calls a0_1 0 40 false _ A4.out).mono ?_); rintro e w' ⟨rfl, ⟨nd, rfl⟩⟩))
   go_ret
   exact ⟨zr, zb⟩
 ·
  replace c3 := Bool.eq_false_iff.mpr c3
  subst c3
  have H1 : (some false) = some r := by rw [if_neg (show ¬ (false = true) by decide)] at H; exact H
  clear H
  have H := H1
  clear H1
  obtain rfl := Option.some.inj H
  go_enter Try.func70, Try.ntmps70
  go_wp2_with (first | ((with_reducible refine gate_dst (N := 1) rfl ?_); refine box_event ?hg (N := 1) ?hd (cs := #[.int .i64 a0_0, .int .i64 a0_1, .int .i64 a0_2]) (t := 36) ?hr ?_; (case hd => rfl); (case hg => rfl); (case hr => first | (go_simp; done) | (go_simp; rfl)); intro gb165 hg w11 hbox hb; have n0_ := zm (below_step zb hb); have n1_ := zm (hbox); have n2_ := zm (zs hg zb : w.heap.size ≤ gb165); have n3_ := zm (zs hg zb : w.heap.size ≤ gb165); clear HB; have HB := n0_; have BK165 := n1_; have GW165 := n2_; have GE165 := n3_; clear n0_ n1_ n2_ n3_; clear hb hbox hg; obtain ⟨hcz12_0, hcz12_1, hcz12_2, hfz12_0, hfz12_1, hfz12_2⟩ := zc3 BK165.out) | ((with_reducible refine gate_callee (f := 79) rfl ?_); refine goesL_ (some 5) rfl rfl Try.func79 (by kernel_rfl) rfl #[.int .i64 a0_0, .int .i64 0, .int .i64 40] rfl (by (try simp only [List.map_toArray, List.map_cons, List.map_nil]); first | done | rfl | (simp only [List.length_drop, List.length_take]; rfl)) ?_; (with_reducible refine (spec_l1In.calls a0_0 0 40 false _ A2.out).mono ?_); rintro e w' ⟨rfl, ⟨nd, rfl⟩⟩; refine ⟨_, rfl, ?_⟩))
  go_ret
  exact ⟨zr, zb⟩

/-! ### spec_pyAsked: function 49 -/
def spec_pyAsked.f (k : Nat) (l0_0 : List Int) (a0_1 : Int) (l1 : List (S73)) (a2_0 : Int) (a2_1 : Int) (a2_2 : Int) : Option (Bool) := (spec_laAsked.f k l0_0 a0_1 l1).bind fun t171 => (if t171 = true then ((spec_pyAction.f a2_0 a2_1 a2_2).bind fun t172 => (some t172)) else (some false))
theorem spec_pyAsked.mono : ∀ a0 a1 a2 a3 a4 a5 k, LeO (spec_pyAsked.f k a0 a1 a2 a3 a4 a5) (spec_pyAsked.f (k + 1) a0 a1 a2 a3 a4 a5) := by
  intro a0 a1 a2 a3 a4 a5 k
  unfold spec_pyAsked.f
  repeat' first
      | (with_reducible exact spec_laAsked.mono _ _ _ _)
      | (with_reducible exact LeO.refl _)
      | (with_reducible exact LeO.none _)
      | (with_reducible refine LeO.ite ?_ ?_)
      | (with_reducible refine LeO.bind ?_ (fun _ => ?_))
      | exact spec_laAsked.mono _ _ _ _
      | exact LeO.none _
      | refine LeO.ite ?_ ?_
      | refine LeO.bind ?_ (fun _ => ?_)
set_option maxHeartbeats 8000000 in
set_option maxRecDepth 100000 in
theorem spec_pyAsked.calls (k : Nat) (A0_0 : Option Addr) (c0_0 : Nat) (l0_0 : List Int) (a0_1 : Int) (A1 : Option Addr) (c1 : Nat) (l1 : List (S73)) (a2_0 : Int) (a2_1 : Int) (a2_2 : Int) (r : Bool) (w : World) (hr0_0 : Kd.C (Kd.int .i64) w A0_0 l0_0.length l0_0) (hc0_0 : l0_0.length ≤ c0_0) (hr1 : Kd.C k73 w A1 l1.length l1) (hc1 : l1.length ≤ c1) (h : spec_pyAsked.f k l0_0 a0_1 l1 a2_0 a2_1 a2_2 = some r) :
  Calls Try.prog 49 #[.agg #[.slice A0_0 l0_0.length c0_0, .int .i64 a0_1], .slice A1 l1.length c1, .agg #[.int .i64 a2_0, .int .i64 a2_1, .int .i64 a2_2]] w fun e w' => e = .returned (.bool r) ∧ Below w.heap.size w w' := by
 have hu32 := Try.underlying32
 have hu36 := Try.underlying36
 have HR0_0 := zm hr0_0
 have HC0_0 := zm hc0_0
 clear hr0_0 hc0_0
 have HR1 := zm hr1
 have HC1 := zm hc1
 clear hr1 hc1
 have HB := zm (Below.refl w.heap.size w)
 have H : ((spec_laAsked.f k l0_0 a0_1 l1).bind fun t171 => (if t171 = true then ((spec_pyAction.f a2_0 a2_1 a2_2).bind fun t172 => (some t172)) else (some false))) = some r := h
 clear h
 replace H := Option.bind_eq_some_iff.mp H
 obtain ⟨t171, A40, H⟩ := H
 replace H : (if t171 = true then ((spec_pyAction.f a2_0 a2_1 a2_2).bind fun t172 => (some t172)) else (some false)) = some r := H
 have A4 := zm A40
 clear A40
 by_cases c5 : t171 = true
 ·
  subst c5
  have H1 : ((spec_pyAction.f a2_0 a2_1 a2_2).bind fun t172 => (some t172)) = some r := by rw [if_pos rfl] at H; exact H
  clear H
  have H := H1
  clear H1
  replace H := Option.bind_eq_some_iff.mp H
  obtain ⟨t172, A60, H⟩ := H
  replace H : (some t172) = some r := H
  have A6 := zm A60
  clear A60
  obtain rfl := Option.some.inj H
  go_enter Try.func49, Try.ntmps49
  go_wp2_with (first | ((with_reducible refine gate_dst (N := 3) rfl ?_); refine box_event ?hg (N := 3) ?hd (cs := #[.slice A0_0 l0_0.length c0_0, .int .i64 a0_1]) (t := 32) ?hr ?_; (case hd => rfl); (case hg => rfl); (case hr => first | (go_simp; done) | (go_simp; rfl)); intro gb169 hg w7 hbox hb; have n0_ := zm (below_step zb hb); have n1_ := zm (hbox); have n2_ := zm (zs hg zb : w.heap.size ≤ gb169); have n3_ := zm (zs hg zb : w.heap.size ≤ gb169); clear HB; have HB := n0_; have BK169 := n1_; have GW169 := n2_; have GE169 := n3_; clear n0_ n1_ n2_ n3_; clear hb hbox hg) | ((with_reducible refine gate_dst (N := 5) rfl ?_); refine box_event ?hg (N := 5) ?hd (cs := #[.int .i64 a2_0, .int .i64 a2_1, .int .i64 a2_2]) (t := 36) ?hr ?_; (case hd => rfl); (case hg => rfl); (case hr => first | (go_simp; done) | (go_simp; rfl)); intro gb170 hg w8 hbox hb; have n0_ := zm (blk_below (g := gb169) zk hb); have n1_ := zm (below_step zb hb); have n2_ := zm (hbox); have n3_ := zm (zs hg zb : w.heap.size ≤ gb170); have n4_ := zm (zs hg zb : w.heap.size ≤ gb170); have n5_ := zm (zl hg zk : gb169 ≠ gb170); have n6_ := zm (zg hg zk : gb170 ≠ gb169); clear BK169; clear HB; have BK169 := n0_; have HB := n1_; have BK170 := n2_; have GW170 := n3_; have GE170 := n4_; have NB169_170 := n5_; have NB170_169 := n6_; clear n0_ n1_ n2_ n3_ n4_ n5_ n6_; clear hb hbox hg; have hnb9 := NB169_170.out; have hnc9 := NB170_169.out; obtain ⟨hcz10_0, hcz10_1, hfz10_0, hfz10_1⟩ := zc2 BK169.out) | ((with_reducible refine gate_callee (f := 69) rfl ?_); refine goesL_ (some 9) rfl rfl Try.func69 (by kernel_rfl) rfl #[.agg #[.slice A0_0 l0_0.length c0_0, .int .i64 a0_1], .slice A1 l1.length c1] rfl (by (try simp only [List.map_toArray, List.map_cons, List.map_nil]); first | done | rfl | (simp only [List.length_drop, List.length_take]; rfl)) ?_; (with_reducible refine (spec_laAsked.calls k _ _ l0_0 a0_1 _ _ l1 true _ ?side1 ?side2 ?side3 ?side4 A4.out).mono ?_); (case side1 => repeat (first | exact (Kd.C_below HR0_0.out HB.out) | (with_reducible refine Kd.C_alloc ?_ _) | (with_reducible refine Kd.C_drewN ?_ _) | (with_reducible refine Kd.C_drew ?_))); (case side2 => exact HC0_0.out); (case side3 => repeat (first | exact (Kd.C_below HR1.out HB.out) | (with_reducible refine Kd.C_alloc ?_ _) | (with_reducible refine Kd.C_drewN ?_ _) | (with_reducible refine Kd.C_drew ?_))); (case side4 => exact HC1.out); rintro e w11 ⟨rfl, hb⟩; refine ⟨_, rfl, ?_⟩; have n0_ := zm (blk_below (g := gb169) zk hb); have n1_ := zm (blk_below (g := gb170) zk hb); have n2_ := zm (below_step zb hb); clear BK169; clear BK170; clear HB; have BK169 := n0_; have BK170 := n1_; have HB := n2_; clear n0_ n1_ n2_; (try clear hb); (try clear hb2); (try clear hk); (try clear hi); obtain ⟨hcz12_0, hcz12_1, hcz12_2, hfz12_0, hfz12_1, hfz12_2⟩ := zc3 BK170.out) | (go_at_call 70; (with_reducible refine (spec_pyAction.calls a2_0 a2_1 a2_2 t172 _ A6.out).mono ?_); rintro e w13 ⟨rfl, hb⟩; have n0_ := zm (blk_below (g := gb169) zk hb); have n1_ := zm (blk_below (g := gb170) zk hb); have n2_ := zm (below_step zb hb); clear BK169; clear BK170; clear HB; have BK169 := n0_; have BK170 := n1_; have HB := n2_; clear n0_ n1_ n2_; (try clear hb); (try clear hb2); (try clear hk); (try clear hi)))
  go_ret
  exact ⟨zr, zb⟩
 ·
  replace c5 := Bool.eq_false_iff.mpr c5
  subst c5
  have H1 : (some false) = some r := by rw [if_neg (show ¬ (false = true) by decide)] at H; exact H
  clear H
  have H := H1
  clear H1
  obtain rfl := Option.some.inj H
  go_enter Try.func49, Try.ntmps49
  go_wp2_with (first | ((with_reducible refine gate_dst (N := 3) rfl ?_); refine box_event ?hg (N := 3) ?hd (cs := #[.slice A0_0 l0_0.length c0_0, .int .i64 a0_1]) (t := 32) ?hr ?_; (case hd => rfl); (case hg => rfl); (case hr => first | (go_simp; done) | (go_simp; rfl)); intro gb169 hg w14 hbox hb; have n0_ := zm (below_step zb hb); have n1_ := zm (hbox); have n2_ := zm (zs hg zb : w.heap.size ≤ gb169); have n3_ := zm (zs hg zb : w.heap.size ≤ gb169); clear HB; have HB := n0_; have BK169 := n1_; have GW169 := n2_; have GE169 := n3_; clear n0_ n1_ n2_ n3_; clear hb hbox hg) | ((with_reducible refine gate_dst (N := 5) rfl ?_); refine box_event ?hg (N := 5) ?hd (cs := #[.int .i64 a2_0, .int .i64 a2_1, .int .i64 a2_2]) (t := 36) ?hr ?_; (case hd => rfl); (case hg => rfl); (case hr => first | (go_simp; done) | (go_simp; rfl)); intro gb170 hg w15 hbox hb; have n0_ := zm (blk_below (g := gb169) zk hb); have n1_ := zm (below_step zb hb); have n2_ := zm (hbox); have n3_ := zm (zs hg zb : w.heap.size ≤ gb170); have n4_ := zm (zs hg zb : w.heap.size ≤ gb170); have n5_ := zm (zl hg zk : gb169 ≠ gb170); have n6_ := zm (zg hg zk : gb170 ≠ gb169); clear BK169; clear HB; have BK169 := n0_; have HB := n1_; have BK170 := n2_; have GW170 := n3_; have GE170 := n4_; have NB169_170 := n5_; have NB170_169 := n6_; clear n0_ n1_ n2_ n3_ n4_ n5_ n6_; clear hb hbox hg; have hnb16 := NB169_170.out; have hnc16 := NB170_169.out; obtain ⟨hcz17_0, hcz17_1, hfz17_0, hfz17_1⟩ := zc2 BK169.out) | ((with_reducible refine gate_callee (f := 69) rfl ?_); refine goesL_ (some 9) rfl rfl Try.func69 (by kernel_rfl) rfl #[.agg #[.slice A0_0 l0_0.length c0_0, .int .i64 a0_1], .slice A1 l1.length c1] rfl (by (try simp only [List.map_toArray, List.map_cons, List.map_nil]); first | done | rfl | (simp only [List.length_drop, List.length_take]; rfl)) ?_; (with_reducible refine (spec_laAsked.calls k _ _ l0_0 a0_1 _ _ l1 false _ ?side1 ?side2 ?side3 ?side4 A4.out).mono ?_); (case side1 => repeat (first | exact (Kd.C_below HR0_0.out HB.out) | (with_reducible refine Kd.C_alloc ?_ _) | (with_reducible refine Kd.C_drewN ?_ _) | (with_reducible refine Kd.C_drew ?_))); (case side2 => exact HC0_0.out); (case side3 => repeat (first | exact (Kd.C_below HR1.out HB.out) | (with_reducible refine Kd.C_alloc ?_ _) | (with_reducible refine Kd.C_drewN ?_ _) | (with_reducible refine Kd.C_drew ?_))); (case side4 => exact HC1.out); rintro e w18 ⟨rfl, hb⟩; refine ⟨_, rfl, ?_⟩; have n0_ := zm (blk_below (g := gb169) zk hb); have n1_ := zm (blk_below (g := gb170) zk hb); have n2_ := zm (below_step zb hb); clear BK169; clear BK170; clear HB; have BK169 := n0_; have BK170 := n1_; have HB := n2_; clear n0_ n1_ n2_; (try clear hb); (try clear hb2); (try clear hk); (try clear hi)))
  go_ret
  exact ⟨zr, zb⟩

/-! ### spec_pyAll: function 50 -/
mutual
def spec_pyAll.l0 : Nat → List (S73) → List Int → Int → Int → List Int → Int → Int → Int → Int → Option ((List (S79)) × List Int)
  | 0, _, _, _, _, _, _, _, _, _ => none
  | k + 1, x1, x10, x18, x19, x174000, x174001, x175000, x175001, x175002 => if x19 < x18 then (if 0 ≤ x19 then (if x19 < (x10.length : Int) then (spec_pyAll.l0 k x1 (x10.set (x19 : Int).toNat (-40)) x18 (wrap64 (x19 + 1)) x174000 x174001 x175000 x175001 x175002) else (none)) else (none)) else (spec_pyAll.l1 k ([] : List (S79)) ([] : List Int) x10 x1 (x1.length : Int) 0 x174000 x174001 x175000 x175001 x175002)
def spec_pyAll.l1 : Nat → List (S79) → List Int → List Int → List (S73) → Int → Int → List Int → Int → Int → Int → Int → Option ((List (S79)) × List Int)
  | 0, _, _, _, _, _, _, _, _, _, _, _ => none
  | k + 1, x8, x9, x10, x26, x27, x28, x174000, x174001, x175000, x175001, x175002 => if x28 < x27 then (if 0 ≤ x28 then (if x28 < (x26.length : Int) then (if ((rd_T73 x26 x28).f0) ≥ (x174000.length : Int) then (if x9.length < 17592186044416 then (spec_pyAll.l1 k x8 (x9 ++ [x28]) x10 x26 x27 (wrap64 (x28 + 1)) x174000 x174001 x175000 x175001 x175002) else (none)) else (if (wrap64 (((rd_T73 x26 x28).f2) - ((rd_T73 x26 x28).f1))) < x175002 then (if x9.length < 17592186044416 then (spec_pyAll.l1 k x8 (x9 ++ [x28]) x10 x26 x27 (wrap64 (x28 + 1)) x174000 x174001 x175000 x175001 x175002) else (none)) else (if 0 ≤ ((rd_T73 x26 x28).f0) then (if ((rd_T73 x26 x28).f0) < (x10.length : Int) then (if (wrap64 (((rd_T73 x26 x28).f1) - (rd x10 ((rd_T73 x26 x28).f0)))) < (wrap64 (2 * x174001)) then (if x9.length < 17592186044416 then (spec_pyAll.l1 k x8 (x9 ++ [x28]) x10 x26 x27 (wrap64 (x28 + 1)) x174000 x174001 x175000 x175001 x175002) else (none)) else (if (wrap64 (((rd_T73 x26 x28).f1) + x175000)) ≥ (wrap64 (((rd_T73 x26 x28).f2) + x175001)) then (if x9.length < 17592186044416 then (spec_pyAll.l1 k x8 (x9 ++ [x28]) x10 x26 x27 (wrap64 (x28 + 1)) x174000 x174001 x175000 x175001 x175002) else (none)) else (if ((rd_T73 x26 x28).f0) < (x174000.length : Int) then (if x8.length < 5864062014805 then (spec_pyAll.l1 k (x8 ++ [(⟨rd x174000 ((rd_T73 x26 x28).f0), wrap64 (((rd_T73 x26 x28).f1) + x175000), wrap64 (((rd_T73 x26 x28).f2) + x175001)⟩ : S79)]) x9 (x10.set (((rd_T73 x26 x28).f0) : Int).toNat ((rd_T73 x26 x28).f1)) x26 x27 (wrap64 (x28 + 1)) x174000 x174001 x175000 x175001 x175002) else (none)) else (none)))) else (none)) else (none)))) else (none)) else (none)) else (some (x8, x9))
end
def spec_pyAll.f (k : Nat) (l0_0 : List Int) (a0_1 : Int) (l1 : List (S73)) (a2_0 : Int) (a2_1 : Int) (a2_2 : Int) : Option ((List (S79)) × List Int) := if 20 ≤ 35184372088832 then ((some (List.replicate 20 0 : List Int)).bind fun y175 => (spec_pyAll.l0 k l1 y175 (y175.length : Int) 0 l0_0 a0_1 a2_0 a2_1 a2_2)) else (none)
theorem spec_pyAll.mono_l : ∀ k, (∀ y0 y1 y2 y3 y4 y5 y6 y7 y8, LeO (spec_pyAll.l0 k y0 y1 y2 y3 y4 y5 y6 y7 y8) (spec_pyAll.l0 (k + 1) y0 y1 y2 y3 y4 y5 y6 y7 y8)) ∧ (∀ y0 y1 y2 y3 y4 y5 y6 y7 y8 y9 y10, LeO (spec_pyAll.l1 k y0 y1 y2 y3 y4 y5 y6 y7 y8 y9 y10) (spec_pyAll.l1 (k + 1) y0 y1 y2 y3 y4 y5 y6 y7 y8 y9 y10))
  | 0 => ⟨fun _ _ _ _ _ _ _ _ _ r h => by simp [spec_pyAll.l0] at h, fun _ _ _ _ _ _ _ _ _ _ _ r h => by simp [spec_pyAll.l1] at h⟩
  | k + 1 => by
    obtain ⟨ih0, ih1⟩ := spec_pyAll.mono_l k
    refine ⟨?_, ?_⟩
    · intro y0 y1 y2 y3 y4 y5 y6 y7 y8
      unfold spec_pyAll.l0
      repeat' first
      | (with_reducible exact ih0 _ _ _ _ _ _ _ _ _)
      | (with_reducible exact ih1 _ _ _ _ _ _ _ _ _ _ _)
      | (with_reducible exact LeO.refl _)
      | (with_reducible exact LeO.none _)
      | (with_reducible refine LeO.ite ?_ ?_)
      | (with_reducible refine LeO.bind ?_ (fun _ => ?_))
      | exact ih0 _ _ _ _ _ _ _ _ _
      | exact ih1 _ _ _ _ _ _ _ _ _ _ _
      | exact LeO.none _
      | refine LeO.ite ?_ ?_
      | refine LeO.bind ?_ (fun _ => ?_)
    · intro y0 y1 y2 y3 y4 y5 y6 y7 y8 y9 y10
      unfold spec_pyAll.l1
      repeat' first
      | (with_reducible exact ih0 _ _ _ _ _ _ _ _ _)
      | (with_reducible exact ih1 _ _ _ _ _ _ _ _ _ _ _)
      | (with_reducible exact LeO.refl _)
      | (with_reducible exact LeO.none _)
      | (with_reducible refine LeO.ite ?_ ?_)
      | (with_reducible refine LeO.bind ?_ (fun _ => ?_))
      | exact ih0 _ _ _ _ _ _ _ _ _
      | exact ih1 _ _ _ _ _ _ _ _ _ _ _
      | exact LeO.none _
      | refine LeO.ite ?_ ?_
      | refine LeO.bind ?_ (fun _ => ?_)
theorem spec_pyAll.mono : ∀ a0 a1 a2 a3 a4 a5 k, LeO (spec_pyAll.f k a0 a1 a2 a3 a4 a5) (spec_pyAll.f (k + 1) a0 a1 a2 a3 a4 a5) := by
  intro a0 a1 a2 a3 a4 a5 k
  obtain ⟨ih0, ih1⟩ := spec_pyAll.mono_l k
  unfold spec_pyAll.f
  repeat' first
      | (with_reducible exact ih0 _ _ _ _ _ _ _ _ _)
      | (with_reducible exact ih1 _ _ _ _ _ _ _ _ _ _ _)
      | (with_reducible exact LeO.refl _)
      | (with_reducible exact LeO.none _)
      | (with_reducible refine LeO.ite ?_ ?_)
      | (with_reducible refine LeO.bind ?_ (fun _ => ?_))
      | exact ih0 _ _ _ _ _ _ _ _ _
      | exact ih1 _ _ _ _ _ _ _ _ _ _ _
      | exact LeO.none _
      | refine LeO.ite ?_ ?_
      | refine LeO.bind ?_ (fun _ => ?_)
theorem spec_pyAll.gq {P : Program} {i : Nat} {ops : Array Oper} {Q : Exit → Act → World → Prop} {a : Act} {W : World} (h : (Code.region i ops true).wp P Q a W) : (Code.region i ops true).wp P Q a W := h
set_option maxHeartbeats 8000000 in
set_option maxRecDepth 100000 in
theorem spec_pyAll.calls (k : Nat) (A0_0 : Option Addr) (c0_0 : Nat) (l0_0 : List Int) (a0_1 : Int) (A1 : Option Addr) (c1 : Nat) (l1 : List (S73)) (a2_0 : Int) (a2_1 : Int) (a2_2 : Int) (r1 : List (S79)) (r2 : List Int) (w : World) (hr0_0 : Kd.C (Kd.int .i64) w A0_0 l0_0.length l0_0) (hc0_0 : l0_0.length ≤ c0_0) (hr1 : Kd.C k73 w A1 l1.length l1) (hc1 : l1.length ≤ c1) (h : spec_pyAll.f k l0_0 a0_1 l1 a2_0 a2_1 a2_2 = some (r1, r2)) :
  Calls Try.prog 50 #[.agg #[.slice A0_0 l0_0.length c0_0, .int .i64 a0_1], .slice A1 l1.length c1, .agg #[.int .i64 a2_0, .int .i64 a2_1, .int .i64 a2_2]] w fun e w' => ∃ v0_ v1_ : Value, e = .returned (.tuple #[v0_, v1_]) ∧ Kd.R k79 79 w' w.heap.size (fun _ => True) v0_ r1 ∧ Kd.R (Kd.int .i64) 3 w' w.heap.size (fun _ => True) v1_ r2 ∧ Below w.heap.size w w' := by
 have hu32 := Try.underlying32
 have hu36 := Try.underlying36
 have hu73 := Try.underlying73
 have hu79 := Try.underlying79
 have HR0_0 := zm hr0_0
 have HC0_0 := zm hc0_0
 clear hr0_0 hc0_0
 have HR1 := zm hr1
 have HC1 := zm hc1
 clear hr1 hc1
 have HB := zm (Below.refl w.heap.size w)
 have H : (if 20 ≤ 35184372088832 then ((some (List.replicate 20 0 : List Int)).bind fun y175 => (spec_pyAll.l0 k l1 y175 (y175.length : Int) 0 l0_0 a0_1 a2_0 a2_1 a2_2)) else (none)) = some (r1, r2) := h
 clear h
 by_cases c4 : 20 ≤ 35184372088832
 ·
  rw [if_pos c4] at H
  have c4b0 := eq_true c4
  have c4b1 : decide (20 ≤ 35184372088832) = true := decide_eq_true c4
  clear c4
  obtain ⟨y175, hy175⟩ : ∃ y_ : List Int, y_ = (List.replicate 20 0) := ⟨_, rfl⟩
  replace H : (spec_pyAll.l0 k l1 y175 (y175.length : Int) 0 l0_0 a0_1 a2_0 a2_1 a2_2) = some (r1, r2) := by first | (rw [hy175]; with_reducible exact H) | (have H2_ := (Option.bind_some _ _).symm.trans H; rw [hy175]; with_reducible exact H2_) | (have H2_ := (Option.bind_some _ _).symm.trans H; with_reducible exact H2_) | with_reducible exact H | (rw [hy175]; exact H) | exact H
  have Ny175 := zm hy175
  clear hy175
  have H' := zm H
  clear H
  go_enter Try.func50, Try.ntmps50
  go_wp2_with (first | ((with_reducible refine gate_dst (N := 3) rfl ?_); refine box_event ?hg (N := 3) ?hd (cs := #[.slice A0_0 l0_0.length c0_0, .int .i64 a0_1]) (t := 32) ?hr ?_; (case hd => rfl); (case hg => rfl); (case hr => first | (go_simp; done) | (go_simp; rfl)); intro gb173 hg w5 hbox hb; have n0_ := zm (below_step zb hb); have n1_ := zm (hbox); have n2_ := zm (zs hg zb : w.heap.size ≤ gb173); have n3_ := zm (zs hg zb : w.heap.size ≤ gb173); clear HB; have HB := n0_; have BK173 := n1_; have GW173 := n2_; have GE173 := n3_; clear n0_ n1_ n2_ n3_; clear hb hbox hg) | ((with_reducible refine gate_dst (N := 5) rfl ?_); refine box_event ?hg (N := 5) ?hd (cs := #[.int .i64 a2_0, .int .i64 a2_1, .int .i64 a2_2]) (t := 36) ?hr ?_; (case hd => rfl); (case hg => rfl); (case hr => first | (go_simp; done) | (go_simp; rfl)); intro gb174 hg w6 hbox hb; have n0_ := zm (blk_below (g := gb173) zk hb); have n1_ := zm (below_step zb hb); have n2_ := zm (hbox); have n3_ := zm (zs hg zb : w.heap.size ≤ gb174); have n4_ := zm (zs hg zb : w.heap.size ≤ gb174); have n5_ := zm (zl hg zk : gb173 ≠ gb174); have n6_ := zm (zg hg zk : gb174 ≠ gb173); clear BK173; clear HB; have BK173 := n0_; have HB := n1_; have BK174 := n2_; have GW174 := n3_; have GE174 := n4_; have NB173_174 := n5_; have NB174_173 := n6_; clear n0_ n1_ n2_ n3_ n4_ n5_ n6_; clear hb hbox hg) | ((with_reducible refine gate_dst (N := 16) rfl ?_); refine Kd.R_make (Kd.int .i64) _ 3 rfl (N := 16) rfl 22 _ _ rfl 20 rfl rfl Try.underlying22 (.int .i64 0) 8 info3 rfl (by decide) (by omega) 0 (ok := fun _ => True) (okp := fun _ => True) rfl (fun _ hk => hk) trivial (by omega) (by omega) (Below.refl _ _) (Nat.le_refl _) ?_; intro v176 w7 ho8 hb hg_ hnew_; clear hg_ hnew_; (first | rw [← Ny175.out] at ho8 | (simp only [Int.reduceToNat] at ho8; rw [← Ny175.out] at ho8)); have n0_ := zm (Kd.R_lower ho8 (below_size zb)); have n1_ := zm (blk_below (g := gb173) zk hb); have n2_ := zm (blk_below (g := gb174) zk hb); have n3_ := zm (below_step zb hb); clear BK173; clear BK174; clear HB; have HO177 := n0_; have BK173 := n1_; have BK174 := n2_; have HB := n3_; clear n0_ n1_ n2_ n3_; clear hb ho8; obtain ⟨Ao9, co9, eo9⟩ := Kd.R_slice HO177.out; subst eo9) | ((with_reducible refine spec_pyAll.gq ?_); go_quiet (fail)))
  go_loopg [19] k (fun kq v19 w' => ∃ (x10_1 : List Int) (x19_1 : Int), v19 = .int .i64 x19_1 ∧ Aside0 (spec_pyAll.l0 kq l1 x10_1 (y175.length : Int) x19_1 l0_0 a0_1 a2_0 a2_1 a2_2 = some (r1, r2)) ∧ Aside0 (kq ≤ k) ∧ Aside0 (Kd.R (Kd.int .i64) 3 w' w.heap.size (fun _ => True) (.slice Ao9 y175.length co9) x10_1) ∧ Aside0 (w'.heap[gb173]? = some (.cells #[(.slice A0_0 l0_0.length c0_0), .int .i64 a0_1] 32 (0, 0))) ∧ Aside0 (w'.heap[gb174]? = some (.cells #[.int .i64 a2_0, .int .i64 a2_1, .int .i64 a2_2] 36 (0, 0))) ∧ Aside0 (Below w.heap.size w w'))
  case atStart => exact ⟨(y175), (0), (by first | rfl | (simp; done) | (simp [*]; done)), H', ⟨Nat.le_refl _⟩, ⟨by (with_reducible repeat (first | apply Kd.R_alloc | apply Kd.R_drewN | apply Kd.R_drew)); exact HO177.out⟩, ⟨zk⟩, ⟨zk⟩, ⟨zb⟩⟩
  case round =>
   clear H'
   try clear c1
   try clear p2
   try clear c4
   try clear c4b0
   try clear c4b1
   try clear c5
   obtain ⟨x10_1, x19_1, rfl, HA, HK1, HO_10, BK173, BK174, HB⟩ := hrel
   have hl10_1 := (Kd.R_reads' HO_10.out).1
   rw [hl10_1] at HO_10
   (try simp only [hl10_1])
   (try simp only [hl10_1] at BK173)
   (try simp only [hl10_1] at BK174)
   cases gk with
   | zero => exact absurd HA.out (by simp [spec_pyAll.l0])
   | succ k1 =>
    have H := HA.out
    clear HA
    simp only [spec_pyAll.l0] at H
    by_cases c10 : x19_1 < (y175.length : Int)
    ·
     rw [if_pos c10] at H
     have c10b0 : decide (x19_1 < (y175.length : Int)) = true := decide_eq_true c10
     clear c10
     by_cases c11 : 0 ≤ x19_1
     ·
      rw [if_pos c11] at H
      have c11b0 : decide (0 ≤ x19_1) = true := decide_eq_true c11
      clear c11
      by_cases c12 : x19_1 < (x10_1.length : Int)
      ·
       rw [if_pos c12] at H
       have c12b0 : decide (x19_1 < (x10_1.length : Int)) = true := decide_eq_true c12
       clear c12
       obtain ⟨y178, hy178⟩ : ∃ y_ : List Int, y_ = (x10_1.set (x19_1 : Int).toNat (-40)) := ⟨_, rfl⟩
       replace H : (spec_pyAll.l0 k1 l1 y178 (y175.length : Int) (wrap64 (x19_1 + 1)) l0_0 a0_1 a2_0 a2_1 a2_2) = some (r1, r2) := by first | (rw [hy178]; with_reducible exact H) | (have H2_ := (Option.bind_some _ _).symm.trans H; rw [hy178]; with_reducible exact H2_) | (have H2_ := (Option.bind_some _ _).symm.trans H; with_reducible exact H2_) | with_reducible exact H | (rw [hy178]; exact H) | exact H
       have Ny178 := zm hy178
       clear hy178
       have H' := zm H
       clear H
       have p13 : 0 ≤ (x19_1 : Int) := zd
       have q13 : (x19_1 : Int) < ((x10_1.length : Int) : Int) := zd
       obtain ⟨go13, co13, eo13, gb13, gl13, cl13, HG13⟩ := Kd.R_form HO_10.out (by omega)
       (first | cases eo13 | (injection eo13 with ea_ en_ ec_; (first | subst ea_ | (injection ea_ with ea_; subst ea_)); subst ec_; clear en_))
       have GB13 := zm gb13
       have GG13 := zm HG13
       clear gb13 gl13 HG13
       obtain ⟨hx13_0, hf13_0⟩ := Kd.R_celln 0 HO_10.out (x19_1 : Int) p13 q13
       replace p13 := eq_true p13
       replace q13 := eq_true q13
       have HP14 := Kd.R_putg HO_10.out (x19_1 : Int) (-40)
       go_wp2_with (first | ((with_reducible refine gate_store (t := 3) (p := 24) rfl ?_); (try (rw [drewN_self wr]; generalize hq_ : World.drewN wr _ = wr; have n0_ := zm (Kd.R_at hq_ HO_10.out); have n1_ := zm (blk_at hq_ BK173.out); have n2_ := zm (blk_at hq_ BK174.out); have n3_ := zm (below_at hq_ HB.out); clear hq_ HO_10 BK173 BK174 HB; have HO_10 := n0_; have BK173 := n1_; have BK174 := n2_; have HB := n3_; clear n0_ n1_ n2_ n3_; (try (have HP14 := Kd.R_putg HO_10.out (x19_1 : Int) (-40))))); refine store_event (t := 3) (p := 24) (v := ?vo_w15) (w1 := (wr.setCell ⟨go13, (x19_1 : Int).toNat, none⟩ (.int .i64 (-40)))) ?hg ?ho ?hn ?hr ?_; (case ho => rfl); (case hg => rfl); (case hn => rfl); (case hr => first | (go_simp; done) | (go_simp; rfl)); intro w15 hw; have hg : wr.grownBy w15 (some go13) := (by rw [hw]; exact HP14.2); have hp_ : Kd.R (Kd.int .i64) 3 w15 w.heap.size (fun _ => True) (.slice (some ⟨go13, 0, none⟩) x10_1.length co9) y178 := (by rw [hw, Ny178.out]; exact HP14.1); clear HP14; have n0_ := zm (hp_); have n1_ := zm (blk_grown (g := gb173) (o := .cells #[.slice A0_0 l0_0.length c0_0, .int .i64 a0_1] 32 (0, 0)) zk hg (Kd.R_ne HO_10.out BK173.out (by decide))); have n2_ := zm (blk_grown (g := gb174) (o := .cells #[.int .i64 a2_0, .int .i64 a2_1, .int .i64 a2_2] 36 (0, 0)) zk hg (Kd.R_ne HO_10.out BK174.out (by decide))); have n3_ := zm ((by rw [hw]; exact below_set (HB.out) GB13.out : Below w.heap.size w w15)); clear HO_10; clear BK173; clear BK174; clear HB; have HO_10 := n0_; have BK173 := n1_; have BK174 := n2_; have HB := n3_; clear n0_ n1_ n2_ n3_; clear hg hw hp_) | ((with_reducible refine spec_pyAll.gq ?_); go_quiet (fail)))
       (try simp only [← hl10_1])
       go_roundg k1
       case measure => have := HK1.out; omega
       case rel => exact ⟨(y178), (wrap64 (x19_1 + 1)), (by first | rfl | (simp; done) | (simp [*]; done)), H', ⟨by have := HK1.out; omega⟩, ⟨by (try simp only [hl10_1]); (with_reducible repeat (first | apply Kd.R_alloc | apply Kd.R_drewN | apply Kd.R_drew)); exact HO_10.out⟩, ⟨by (try simp only [hl10_1]); (with_reducible repeat (first | refine blk_drewN ?_ _ | refine blk_drew ?_ | refine blk_alloc ?_ _)); exact BK173.out⟩, ⟨by (try simp only [hl10_1]); (with_reducible repeat (first | refine blk_drewN ?_ _ | refine blk_drew ?_ | refine blk_alloc ?_ _)); exact BK174.out⟩, ⟨zb⟩⟩
      ·
       rw [if_neg c12] at H
       exact absurd H (by simp)
     ·
      rw [if_neg c11] at H
      exact absurd H (by simp)
    ·
     rw [if_neg c10] at H
     have c10b0 : decide (x19_1 < (y175.length : Int)) = false := decide_eq_false c10
     (try (have c10z0 := c10b0; simp only [hl10_1] at c10z0))
     clear c10
     have H' := zm H
     clear H
     go_wp2
     repeat (go_quiet (fail); try go_wp2)
     go_loopg [8, 9, 28] k1 (fun kq v8 v9 v28 w' => ∃ (x8_2 : List (S79)) (x9_2 : List Int) (x10_2 : List Int) (x28_2 : Int), v28 = .int .i64 x28_2 ∧ Aside0 (spec_pyAll.l1 kq x8_2 x9_2 x10_2 l1 (l1.length : Int) x28_2 l0_0 a0_1 a2_0 a2_1 a2_2 = some (r1, r2)) ∧ Aside0 (kq ≤ k1) ∧ Aside0 (Kd.R k79 79 w' w.heap.size (fun _ => True) v8 x8_2) ∧ Aside0 (Kd.R (Kd.int .i64) 3 w' w.heap.size (fun k_ => some k_ ≠ ((.slice Ao9 x10_1.length co9) : Value).ownBlock) v9 x9_2) ∧ Aside0 (Kd.R (Kd.int .i64) 3 w' w.heap.size (fun k_ => some k_ ≠ (v9 : Value).ownBlock) (.slice Ao9 x10_1.length co9) x10_2) ∧ Aside0 (w'.heap[gb173]? = some (.cells #[(.slice A0_0 l0_0.length c0_0), .int .i64 a0_1] 32 (0, 0))) ∧ Aside0 (w'.heap[gb174]? = some (.cells #[.int .i64 a2_0, .int .i64 a2_1, .int .i64 a2_2] 36 (0, 0))) ∧ Aside0 (Below w.heap.size w w'))
     case atStart => exact ⟨(([] : List (S79))), (([] : List Int)), (x10_1), (0), (by first | rfl | (simp; done) | (simp [*]; done)), H', ⟨Nat.le_refl _⟩, ⟨by (try simp only [hl10_1]); first | exact Kd.R_nil _ _ _ _ _ | exact Kd.N_nil _ _ _ _ _ | exact Kd.V_nil _ _ _ _ _ | exact Kd.Q_nil _ _ _ _ _ | exact Kd.S_nil _ _ _ _ _⟩, ⟨by (try simp only [hl10_1]); first | exact Kd.R_nil _ _ _ _ _ | exact Kd.N_nil _ _ _ _ _ | exact Kd.V_nil _ _ _ _ _ | exact Kd.Q_nil _ _ _ _ _ | exact Kd.S_nil _ _ _ _ _⟩, ⟨by (try simp only [hl10_1]); (with_reducible repeat (first | apply Kd.R_alloc | apply Kd.R_drewN | apply Kd.R_drew)); exact Kd.R_mono HO_10.out (fun _ hk => (by simp [Value.ownBlock]))⟩, ⟨by (try simp only [hl10_1]); (with_reducible repeat (first | refine blk_drewN ?_ _ | refine blk_drew ?_ | refine blk_alloc ?_ _)); exact BK173.out⟩, ⟨by (try simp only [hl10_1]); (with_reducible repeat (first | refine blk_drewN ?_ _ | refine blk_drew ?_ | refine blk_alloc ?_ _)); exact BK174.out⟩, ⟨zb⟩⟩
     case round =>
      clear H'
      try clear c1
      try clear p1
      try clear q1
      try clear hx1
      try clear p2
      try clear c4
      try clear c4b0
      try clear c4b1
      try clear c5
      try clear p6
      try clear c10
      try clear c10b0
      try clear c11
      try clear c11b0
      try clear c12
      try clear c12b0
      try clear p13
      try clear q13
      try clear hx13
      try clear hf13
      try clear hx13_0
      try clear p13
      try clear p2
      try clear q13
      obtain ⟨x8_2, x9_2, x10_2, x28_2, rfl, HA, HK2, HO_8, HO_9, HO_10, BK173, BK174, HB⟩ := hrel
      have hl10_2 := (Kd.R_reads' HO_10.out).1
      rw [hl10_2] at HO_10
      (try simp only [hl10_2])
      (try simp only [hl10_2] at BK173)
      (try simp only [hl10_2] at BK174)
      (try simp only [hl10_2] at HO_8)
      (try simp only [hl10_2] at HO_9)
      cases gk with
      | zero => exact absurd HA.out (by simp [spec_pyAll.l1])
      | succ k2 =>
       have H := HA.out
       clear HA
       simp only [spec_pyAll.l1] at H
       by_cases c16 : x28_2 < (l1.length : Int)
       ·
        rw [if_pos c16] at H
        have c16b0 : decide (x28_2 < (l1.length : Int)) = true := decide_eq_true c16
        clear c16
        by_cases c17 : 0 ≤ x28_2
        ·
         rw [if_pos c17] at H
         have c17b0 : decide (0 ≤ x28_2) = true := decide_eq_true c17
         clear c17
         by_cases c18 : x28_2 < (l1.length : Int)
         ·
          rw [if_pos c18] at H
          have c18b0 : decide (x28_2 < (l1.length : Int)) = true := decide_eq_true c18
          clear c18
          by_cases c19 : ((rd_T73 l1 x28_2).f0) ≥ (l0_0.length : Int)
          ·
           rw [if_pos c19] at H
           have c19b0 : decide ((l0_0.length : Int) ≤ ((rd_T73 l1 x28_2).f0)) = true := decide_eq_true c19
           clear c19
           by_cases c20 : x9_2.length < 17592186044416
           ·
            rw [if_pos c20] at H
            have LMc20 := zm c20
            clear c20
            obtain ⟨y181, hy181⟩ : ∃ y_ : List Int, y_ = (x9_2 ++ [x28_2]) := ⟨_, rfl⟩
            replace H : (spec_pyAll.l1 k2 x8_2 y181 x10_2 l1 (l1.length : Int) (wrap64 (x28_2 + 1)) l0_0 a0_1 a2_0 a2_1 a2_2) = some (r1, r2) := by first | (rw [hy181]; with_reducible exact H) | (have H2_ := (Option.bind_some _ _).symm.trans H; rw [hy181]; with_reducible exact H2_) | (have H2_ := (Option.bind_some _ _).symm.trans H; with_reducible exact H2_) | with_reducible exact H | (rw [hy181]; exact H) | exact H
            have Ny181 := zm hy181
            clear hy181
            have H' := zm H
            clear H
            have p179 : 0 ≤ (x28_2 : Int) := zd
            have q179 : x28_2 < (l1.length : Int) := zd
            obtain ⟨ad179, e179, hx179_0, hx179_1, hx179_2⟩ := at_T73 HR1.out x28_2 p179 q179
            cases e179
            replace hx179_0 := zx HB.out hx179_0
            replace hx179_1 := zx HB.out hx179_1
            replace hx179_2 := zx HB.out hx179_2
            replace p179 := eq_true p179
            replace q179 := eq_true q179
            go_wp2_with (first | ((with_reducible refine gate_dst (N := 13) rfl ?_); refine box_event ?hg (N := 13) ?hd (cs := #[.int .i64 0, .int .i64 0, .int .i64 0]) (t := 73) ?hr ?_; (case hd => rfl); (case hg => rfl); (case hr => first | (go_simp; done) | (go_simp; rfl)); intro gb180 hg w21 hbox hb; have n0_ := zm (Kd.R_below (by (with_reducible repeat (first | apply Kd.R_alloc | apply Kd.R_drewN | apply Kd.R_drew)); exact HO_8.out) hb); have n1_ := zm (Kd.R_below (by (with_reducible repeat (first | apply Kd.R_alloc | apply Kd.R_drewN | apply Kd.R_drew)); exact HO_9.out) hb); have n2_ := zm (Kd.R_below (by (with_reducible repeat (first | apply Kd.R_alloc | apply Kd.R_drewN | apply Kd.R_drew)); exact HO_10.out) hb); have n3_ := zm (blk_below (g := gb173) zk hb); have n4_ := zm (blk_below (g := gb174) zk hb); have n5_ := zm (below_step zb hb); have n6_ := zm (hbox); have n7_ := zm (zs hg zb : w.heap.size ≤ gb180); have n8_ := zm (zs hg zb : w.heap.size ≤ gb180); have n9_ := zm (zl hg zk : gb173 ≠ gb180); have n10_ := zm (zg hg zk : gb180 ≠ gb173); have n11_ := zm (zl hg zk : gb174 ≠ gb180); have n12_ := zm (zg hg zk : gb180 ≠ gb174); clear HO_8; clear HO_9; clear HO_10; clear BK173; clear BK174; clear HB; have HO_8 := n0_; have HO_9 := n1_; have HO_10 := n2_; have BK173 := n3_; have BK174 := n4_; have HB := n5_; have BK180 := n6_; have GW180 := n7_; have GE180 := n8_; have NB173_180 := n9_; have NB180_173 := n10_; have NB174_180 := n11_; have NB180_174 := n12_; clear n0_ n1_ n2_ n3_ n4_ n5_ n6_ n7_ n8_ n9_ n10_ n11_ n12_; clear hb hbox hg; have hnb22 := NB180_173.out; have hnc22 := NB173_180.out; have hnb23 := NB180_174.out; have hnc23 := NB174_180.out; obtain ⟨hcz24_0, hcz24_1, hcz24_2, hfz24_0, hfz24_1, hfz24_2⟩ := zc3 BK180.out; have hnb25 := NB174_173.out; have hnc25 := NB173_174.out; obtain ⟨hcz26_0, hcz26_1, hcz26_2, hfz26_0, hfz26_1, hfz26_2⟩ := zc3 BK174.out; obtain ⟨hcz27_0, hcz27_1, hfz27_0, hfz27_1⟩ := zc2 BK173.out) | ((with_reducible refine gate_builtin (b := .append) (xs := #[.tmp 78, .tmp 80]) rfl ?_); at_builtin; refine Kd.R_append (Kd.int .i64) (w0 := w) w.heap.size rfl (.tmp 78) (.tmp 80) 22 3 (.int .i64 0) 8 rfl Try.underlying22 info3 rfl (by decide) (by omega) u9 x9_2 x28_2 [.int .i64 x28_2] (fun k_ => some k_ ≠ (.slice Ao9 x10_2.length co9 : Value).ownBlock) (fun _ => False) rfl (by first | (go_simp; done) | (go_simp; rfl)) ?aP (fun _ hk => hk.elim) ?aF ?aO ?aB ?aS ?aL ?_; (case aP => exact rfl); (case aB => exact zb); (case aF => exact (fun k_ hk => Kd.fresh' (Kd.R_lt (by (with_reducible repeat (first | apply Kd.R_alloc | apply Kd.R_drewN | apply Kd.R_drew)); exact (Kd.R_mono (Kd.R_far (p := ⟨gb180, 2, none⟩) (Kd.R_far (p := ⟨gb180, 1, none⟩) (Kd.R_far (p := ⟨gb180, 0, none⟩) (Kd.R_types HO_10.out BK180.out (by decide)) (fun _ hk => hk.2) (.int .i64 ((rd_T73 l1 x28_2).f0))) (fun _ hk => hk.2) (.int .i64 ((rd_T73 l1 x28_2).f1))) (fun _ hk => hk.2) (.int .i64 ((rd_T73 l1 x28_2).f2))) (fun _ h_ => h_.1)))) k_ hk)); (case aO => exact (by (with_reducible repeat (first | apply Kd.R_alloc | apply Kd.R_drewN | apply Kd.R_drew)); exact Kd.R_mono (Kd.R_far (p := ⟨gb180, 2, none⟩) (Kd.R_far (p := ⟨gb180, 1, none⟩) (Kd.R_far (p := ⟨gb180, 0, none⟩) (Kd.R_types HO_9.out BK180.out (by decide)) (fun _ hk => hk.2) (.int .i64 ((rd_T73 l1 x28_2).f0))) (fun _ hk => hk.2) (.int .i64 ((rd_T73 l1 x28_2).f1))) (fun _ hk => hk.2) (.int .i64 ((rd_T73 l1 x28_2).f2))) (fun _ hk => hk.1))); (case aS => exact (below_size zb)); (case aL => have := LMc20.out; omega); intro v182 w28 ho hb hg hat; rw [← Ny181.out] at ho; have n0_ := zm (Kd.R_over' (by (with_reducible repeat (first | apply Kd.R_alloc | apply Kd.R_drewN | apply Kd.R_drew)); exact (Kd.R_mono (Kd.R_far (p := ⟨gb180, 2, none⟩) (Kd.R_far (p := ⟨gb180, 1, none⟩) (Kd.R_far (p := ⟨gb180, 0, none⟩) (Kd.R_types HO_8.out BK180.out (by decide)) (fun _ hk => hk.2) (.int .i64 ((rd_T73 l1 x28_2).f0))) (fun _ hk => hk.2) (.int .i64 ((rd_T73 l1 x28_2).f1))) (fun _ hk => hk.2) (.int .i64 ((rd_T73 l1 x28_2).f2))) (fun _ h_ => h_.1))) (Kd.R_typed (by (with_reducible repeat (first | apply Kd.R_alloc | apply Kd.R_drewN | apply Kd.R_drew)); exact (Kd.R_mono (Kd.R_far (p := ⟨gb180, 2, none⟩) (Kd.R_far (p := ⟨gb180, 1, none⟩) (Kd.R_far (p := ⟨gb180, 0, none⟩) (Kd.R_types HO_9.out BK180.out (by decide)) (fun _ hk => hk.2) (.int .i64 ((rd_T73 l1 x28_2).f0))) (fun _ hk => hk.2) (.int .i64 ((rd_T73 l1 x28_2).f1))) (fun _ hk => hk.2) (.int .i64 ((rd_T73 l1 x28_2).f2))) (fun _ h_ => h_.1)))) (by decide) hg); have n1_ := zm (Kd.R_after (ok := (fun _ => True)) (by (with_reducible repeat (first | apply Kd.R_alloc | apply Kd.R_drewN | apply Kd.R_drew)); exact Kd.R_mono (Kd.R_far (p := ⟨gb180, 2, none⟩) (Kd.R_far (p := ⟨gb180, 1, none⟩) (Kd.R_far (p := ⟨gb180, 0, none⟩) (Kd.R_types HO_10.out BK180.out (by decide)) (fun _ hk => hk.2) (.int .i64 ((rd_T73 l1 x28_2).f0))) (fun _ hk => hk.2) (.int .i64 ((rd_T73 l1 x28_2).f1))) (fun _ hk => hk.2) (.int .i64 ((rd_T73 l1 x28_2).f2))) (fun _ hk => ⟨trivial, hk.1⟩)) hg hat); have n2_ := zm (blk_grown (g := gb173) (o := .cells #[.slice A0_0 l0_0.length c0_0, .int .i64 a0_1] 32 (0, 0)) zK hg (Kd.R_ne HO_9.out BK173.out (by decide))); have n3_ := zm (blk_grown (g := gb174) (o := .cells #[.int .i64 a2_0, .int .i64 a2_1, .int .i64 a2_2] 36 (0, 0)) zK hg (Kd.R_ne HO_9.out BK174.out (by decide))); have n4_ := zm (blk_grown (g := gb180) (o := .cells #[.int .i64 ((rd_T73 l1 x28_2).f0), .int .i64 ((rd_T73 l1 x28_2).f1), .int .i64 ((rd_T73 l1 x28_2).f2)] 73 (0, 0)) (by (with_reducible repeat (first | refine blk_drewN ?_ _ | refine blk_drew ?_ | refine blk_alloc ?_ _)); refine blk_put (cs := #[.int .i64 ((rd_T73 l1 x28_2).f0), .int .i64 ((rd_T73 l1 x28_2).f1), .int .i64 0]) ?_ 2 _ rfl; (with_reducible repeat (first | refine blk_drewN ?_ _ | refine blk_drew ?_ | refine blk_alloc ?_ _)); refine blk_put (cs := #[.int .i64 ((rd_T73 l1 x28_2).f0), .int .i64 0, .int .i64 0]) ?_ 1 _ rfl; (with_reducible repeat (first | refine blk_drewN ?_ _ | refine blk_drew ?_ | refine blk_alloc ?_ _)); refine blk_put (cs := #[.int .i64 0, .int .i64 0, .int .i64 0]) ?_ 0 _ rfl; (with_reducible repeat (first | refine blk_drewN ?_ _ | refine blk_drew ?_ | refine blk_alloc ?_ _)); exact BK180.out) hg (Kd.R_ne HO_9.out BK180.out (by decide))); have n5_ := zm (hb); have n6_ := zm (ho); clear HO_8; clear HO_10; clear BK173; clear BK174; clear BK180; clear HB; clear HO_9; have HO_8 := n0_; have HO_10 := n1_; have BK173 := n2_; have BK174 := n3_; have BK180 := n4_; have HB := n5_; have HO183 := n6_; clear n0_ n1_ n2_ n3_ n4_ n5_ n6_; clear ho hb hg hat) | ((with_reducible refine spec_pyAll.gq ?_); go_quiet (fail)))
            (try simp only [← hl10_2])
            go_roundg k2
            case measure => have := HK1.out; have := HK2.out; omega
            case rel => exact ⟨(x8_2), (y181), (x10_2), (wrap64 (x28_2 + 1)), (by first | rfl | (simp; done) | (simp [*]; done)), H', ⟨by have := HK1.out; have := HK2.out; omega⟩, ⟨by (try simp only [hl10_1]); (try simp only [hl10_2]); (with_reducible repeat (first | apply Kd.R_alloc | apply Kd.R_drewN | apply Kd.R_drew)); exact HO_8.out⟩, ⟨by (try simp only [hl10_1]); (try simp only [hl10_2]); (with_reducible repeat (first | apply Kd.R_alloc | apply Kd.R_drewN | apply Kd.R_drew)); exact HO183.out⟩, ⟨by (try simp only [hl10_1]); (try simp only [hl10_2]); (with_reducible repeat (first | apply Kd.R_alloc | apply Kd.R_drewN | apply Kd.R_drew)); exact zM HO_10.out⟩, ⟨by (try simp only [hl10_1]); (try simp only [hl10_2]); (with_reducible repeat (first | refine blk_drewN ?_ _ | refine blk_drew ?_ | refine blk_alloc ?_ _)); exact BK173.out⟩, ⟨by (try simp only [hl10_1]); (try simp only [hl10_2]); (with_reducible repeat (first | refine blk_drewN ?_ _ | refine blk_drew ?_ | refine blk_alloc ?_ _)); exact BK174.out⟩, ⟨zb⟩⟩
           ·
            rw [if_neg c20] at H
            exact absurd H (by simp)
          ·
           rw [if_neg c19] at H
           have c19b0 : decide ((l0_0.length : Int) ≤ ((rd_T73 l1 x28_2).f0)) = false := decide_eq_false c19
           (try (have c19z0 := c19b0; simp only [hl10_1] at c19z0))
           (try (have c19z0 := c19b0; simp only [hl10_2] at c19z0))
           clear c19
           by_cases c29 : (wrap64 (((rd_T73 l1 x28_2).f2) - ((rd_T73 l1 x28_2).f1))) < a2_2
           ·
            rw [if_pos c29] at H
            have c29b0 : decide ((wrap64 (((rd_T73 l1 x28_2).f2) - ((rd_T73 l1 x28_2).f1))) < a2_2) = true := decide_eq_true c29
            clear c29
            by_cases c30 : x9_2.length < 17592186044416
            ·
             rw [if_pos c30] at H
             have LMc30 := zm c30
             clear c30
             obtain ⟨y184, hy184⟩ : ∃ y_ : List Int, y_ = (x9_2 ++ [x28_2]) := ⟨_, rfl⟩
             replace H : (spec_pyAll.l1 k2 x8_2 y184 x10_2 l1 (l1.length : Int) (wrap64 (x28_2 + 1)) l0_0 a0_1 a2_0 a2_1 a2_2) = some (r1, r2) := by first | (rw [hy184]; with_reducible exact H) | (have H2_ := (Option.bind_some _ _).symm.trans H; rw [hy184]; with_reducible exact H2_) | (have H2_ := (Option.bind_some _ _).symm.trans H; with_reducible exact H2_) | with_reducible exact H | (rw [hy184]; exact H) | exact H
             have Ny184 := zm hy184
             clear hy184
             have H' := zm H
             clear H
             have p179 : 0 ≤ (x28_2 : Int) := zd
             have q179 : x28_2 < (l1.length : Int) := zd
             obtain ⟨ad179, e179, hx179_0, hx179_1, hx179_2⟩ := at_T73 HR1.out x28_2 p179 q179
             cases e179
             replace hx179_0 := zx HB.out hx179_0
             replace hx179_1 := zx HB.out hx179_1
             replace hx179_2 := zx HB.out hx179_2
             replace p179 := eq_true p179
             replace q179 := eq_true q179
             go_wp2_with (first | ((with_reducible refine gate_dst (N := 13) rfl ?_); refine box_event ?hg (N := 13) ?hd (cs := #[.int .i64 0, .int .i64 0, .int .i64 0]) (t := 73) ?hr ?_; (case hd => rfl); (case hg => rfl); (case hr => first | (go_simp; done) | (go_simp; rfl)); intro gb180 hg w31 hbox hb; have n0_ := zm (Kd.R_below (by (with_reducible repeat (first | apply Kd.R_alloc | apply Kd.R_drewN | apply Kd.R_drew)); exact HO_8.out) hb); have n1_ := zm (Kd.R_below (by (with_reducible repeat (first | apply Kd.R_alloc | apply Kd.R_drewN | apply Kd.R_drew)); exact HO_9.out) hb); have n2_ := zm (Kd.R_below (by (with_reducible repeat (first | apply Kd.R_alloc | apply Kd.R_drewN | apply Kd.R_drew)); exact HO_10.out) hb); have n3_ := zm (blk_below (g := gb173) zk hb); have n4_ := zm (blk_below (g := gb174) zk hb); have n5_ := zm (below_step zb hb); have n6_ := zm (hbox); have n7_ := zm (zs hg zb : w.heap.size ≤ gb180); have n8_ := zm (zs hg zb : w.heap.size ≤ gb180); have n9_ := zm (zl hg zk : gb173 ≠ gb180); have n10_ := zm (zg hg zk : gb180 ≠ gb173); have n11_ := zm (zl hg zk : gb174 ≠ gb180); have n12_ := zm (zg hg zk : gb180 ≠ gb174); clear HO_8; clear HO_9; clear HO_10; clear BK173; clear BK174; clear HB; have HO_8 := n0_; have HO_9 := n1_; have HO_10 := n2_; have BK173 := n3_; have BK174 := n4_; have HB := n5_; have BK180 := n6_; have GW180 := n7_; have GE180 := n8_; have NB173_180 := n9_; have NB180_173 := n10_; have NB174_180 := n11_; have NB180_174 := n12_; clear n0_ n1_ n2_ n3_ n4_ n5_ n6_ n7_ n8_ n9_ n10_ n11_ n12_; clear hb hbox hg; have hnb32 := NB180_173.out; have hnc32 := NB173_180.out; have hnb33 := NB180_174.out; have hnc33 := NB174_180.out; obtain ⟨hcz34_0, hcz34_1, hcz34_2, hfz34_0, hfz34_1, hfz34_2⟩ := zc3 BK180.out; have hnb35 := NB174_173.out; have hnc35 := NB173_174.out; obtain ⟨hcz36_0, hcz36_1, hcz36_2, hfz36_0, hfz36_1, hfz36_2⟩ := zc3 BK174.out; obtain ⟨hcz37_0, hcz37_1, hfz37_0, hfz37_1⟩ := zc2 BK173.out) | ((with_reducible refine gate_builtin (b := .append) (xs := #[.tmp 78, .tmp 80]) rfl ?_); at_builtin; refine Kd.R_append (Kd.int .i64) (w0 := w) w.heap.size rfl (.tmp 78) (.tmp 80) 22 3 (.int .i64 0) 8 rfl Try.underlying22 info3 rfl (by decide) (by omega) u9 x9_2 x28_2 [.int .i64 x28_2] (fun k_ => some k_ ≠ (.slice Ao9 x10_2.length co9 : Value).ownBlock) (fun _ => False) rfl (by first | (go_simp; done) | (go_simp; rfl)) ?aP (fun _ hk => hk.elim) ?aF ?aO ?aB ?aS ?aL ?_; (case aP => exact rfl); (case aB => exact zb); (case aF => exact (fun k_ hk => Kd.fresh' (Kd.R_lt (by (with_reducible repeat (first | apply Kd.R_alloc | apply Kd.R_drewN | apply Kd.R_drew)); exact (Kd.R_mono (Kd.R_far (p := ⟨gb180, 2, none⟩) (Kd.R_far (p := ⟨gb180, 1, none⟩) (Kd.R_far (p := ⟨gb180, 0, none⟩) (Kd.R_types HO_10.out BK180.out (by decide)) (fun _ hk => hk.2) (.int .i64 ((rd_T73 l1 x28_2).f0))) (fun _ hk => hk.2) (.int .i64 ((rd_T73 l1 x28_2).f1))) (fun _ hk => hk.2) (.int .i64 ((rd_T73 l1 x28_2).f2))) (fun _ h_ => h_.1)))) k_ hk)); (case aO => exact (by (with_reducible repeat (first | apply Kd.R_alloc | apply Kd.R_drewN | apply Kd.R_drew)); exact Kd.R_mono (Kd.R_far (p := ⟨gb180, 2, none⟩) (Kd.R_far (p := ⟨gb180, 1, none⟩) (Kd.R_far (p := ⟨gb180, 0, none⟩) (Kd.R_types HO_9.out BK180.out (by decide)) (fun _ hk => hk.2) (.int .i64 ((rd_T73 l1 x28_2).f0))) (fun _ hk => hk.2) (.int .i64 ((rd_T73 l1 x28_2).f1))) (fun _ hk => hk.2) (.int .i64 ((rd_T73 l1 x28_2).f2))) (fun _ hk => hk.1))); (case aS => exact (below_size zb)); (case aL => have := LMc30.out; omega); intro v185 w38 ho hb hg hat; rw [← Ny184.out] at ho; have n0_ := zm (Kd.R_over' (by (with_reducible repeat (first | apply Kd.R_alloc | apply Kd.R_drewN | apply Kd.R_drew)); exact (Kd.R_mono (Kd.R_far (p := ⟨gb180, 2, none⟩) (Kd.R_far (p := ⟨gb180, 1, none⟩) (Kd.R_far (p := ⟨gb180, 0, none⟩) (Kd.R_types HO_8.out BK180.out (by decide)) (fun _ hk => hk.2) (.int .i64 ((rd_T73 l1 x28_2).f0))) (fun _ hk => hk.2) (.int .i64 ((rd_T73 l1 x28_2).f1))) (fun _ hk => hk.2) (.int .i64 ((rd_T73 l1 x28_2).f2))) (fun _ h_ => h_.1))) (Kd.R_typed (by (with_reducible repeat (first | apply Kd.R_alloc | apply Kd.R_drewN | apply Kd.R_drew)); exact (Kd.R_mono (Kd.R_far (p := ⟨gb180, 2, none⟩) (Kd.R_far (p := ⟨gb180, 1, none⟩) (Kd.R_far (p := ⟨gb180, 0, none⟩) (Kd.R_types HO_9.out BK180.out (by decide)) (fun _ hk => hk.2) (.int .i64 ((rd_T73 l1 x28_2).f0))) (fun _ hk => hk.2) (.int .i64 ((rd_T73 l1 x28_2).f1))) (fun _ hk => hk.2) (.int .i64 ((rd_T73 l1 x28_2).f2))) (fun _ h_ => h_.1)))) (by decide) hg); have n1_ := zm (Kd.R_after (ok := (fun _ => True)) (by (with_reducible repeat (first | apply Kd.R_alloc | apply Kd.R_drewN | apply Kd.R_drew)); exact Kd.R_mono (Kd.R_far (p := ⟨gb180, 2, none⟩) (Kd.R_far (p := ⟨gb180, 1, none⟩) (Kd.R_far (p := ⟨gb180, 0, none⟩) (Kd.R_types HO_10.out BK180.out (by decide)) (fun _ hk => hk.2) (.int .i64 ((rd_T73 l1 x28_2).f0))) (fun _ hk => hk.2) (.int .i64 ((rd_T73 l1 x28_2).f1))) (fun _ hk => hk.2) (.int .i64 ((rd_T73 l1 x28_2).f2))) (fun _ hk => ⟨trivial, hk.1⟩)) hg hat); have n2_ := zm (blk_grown (g := gb173) (o := .cells #[.slice A0_0 l0_0.length c0_0, .int .i64 a0_1] 32 (0, 0)) zK hg (Kd.R_ne HO_9.out BK173.out (by decide))); have n3_ := zm (blk_grown (g := gb174) (o := .cells #[.int .i64 a2_0, .int .i64 a2_1, .int .i64 a2_2] 36 (0, 0)) zK hg (Kd.R_ne HO_9.out BK174.out (by decide))); have n4_ := zm (blk_grown (g := gb180) (o := .cells #[.int .i64 ((rd_T73 l1 x28_2).f0), .int .i64 ((rd_T73 l1 x28_2).f1), .int .i64 ((rd_T73 l1 x28_2).f2)] 73 (0, 0)) (by (with_reducible repeat (first | refine blk_drewN ?_ _ | refine blk_drew ?_ | refine blk_alloc ?_ _)); refine blk_put (cs := #[.int .i64 ((rd_T73 l1 x28_2).f0), .int .i64 ((rd_T73 l1 x28_2).f1), .int .i64 0]) ?_ 2 _ rfl; (with_reducible repeat (first | refine blk_drewN ?_ _ | refine blk_drew ?_ | refine blk_alloc ?_ _)); refine blk_put (cs := #[.int .i64 ((rd_T73 l1 x28_2).f0), .int .i64 0, .int .i64 0]) ?_ 1 _ rfl; (with_reducible repeat (first | refine blk_drewN ?_ _ | refine blk_drew ?_ | refine blk_alloc ?_ _)); refine blk_put (cs := #[.int .i64 0, .int .i64 0, .int .i64 0]) ?_ 0 _ rfl; (with_reducible repeat (first | refine blk_drewN ?_ _ | refine blk_drew ?_ | refine blk_alloc ?_ _)); exact BK180.out) hg (Kd.R_ne HO_9.out BK180.out (by decide))); have n5_ := zm (hb); have n6_ := zm (ho); clear HO_8; clear HO_10; clear BK173; clear BK174; clear BK180; clear HB; clear HO_9; have HO_8 := n0_; have HO_10 := n1_; have BK173 := n2_; have BK174 := n3_; have BK180 := n4_; have HB := n5_; have HO186 := n6_; clear n0_ n1_ n2_ n3_ n4_ n5_ n6_; clear ho hb hg hat) | ((with_reducible refine spec_pyAll.gq ?_); go_quiet (fail)))
             (try simp only [← hl10_2])
             go_roundg k2
             case measure => have := HK1.out; have := HK2.out; omega
             case rel => exact ⟨(x8_2), (y184), (x10_2), (wrap64 (x28_2 + 1)), (by first | rfl | (simp; done) | (simp [*]; done)), H', ⟨by have := HK1.out; have := HK2.out; omega⟩, ⟨by (try simp only [hl10_1]); (try simp only [hl10_2]); (with_reducible repeat (first | apply Kd.R_alloc | apply Kd.R_drewN | apply Kd.R_drew)); exact HO_8.out⟩, ⟨by (try simp only [hl10_1]); (try simp only [hl10_2]); (with_reducible repeat (first | apply Kd.R_alloc | apply Kd.R_drewN | apply Kd.R_drew)); exact HO186.out⟩, ⟨by (try simp only [hl10_1]); (try simp only [hl10_2]); (with_reducible repeat (first | apply Kd.R_alloc | apply Kd.R_drewN | apply Kd.R_drew)); exact zM HO_10.out⟩, ⟨by (try simp only [hl10_1]); (try simp only [hl10_2]); (with_reducible repeat (first | refine blk_drewN ?_ _ | refine blk_drew ?_ | refine blk_alloc ?_ _)); exact BK173.out⟩, ⟨by (try simp only [hl10_1]); (try simp only [hl10_2]); (with_reducible repeat (first | refine blk_drewN ?_ _ | refine blk_drew ?_ | refine blk_alloc ?_ _)); exact BK174.out⟩, ⟨zb⟩⟩
            ·
             rw [if_neg c30] at H
             exact absurd H (by simp)
           ·
            rw [if_neg c29] at H
            have c29b0 : decide ((wrap64 (((rd_T73 l1 x28_2).f2) - ((rd_T73 l1 x28_2).f1))) < a2_2) = false := decide_eq_false c29
            clear c29
            by_cases c39 : 0 ≤ ((rd_T73 l1 x28_2).f0)
            ·
             rw [if_pos c39] at H
             have c39b0 : decide (0 ≤ ((rd_T73 l1 x28_2).f0)) = true := decide_eq_true c39
             clear c39
             by_cases c40 : ((rd_T73 l1 x28_2).f0) < (x10_2.length : Int)
             ·
              rw [if_pos c40] at H
              have c40b0 : decide (((rd_T73 l1 x28_2).f0) < (x10_2.length : Int)) = true := decide_eq_true c40
              clear c40
              by_cases c41 : (wrap64 (((rd_T73 l1 x28_2).f1) - (rd x10_2 ((rd_T73 l1 x28_2).f0)))) < (wrap64 (2 * a0_1))
              ·
               rw [if_pos c41] at H
               have c41b0 : decide ((wrap64 (((rd_T73 l1 x28_2).f1) - (rd x10_2 ((rd_T73 l1 x28_2).f0)))) < (wrap64 (2 * a0_1))) = true := decide_eq_true c41
               clear c41
               by_cases c42 : x9_2.length < 17592186044416
               ·
                rw [if_pos c42] at H
                have LMc42 := zm c42
                clear c42
                obtain ⟨y188, hy188⟩ : ∃ y_ : List Int, y_ = (x9_2 ++ [x28_2]) := ⟨_, rfl⟩
                replace H : (spec_pyAll.l1 k2 x8_2 y188 x10_2 l1 (l1.length : Int) (wrap64 (x28_2 + 1)) l0_0 a0_1 a2_0 a2_1 a2_2) = some (r1, r2) := by first | (rw [hy188]; with_reducible exact H) | (have H2_ := (Option.bind_some _ _).symm.trans H; rw [hy188]; with_reducible exact H2_) | (have H2_ := (Option.bind_some _ _).symm.trans H; with_reducible exact H2_) | with_reducible exact H | (rw [hy188]; exact H) | exact H
                have Ny188 := zm hy188
                clear hy188
                have H' := zm H
                clear H
                have p179 : 0 ≤ (x28_2 : Int) := zd
                have q179 : x28_2 < (l1.length : Int) := zd
                obtain ⟨ad179, e179, hx179_0, hx179_1, hx179_2⟩ := at_T73 HR1.out x28_2 p179 q179
                cases e179
                replace hx179_0 := zx HB.out hx179_0
                replace hx179_1 := zx HB.out hx179_1
                replace hx179_2 := zx HB.out hx179_2
                replace p179 := eq_true p179
                replace q179 := eq_true q179
                go_wp2_with (first | ((with_reducible refine gate_dst (N := 13) rfl ?_); refine box_event ?hg (N := 13) ?hd (cs := #[.int .i64 0, .int .i64 0, .int .i64 0]) (t := 73) ?hr ?_; (case hd => rfl); (case hg => rfl); (case hr => first | (go_simp; done) | (go_simp; rfl)); intro gb180 hg w43 hbox hb; have n0_ := zm (Kd.R_below (by (with_reducible repeat (first | apply Kd.R_alloc | apply Kd.R_drewN | apply Kd.R_drew)); exact HO_8.out) hb); have n1_ := zm (Kd.R_below (by (with_reducible repeat (first | apply Kd.R_alloc | apply Kd.R_drewN | apply Kd.R_drew)); exact HO_9.out) hb); have n2_ := zm (Kd.R_below (by (with_reducible repeat (first | apply Kd.R_alloc | apply Kd.R_drewN | apply Kd.R_drew)); exact HO_10.out) hb); have n3_ := zm (blk_below (g := gb173) zk hb); have n4_ := zm (blk_below (g := gb174) zk hb); have n5_ := zm (below_step zb hb); have n6_ := zm (hbox); have n7_ := zm (zs hg zb : w.heap.size ≤ gb180); have n8_ := zm (zs hg zb : w.heap.size ≤ gb180); have n9_ := zm (zl hg zk : gb173 ≠ gb180); have n10_ := zm (zg hg zk : gb180 ≠ gb173); have n11_ := zm (zl hg zk : gb174 ≠ gb180); have n12_ := zm (zg hg zk : gb180 ≠ gb174); clear HO_8; clear HO_9; clear HO_10; clear BK173; clear BK174; clear HB; have HO_8 := n0_; have HO_9 := n1_; have HO_10 := n2_; have BK173 := n3_; have BK174 := n4_; have HB := n5_; have BK180 := n6_; have GW180 := n7_; have GE180 := n8_; have NB173_180 := n9_; have NB180_173 := n10_; have NB174_180 := n11_; have NB180_174 := n12_; clear n0_ n1_ n2_ n3_ n4_ n5_ n6_ n7_ n8_ n9_ n10_ n11_ n12_; clear hb hbox hg; have hnb44 := NB180_173.out; have hnc44 := NB173_180.out; have hnb45 := NB180_174.out; have hnc45 := NB174_180.out; obtain ⟨hcz46_0, hcz46_1, hcz46_2, hfz46_0, hfz46_1, hfz46_2⟩ := zc3 BK180.out; have hnb47 := NB174_173.out; have hnc47 := NB173_174.out; obtain ⟨hcz48_0, hcz48_1, hcz48_2, hfz48_0, hfz48_1, hfz48_2⟩ := zc3 BK174.out; obtain ⟨hcz49_0, hcz49_1, hfz49_0, hfz49_1⟩ := zc2 BK173.out; have p187 : 0 ≤ (((rd_T73 l1 x28_2).f0) : Int) := zd; have q187 : ((rd_T73 l1 x28_2).f0) < (x10_2.length : Int) := zd; obtain ⟨ad187, e187, hx187_0⟩ := Kd.at_int (Kd.R_reads' HO_10.out).2.2 ((rd_T73 l1 x28_2).f0) p187 q187; cases e187; have hn187_0 : ad187.block ≠ gb180 := Kd.own_blk (Kd.R_ne HO_10.out BK180.out (by decide)); have hn187_1 : ad187.block ≠ gb180 := Kd.own_blk (Kd.R_ne HO_10.out BK180.out (by decide)); have hn187_2 : ad187.block ≠ gb180 := Kd.own_blk (Kd.R_ne HO_10.out BK180.out (by decide)); replace hx187_0 := zf (p := ⟨gb180, 0, none⟩) (.int .i64 ((rd_T73 l1 x28_2).f0)) hx187_0; replace hx187_0 := zf (p := ⟨gb180, 1, none⟩) (.int .i64 ((rd_T73 l1 x28_2).f1)) hx187_0; replace hx187_0 := zf (p := ⟨gb180, 2, none⟩) (.int .i64 ((rd_T73 l1 x28_2).f2)) hx187_0; (try have hy187_0 := fun (n_ : Nat) => (show (((((w43.drewN n_).setCell ⟨gb180, 0, none⟩ (.int .i64 ((rd_T73 l1 x28_2).f0))).setCell ⟨gb180, 1, none⟩ (.int .i64 ((rd_T73 l1 x28_2).f1))).setCell ⟨gb180, 2, none⟩ (.int .i64 ((rd_T73 l1 x28_2).f2)))).cell? _ = some _ from hx187_0)); clear hn187_0; clear hn187_1; clear hn187_2; replace p187 := eq_true p187; replace q187 := eq_true q187) | ((with_reducible refine gate_builtin (b := .append) (xs := #[.tmp 78, .tmp 80]) rfl ?_); at_builtin; refine Kd.R_append (Kd.int .i64) (w0 := w) w.heap.size rfl (.tmp 78) (.tmp 80) 22 3 (.int .i64 0) 8 rfl Try.underlying22 info3 rfl (by decide) (by omega) u9 x9_2 x28_2 [.int .i64 x28_2] (fun k_ => some k_ ≠ (.slice (some ad187) x10_2.length co9 : Value).ownBlock) (fun _ => False) rfl (by first | (go_simp; done) | (go_simp; rfl)) ?aP (fun _ hk => hk.elim) ?aF ?aO ?aB ?aS ?aL ?_; (case aP => exact rfl); (case aB => exact zb); (case aF => exact (fun k_ hk => Kd.fresh' (Kd.R_lt (by (with_reducible repeat (first | apply Kd.R_alloc | apply Kd.R_drewN | apply Kd.R_drew)); exact (Kd.R_mono (Kd.R_far (p := ⟨gb180, 2, none⟩) (Kd.R_far (p := ⟨gb180, 1, none⟩) (Kd.R_far (p := ⟨gb180, 0, none⟩) (Kd.R_types HO_10.out BK180.out (by decide)) (fun _ hk => hk.2) (.int .i64 ((rd_T73 l1 x28_2).f0))) (fun _ hk => hk.2) (.int .i64 ((rd_T73 l1 x28_2).f1))) (fun _ hk => hk.2) (.int .i64 ((rd_T73 l1 x28_2).f2))) (fun _ h_ => h_.1)))) k_ hk)); (case aO => exact (by (with_reducible repeat (first | apply Kd.R_alloc | apply Kd.R_drewN | apply Kd.R_drew)); exact Kd.R_mono (Kd.R_far (p := ⟨gb180, 2, none⟩) (Kd.R_far (p := ⟨gb180, 1, none⟩) (Kd.R_far (p := ⟨gb180, 0, none⟩) (Kd.R_types HO_9.out BK180.out (by decide)) (fun _ hk => hk.2) (.int .i64 ((rd_T73 l1 x28_2).f0))) (fun _ hk => hk.2) (.int .i64 ((rd_T73 l1 x28_2).f1))) (fun _ hk => hk.2) (.int .i64 ((rd_T73 l1 x28_2).f2))) (fun _ hk => hk.1))); (case aS => exact (below_size zb)); (case aL => have := LMc42.out; omega); intro v189 w50 ho hb hg hat; rw [← Ny188.out] at ho; have n0_ := zm (Kd.R_over' (by (with_reducible repeat (first | apply Kd.R_alloc | apply Kd.R_drewN | apply Kd.R_drew)); exact (Kd.R_mono (Kd.R_far (p := ⟨gb180, 2, none⟩) (Kd.R_far (p := ⟨gb180, 1, none⟩) (Kd.R_far (p := ⟨gb180, 0, none⟩) (Kd.R_types HO_8.out BK180.out (by decide)) (fun _ hk => hk.2) (.int .i64 ((rd_T73 l1 x28_2).f0))) (fun _ hk => hk.2) (.int .i64 ((rd_T73 l1 x28_2).f1))) (fun _ hk => hk.2) (.int .i64 ((rd_T73 l1 x28_2).f2))) (fun _ h_ => h_.1))) (Kd.R_typed (by (with_reducible repeat (first | apply Kd.R_alloc | apply Kd.R_drewN | apply Kd.R_drew)); exact (Kd.R_mono (Kd.R_far (p := ⟨gb180, 2, none⟩) (Kd.R_far (p := ⟨gb180, 1, none⟩) (Kd.R_far (p := ⟨gb180, 0, none⟩) (Kd.R_types HO_9.out BK180.out (by decide)) (fun _ hk => hk.2) (.int .i64 ((rd_T73 l1 x28_2).f0))) (fun _ hk => hk.2) (.int .i64 ((rd_T73 l1 x28_2).f1))) (fun _ hk => hk.2) (.int .i64 ((rd_T73 l1 x28_2).f2))) (fun _ h_ => h_.1)))) (by decide) hg); have n1_ := zm (Kd.R_after (ok := (fun _ => True)) (by (with_reducible repeat (first | apply Kd.R_alloc | apply Kd.R_drewN | apply Kd.R_drew)); exact Kd.R_mono (Kd.R_far (p := ⟨gb180, 2, none⟩) (Kd.R_far (p := ⟨gb180, 1, none⟩) (Kd.R_far (p := ⟨gb180, 0, none⟩) (Kd.R_types HO_10.out BK180.out (by decide)) (fun _ hk => hk.2) (.int .i64 ((rd_T73 l1 x28_2).f0))) (fun _ hk => hk.2) (.int .i64 ((rd_T73 l1 x28_2).f1))) (fun _ hk => hk.2) (.int .i64 ((rd_T73 l1 x28_2).f2))) (fun _ hk => ⟨trivial, hk.1⟩)) hg hat); have n2_ := zm (blk_grown (g := gb173) (o := .cells #[.slice A0_0 l0_0.length c0_0, .int .i64 a0_1] 32 (0, 0)) zK hg (Kd.R_ne HO_9.out BK173.out (by decide))); have n3_ := zm (blk_grown (g := gb174) (o := .cells #[.int .i64 a2_0, .int .i64 a2_1, .int .i64 a2_2] 36 (0, 0)) zK hg (Kd.R_ne HO_9.out BK174.out (by decide))); have n4_ := zm (blk_grown (g := gb180) (o := .cells #[.int .i64 ((rd_T73 l1 x28_2).f0), .int .i64 ((rd_T73 l1 x28_2).f1), .int .i64 ((rd_T73 l1 x28_2).f2)] 73 (0, 0)) (by (with_reducible repeat (first | refine blk_drewN ?_ _ | refine blk_drew ?_ | refine blk_alloc ?_ _)); refine blk_put (cs := #[.int .i64 ((rd_T73 l1 x28_2).f0), .int .i64 ((rd_T73 l1 x28_2).f1), .int .i64 0]) ?_ 2 _ rfl; (with_reducible repeat (first | refine blk_drewN ?_ _ | refine blk_drew ?_ | refine blk_alloc ?_ _)); refine blk_put (cs := #[.int .i64 ((rd_T73 l1 x28_2).f0), .int .i64 0, .int .i64 0]) ?_ 1 _ rfl; (with_reducible repeat (first | refine blk_drewN ?_ _ | refine blk_drew ?_ | refine blk_alloc ?_ _)); refine blk_put (cs := #[.int .i64 0, .int .i64 0, .int .i64 0]) ?_ 0 _ rfl; (with_reducible repeat (first | refine blk_drewN ?_ _ | refine blk_drew ?_ | refine blk_alloc ?_ _)); exact BK180.out) hg (Kd.R_ne HO_9.out BK180.out (by decide))); have n5_ := zm (hb); have n6_ := zm (ho); clear HO_8; clear HO_10; clear BK173; clear BK174; clear BK180; clear HB; clear HO_9; have HO_8 := n0_; have HO_10 := n1_; have BK173 := n2_; have BK174 := n3_; have BK180 := n4_; have HB := n5_; have HO190 := n6_; clear n0_ n1_ n2_ n3_ n4_ n5_ n6_; clear ho hb hg hat) | ((with_reducible refine spec_pyAll.gq ?_); go_quiet (fail)))
                (try simp only [← hl10_2])
                go_roundg k2
                case measure => have := HK1.out; have := HK2.out; omega
                case rel => exact ⟨(x8_2), (y188), (x10_2), (wrap64 (x28_2 + 1)), (by first | rfl | (simp; done) | (simp [*]; done)), H', ⟨by have := HK1.out; have := HK2.out; omega⟩, ⟨by (try simp only [hl10_1]); (try simp only [hl10_2]); (with_reducible repeat (first | apply Kd.R_alloc | apply Kd.R_drewN | apply Kd.R_drew)); exact HO_8.out⟩, ⟨by (try simp only [hl10_1]); (try simp only [hl10_2]); (with_reducible repeat (first | apply Kd.R_alloc | apply Kd.R_drewN | apply Kd.R_drew)); exact HO190.out⟩, ⟨by (try simp only [hl10_1]); (try simp only [hl10_2]); (with_reducible repeat (first | apply Kd.R_alloc | apply Kd.R_drewN | apply Kd.R_drew)); exact zM HO_10.out⟩, ⟨by (try simp only [hl10_1]); (try simp only [hl10_2]); (with_reducible repeat (first | refine blk_drewN ?_ _ | refine blk_drew ?_ | refine blk_alloc ?_ _)); exact BK173.out⟩, ⟨by (try simp only [hl10_1]); (try simp only [hl10_2]); (with_reducible repeat (first | refine blk_drewN ?_ _ | refine blk_drew ?_ | refine blk_alloc ?_ _)); exact BK174.out⟩, ⟨zb⟩⟩
               ·
                rw [if_neg c42] at H
                exact absurd H (by simp)
              ·
               rw [if_neg c41] at H
               have c41b0 : decide ((wrap64 (((rd_T73 l1 x28_2).f1) - (rd x10_2 ((rd_T73 l1 x28_2).f0)))) < (wrap64 (2 * a0_1))) = false := decide_eq_false c41
               clear c41
               by_cases c51 : (wrap64 (((rd_T73 l1 x28_2).f1) + a2_0)) ≥ (wrap64 (((rd_T73 l1 x28_2).f2) + a2_1))
               ·
                rw [if_pos c51] at H
                have c51b0 : decide ((wrap64 (((rd_T73 l1 x28_2).f2) + a2_1)) ≤ (wrap64 (((rd_T73 l1 x28_2).f1) + a2_0))) = true := decide_eq_true c51
                clear c51
                by_cases c52 : x9_2.length < 17592186044416
                ·
                 rw [if_pos c52] at H
                 have LMc52 := zm c52
                 clear c52
                 obtain ⟨y191, hy191⟩ : ∃ y_ : List Int, y_ = (x9_2 ++ [x28_2]) := ⟨_, rfl⟩
                 replace H : (spec_pyAll.l1 k2 x8_2 y191 x10_2 l1 (l1.length : Int) (wrap64 (x28_2 + 1)) l0_0 a0_1 a2_0 a2_1 a2_2) = some (r1, r2) := by first | (rw [hy191]; with_reducible exact H) | (have H2_ := (Option.bind_some _ _).symm.trans H; rw [hy191]; with_reducible exact H2_) | (have H2_ := (Option.bind_some _ _).symm.trans H; with_reducible exact H2_) | with_reducible exact H | (rw [hy191]; exact H) | exact H
                 have Ny191 := zm hy191
                 clear hy191
                 have H' := zm H
                 clear H
                 have p179 : 0 ≤ (x28_2 : Int) := zd
                 have q179 : x28_2 < (l1.length : Int) := zd
                 obtain ⟨ad179, e179, hx179_0, hx179_1, hx179_2⟩ := at_T73 HR1.out x28_2 p179 q179
                 cases e179
                 replace hx179_0 := zx HB.out hx179_0
                 replace hx179_1 := zx HB.out hx179_1
                 replace hx179_2 := zx HB.out hx179_2
                 replace p179 := eq_true p179
                 replace q179 := eq_true q179
                 go_wp2_with (first | ((with_reducible refine gate_dst (N := 13) rfl ?_); refine box_event ?hg (N := 13) ?hd (cs := #[.int .i64 0, .int .i64 0, .int .i64 0]) (t := 73) ?hr ?_; (case hd => rfl); (case hg => rfl); (case hr => first | (go_simp; done) | (go_simp; rfl)); intro gb180 hg w53 hbox hb; have n0_ := zm (Kd.R_below (by (with_reducible repeat (first | apply Kd.R_alloc | apply Kd.R_drewN | apply Kd.R_drew)); exact HO_8.out) hb); have n1_ := zm (Kd.R_below (by (with_reducible repeat (first | apply Kd.R_alloc | apply Kd.R_drewN | apply Kd.R_drew)); exact HO_9.out) hb); have n2_ := zm (Kd.R_below (by (with_reducible repeat (first | apply Kd.R_alloc | apply Kd.R_drewN | apply Kd.R_drew)); exact HO_10.out) hb); have n3_ := zm (blk_below (g := gb173) zk hb); have n4_ := zm (blk_below (g := gb174) zk hb); have n5_ := zm (below_step zb hb); have n6_ := zm (hbox); have n7_ := zm (zs hg zb : w.heap.size ≤ gb180); have n8_ := zm (zs hg zb : w.heap.size ≤ gb180); have n9_ := zm (zl hg zk : gb173 ≠ gb180); have n10_ := zm (zg hg zk : gb180 ≠ gb173); have n11_ := zm (zl hg zk : gb174 ≠ gb180); have n12_ := zm (zg hg zk : gb180 ≠ gb174); clear HO_8; clear HO_9; clear HO_10; clear BK173; clear BK174; clear HB; have HO_8 := n0_; have HO_9 := n1_; have HO_10 := n2_; have BK173 := n3_; have BK174 := n4_; have HB := n5_; have BK180 := n6_; have GW180 := n7_; have GE180 := n8_; have NB173_180 := n9_; have NB180_173 := n10_; have NB174_180 := n11_; have NB180_174 := n12_; clear n0_ n1_ n2_ n3_ n4_ n5_ n6_ n7_ n8_ n9_ n10_ n11_ n12_; clear hb hbox hg; have hnb54 := NB180_173.out; have hnc54 := NB173_180.out; have hnb55 := NB180_174.out; have hnc55 := NB174_180.out; obtain ⟨hcz56_0, hcz56_1, hcz56_2, hfz56_0, hfz56_1, hfz56_2⟩ := zc3 BK180.out; have hnb57 := NB174_173.out; have hnc57 := NB173_174.out; obtain ⟨hcz58_0, hcz58_1, hcz58_2, hfz58_0, hfz58_1, hfz58_2⟩ := zc3 BK174.out; obtain ⟨hcz59_0, hcz59_1, hfz59_0, hfz59_1⟩ := zc2 BK173.out; have p187 : 0 ≤ (((rd_T73 l1 x28_2).f0) : Int) := zd; have q187 : ((rd_T73 l1 x28_2).f0) < (x10_2.length : Int) := zd; obtain ⟨ad187, e187, hx187_0⟩ := Kd.at_int (Kd.R_reads' HO_10.out).2.2 ((rd_T73 l1 x28_2).f0) p187 q187; cases e187; have hn187_0 : ad187.block ≠ gb180 := Kd.own_blk (Kd.R_ne HO_10.out BK180.out (by decide)); have hn187_1 : ad187.block ≠ gb180 := Kd.own_blk (Kd.R_ne HO_10.out BK180.out (by decide)); have hn187_2 : ad187.block ≠ gb180 := Kd.own_blk (Kd.R_ne HO_10.out BK180.out (by decide)); replace hx187_0 := zf (p := ⟨gb180, 0, none⟩) (.int .i64 ((rd_T73 l1 x28_2).f0)) hx187_0; replace hx187_0 := zf (p := ⟨gb180, 1, none⟩) (.int .i64 ((rd_T73 l1 x28_2).f1)) hx187_0; replace hx187_0 := zf (p := ⟨gb180, 2, none⟩) (.int .i64 ((rd_T73 l1 x28_2).f2)) hx187_0; (try have hy187_0 := fun (n_ : Nat) => (show (((((w53.drewN n_).setCell ⟨gb180, 0, none⟩ (.int .i64 ((rd_T73 l1 x28_2).f0))).setCell ⟨gb180, 1, none⟩ (.int .i64 ((rd_T73 l1 x28_2).f1))).setCell ⟨gb180, 2, none⟩ (.int .i64 ((rd_T73 l1 x28_2).f2)))).cell? _ = some _ from hx187_0)); clear hn187_0; clear hn187_1; clear hn187_2; replace p187 := eq_true p187; replace q187 := eq_true q187) | ((with_reducible refine gate_builtin (b := .append) (xs := #[.tmp 78, .tmp 80]) rfl ?_); at_builtin; refine Kd.R_append (Kd.int .i64) (w0 := w) w.heap.size rfl (.tmp 78) (.tmp 80) 22 3 (.int .i64 0) 8 rfl Try.underlying22 info3 rfl (by decide) (by omega) u9 x9_2 x28_2 [.int .i64 x28_2] (fun k_ => some k_ ≠ (.slice (some ad187) x10_2.length co9 : Value).ownBlock) (fun _ => False) rfl (by first | (go_simp; done) | (go_simp; rfl)) ?aP (fun _ hk => hk.elim) ?aF ?aO ?aB ?aS ?aL ?_; (case aP => exact rfl); (case aB => exact zb); (case aF => exact (fun k_ hk => Kd.fresh' (Kd.R_lt (by (with_reducible repeat (first | apply Kd.R_alloc | apply Kd.R_drewN | apply Kd.R_drew)); exact (Kd.R_mono (Kd.R_far (p := ⟨gb180, 2, none⟩) (Kd.R_far (p := ⟨gb180, 1, none⟩) (Kd.R_far (p := ⟨gb180, 0, none⟩) (Kd.R_types HO_10.out BK180.out (by decide)) (fun _ hk => hk.2) (.int .i64 ((rd_T73 l1 x28_2).f0))) (fun _ hk => hk.2) (.int .i64 ((rd_T73 l1 x28_2).f1))) (fun _ hk => hk.2) (.int .i64 ((rd_T73 l1 x28_2).f2))) (fun _ h_ => h_.1)))) k_ hk)); (case aO => exact (by (with_reducible repeat (first | apply Kd.R_alloc | apply Kd.R_drewN | apply Kd.R_drew)); exact Kd.R_mono (Kd.R_far (p := ⟨gb180, 2, none⟩) (Kd.R_far (p := ⟨gb180, 1, none⟩) (Kd.R_far (p := ⟨gb180, 0, none⟩) (Kd.R_types HO_9.out BK180.out (by decide)) (fun _ hk => hk.2) (.int .i64 ((rd_T73 l1 x28_2).f0))) (fun _ hk => hk.2) (.int .i64 ((rd_T73 l1 x28_2).f1))) (fun _ hk => hk.2) (.int .i64 ((rd_T73 l1 x28_2).f2))) (fun _ hk => hk.1))); (case aS => exact (below_size zb)); (case aL => have := LMc52.out; omega); intro v192 w60 ho hb hg hat; rw [← Ny191.out] at ho; have n0_ := zm (Kd.R_over' (by (with_reducible repeat (first | apply Kd.R_alloc | apply Kd.R_drewN | apply Kd.R_drew)); exact (Kd.R_mono (Kd.R_far (p := ⟨gb180, 2, none⟩) (Kd.R_far (p := ⟨gb180, 1, none⟩) (Kd.R_far (p := ⟨gb180, 0, none⟩) (Kd.R_types HO_8.out BK180.out (by decide)) (fun _ hk => hk.2) (.int .i64 ((rd_T73 l1 x28_2).f0))) (fun _ hk => hk.2) (.int .i64 ((rd_T73 l1 x28_2).f1))) (fun _ hk => hk.2) (.int .i64 ((rd_T73 l1 x28_2).f2))) (fun _ h_ => h_.1))) (Kd.R_typed (by (with_reducible repeat (first | apply Kd.R_alloc | apply Kd.R_drewN | apply Kd.R_drew)); exact (Kd.R_mono (Kd.R_far (p := ⟨gb180, 2, none⟩) (Kd.R_far (p := ⟨gb180, 1, none⟩) (Kd.R_far (p := ⟨gb180, 0, none⟩) (Kd.R_types HO_9.out BK180.out (by decide)) (fun _ hk => hk.2) (.int .i64 ((rd_T73 l1 x28_2).f0))) (fun _ hk => hk.2) (.int .i64 ((rd_T73 l1 x28_2).f1))) (fun _ hk => hk.2) (.int .i64 ((rd_T73 l1 x28_2).f2))) (fun _ h_ => h_.1)))) (by decide) hg); have n1_ := zm (Kd.R_after (ok := (fun _ => True)) (by (with_reducible repeat (first | apply Kd.R_alloc | apply Kd.R_drewN | apply Kd.R_drew)); exact Kd.R_mono (Kd.R_far (p := ⟨gb180, 2, none⟩) (Kd.R_far (p := ⟨gb180, 1, none⟩) (Kd.R_far (p := ⟨gb180, 0, none⟩) (Kd.R_types HO_10.out BK180.out (by decide)) (fun _ hk => hk.2) (.int .i64 ((rd_T73 l1 x28_2).f0))) (fun _ hk => hk.2) (.int .i64 ((rd_T73 l1 x28_2).f1))) (fun _ hk => hk.2) (.int .i64 ((rd_T73 l1 x28_2).f2))) (fun _ hk => ⟨trivial, hk.1⟩)) hg hat); have n2_ := zm (blk_grown (g := gb173) (o := .cells #[.slice A0_0 l0_0.length c0_0, .int .i64 a0_1] 32 (0, 0)) zK hg (Kd.R_ne HO_9.out BK173.out (by decide))); have n3_ := zm (blk_grown (g := gb174) (o := .cells #[.int .i64 a2_0, .int .i64 a2_1, .int .i64 a2_2] 36 (0, 0)) zK hg (Kd.R_ne HO_9.out BK174.out (by decide))); have n4_ := zm (blk_grown (g := gb180) (o := .cells #[.int .i64 ((rd_T73 l1 x28_2).f0), .int .i64 ((rd_T73 l1 x28_2).f1), .int .i64 ((rd_T73 l1 x28_2).f2)] 73 (0, 0)) (by (with_reducible repeat (first | refine blk_drewN ?_ _ | refine blk_drew ?_ | refine blk_alloc ?_ _)); refine blk_put (cs := #[.int .i64 ((rd_T73 l1 x28_2).f0), .int .i64 ((rd_T73 l1 x28_2).f1), .int .i64 0]) ?_ 2 _ rfl; (with_reducible repeat (first | refine blk_drewN ?_ _ | refine blk_drew ?_ | refine blk_alloc ?_ _)); refine blk_put (cs := #[.int .i64 ((rd_T73 l1 x28_2).f0), .int .i64 0, .int .i64 0]) ?_ 1 _ rfl; (with_reducible repeat (first | refine blk_drewN ?_ _ | refine blk_drew ?_ | refine blk_alloc ?_ _)); refine blk_put (cs := #[.int .i64 0, .int .i64 0, .int .i64 0]) ?_ 0 _ rfl; (with_reducible repeat (first | refine blk_drewN ?_ _ | refine blk_drew ?_ | refine blk_alloc ?_ _)); exact BK180.out) hg (Kd.R_ne HO_9.out BK180.out (by decide))); have n5_ := zm (hb); have n6_ := zm (ho); clear HO_8; clear HO_10; clear BK173; clear BK174; clear BK180; clear HB; clear HO_9; have HO_8 := n0_; have HO_10 := n1_; have BK173 := n2_; have BK174 := n3_; have BK180 := n4_; have HB := n5_; have HO193 := n6_; clear n0_ n1_ n2_ n3_ n4_ n5_ n6_; clear ho hb hg hat) | ((with_reducible refine spec_pyAll.gq ?_); go_quiet (fail)))
                 (try simp only [← hl10_2])
                 go_roundg k2
                 case measure => have := HK1.out; have := HK2.out; omega
                 case rel => exact ⟨(x8_2), (y191), (x10_2), (wrap64 (x28_2 + 1)), (by first | rfl | (simp; done) | (simp [*]; done)), H', ⟨by have := HK1.out; have := HK2.out; omega⟩, ⟨by (try simp only [hl10_1]); (try simp only [hl10_2]); (with_reducible repeat (first | apply Kd.R_alloc | apply Kd.R_drewN | apply Kd.R_drew)); exact HO_8.out⟩, ⟨by (try simp only [hl10_1]); (try simp only [hl10_2]); (with_reducible repeat (first | apply Kd.R_alloc | apply Kd.R_drewN | apply Kd.R_drew)); exact HO193.out⟩, ⟨by (try simp only [hl10_1]); (try simp only [hl10_2]); (with_reducible repeat (first | apply Kd.R_alloc | apply Kd.R_drewN | apply Kd.R_drew)); exact zM HO_10.out⟩, ⟨by (try simp only [hl10_1]); (try simp only [hl10_2]); (with_reducible repeat (first | refine blk_drewN ?_ _ | refine blk_drew ?_ | refine blk_alloc ?_ _)); exact BK173.out⟩, ⟨by (try simp only [hl10_1]); (try simp only [hl10_2]); (with_reducible repeat (first | refine blk_drewN ?_ _ | refine blk_drew ?_ | refine blk_alloc ?_ _)); exact BK174.out⟩, ⟨zb⟩⟩
                ·
                 rw [if_neg c52] at H
                 exact absurd H (by simp)
               ·
                rw [if_neg c51] at H
                have c51b0 : decide ((wrap64 (((rd_T73 l1 x28_2).f2) + a2_1)) ≤ (wrap64 (((rd_T73 l1 x28_2).f1) + a2_0))) = false := decide_eq_false c51
                clear c51
                obtain ⟨y194, hy194⟩ : ∃ y_ : List Int, y_ = (x10_2.set (((rd_T73 l1 x28_2).f0) : Int).toNat ((rd_T73 l1 x28_2).f1)) := ⟨_, rfl⟩
                replace H : (if ((rd_T73 l1 x28_2).f0) < (l0_0.length : Int) then (if x8_2.length < 5864062014805 then (spec_pyAll.l1 k2 (x8_2 ++ [(⟨rd l0_0 ((rd_T73 l1 x28_2).f0), wrap64 (((rd_T73 l1 x28_2).f1) + a2_0), wrap64 (((rd_T73 l1 x28_2).f2) + a2_1)⟩ : S79)]) x9_2 y194 l1 (l1.length : Int) (wrap64 (x28_2 + 1)) l0_0 a0_1 a2_0 a2_1 a2_2) else (none)) else (none)) = some (r1, r2) := by first | (rw [hy194]; with_reducible exact H) | (have H2_ := (Option.bind_some _ _).symm.trans H; rw [hy194]; with_reducible exact H2_) | (have H2_ := (Option.bind_some _ _).symm.trans H; with_reducible exact H2_) | with_reducible exact H | (rw [hy194]; exact H) | exact H
                have Ny194 := zm hy194
                clear hy194
                by_cases c62 : ((rd_T73 l1 x28_2).f0) < (l0_0.length : Int)
                ·
                 rw [if_pos c62] at H
                 have c62b0 : decide (((rd_T73 l1 x28_2).f0) < (l0_0.length : Int)) = true := decide_eq_true c62
                 clear c62
                 by_cases c63 : x8_2.length < 5864062014805
                 ·
                  rw [if_pos c63] at H
                  have LMc63 := zm c63
                  clear c63
                  obtain ⟨y196, hy196⟩ : ∃ y_ : List (S79), y_ = (x8_2 ++ [(⟨rd l0_0 ((rd_T73 l1 x28_2).f0), wrap64 (((rd_T73 l1 x28_2).f1) + a2_0), wrap64 (((rd_T73 l1 x28_2).f2) + a2_1)⟩ : S79)]) := ⟨_, rfl⟩
                  replace H : (spec_pyAll.l1 k2 y196 x9_2 y194 l1 (l1.length : Int) (wrap64 (x28_2 + 1)) l0_0 a0_1 a2_0 a2_1 a2_2) = some (r1, r2) := by first | (rw [hy196]; with_reducible exact H) | (have H2_ := (Option.bind_some _ _).symm.trans H; rw [hy196]; with_reducible exact H2_) | (have H2_ := (Option.bind_some _ _).symm.trans H; with_reducible exact H2_) | with_reducible exact H | (rw [hy196]; exact H) | exact H
                  have Ny196 := zm hy196
                  clear hy196
                  have H' := zm H
                  clear H
                  have p179 : 0 ≤ (x28_2 : Int) := zd
                  have q179 : x28_2 < (l1.length : Int) := zd
                  obtain ⟨ad179, e179, hx179_0, hx179_1, hx179_2⟩ := at_T73 HR1.out x28_2 p179 q179
                  cases e179
                  replace hx179_0 := zx HB.out hx179_0
                  replace hx179_1 := zx HB.out hx179_1
                  replace hx179_2 := zx HB.out hx179_2
                  replace p179 := eq_true p179
                  replace q179 := eq_true q179
                  go_wp2_with (first | ((with_reducible refine gate_dst (N := 13) rfl ?_); refine box_event ?hg (N := 13) ?hd (cs := #[.int .i64 0, .int .i64 0, .int .i64 0]) (t := 73) ?hr ?_; (case hd => rfl); (case hg => rfl); (case hr => first | (go_simp; done) | (go_simp; rfl)); intro gb180 hg w64 hbox hb; have n0_ := zm (Kd.R_below (by (with_reducible repeat (first | apply Kd.R_alloc | apply Kd.R_drewN | apply Kd.R_drew)); exact HO_8.out) hb); have n1_ := zm (Kd.R_below (by (with_reducible repeat (first | apply Kd.R_alloc | apply Kd.R_drewN | apply Kd.R_drew)); exact HO_9.out) hb); have n2_ := zm (Kd.R_below (by (with_reducible repeat (first | apply Kd.R_alloc | apply Kd.R_drewN | apply Kd.R_drew)); exact HO_10.out) hb); have n3_ := zm (blk_below (g := gb173) zk hb); have n4_ := zm (blk_below (g := gb174) zk hb); have n5_ := zm (below_step zb hb); have n6_ := zm (hbox); have n7_ := zm (zs hg zb : w.heap.size ≤ gb180); have n8_ := zm (zs hg zb : w.heap.size ≤ gb180); have n9_ := zm (zl hg zk : gb173 ≠ gb180); have n10_ := zm (zg hg zk : gb180 ≠ gb173); have n11_ := zm (zl hg zk : gb174 ≠ gb180); have n12_ := zm (zg hg zk : gb180 ≠ gb174); clear HO_8; clear HO_9; clear HO_10; clear BK173; clear BK174; clear HB; have HO_8 := n0_; have HO_9 := n1_; have HO_10 := n2_; have BK173 := n3_; have BK174 := n4_; have HB := n5_; have BK180 := n6_; have GW180 := n7_; have GE180 := n8_; have NB173_180 := n9_; have NB180_173 := n10_; have NB174_180 := n11_; have NB180_174 := n12_; clear n0_ n1_ n2_ n3_ n4_ n5_ n6_ n7_ n8_ n9_ n10_ n11_ n12_; clear hb hbox hg; have hnb65 := NB180_173.out; have hnc65 := NB173_180.out; have hnb66 := NB180_174.out; have hnc66 := NB174_180.out; obtain ⟨hcz67_0, hcz67_1, hcz67_2, hfz67_0, hfz67_1, hfz67_2⟩ := zc3 BK180.out) | ((with_reducible refine gate_store (t := 73) (p := 13) rfl ?_); (try (rw [drewN_self w64]; generalize hq_ : World.drewN w64 _ = w64; have n0_ := zm (Kd.R_at hq_ HO_8.out); have n1_ := zm (Kd.R_at hq_ HO_9.out); have n2_ := zm (Kd.R_at hq_ HO_10.out); have n3_ := zm (blk_at hq_ BK173.out); have n4_ := zm (blk_at hq_ BK174.out); have n5_ := zm (blk_at hq_ BK180.out); have n6_ := zm (below_at hq_ HB.out); clear hq_ HO_8 HO_9 HO_10 BK173 BK174 BK180 HB; have HO_8 := n0_; have HO_9 := n1_; have HO_10 := n2_; have BK173 := n3_; have BK174 := n4_; have BK180 := n5_; have HB := n6_; clear n0_ n1_ n2_ n3_ n4_ n5_ n6_)); refine store_event (t := 73) (p := 13) (v := ?vo_w68) (w1 := (((w64.setCell ⟨gb180, 0, none⟩ (.int .i64 ((rd_T73 l1 x28_2).f0))).setCell ⟨gb180, 1, none⟩ (.int .i64 ((rd_T73 l1 x28_2).f1))).setCell ⟨gb180, 2, none⟩ (.int .i64 ((rd_T73 l1 x28_2).f2)))) ?hg ?ho ?hn ?hr ?_; (case ho => rfl); (case hg => rfl); (case hn => rfl); (case hr => first | (go_simp; done) | (go_simp; rfl)); intro w68 hw; have n0_ : Aside0 (Kd.R k79 79 w68 w.heap.size (fun _ => True) u8 x8_2) := ⟨(by rw [hw]; exact (by (with_reducible repeat (first | apply Kd.R_alloc | apply Kd.R_drewN | apply Kd.R_drew)); exact Kd.R_mono (Kd.R_far (p := ⟨gb180, 2, none⟩) (Kd.R_far (p := ⟨gb180, 1, none⟩) (Kd.R_far (p := ⟨gb180, 0, none⟩) (Kd.R_types HO_8.out BK180.out (by decide)) (fun _ hk => hk.2) (.int .i64 ((rd_T73 l1 x28_2).f0))) (fun _ hk => hk.2) (.int .i64 ((rd_T73 l1 x28_2).f1))) (fun _ hk => hk.2) (.int .i64 ((rd_T73 l1 x28_2).f2))) (fun _ hk => trivial)))⟩; have n1_ : Aside0 (Kd.R (Kd.int .i64) 3 w68 w.heap.size (fun k_ => some k_ ≠ (.slice Ao9 x10_2.length co9 : Value).ownBlock) u9 x9_2) := ⟨(by rw [hw]; exact (by (with_reducible repeat (first | apply Kd.R_alloc | apply Kd.R_drewN | apply Kd.R_drew)); exact Kd.R_mono (Kd.R_far (p := ⟨gb180, 2, none⟩) (Kd.R_far (p := ⟨gb180, 1, none⟩) (Kd.R_far (p := ⟨gb180, 0, none⟩) (Kd.R_types HO_9.out BK180.out (by decide)) (fun _ hk => hk.2) (.int .i64 ((rd_T73 l1 x28_2).f0))) (fun _ hk => hk.2) (.int .i64 ((rd_T73 l1 x28_2).f1))) (fun _ hk => hk.2) (.int .i64 ((rd_T73 l1 x28_2).f2))) (fun _ hk => hk.1)))⟩; have n2_ : Aside0 (Kd.R (Kd.int .i64) 3 w68 w.heap.size (fun k_ => some k_ ≠ (u9 : Value).ownBlock) (.slice Ao9 x10_2.length co9) x10_2) := ⟨(by rw [hw]; exact (by (with_reducible repeat (first | apply Kd.R_alloc | apply Kd.R_drewN | apply Kd.R_drew)); exact Kd.R_mono (Kd.R_far (p := ⟨gb180, 2, none⟩) (Kd.R_far (p := ⟨gb180, 1, none⟩) (Kd.R_far (p := ⟨gb180, 0, none⟩) (Kd.R_types HO_10.out BK180.out (by decide)) (fun _ hk => hk.2) (.int .i64 ((rd_T73 l1 x28_2).f0))) (fun _ hk => hk.2) (.int .i64 ((rd_T73 l1 x28_2).f1))) (fun _ hk => hk.2) (.int .i64 ((rd_T73 l1 x28_2).f2))) (fun _ hk => hk.1)))⟩; have n3_ : Aside0 (w68.heap[gb173]? = some (.cells #[.slice A0_0 l0_0.length c0_0, .int .i64 a0_1] 32 (0, 0))) := ⟨(by rw [hw]; exact zK)⟩; have n4_ : Aside0 (w68.heap[gb174]? = some (.cells #[.int .i64 a2_0, .int .i64 a2_1, .int .i64 a2_2] 36 (0, 0))) := ⟨(by rw [hw]; exact zK)⟩; have n5_ : Aside0 (w68.heap[gb180]? = some (.cells #[.int .i64 ((rd_T73 l1 x28_2).f0), .int .i64 ((rd_T73 l1 x28_2).f1), .int .i64 ((rd_T73 l1 x28_2).f2)] 73 (0, 0))) := ⟨(by rw [hw]; exact (by (with_reducible repeat (first | refine blk_drewN ?_ _ | refine blk_drew ?_ | refine blk_alloc ?_ _)); refine blk_put (cs := #[.int .i64 ((rd_T73 l1 x28_2).f0), .int .i64 ((rd_T73 l1 x28_2).f1), .int .i64 0]) ?_ 2 _ rfl; (with_reducible repeat (first | refine blk_drewN ?_ _ | refine blk_drew ?_ | refine blk_alloc ?_ _)); refine blk_put (cs := #[.int .i64 ((rd_T73 l1 x28_2).f0), .int .i64 0, .int .i64 0]) ?_ 1 _ rfl; (with_reducible repeat (first | refine blk_drewN ?_ _ | refine blk_drew ?_ | refine blk_alloc ?_ _)); refine blk_put (cs := #[.int .i64 0, .int .i64 0, .int .i64 0]) ?_ 0 _ rfl; (with_reducible repeat (first | refine blk_drewN ?_ _ | refine blk_drew ?_ | refine blk_alloc ?_ _)); exact BK180.out))⟩; have n6_ : Aside0 (Below w.heap.size w w68) := ⟨(by rw [hw]; exact zb)⟩; clear hw; clear HO_8; clear HO_9; clear HO_10; clear BK173; clear BK174; clear BK180; clear HB; have HO_8 := n0_; have HO_9 := n1_; have HO_10 := n2_; have BK173 := n3_; have BK174 := n4_; have BK180 := n5_; have HB := n6_; clear n0_ n1_ n2_ n3_ n4_ n5_ n6_; obtain ⟨hcz69_0, hcz69_1, hcz69_2, hfz69_0, hfz69_1, hfz69_2⟩ := zc3 BK180.out; have hnb70 := NB174_173.out; have hnc70 := NB173_174.out; obtain ⟨hcz71_0, hcz71_1, hcz71_2, hfz71_0, hfz71_1, hfz71_2⟩ := zc3 BK174.out; obtain ⟨hcz72_0, hcz72_1, hfz72_0, hfz72_1⟩ := zc2 BK173.out; have p187 : 0 ≤ (((rd_T73 l1 x28_2).f0) : Int) := zd; have q187 : ((rd_T73 l1 x28_2).f0) < (x10_2.length : Int) := zd; obtain ⟨ad187, e187, hx187_0⟩ := Kd.at_int (Kd.R_reads' HO_10.out).2.2 ((rd_T73 l1 x28_2).f0) p187 q187; cases e187; replace p187 := eq_true p187; replace q187 := eq_true q187; have p61 : 0 ≤ (((rd_T73 l1 x28_2).f0) : Int) := zd; have q61 : (((rd_T73 l1 x28_2).f0) : Int) < ((x10_2.length : Int) : Int) := zd; obtain ⟨go61, co61, eo61, gb61, gl61, cl61, HG61⟩ := Kd.R_form HO_10.out (by omega); (first | cases eo61 | (injection eo61 with ea_ en_ ec_; (first | subst ea_ | (injection ea_ with ea_; subst ea_)); subst ec_; clear en_)); have GB61 := zm gb61; have GG61 := zm HG61; clear gb61 gl61 HG61; (first | simp only [add_plain] at hx187_0 | skip); obtain ⟨hx61_0, hf61_0⟩ := Kd.R_celln 0 HO_10.out (((rd_T73 l1 x28_2).f0) : Int) p61 q61; replace p61 := eq_true p61; replace q61 := eq_true q61; obtain ⟨hy73_, hz73_⟩ := Kd.R_celln 0 HO_10.out (((rd_T73 l1 x28_2).f0) : Int) (of_decide_eq_true (by first | (with_reducible assumption) | assumption)) (of_decide_eq_true (by first | (with_reducible assumption) | assumption)); have HP73 := Kd.R_putg HO_10.out (((rd_T73 l1 x28_2).f0) : Int) ((rd_T73 l1 x28_2).f1)) | ((with_reducible refine gate_store (t := 3) (p := 87) rfl ?_); (try (rw [drewN_self w68]; generalize hq_ : World.drewN w68 _ = w68; have n0_ := zm (Kd.R_at hq_ HO_8.out); have n1_ := zm (Kd.R_at hq_ HO_9.out); have n2_ := zm (Kd.R_at hq_ HO_10.out); have n3_ := zm (blk_at hq_ BK173.out); have n4_ := zm (blk_at hq_ BK174.out); have n5_ := zm (blk_at hq_ BK180.out); have n6_ := zm (below_at hq_ HB.out); clear hq_ HO_8 HO_9 HO_10 BK173 BK174 BK180 HB; have HO_8 := n0_; have HO_9 := n1_; have HO_10 := n2_; have BK173 := n3_; have BK174 := n4_; have BK180 := n5_; have HB := n6_; clear n0_ n1_ n2_ n3_ n4_ n5_ n6_; (try (obtain ⟨hy73_, hz73_⟩ := Kd.R_celln 0 HO_10.out (((rd_T73 l1 x28_2).f0) : Int) (of_decide_eq_true (by first | (with_reducible assumption) | assumption)) (of_decide_eq_true (by first | (with_reducible assumption) | assumption)))); (try (have HP73 := Kd.R_putg HO_10.out (((rd_T73 l1 x28_2).f0) : Int) ((rd_T73 l1 x28_2).f1))))); refine store_event (t := 3) (p := 87) (v := ?vo_w74) (w1 := (w68.setCell ⟨go61, (((rd_T73 l1 x28_2).f0) : Int).toNat, none⟩ (.int .i64 ((rd_T73 l1 x28_2).f1)))) ?hg ?ho ?hn ?hr ?_; (case ho => rfl); (case hg => rfl); (case hn => rfl); (case hr => first | (go_simp; done) | (go_simp; rfl)); intro w74 hw; have hg : w68.grownBy w74 (some go61) := (by rw [hw]; exact HP73.2); have hp_ : Kd.R (Kd.int .i64) 3 w74 w.heap.size (fun k_ => some k_ ≠ (u9 : Value).ownBlock) (.slice (some ⟨go61, 0, none⟩) x10_2.length co9) y194 := (by rw [hw, Ny194.out]; exact HP73.1); clear HP73; have n0_ := zm (Kd.R_over' (v := (.slice (some ⟨go61, 0, none⟩) x10_2.length co9)) (by (with_reducible repeat (first | apply Kd.R_alloc | apply Kd.R_drewN | apply Kd.R_drew)); exact HO_8.out) (Kd.R_typed HO_10.out) (by decide) hg); have n1_ := zm (Kd.R_after (v := (.slice (some ⟨go61, 0, none⟩) x10_2.length co9)) (v1 := (.slice (some ⟨go61, 0, none⟩) x10_2.length co9)) (ok := (fun _ => True)) (by (with_reducible repeat (first | apply Kd.R_alloc | apply Kd.R_drewN | apply Kd.R_drew)); exact Kd.R_mono HO_9.out (fun _ hk => ⟨trivial, hk⟩)) hg (.inl rfl)); have n2_ := zm (hp_); have n3_ := zm (blk_grown (g := gb173) (o := .cells #[.slice A0_0 l0_0.length c0_0, .int .i64 a0_1] 32 (0, 0)) zk hg (Kd.R_ne HO_10.out BK173.out (by decide))); have n4_ := zm (blk_grown (g := gb174) (o := .cells #[.int .i64 a2_0, .int .i64 a2_1, .int .i64 a2_2] 36 (0, 0)) zk hg (Kd.R_ne HO_10.out BK174.out (by decide))); have n5_ := zm (blk_grown (g := gb180) (o := .cells #[.int .i64 ((rd_T73 l1 x28_2).f0), .int .i64 ((rd_T73 l1 x28_2).f1), .int .i64 ((rd_T73 l1 x28_2).f2)] 73 (0, 0)) zk hg (Kd.R_ne HO_10.out BK180.out (by decide))); have n6_ := zm ((by rw [hw]; exact below_set (HB.out) GB61.out : Below w.heap.size w w74)); clear HO_8; clear HO_9; clear HO_10; clear BK173; clear BK174; clear BK180; clear HB; have HO_8 := n0_; have HO_9 := n1_; have HO_10 := n2_; have BK173 := n3_; have BK174 := n4_; have BK180 := n5_; have HB := n6_; clear n0_ n1_ n2_ n3_ n4_ n5_ n6_; clear hg hw hp_; obtain ⟨hcz75_0, hcz75_1, hfz75_0, hfz75_1⟩ := zc2 BK173.out; obtain ⟨hcz76_0, hcz76_1, hcz76_2, hfz76_0, hfz76_1, hfz76_2⟩ := zc3 BK180.out; have p195 : 0 ≤ (((rd_T73 l1 x28_2).f0) : Int) := zd; have q195 : ((rd_T73 l1 x28_2).f0) < (l0_0.length : Int) := zd; obtain ⟨ad195, e195, hx195_0⟩ := Kd.at_int HR0_0.out ((rd_T73 l1 x28_2).f0) p195 q195; cases e195; replace hx195_0 := zx HB.out hx195_0; replace p195 := eq_true p195; replace q195 := eq_true q195) | ((with_reducible refine gate_builtin (b := .append) (xs := #[.tmp 88, .tmp 98]) rfl ?_); at_builtin; refine Kd.R_append k79 (w0 := w) w.heap.size rfl (.tmp 88) (.tmp 98) 47 79 (.agg #[(.int .i64 0), (.int .i64 0), (.int .i64 0)]) 24 rfl Try.underlying47 info79 rfl (by decide) (by omega) u8 x8_2 (⟨rd l0_0 ((rd_T73 l1 x28_2).f0), wrap64 (((rd_T73 l1 x28_2).f1) + a2_0), wrap64 (((rd_T73 l1 x28_2).f2) + a2_1)⟩ : S79) [.int .i64 (rd l0_0 ((rd_T73 l1 x28_2).f0)), .int .i64 (wrap64 (((rd_T73 l1 x28_2).f1) + a2_0)), .int .i64 (wrap64 (((rd_T73 l1 x28_2).f2) + a2_1))] (fun _ => True) (fun _ => False) rfl rfl ?aP (fun _ hk => hk.elim) ?aF ?aO ?aB ?aS ?aL ?_; (case aP => exact k79_mkM _ _ _ (⟨rd l0_0 ((rd_T73 l1 x28_2).f0), wrap64 (((rd_T73 l1 x28_2).f1) + a2_0), wrap64 (((rd_T73 l1 x28_2).f2) + a2_1)⟩ : S79)); (case aB => exact zb); (case aF => exact (fun _ _ => trivial)); (case aO => exact (by (with_reducible repeat (first | apply Kd.R_alloc | apply Kd.R_drewN | apply Kd.R_drew)); exact HO_8.out)); (case aS => exact (below_size zb)); (case aL => have := LMc63.out; omega); intro v197 w77 ho hb hg hat; rw [← Ny196.out] at ho; have n0_ := zm (Kd.R_over' (by (with_reducible repeat (first | apply Kd.R_alloc | apply Kd.R_drewN | apply Kd.R_drew)); exact HO_9.out) (Kd.R_typed (by (with_reducible repeat (first | apply Kd.R_alloc | apply Kd.R_drewN | apply Kd.R_drew)); exact HO_8.out)) (by decide) hg); have n1_ := zm (Kd.R_over' (by (with_reducible repeat (first | apply Kd.R_alloc | apply Kd.R_drewN | apply Kd.R_drew)); exact HO_10.out) (Kd.R_typed (by (with_reducible repeat (first | apply Kd.R_alloc | apply Kd.R_drewN | apply Kd.R_drew)); exact HO_8.out)) (by decide) hg); have n2_ := zm (blk_grown (g := gb173) (o := .cells #[.slice (some ad195) l0_0.length c0_0, .int .i64 a0_1] 32 (0, 0)) zk hg (Kd.R_ne HO_8.out BK173.out (by decide))); have n3_ := zm (blk_grown (g := gb174) (o := .cells #[.int .i64 a2_0, .int .i64 a2_1, .int .i64 a2_2] 36 (0, 0)) zk hg (Kd.R_ne HO_8.out BK174.out (by decide))); have n4_ := zm (blk_grown (g := gb180) (o := .cells #[.int .i64 ((rd_T73 l1 x28_2).f0), .int .i64 ((rd_T73 l1 x28_2).f1), .int .i64 ((rd_T73 l1 x28_2).f2)] 73 (0, 0)) zk hg (Kd.R_ne HO_8.out BK180.out (by decide))); have n5_ := zm (hb); have n6_ := zm (ho); clear HO_9; clear HO_10; clear BK173; clear BK174; clear BK180; clear HB; clear HO_8; have HO_9 := n0_; have HO_10 := n1_; have BK173 := n2_; have BK174 := n3_; have BK180 := n4_; have HB := n5_; have HO198 := n6_; clear n0_ n1_ n2_ n3_ n4_ n5_ n6_; clear ho hb hg hat) | ((with_reducible refine spec_pyAll.gq ?_); go_quiet (fail)))
                  (try simp only [← hl10_2])
                  go_roundg k2
                  case measure => have := HK1.out; have := HK2.out; omega
                  case rel => exact ⟨(y196), (x9_2), (y194), (wrap64 (x28_2 + 1)), (by first | rfl | (simp; done) | (simp [*]; done)), H', ⟨by have := HK1.out; have := HK2.out; omega⟩, ⟨by (try simp only [hl10_1]); (try simp only [hl10_2]); (with_reducible repeat (first | apply Kd.R_alloc | apply Kd.R_drewN | apply Kd.R_drew)); exact HO198.out⟩, ⟨by (try simp only [hl10_1]); (try simp only [hl10_2]); (with_reducible repeat (first | apply Kd.R_alloc | apply Kd.R_drewN | apply Kd.R_drew)); exact zM HO_9.out⟩, ⟨by (try simp only [hl10_1]); (try simp only [hl10_2]); (with_reducible repeat (first | apply Kd.R_alloc | apply Kd.R_drewN | apply Kd.R_drew)); exact HO_10.out⟩, ⟨by (try simp only [hl10_1]); (try simp only [hl10_2]); (with_reducible repeat (first | refine blk_drewN ?_ _ | refine blk_drew ?_ | refine blk_alloc ?_ _)); exact BK173.out⟩, ⟨by (try simp only [hl10_1]); (try simp only [hl10_2]); (with_reducible repeat (first | refine blk_drewN ?_ _ | refine blk_drew ?_ | refine blk_alloc ?_ _)); exact BK174.out⟩, ⟨zb⟩⟩
                 ·
                  rw [if_neg c63] at H
                  exact absurd H (by simp)
                ·
                 rw [if_neg c62] at H
                 exact absurd H (by simp)
             ·
              rw [if_neg c40] at H
              exact absurd H (by simp)
            ·
             rw [if_neg c39] at H
             exact absurd H (by simp)
         ·
          rw [if_neg c18] at H
          exact absurd H (by simp)
        ·
         rw [if_neg c17] at H
         exact absurd H (by simp)
       ·
        rw [if_neg c16] at H
        have c16b0 : decide (x28_2 < (l1.length : Int)) = false := decide_eq_false c16
        (try (have c16z0 := c16b0; simp only [hl10_1] at c16z0))
        (try (have c16z0 := c16b0; simp only [hl10_2] at c16z0))
        clear c16
        simp only [Option.some.injEq, Prod.mk.injEq] at H
        obtain ⟨rfl, rfl⟩ := H
        go_wp2
        repeat (go_quiet (fail); try go_wp2)
        go_ret2
        exact ⟨_, _, zr, by (with_reducible repeat (first | apply Kd.R_alloc | apply Kd.R_drewN | apply Kd.R_drew)); exact HO_8.out, by (with_reducible repeat (first | apply Kd.R_alloc | apply Kd.R_drewN | apply Kd.R_drew)); exact Kd.R_mono HO_9.out (fun _ hk => trivial), zb⟩
 ·
  rw [if_neg c4] at H
  exact absurd H (by simp)

/-! ### spec_SilentHoles: function 20 -/
def spec_SilentHoles.f (k : Nat) (l0_0 : List Int) (a0_1 : Int) (l1 : List (S73)) (a2_0 : Int) (a2_1 : Int) (a2_2 : Int) : Option (List Int × Bool) := (spec_pyAsked.f k l0_0 a0_1 l1 a2_0 a2_1 a2_2).bind fun t201 => (if t201 = true then ((spec_pyAll.f k l0_0 a0_1 l1 a2_0 a2_1 a2_2).bind fun bt202 => (some (bt202.2, true))) else (some (([] : List Int), false)))
theorem spec_SilentHoles.mono : ∀ a0 a1 a2 a3 a4 a5 k, LeO (spec_SilentHoles.f k a0 a1 a2 a3 a4 a5) (spec_SilentHoles.f (k + 1) a0 a1 a2 a3 a4 a5) := by
  intro a0 a1 a2 a3 a4 a5 k
  unfold spec_SilentHoles.f
  repeat' first
      | (with_reducible exact spec_pyAll.mono _ _ _ _ _ _ _)
      | (with_reducible exact spec_pyAsked.mono _ _ _ _ _ _ _)
      | (with_reducible exact LeO.refl _)
      | (with_reducible exact LeO.none _)
      | (with_reducible refine LeO.ite ?_ ?_)
      | (with_reducible refine LeO.bind ?_ (fun _ => ?_))
      | exact spec_pyAll.mono _ _ _ _ _ _ _
      | exact spec_pyAsked.mono _ _ _ _ _ _ _
      | exact LeO.none _
      | refine LeO.ite ?_ ?_
      | refine LeO.bind ?_ (fun _ => ?_)
set_option maxHeartbeats 8000000 in
set_option maxRecDepth 100000 in
theorem spec_SilentHoles.calls (k : Nat) (A0_0 : Option Addr) (c0_0 : Nat) (l0_0 : List Int) (a0_1 : Int) (A1 : Option Addr) (c1 : Nat) (l1 : List (S73)) (a2_0 : Int) (a2_1 : Int) (a2_2 : Int) (r1 : List Int) (r2 : Bool) (w : World) (hr0_0 : Kd.C (Kd.int .i64) w A0_0 l0_0.length l0_0) (hc0_0 : l0_0.length ≤ c0_0) (hr1 : Kd.C k73 w A1 l1.length l1) (hc1 : l1.length ≤ c1) (h : spec_SilentHoles.f k l0_0 a0_1 l1 a2_0 a2_1 a2_2 = some (r1, r2)) :
  Calls Try.prog 20 #[.agg #[.slice A0_0 l0_0.length c0_0, .int .i64 a0_1], .slice A1 l1.length c1, .agg #[.int .i64 a2_0, .int .i64 a2_1, .int .i64 a2_2]] w fun e w' => ∃ v0_ : Value, e = .returned (.tuple #[v0_, .bool r2]) ∧ Kd.R (Kd.int .i64) 3 w' w.heap.size (fun _ => True) v0_ r1 ∧ Below w.heap.size w w' := by
 have hu32 := Try.underlying32
 have hu36 := Try.underlying36
 have HR0_0 := zm hr0_0
 have HC0_0 := zm hc0_0
 clear hr0_0 hc0_0
 have HR1 := zm hr1
 have HC1 := zm hc1
 clear hr1 hc1
 have HB := zm (Below.refl w.heap.size w)
 have H : ((spec_pyAsked.f k l0_0 a0_1 l1 a2_0 a2_1 a2_2).bind fun t201 => (if t201 = true then ((spec_pyAll.f k l0_0 a0_1 l1 a2_0 a2_1 a2_2).bind fun bt202 => (some (bt202.2, true))) else (some (([] : List Int), false)))) = some (r1, r2) := h
 clear h
 replace H := Option.bind_eq_some_iff.mp H
 obtain ⟨t201, A40, H⟩ := H
 replace H : (if t201 = true then ((spec_pyAll.f k l0_0 a0_1 l1 a2_0 a2_1 a2_2).bind fun bt202 => (some (bt202.2, true))) else (some (([] : List Int), false))) = some (r1, r2) := H
 have A4 := zm A40
 clear A40
 by_cases c5 : t201 = true
 ·
  subst c5
  have H1 : ((spec_pyAll.f k l0_0 a0_1 l1 a2_0 a2_1 a2_2).bind fun bt202 => (some (bt202.2, true))) = some (r1, r2) := by rw [if_pos rfl] at H; exact H
  clear H
  have H := H1
  clear H1
  replace H := Option.bind_eq_some_iff.mp H
  obtain ⟨⟨t202, t205⟩, A60, H⟩ := H
  replace H : (some (t205, true)) = some (r1, r2) := H
  have A6 := zm A60
  clear A60
  simp only [Option.some.injEq, Prod.mk.injEq] at H
  obtain ⟨rfl, rfl⟩ := H
  go_enter Try.func20, Try.ntmps20
  go_wp2_with (first | ((with_reducible refine gate_dst (N := 3) rfl ?_); refine box_event ?hg (N := 3) ?hd (cs := #[.slice A0_0 l0_0.length c0_0, .int .i64 a0_1]) (t := 32) ?hr ?_; (case hd => rfl); (case hg => rfl); (case hr => first | (go_simp; done) | (go_simp; rfl)); intro gb199 hg w7 hbox hb; have n0_ := zm (below_step zb hb); have n1_ := zm (hbox); have n2_ := zm (zs hg zb : w.heap.size ≤ gb199); have n3_ := zm (zs hg zb : w.heap.size ≤ gb199); clear HB; have HB := n0_; have BK199 := n1_; have GW199 := n2_; have GE199 := n3_; clear n0_ n1_ n2_ n3_; clear hb hbox hg) | ((with_reducible refine gate_dst (N := 5) rfl ?_); refine box_event ?hg (N := 5) ?hd (cs := #[.int .i64 a2_0, .int .i64 a2_1, .int .i64 a2_2]) (t := 36) ?hr ?_; (case hd => rfl); (case hg => rfl); (case hr => first | (go_simp; done) | (go_simp; rfl)); intro gb200 hg w8 hbox hb; have n0_ := zm (blk_below (g := gb199) zk hb); have n1_ := zm (below_step zb hb); have n2_ := zm (hbox); have n3_ := zm (zs hg zb : w.heap.size ≤ gb200); have n4_ := zm (zs hg zb : w.heap.size ≤ gb200); have n5_ := zm (zl hg zk : gb199 ≠ gb200); have n6_ := zm (zg hg zk : gb200 ≠ gb199); clear BK199; clear HB; have BK199 := n0_; have HB := n1_; have BK200 := n2_; have GW200 := n3_; have GE200 := n4_; have NB199_200 := n5_; have NB200_199 := n6_; clear n0_ n1_ n2_ n3_ n4_ n5_ n6_; clear hb hbox hg; have hnb9 := NB199_200.out; have hnc9 := NB200_199.out; obtain ⟨hcz10_0, hcz10_1, hfz10_0, hfz10_1⟩ := zc2 BK199.out; obtain ⟨hcz11_0, hcz11_1, hcz11_2, hfz11_0, hfz11_1, hfz11_2⟩ := zc3 BK200.out) | ((with_reducible refine gate_callee (f := 49) rfl ?_); refine goesL_ (some 13) rfl rfl Try.func49 (by kernel_rfl) rfl #[.agg #[.slice A0_0 l0_0.length c0_0, .int .i64 a0_1], .slice A1 l1.length c1, .agg #[.int .i64 a2_0, .int .i64 a2_1, .int .i64 a2_2]] rfl (by (try simp only [List.map_toArray, List.map_cons, List.map_nil]); first | done | rfl | (simp only [List.length_drop, List.length_take]; rfl)) ?_; (with_reducible refine (spec_pyAsked.calls k _ _ l0_0 a0_1 _ _ l1 a2_0 a2_1 a2_2 true _ ?side1 ?side2 ?side3 ?side4 A4.out).mono ?_); (case side1 => repeat (first | exact (Kd.C_below HR0_0.out HB.out) | (with_reducible refine Kd.C_alloc ?_ _) | (with_reducible refine Kd.C_drewN ?_ _) | (with_reducible refine Kd.C_drew ?_))); (case side2 => exact HC0_0.out); (case side3 => repeat (first | exact (Kd.C_below HR1.out HB.out) | (with_reducible refine Kd.C_alloc ?_ _) | (with_reducible refine Kd.C_drewN ?_ _) | (with_reducible refine Kd.C_drew ?_))); (case side4 => exact HC1.out); rintro e w12 ⟨rfl, hb⟩; refine ⟨_, rfl, ?_⟩; have n0_ := zm (blk_below (g := gb199) zk hb); have n1_ := zm (blk_below (g := gb200) zk hb); have n2_ := zm (below_step zb hb); clear BK199; clear BK200; clear HB; have BK199 := n0_; have BK200 := n1_; have HB := n2_; clear n0_ n1_ n2_; (try clear hb); (try clear hb2); (try clear hk); (try clear hi); obtain ⟨hcz13_0, hcz13_1, hfz13_0, hfz13_1⟩ := zc2 BK199.out; obtain ⟨hcz14_0, hcz14_1, hcz14_2, hfz14_0, hfz14_1, hfz14_2⟩ := zc3 BK200.out) | ((with_reducible refine gate_callee (f := 50) rfl ?_); refine goesL_ (some 19) rfl rfl Try.func50 (by kernel_rfl) rfl #[.agg #[.slice A0_0 l0_0.length c0_0, .int .i64 a0_1], .slice A1 l1.length c1, .agg #[.int .i64 a2_0, .int .i64 a2_1, .int .i64 a2_2]] rfl (by (try simp only [List.map_toArray, List.map_cons, List.map_nil]); first | done | rfl | (simp only [List.length_drop, List.length_take]; rfl)) ?_; (with_reducible refine (spec_pyAll.calls k _ _ l0_0 a0_1 _ _ l1 a2_0 a2_1 a2_2 t202 t205 _ ?side1 ?side2 ?side3 ?side4 A6.out).mono ?_); (case side1 => repeat (first | exact (Kd.C_below HR0_0.out HB.out) | (with_reducible refine Kd.C_alloc ?_ _) | (with_reducible refine Kd.C_drewN ?_ _) | (with_reducible refine Kd.C_drew ?_))); (case side2 => exact HC0_0.out); (case side3 => repeat (first | exact (Kd.C_below HR1.out HB.out) | (with_reducible refine Kd.C_alloc ?_ _) | (with_reducible refine Kd.C_drewN ?_ _) | (with_reducible refine Kd.C_drew ?_))); (case side4 => exact HC1.out); rintro e w15 ⟨v203, v206, rfl, ho0, ho1, hb⟩; refine ⟨_, rfl, ?_⟩; have n0_ := zm (Kd.R_lower ho0 (below_size zb)); have n1_ := zm (Kd.R_lower ho1 (below_size zb)); have n2_ := zm (blk_below (g := gb199) zk hb); have n3_ := zm (blk_below (g := gb200) zk hb); have n4_ := zm (below_step zb hb); clear BK199; clear BK200; clear HB; have HO204 := n0_; have HO207 := n1_; have BK199 := n2_; have BK200 := n3_; have HB := n4_; clear n0_ n1_ n2_ n3_ n4_; (try clear hb); (try clear hb2); (try clear hk); (try clear hi); (try clear ho0); (try clear ho1)))
  go_ret2
  exact ⟨_, zr, by (with_reducible repeat (first | apply Kd.R_alloc | apply Kd.R_drewN | apply Kd.R_drew)); exact HO207.out, zb⟩
 ·
  replace c5 := Bool.eq_false_iff.mpr c5
  subst c5
  have H1 : (some (([] : List Int), false)) = some (r1, r2) := by rw [if_neg (show ¬ (false = true) by decide)] at H; exact H
  clear H
  have H := H1
  clear H1
  simp only [Option.some.injEq, Prod.mk.injEq] at H
  obtain ⟨rfl, rfl⟩ := H
  go_enter Try.func20, Try.ntmps20
  go_wp2_with (first | ((with_reducible refine gate_dst (N := 3) rfl ?_); refine box_event ?hg (N := 3) ?hd (cs := #[.slice A0_0 l0_0.length c0_0, .int .i64 a0_1]) (t := 32) ?hr ?_; (case hd => rfl); (case hg => rfl); (case hr => first | (go_simp; done) | (go_simp; rfl)); intro gb199 hg w16 hbox hb; have n0_ := zm (below_step zb hb); have n1_ := zm (hbox); have n2_ := zm (zs hg zb : w.heap.size ≤ gb199); have n3_ := zm (zs hg zb : w.heap.size ≤ gb199); clear HB; have HB := n0_; have BK199 := n1_; have GW199 := n2_; have GE199 := n3_; clear n0_ n1_ n2_ n3_; clear hb hbox hg) | ((with_reducible refine gate_dst (N := 5) rfl ?_); refine box_event ?hg (N := 5) ?hd (cs := #[.int .i64 a2_0, .int .i64 a2_1, .int .i64 a2_2]) (t := 36) ?hr ?_; (case hd => rfl); (case hg => rfl); (case hr => first | (go_simp; done) | (go_simp; rfl)); intro gb200 hg w17 hbox hb; have n0_ := zm (blk_below (g := gb199) zk hb); have n1_ := zm (below_step zb hb); have n2_ := zm (hbox); have n3_ := zm (zs hg zb : w.heap.size ≤ gb200); have n4_ := zm (zs hg zb : w.heap.size ≤ gb200); have n5_ := zm (zl hg zk : gb199 ≠ gb200); have n6_ := zm (zg hg zk : gb200 ≠ gb199); clear BK199; clear HB; have BK199 := n0_; have HB := n1_; have BK200 := n2_; have GW200 := n3_; have GE200 := n4_; have NB199_200 := n5_; have NB200_199 := n6_; clear n0_ n1_ n2_ n3_ n4_ n5_ n6_; clear hb hbox hg; have hnb18 := NB199_200.out; have hnc18 := NB200_199.out; obtain ⟨hcz19_0, hcz19_1, hfz19_0, hfz19_1⟩ := zc2 BK199.out; obtain ⟨hcz20_0, hcz20_1, hcz20_2, hfz20_0, hfz20_1, hfz20_2⟩ := zc3 BK200.out) | ((with_reducible refine gate_callee (f := 49) rfl ?_); refine goesL_ (some 13) rfl rfl Try.func49 (by kernel_rfl) rfl #[.agg #[.slice A0_0 l0_0.length c0_0, .int .i64 a0_1], .slice A1 l1.length c1, .agg #[.int .i64 a2_0, .int .i64 a2_1, .int .i64 a2_2]] rfl (by (try simp only [List.map_toArray, List.map_cons, List.map_nil]); first | done | rfl | (simp only [List.length_drop, List.length_take]; rfl)) ?_; (with_reducible refine (spec_pyAsked.calls k _ _ l0_0 a0_1 _ _ l1 a2_0 a2_1 a2_2 false _ ?side1 ?side2 ?side3 ?side4 A4.out).mono ?_); (case side1 => repeat (first | exact (Kd.C_below HR0_0.out HB.out) | (with_reducible refine Kd.C_alloc ?_ _) | (with_reducible refine Kd.C_drewN ?_ _) | (with_reducible refine Kd.C_drew ?_))); (case side2 => exact HC0_0.out); (case side3 => repeat (first | exact (Kd.C_below HR1.out HB.out) | (with_reducible refine Kd.C_alloc ?_ _) | (with_reducible refine Kd.C_drewN ?_ _) | (with_reducible refine Kd.C_drew ?_))); (case side4 => exact HC1.out); rintro e w21 ⟨rfl, hb⟩; refine ⟨_, rfl, ?_⟩; have n0_ := zm (blk_below (g := gb199) zk hb); have n1_ := zm (blk_below (g := gb200) zk hb); have n2_ := zm (below_step zb hb); clear BK199; clear BK200; clear HB; have BK199 := n0_; have BK200 := n1_; have HB := n2_; clear n0_ n1_ n2_; (try clear hb); (try clear hb2); (try clear hk); (try clear hi)))
  go_ret2
  exact ⟨_, zr, by first | exact Kd.R_nil _ _ _ _ _ | exact Kd.N_nil _ _ _ _ _ | exact Kd.V_nil _ _ _ _ _ | exact Kd.Q_nil _ _ _ _ _ | exact Kd.S_nil _ _ _ _ _, zb⟩

/-! ### impl_isPitch: function 84 -/
def impl_isPitch.f (a0 : Int) : Option (Bool) := if a0 ≥ 24 then (some (decide (a0 ≤ 96))) else (some false)
set_option maxHeartbeats 8000000 in
set_option maxRecDepth 100000 in
theorem impl_isPitch.calls (a0 : Int) (r : Bool) (w : World) (h : impl_isPitch.f a0 = some r) :
  Calls Try.prog 84 #[.int .i64 a0] w fun e w' => e = .returned (.bool r) ∧ Drawn0 w w' := by
 have H : (if a0 ≥ 24 then (some (decide (a0 ≤ 96))) else (some false)) = some r := h
 clear h
 by_cases c2 : a0 ≥ 24
 ·
  rw [if_pos c2] at H
  have c2b0 : decide (24 ≤ a0) = true := decide_eq_true c2
  clear c2
  obtain rfl := Option.some.inj H
  go_enter Try.func84, Try.ntmps84
  go_wp2
  go_ret
  exact ⟨by first | rfl | (simp; done) | (simp [*]; done), by repeat (first | exact Drawn0.refl _ | apply Drawn0.step)⟩
 ·
  rw [if_neg c2] at H
  have c2b0 : decide (24 ≤ a0) = false := decide_eq_false c2
  clear c2
  obtain rfl := Option.some.inj H
  go_enter Try.func84, Try.ntmps84
  go_wp2
  go_ret
  exact ⟨by first | rfl | (simp; done) | (simp [*]; done), by repeat (first | exact Drawn0.refl _ | apply Drawn0.step)⟩

end Go.Proofs.Ytioheacdldgaaaa.PAll
