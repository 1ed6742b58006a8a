-- Written for this claim by a program of this session (wip/tpl/patchprint.py), not by print.sh.
import Derived.Test.YtioheacdldgaaaaPAllx0
import Derived.Test.YtioheacdldgaaaaPAllx4
import Derived.Test.YtioheacdldgaaaaPAllx16
import Derived.Test.YtioheacdldgaaaaPAllx17
namespace Go.Proofs.Ytioheacdldgaaaa.PAll
open Go.RowKit Go.Proofs.YtioheacdldgaaaaW.PrintWords Go.Proofs.YtioheacdldgaaaaW.PrintLast Go.Proofs.YtioheacdldgaaaaW.PrintMore
attribute [local go_sem] max2_int min2_int max_two min_two max_three min_three max_four min_four   -- for this text's walks alone
set_option linter.unusedVariables false
set_option linter.unusedSimpArgs false

/-! ### spec_l1Most: function 63 -/
def spec_l1Most.f (a0 : Int) (a1 : Int) : Option (Int) := if a0 > a1 then (some a0) else (some a1)
set_option maxHeartbeats 8000000 in
set_option maxRecDepth 100000 in
theorem spec_l1Most.calls (a0 : Int) (a1 : Int) (r : Int) (w : World) (h : spec_l1Most.f a0 a1 = some r) :
  Calls Try.prog 63 #[.int .i64 a0, .int .i64 a1] w fun e w' => e = .returned (.int .i64 r) ∧ Drawn0 w w' := by
 have H : (if a0 > a1 then (some a0) else (some a1)) = some r := h
 clear h
 by_cases c3 : a0 > a1
 ·
  rw [if_pos c3] at H
  have c3b0 : decide (a1 < a0) = true := decide_eq_true c3
  clear c3
  obtain rfl := Option.some.inj H
  go_enter Try.func63, Try.ntmps63
  go_wp2
  go_ret
  exact ⟨by first | rfl | (simp; done) | (simp [*]; done), by repeat (first | exact Drawn0.refl _ | apply Drawn0.step)⟩
 ·
  rw [if_neg c3] at H
  have c3b0 : decide (a1 < a0) = false := decide_eq_false c3
  clear c3
  obtain rfl := Option.some.inj H
  go_enter Try.func63, Try.ntmps63
  go_wp2
  go_ret
  exact ⟨by first | rfl | (simp; done) | (simp [*]; done), by repeat (first | exact Drawn0.refl _ | apply Drawn0.step)⟩

/-! ### spec_l1Abs: function 64 -/
def spec_l1Abs.f (a0 : Int) : Option (Int) := (spec_l1Most.f a0 (wrap64 (-a0))).bind fun t649 => (some t649)
set_option maxHeartbeats 8000000 in
set_option maxRecDepth 100000 in
theorem spec_l1Abs.calls (a0 : Int) (r : Int) (w : World) (h : spec_l1Abs.f a0 = some r) :
  Calls Try.prog 64 #[.int .i64 a0] w fun e w' => e = .returned (.int .i64 r) ∧ Drawn0 w w' := by
 have H : ((spec_l1Most.f a0 (wrap64 (-a0))).bind fun t649 => (some t649)) = some r := h
 clear h
 replace H := Option.bind_eq_some_iff.mp H
 obtain ⟨t649, A20, H⟩ := H
 replace H : (some t649) = some r := H
 have A2 := zm A20
 clear A20
 obtain rfl := Option.some.inj H
 go_enter Try.func64, Try.ntmps64
 go_wp2_with (first | ((with_reducible refine gate_callee (f := 63) rfl ?_); refine goesL_ (some 6) rfl rfl Try.func63 (by kernel_rfl) rfl #[.int .i64 a0, .int .i64 (wrap64 (-a0))] rfl (by (try simp only [List.map_toArray, List.map_cons, List.map_nil]); first | done | rfl | (simp only [List.length_drop, List.length_take]; rfl)) ?_; (with_reducible refine (spec_l1Most.calls a0 (wrap64 (-a0)) t649 _ A2.out).mono ?_); rintro e w' ⟨rfl, ⟨nd, rfl⟩⟩; refine ⟨_, rfl, ?_⟩))
 go_ret
 exact ⟨by first | rfl | (simp; done) | (simp [*]; done), by repeat (first | exact Drawn0.refl _ | apply Drawn0.step)⟩

/-! ### spec_WorstLag: function 42 -/
mutual
def spec_WorstLag.j0 : Nat → List (S73) → List (S83) → Bool → List Int → Int → Int → Int → Int → Option (Int × Bool)
  | 0, _, _, _, _, _, _, _, _ => none
  | k + 1, x1, x3, x24, x651000, x651001, x652000, x652001, x652002 => if x24 = true then (some (0, false)) else ((spec_pyAll.f k x651000 x651001 x1 x652000 x652001 x652002).bind fun bt654 => ((spec_pyTrue.f k bt654.1 x652000 x652001 x652002 x3).bind fun t660 => (if t660 = true then (spec_WorstLag.l0 k x3 0 bt654.1 (bt654.1.length : Int) 0) else (some (0, false)))))
def spec_WorstLag.l0 : Nat → List (S83) → Int → List (S79) → Int → Int → Option (Int × Bool)
  | 0, _, _, _, _, _ => none
  | k + 1, x3, x12, x37, x38, x39 => if x39 < x38 then (if 0 ≤ x39 then (if x39 < (x37.length : Int) then (if x39 < (x3.length : Int) then ((spec_l1Abs.f (wrap64 (((rd_T79 x37 x39).f2) - (wrap64 (2 * (wrap64 (((rd_T83 x3 x39).f1) + ((rd_T83 x3 x39).f2)))))))).bind fun t665 => ((spec_l1Most.f x12 t665).bind fun t666 => (spec_WorstLag.l0 k x3 t666 x37 x38 (wrap64 (x39 + 1))))) else (none)) else (none)) else (none)) else (some (x12, true))
end
def spec_WorstLag.f (k : Nat) (l0_0 : List Int) (a0_1 : Int) (l1 : List (S73)) (a2_0 : Int) (a2_1 : Int) (a2_2 : Int) (l3 : List (S83)) : Option (Int × Bool) := (spec_pyAsked.f k l0_0 a0_1 l1 a2_0 a2_1 a2_2).bind fun t652 => (if t652 = true then ((spec_ntGood.f k l3).bind fun t653 => (spec_WorstLag.j0 k l1 l3 (!t653) l0_0 a0_1 a2_0 a2_1 a2_2)) else (spec_WorstLag.j0 k l1 l3 true l0_0 a0_1 a2_0 a2_1 a2_2))
theorem spec_WorstLag.mono_l : ∀ k, (∀ y0 y1 y2 y3 y4 y5 y6 y7, LeO (spec_WorstLag.j0 k y0 y1 y2 y3 y4 y5 y6 y7) (spec_WorstLag.j0 (k + 1) y0 y1 y2 y3 y4 y5 y6 y7)) ∧ (∀ y0 y1 y2 y3 y4, LeO (spec_WorstLag.l0 k y0 y1 y2 y3 y4) (spec_WorstLag.l0 (k + 1) y0 y1 y2 y3 y4))
  | 0 => ⟨fun _ _ _ _ _ _ _ _ r h => by simp [spec_WorstLag.j0] at h, fun _ _ _ _ _ r h => by simp [spec_WorstLag.l0] at h⟩
  | k + 1 => by
    obtain ⟨ih0, ih1⟩ := spec_WorstLag.mono_l k
    refine ⟨?_, ?_⟩
    · intro y0 y1 y2 y3 y4 y5 y6 y7
      unfold spec_WorstLag.j0
      repeat' first
      | (with_reducible exact ih0 _ _ _ _ _ _ _ _)
      | (with_reducible exact ih1 _ _ _ _ _)
      | (with_reducible exact spec_ntGood.mono _ _)
      | (with_reducible exact spec_pyAll.mono _ _ _ _ _ _ _)
      | (with_reducible exact spec_pyAsked.mono _ _ _ _ _ _ _)
      | (with_reducible exact spec_pyTrue.mono _ _ _ _ _ _)
      | (with_reducible exact LeO.refl _)
      | (with_reducible exact LeO.none _)
      | (with_reducible refine LeO.ite ?_ ?_)
      | (with_reducible refine LeO.bind ?_ (fun _ => ?_))
      | exact ih0 _ _ _ _ _ _ _ _
      | exact ih1 _ _ _ _ _
      | exact spec_ntGood.mono _ _
      | exact spec_pyAll.mono _ _ _ _ _ _ _
      | exact spec_pyAsked.mono _ _ _ _ _ _ _
      | exact spec_pyTrue.mono _ _ _ _ _ _
      | exact LeO.none _
      | refine LeO.ite ?_ ?_
      | refine LeO.bind ?_ (fun _ => ?_)
    · intro y0 y1 y2 y3 y4
      unfold spec_WorstLag.l0
      repeat' first
      | (with_reducible exact ih0 _ _ _ _ _ _ _ _)
      | (with_reducible exact ih1 _ _ _ _ _)
      | (with_reducible exact spec_ntGood.mono _ _)
      | (with_reducible exact spec_pyAll.mono _ _ _ _ _ _ _)
      | (with_reducible exact spec_pyAsked.mono _ _ _ _ _ _ _)
      | (with_reducible exact spec_pyTrue.mono _ _ _ _ _ _)
      | (with_reducible exact LeO.refl _)
      | (with_reducible exact LeO.none _)
      | (with_reducible refine LeO.ite ?_ ?_)
      | (with_reducible refine LeO.bind ?_ (fun _ => ?_))
      | exact ih0 _ _ _ _ _ _ _ _
      | exact ih1 _ _ _ _ _
      | exact spec_ntGood.mono _ _
      | exact spec_pyAll.mono _ _ _ _ _ _ _
      | exact spec_pyAsked.mono _ _ _ _ _ _ _
      | exact spec_pyTrue.mono _ _ _ _ _ _
      | exact LeO.none _
      | refine LeO.ite ?_ ?_
      | refine LeO.bind ?_ (fun _ => ?_)
theorem spec_WorstLag.mono : ∀ a0 a1 a2 a3 a4 a5 a6 k, LeO (spec_WorstLag.f k a0 a1 a2 a3 a4 a5 a6) (spec_WorstLag.f (k + 1) a0 a1 a2 a3 a4 a5 a6) := by
  intro a0 a1 a2 a3 a4 a5 a6 k
  obtain ⟨ih0, ih1⟩ := spec_WorstLag.mono_l k
  unfold spec_WorstLag.f
  repeat' first
      | (with_reducible exact ih0 _ _ _ _ _ _ _ _)
      | (with_reducible exact ih1 _ _ _ _ _)
      | (with_reducible exact spec_ntGood.mono _ _)
      | (with_reducible exact spec_pyAll.mono _ _ _ _ _ _ _)
      | (with_reducible exact spec_pyAsked.mono _ _ _ _ _ _ _)
      | (with_reducible exact spec_pyTrue.mono _ _ _ _ _ _)
      | (with_reducible exact LeO.refl _)
      | (with_reducible exact LeO.none _)
      | (with_reducible refine LeO.ite ?_ ?_)
      | (with_reducible refine LeO.bind ?_ (fun _ => ?_))
      | exact ih0 _ _ _ _ _ _ _ _
      | exact ih1 _ _ _ _ _
      | exact spec_ntGood.mono _ _
      | exact spec_pyAll.mono _ _ _ _ _ _ _
      | exact spec_pyAsked.mono _ _ _ _ _ _ _
      | exact spec_pyTrue.mono _ _ _ _ _ _
      | exact LeO.none _
      | refine LeO.ite ?_ ?_
      | refine LeO.bind ?_ (fun _ => ?_)
theorem spec_WorstLag.gq {P : Program} {i : Nat} {ops : Array Oper} {Q : Exit → Act → World → Prop} {a : Act} {W : World} (h : (Code.region i ops true).wp P Q a W) : (Code.region i ops true).wp P Q a W := h
set_option maxHeartbeats 8000000 in
set_option maxRecDepth 100000 in
theorem spec_WorstLag.calls (k : Nat) (A0_0 : Option Addr) (c0_0 : Nat) (l0_0 : List Int) (a0_1 : Int) (A1 : Option Addr) (c1 : Nat) (l1 : List (S73)) (a2_0 : Int) (a2_1 : Int) (a2_2 : Int) (A3 : Option Addr) (c3 : Nat) (l3 : List (S83)) (r1 : Int) (r2 : Bool) (w : World) (hr0_0 : Kd.C (Kd.int .i64) w A0_0 l0_0.length l0_0) (hc0_0 : l0_0.length ≤ c0_0) (hr1 : Kd.C k73 w A1 l1.length l1) (hc1 : l1.length ≤ c1) (hr3 : Kd.C k83 w A3 l3.length l3) (hc3 : l3.length ≤ c3) (h : spec_WorstLag.f k l0_0 a0_1 l1 a2_0 a2_1 a2_2 l3 = some (r1, r2)) :
  Calls Try.prog 42 #[.agg #[.slice A0_0 l0_0.length c0_0, .int .i64 a0_1], .slice A1 l1.length c1, .agg #[.int .i64 a2_0, .int .i64 a2_1, .int .i64 a2_2], .slice A3 l3.length c3] w fun e w' => e = .returned (.tuple #[.int .i64 r1, .bool r2]) ∧ Below w.heap.size w w' := by
 have hu32 := Try.underlying32
 have hu36 := Try.underlying36
 have hu79 := Try.underlying79
 have HR0_0 := zm hr0_0
 have HC0_0 := zm hc0_0
 clear hr0_0 hc0_0
 have HR1 := zm hr1
 have HC1 := zm hc1
 clear hr1 hc1
 have HR3 := zm hr3
 have HC3 := zm hc3
 clear hr3 hc3
 have HB := zm (Below.refl w.heap.size w)
 have H : ((spec_pyAsked.f k l0_0 a0_1 l1 a2_0 a2_1 a2_2).bind fun t652 => (if t652 = true then ((spec_ntGood.f k l3).bind fun t653 => (spec_WorstLag.j0 k l1 l3 (!t653) l0_0 a0_1 a2_0 a2_1 a2_2)) else (spec_WorstLag.j0 k l1 l3 true l0_0 a0_1 a2_0 a2_1 a2_2))) = some (r1, r2) := h
 clear h
 have HC5 := zm H
 clear H
 go_enter Try.func42, Try.ntmps42
 go_upto_region 1 with (first | ((with_reducible refine gate_dst (N := 4) rfl ?_); refine box_event ?hg (N := 4) ?hd (cs := #[.slice A0_0 l0_0.length c0_0, .int .i64 a0_1]) (t := 32) ?hr ?_; (case hd => rfl); (case hg => rfl); (case hr => first | (go_simp; done) | (go_simp; rfl)); intro gb650 hg w6 hbox hb; have n0_ := zm (below_step zb hb); have n1_ := zm (hbox); have n2_ := zm (zs hg zb : w.heap.size ≤ gb650); have n3_ := zm (zs hg zb : w.heap.size ≤ gb650); clear HB; have HB := n0_; have BK650 := n1_; have GW650 := n2_; have GE650 := n3_; clear n0_ n1_ n2_ n3_; clear hb hbox hg) | ((with_reducible refine gate_dst (N := 6) rfl ?_); refine box_event ?hg (N := 6) ?hd (cs := #[.int .i64 a2_0, .int .i64 a2_1, .int .i64 a2_2]) (t := 36) ?hr ?_; (case hd => rfl); (case hg => rfl); (case hr => first | (go_simp; done) | (go_simp; rfl)); intro gb651 hg w7 hbox hb; have n0_ := zm (blk_below (g := gb650) zk hb); have n1_ := zm (below_step zb hb); have n2_ := zm (hbox); have n3_ := zm (zs hg zb : w.heap.size ≤ gb651); have n4_ := zm (zs hg zb : w.heap.size ≤ gb651); have n5_ := zm (zl hg zk : gb650 ≠ gb651); have n6_ := zm (zg hg zk : gb651 ≠ gb650); clear BK650; clear HB; have BK650 := n0_; have HB := n1_; have BK651 := n2_; have GW651 := n3_; have GE651 := n4_; have NB650_651 := n5_; have NB651_650 := n6_; clear n0_ n1_ n2_ n3_ n4_ n5_ n6_; clear hb hbox hg))
 repeat (go_quiet (first | ((with_reducible refine gate_dst (N := 4) rfl ?_); refine box_event ?hg (N := 4) ?hd (cs := #[.slice A0_0 l0_0.length c0_0, .int .i64 a0_1]) (t := 32) ?hr ?_; (case hd => rfl); (case hg => rfl); (case hr => first | (go_simp; done) | (go_simp; rfl)); intro gb650 hg w6 hbox hb; have n0_ := zm (below_step zb hb); have n1_ := zm (hbox); have n2_ := zm (zs hg zb : w.heap.size ≤ gb650); have n3_ := zm (zs hg zb : w.heap.size ≤ gb650); clear HB; have HB := n0_; have BK650 := n1_; have GW650 := n2_; have GE650 := n3_; clear n0_ n1_ n2_ n3_; clear hb hbox hg) | ((with_reducible refine gate_dst (N := 6) rfl ?_); refine box_event ?hg (N := 6) ?hd (cs := #[.int .i64 a2_0, .int .i64 a2_1, .int .i64 a2_2]) (t := 36) ?hr ?_; (case hd => rfl); (case hg => rfl); (case hr => first | (go_simp; done) | (go_simp; rfl)); intro gb651 hg w7 hbox hb; have n0_ := zm (blk_below (g := gb650) zk hb); have n1_ := zm (below_step zb hb); have n2_ := zm (hbox); have n3_ := zm (zs hg zb : w.heap.size ≤ gb651); have n4_ := zm (zs hg zb : w.heap.size ≤ gb651); have n5_ := zm (zl hg zk : gb650 ≠ gb651); have n6_ := zm (zg hg zk : gb651 ≠ gb650); clear BK650; clear HB; have BK650 := n0_; have HB := n1_; have BK651 := n2_; have GW651 := n3_; have GE651 := n4_; have NB650_651 := n5_; have NB651_650 := n6_; clear n0_ n1_ n2_ n3_ n4_ n5_ n6_; clear hb hbox hg)); go_upto_region 1 with (first | ((with_reducible refine gate_dst (N := 4) rfl ?_); refine box_event ?hg (N := 4) ?hd (cs := #[.slice A0_0 l0_0.length c0_0, .int .i64 a0_1]) (t := 32) ?hr ?_; (case hd => rfl); (case hg => rfl); (case hr => first | (go_simp; done) | (go_simp; rfl)); intro gb650 hg w6 hbox hb; have n0_ := zm (below_step zb hb); have n1_ := zm (hbox); have n2_ := zm (zs hg zb : w.heap.size ≤ gb650); have n3_ := zm (zs hg zb : w.heap.size ≤ gb650); clear HB; have HB := n0_; have BK650 := n1_; have GW650 := n2_; have GE650 := n3_; clear n0_ n1_ n2_ n3_; clear hb hbox hg) | ((with_reducible refine gate_dst (N := 6) rfl ?_); refine box_event ?hg (N := 6) ?hd (cs := #[.int .i64 a2_0, .int .i64 a2_1, .int .i64 a2_2]) (t := 36) ?hr ?_; (case hd => rfl); (case hg => rfl); (case hr => first | (go_simp; done) | (go_simp; rfl)); intro gb651 hg w7 hbox hb; have n0_ := zm (blk_below (g := gb650) zk hb); have n1_ := zm (below_step zb hb); have n2_ := zm (hbox); have n3_ := zm (zs hg zb : w.heap.size ≤ gb651); have n4_ := zm (zs hg zb : w.heap.size ≤ gb651); have n5_ := zm (zl hg zk : gb650 ≠ gb651); have n6_ := zm (zg hg zk : gb651 ≠ gb650); clear BK650; clear HB; have BK650 := n0_; have HB := n1_; have BK651 := n2_; have GW651 := n3_; have GE651 := n4_; have NB650_651 := n5_; have NB651_650 := n6_; clear n0_ n1_ n2_ n3_ n4_ n5_ n6_; clear hb hbox hg)))
 (try simp only [Act.put, List.setIfInBounds_toArray, List.set_cons_zero, List.set_cons_succ])
 go_cut [24] (fun v24 wc => ∃ (kq : Nat) (x24_4 : Bool), v24 = .bool x24_4 ∧ Aside0 (spec_WorstLag.j0 kq l1 l3 x24_4 l0_0 a0_1 a2_0 a2_1 a2_2 = some (r1, r2)) ∧ Aside0 (kq ≤ k) ∧ Aside0 (wc.heap[gb650]? = some (.cells #[(.slice A0_0 l0_0.length c0_0), .int .i64 a0_1] 32 (0, 0))) ∧ Aside0 (wc.heap[gb651]? = some (.cells #[.int .i64 a2_0, .int .i64 a2_1, .int .i64 a2_2] 36 (0, 0))) ∧ Aside0 (Below w.heap.size w wc))
 case first =>
  have H := HC5.out
  clear HC5
  replace H := Option.bind_eq_some_iff.mp H
  obtain ⟨t652, A80, H⟩ := H
  replace H : (if t652 = true then ((spec_ntGood.f k l3).bind fun t653 => (spec_WorstLag.j0 k l1 l3 (!t653) l0_0 a0_1 a2_0 a2_1 a2_2)) else (spec_WorstLag.j0 k l1 l3 true l0_0 a0_1 a2_0 a2_1 a2_2)) = some (r1, r2) := H
  have A8 := zm A80
  clear A80
  by_cases c9 : t652 = true
  ·
   subst c9
   have H1 : ((spec_ntGood.f k l3).bind fun t653 => (spec_WorstLag.j0 k l1 l3 (!t653) l0_0 a0_1 a2_0 a2_1 a2_2)) = some (r1, r2) := by rw [if_pos rfl] at H; exact H
   clear H
   have H := H1
   clear H1
   replace H := Option.bind_eq_some_iff.mp H
   obtain ⟨t653, A100, H⟩ := H
   replace H : (spec_WorstLag.j0 k l1 l3 (!t653) l0_0 a0_1 a2_0 a2_1 a2_2) = some (r1, r2) := H
   have A10 := zm A100
   clear A100
   have H' := zm H
   clear H
   have hnb11 := NB650_651.out
   have hnc11 := NB651_650.out
   obtain ⟨hcz12_0, hcz12_1, hfz12_0, hfz12_1⟩ := zc2 BK650.out
   obtain ⟨hcz13_0, hcz13_1, hcz13_2, hfz13_0, hfz13_1, hfz13_2⟩ := zc3 BK651.out
   go_wp2_with (first | (go_at_call 49; (with_reducible refine (spec_pyAsked.calls k _ _ l0_0 a0_1 _ _ l1 a2_0 a2_1 a2_2 true _ ?side1 ?side2 ?side3 ?side4 A8.out).mono ?_); (case side1 => repeat (first | exact (Kd.C_below HR0_0.out HB.out) | (with_reducible refine Kd.C_alloc ?_ _) | (with_reducible refine Kd.C_drewN ?_ _) | (with_reducible refine Kd.C_drew ?_))); (case side2 => exact HC0_0.out); (case side3 => repeat (first | exact (Kd.C_below HR1.out HB.out) | (with_reducible refine Kd.C_alloc ?_ _) | (with_reducible refine Kd.C_drewN ?_ _) | (with_reducible refine Kd.C_drew ?_))); (case side4 => exact HC1.out); rintro e w14 ⟨rfl, hb⟩; have n0_ := zm (blk_below (g := gb650) zk hb); have n1_ := zm (blk_below (g := gb651) zk hb); have n2_ := zm (below_step zb hb); clear BK650; clear BK651; clear HB; have BK650 := n0_; have BK651 := n1_; have HB := n2_; clear n0_ n1_ n2_; (try clear hb); (try clear hb2); (try clear hk); (try clear hi)) | (go_at_call 57; (with_reducible refine (spec_ntGood.calls k _ _ l3 t653 _ ?side1 ?side2 A10.out).mono ?_); (case side1 => repeat (first | exact (Kd.C_below HR3.out HB.out) | (with_reducible refine Kd.C_alloc ?_ _) | (with_reducible refine Kd.C_drewN ?_ _) | (with_reducible refine Kd.C_drew ?_))); (case side2 => exact HC3.out); rintro e w15 ⟨rfl, hb⟩; have n0_ := zm (blk_below (g := gb650) zk hb); have n1_ := zm (blk_below (g := gb651) zk hb); have n2_ := zm (below_step zb hb); clear BK650; clear BK651; clear HB; have BK650 := n0_; have BK651 := n1_; have HB := n2_; clear n0_ n1_ n2_; (try clear hb); (try clear hb2); (try clear hk); (try clear hi)) | ((with_reducible refine spec_WorstLag.gq ?_); go_quiet (first | (go_at_call 49; (with_reducible refine (spec_pyAsked.calls k _ _ l0_0 a0_1 _ _ l1 a2_0 a2_1 a2_2 true _ ?side1 ?side2 ?side3 ?side4 A8.out).mono ?_); (case side1 => repeat (first | exact (Kd.C_below HR0_0.out HB.out) | (with_reducible refine Kd.C_alloc ?_ _) | (with_reducible refine Kd.C_drewN ?_ _) | (with_reducible refine Kd.C_drew ?_))); (case side2 => exact HC0_0.out); (case side3 => repeat (first | exact (Kd.C_below HR1.out HB.out) | (with_reducible refine Kd.C_alloc ?_ _) | (with_reducible refine Kd.C_drewN ?_ _) | (with_reducible refine Kd.C_drew ?_))); (case side4 => exact HC1.out); rintro e w14 ⟨rfl, hb⟩; have n0_ := zm (blk_below (g := gb650) zk hb); have n1_ := zm (blk_below (g := gb651) zk hb); have n2_ := zm (below_step zb hb); clear BK650; clear BK651; clear HB; have BK650 := n0_; have BK651 := n1_; have HB := n2_; clear n0_ n1_ n2_; (try clear hb); (try clear hb2); (try clear hk); (try clear hi)) | (go_at_call 57; (with_reducible refine (spec_ntGood.calls k _ _ l3 t653 _ ?side1 ?side2 A10.out).mono ?_); (case side1 => repeat (first | exact (Kd.C_below HR3.out HB.out) | (with_reducible refine Kd.C_alloc ?_ _) | (with_reducible refine Kd.C_drewN ?_ _) | (with_reducible refine Kd.C_drew ?_))); (case side2 => exact HC3.out); rintro e w15 ⟨rfl, hb⟩; have n0_ := zm (blk_below (g := gb650) zk hb); have n1_ := zm (blk_below (g := gb651) zk hb); have n2_ := zm (below_step zb hb); clear BK650; clear BK651; clear HB; have BK650 := n0_; have BK651 := n1_; have HB := n2_; clear n0_ n1_ n2_; (try clear hb); (try clear hb2); (try clear hk); (try clear hi)))))
   go_meet
   case rel => exact ⟨_, (!t653), (by first | rfl | (simp; done) | (simp [*]; done)), H', ⟨by first | omega | exact Nat.le_refl _⟩, ⟨zk⟩, ⟨zk⟩, ⟨zb⟩⟩
  ·
   replace c9 := Bool.eq_false_iff.mpr c9
   subst c9
   have H1 : (spec_WorstLag.j0 k l1 l3 true l0_0 a0_1 a2_0 a2_1 a2_2) = some (r1, r2) := by rw [if_neg (show ¬ (false = true) by decide)] at H; exact H
   clear H
   have H := H1
   clear H1
   have H' := zm H
   clear H
   have hnb16 := NB650_651.out
   have hnc16 := NB651_650.out
   obtain ⟨hcz17_0, hcz17_1, hfz17_0, hfz17_1⟩ := zc2 BK650.out
   obtain ⟨hcz18_0, hcz18_1, hcz18_2, hfz18_0, hfz18_1, hfz18_2⟩ := zc3 BK651.out
   go_wp2_with (first | (go_at_call 49; (with_reducible refine (spec_pyAsked.calls k _ _ l0_0 a0_1 _ _ l1 a2_0 a2_1 a2_2 false _ ?side1 ?side2 ?side3 ?side4 A8.out).mono ?_); (case side1 => repeat (first | exact (Kd.C_below HR0_0.out HB.out) | (with_reducible refine Kd.C_alloc ?_ _) | (with_reducible refine Kd.C_drewN ?_ _) | (with_reducible refine Kd.C_drew ?_))); (case side2 => exact HC0_0.out); (case side3 => repeat (first | exact (Kd.C_below HR1.out HB.out) | (with_reducible refine Kd.C_alloc ?_ _) | (with_reducible refine Kd.C_drewN ?_ _) | (with_reducible refine Kd.C_drew ?_))); (case side4 => exact HC1.out); rintro e w19 ⟨rfl, hb⟩; have n0_ := zm (blk_below (g := gb650) zk hb); have n1_ := zm (blk_below (g := gb651) zk hb); have n2_ := zm (below_step zb hb); clear BK650; clear BK651; clear HB; have BK650 := n0_; have BK651 := n1_; have HB := n2_; clear n0_ n1_ n2_; (try clear hb); (try clear hb2); (try clear hk); (try clear hi)) | ((with_reducible refine spec_WorstLag.gq ?_); go_quiet (first | (go_at_call 49; (with_reducible refine (spec_pyAsked.calls k _ _ l0_0 a0_1 _ _ l1 a2_0 a2_1 a2_2 false _ ?side1 ?side2 ?side3 ?side4 A8.out).mono ?_); (case side1 => repeat (first | exact (Kd.C_below HR0_0.out HB.out) | (with_reducible refine Kd.C_alloc ?_ _) | (with_reducible refine Kd.C_drewN ?_ _) | (with_reducible refine Kd.C_drew ?_))); (case side2 => exact HC0_0.out); (case side3 => repeat (first | exact (Kd.C_below HR1.out HB.out) | (with_reducible refine Kd.C_alloc ?_ _) | (with_reducible refine Kd.C_drewN ?_ _) | (with_reducible refine Kd.C_drew ?_))); (case side4 => exact HC1.out); rintro e w19 ⟨rfl, hb⟩; have n0_ := zm (blk_below (g := gb650) zk hb); have n1_ := zm (blk_below (g := gb651) zk hb); have n2_ := zm (below_step zb hb); clear BK650; clear BK651; clear HB; have BK650 := n0_; have BK651 := n1_; have HB := n2_; clear n0_ n1_ n2_; (try clear hb); (try clear hb2); (try clear hk); (try clear hi)))))
   go_meet
   case rel => exact ⟨_, (true), (by first | rfl | (simp; done) | (simp [*]; done)), H', ⟨by first | omega | exact Nat.le_refl _⟩, ⟨zk⟩, ⟨zk⟩, ⟨zb⟩⟩
 case rest =>
  clear HC5
  try clear c1
  try clear p2
  try clear c3
  try clear c4
  try clear c9
  try clear c11
  try clear c16
  try clear hcz12_0
  try clear hcz12_1
  try clear hcz13_0
  try clear hcz13_1
  try clear hcz13_2
  try clear hcz17_0
  try clear hcz17_1
  try clear hcz18_0
  try clear hcz18_1
  try clear hcz18_2
  try clear hfz12_0
  try clear hfz12_1
  try clear hfz13_0
  try clear hfz13_1
  try clear hfz13_2
  try clear hfz17_0
  try clear hfz17_1
  try clear hfz18_0
  try clear hfz18_1
  try clear hfz18_2
  obtain ⟨kq, x24_4, rfl, HA, HJ4, BK650, BK651, HB⟩ := hcut
  cases kq with
  | zero => exact absurd HA.out (by simp [spec_WorstLag.j0])
  | succ kj4 =>
   have H := HA.out
   clear HA
   simp only [spec_WorstLag.j0] at H
   by_cases c20 : x24_4 = true
   ·
    subst c20
    have H1 : (some (0, false)) = some (r1, r2) := by rw [if_pos rfl] at H; exact H
    clear H
    have H := H1
    clear H1
    simp only [Option.some.injEq, Prod.mk.injEq] at H
    obtain ⟨rfl, rfl⟩ := H
    go_wp2
    repeat (go_quiet (fail); try go_wp2)
    go_ret2
    exact ⟨zr, zb⟩
   ·
    replace c20 := Bool.eq_false_iff.mpr c20
    subst c20
    have H1 : ((spec_pyAll.f kj4 l0_0 a0_1 l1 a2_0 a2_1 a2_2).bind fun bt654 => ((spec_pyTrue.f kj4 bt654.1 a2_0 a2_1 a2_2 l3).bind fun t660 => (if t660 = true then (spec_WorstLag.l0 kj4 l3 0 bt654.1 (bt654.1.length : Int) 0) else (some (0, false))))) = some (r1, r2) := by rw [if_neg (show ¬ (false = true) by decide)] at H; exact H
    clear H
    have H := H1
    clear H1
    replace H := Option.bind_eq_some_iff.mp H
    obtain ⟨⟨t654, t657⟩, A210, H⟩ := H
    replace H : ((spec_pyTrue.f kj4 t654 a2_0 a2_1 a2_2 l3).bind fun t660 => (if t660 = true then (spec_WorstLag.l0 kj4 l3 0 t654 (t654.length : Int) 0) else (some (0, false)))) = some (r1, r2) := H
    have A21 := zm A210
    clear A210
    replace H := Option.bind_eq_some_iff.mp H
    obtain ⟨t660, A220, H⟩ := H
    replace H : (if t660 = true then (spec_WorstLag.l0 kj4 l3 0 t654 (t654.length : Int) 0) else (some (0, false))) = some (r1, r2) := H
    have A22 := zm A220
    clear A220
    by_cases c23 : t660 = true
    ·
     subst c23
     have H1 : (spec_WorstLag.l0 kj4 l3 0 t654 (t654.length : Int) 0) = some (r1, r2) := by rw [if_pos rfl] at H; exact H
     clear H
     have H := H1
     clear H1
     have H' := zm H
     clear H
     have hnb24 := NB650_651.out
     have hnc24 := NB651_650.out
     obtain ⟨hcz25_0, hcz25_1, hfz25_0, hfz25_1⟩ := zc2 BK650.out
     obtain ⟨hcz26_0, hcz26_1, hcz26_2, hfz26_0, hfz26_1, hfz26_2⟩ := zc3 BK651.out
     go_wp2_with (first | (go_at_call 50; (with_reducible refine (spec_pyAll.calls kj4 _ _ l0_0 a0_1 _ _ l1 a2_0 a2_1 a2_2 t654 t657 _ ?side1 ?side2 ?side3 ?side4 A21.out).mono ?_); (case side1 => repeat (first | exact (Kd.C_below HR0_0.out HB.out) | (with_reducible refine Kd.C_alloc ?_ _) | (with_reducible refine Kd.C_drewN ?_ _) | (with_reducible refine Kd.C_drew ?_))); (case side2 => exact HC0_0.out); (case side3 => repeat (first | exact (Kd.C_below HR1.out HB.out) | (with_reducible refine Kd.C_alloc ?_ _) | (with_reducible refine Kd.C_drewN ?_ _) | (with_reducible refine Kd.C_drew ?_))); (case side4 => exact HC1.out); rintro e w27 ⟨v655, v658, rfl, ho0, ho1, hb⟩; have n0_ := zm (Kd.R_lower ho0 (below_size zb)); have n1_ := zm (Kd.R_lower ho1 (below_size zb)); have n2_ := zm (blk_below (g := gb650) zk hb); have n3_ := zm (blk_below (g := gb651) zk hb); have n4_ := zm (below_step zb hb); clear BK650; clear BK651; clear HB; have HO656 := n0_; have HO659 := n1_; have BK650 := n2_; have BK651 := n3_; have HB := n4_; clear n0_ n1_ n2_ n3_ n4_; (try clear hb); (try clear hb2); (try clear hk); (try clear hi); (try clear ho0); (try clear ho1); obtain ⟨hcz28_0, hcz28_1, hcz28_2, hfz28_0, hfz28_1, hfz28_2⟩ := zc3 BK651.out; obtain ⟨Ao29, co29, eo29⟩ := Kd.R_slice HO656.out; subst eo29) | (go_at_call 58; (with_reducible refine (spec_pyTrue.calls kj4 _ _ t654 a2_0 a2_1 a2_2 _ _ l3 true _ ?side1 ?side2 ?side3 ?side4 A22.out).mono ?_); (case side1 => repeat (first | exact (Kd.R_reads' HO656.out).2.2 | (with_reducible refine Kd.C_alloc ?_ _) | (with_reducible refine Kd.C_drewN ?_ _) | (with_reducible refine Kd.C_drew ?_))); (case side2 => exact (Kd.R_reads' HO656.out).2.1); (case side3 => repeat (first | exact (Kd.C_below HR3.out HB.out) | (with_reducible refine Kd.C_alloc ?_ _) | (with_reducible refine Kd.C_drewN ?_ _) | (with_reducible refine Kd.C_drew ?_))); (case side4 => exact HC3.out); rintro e w30 ⟨rfl, hb⟩; have n0_ := zm (Kd.R_below (by (with_reducible repeat (first | apply Kd.R_alloc | apply Kd.R_drewN | apply Kd.R_drew)); exact HO656.out) hb); have n1_ := zm (Kd.R_below (by (with_reducible repeat (first | apply Kd.R_alloc | apply Kd.R_drewN | apply Kd.R_drew)); exact HO659.out) hb); have n2_ := zm (blk_below (g := gb650) zk hb); have n3_ := zm (blk_below (g := gb651) zk hb); have n4_ := zm (below_step zb hb); clear HO656; clear HO659; clear BK650; clear BK651; clear HB; have HO656 := n0_; have HO659 := n1_; have BK650 := n2_; have BK651 := n3_; have HB := n4_; clear n0_ n1_ n2_ n3_ n4_; (try clear hb); (try clear hb2); (try clear hk); (try clear hi)) | ((with_reducible refine spec_WorstLag.gq ?_); go_quiet (first | (go_at_call 50; (with_reducible refine (spec_pyAll.calls kj4 _ _ l0_0 a0_1 _ _ l1 a2_0 a2_1 a2_2 t654 t657 _ ?side1 ?side2 ?side3 ?side4 A21.out).mono ?_); (case side1 => repeat (first | exact (Kd.C_below HR0_0.out HB.out) | (with_reducible refine Kd.C_alloc ?_ _) | (with_reducible refine Kd.C_drewN ?_ _) | (with_reducible refine Kd.C_drew ?_))); (case side2 => exact HC0_0.out); (case side3 => repeat (first | exact (Kd.C_below HR1.out HB.out) | (with_reducible refine Kd.C_alloc ?_ _) | (with_reducible refine Kd.C_drewN ?_ _) | (with_reducible refine Kd.C_drew ?_))); (case side4 => exact HC1.out); rintro e w27 ⟨v655, v658, rfl, ho0, ho1, hb⟩; have n0_ := zm (Kd.R_lower ho0 (below_size zb)); have n1_ := zm (Kd.R_lower ho1 (below_size zb)); have n2_ := zm (blk_below (g := gb650) zk hb); have n3_ := zm (blk_below (g := gb651) zk hb); have n4_ := zm (below_step zb hb); clear BK650; clear BK651; clear HB; have HO656 := n0_; have HO659 := n1_; have BK650 := n2_; have BK651 := n3_; have HB := n4_; clear n0_ n1_ n2_ n3_ n4_; (try clear hb); (try clear hb2); (try clear hk); (try clear hi); (try clear ho0); (try clear ho1); obtain ⟨hcz28_0, hcz28_1, hcz28_2, hfz28_0, hfz28_1, hfz28_2⟩ := zc3 BK651.out; obtain ⟨Ao29, co29, eo29⟩ := Kd.R_slice HO656.out; subst eo29) | (go_at_call 58; (with_reducible refine (spec_pyTrue.calls kj4 _ _ t654 a2_0 a2_1 a2_2 _ _ l3 true _ ?side1 ?side2 ?side3 ?side4 A22.out).mono ?_); (case side1 => repeat (first | exact (Kd.R_reads' HO656.out).2.2 | (with_reducible refine Kd.C_alloc ?_ _) | (with_reducible refine Kd.C_drewN ?_ _) | (with_reducible refine Kd.C_drew ?_))); (case side2 => exact (Kd.R_reads' HO656.out).2.1); (case side3 => repeat (first | exact (Kd.C_below HR3.out HB.out) | (with_reducible refine Kd.C_alloc ?_ _) | (with_reducible refine Kd.C_drewN ?_ _) | (with_reducible refine Kd.C_drew ?_))); (case side4 => exact HC3.out); rintro e w30 ⟨rfl, hb⟩; have n0_ := zm (Kd.R_below (by (with_reducible repeat (first | apply Kd.R_alloc | apply Kd.R_drewN | apply Kd.R_drew)); exact HO656.out) hb); have n1_ := zm (Kd.R_below (by (with_reducible repeat (first | apply Kd.R_alloc | apply Kd.R_drewN | apply Kd.R_drew)); exact HO659.out) hb); have n2_ := zm (blk_below (g := gb650) zk hb); have n3_ := zm (blk_below (g := gb651) zk hb); have n4_ := zm (below_step zb hb); clear HO656; clear HO659; clear BK650; clear BK651; clear HB; have HO656 := n0_; have HO659 := n1_; have BK650 := n2_; have BK651 := n3_; have HB := n4_; clear n0_ n1_ n2_ n3_ n4_; (try clear hb); (try clear hb2); (try clear hk); (try clear hi)))))
     go_loopg [12, 39] kj4 (fun kq v12 v39 w' => ∃ (x12_2 : Int) (x39_2 : Int), v12 = .int .i64 x12_2 ∧ v39 = .int .i64 x39_2 ∧ Aside0 (spec_WorstLag.l0 kq l3 x12_2 t654 (t654.length : Int) x39_2 = some (r1, r2)) ∧ Aside0 (kq ≤ kj4) ∧ Aside0 (Kd.R k79 79 w' w.heap.size (fun _ => True) (.slice Ao29 t654.length co29) t654) ∧ Aside0 (w'.heap[gb650]? = some (.cells #[(.slice A0_0 l0_0.length c0_0), .int .i64 a0_1] 32 (0, 0))) ∧ Aside0 (w'.heap[gb651]? = some (.cells #[.int .i64 a2_0, .int .i64 a2_1, .int .i64 a2_2] 36 (0, 0))) ∧ Aside0 (Below w.heap.size w w'))
     case atStart => exact ⟨(0), (0), (by first | rfl | (simp; done) | (simp [*]; done)), (by first | rfl | (simp; done) | (simp [*]; done)), H', ⟨Nat.le_refl _⟩, ⟨by (with_reducible repeat (first | apply Kd.R_alloc | apply Kd.R_drewN | apply Kd.R_drew)); exact HO656.out⟩, ⟨zk⟩, ⟨zk⟩, ⟨zb⟩⟩
     case round =>
      clear H'
      try clear c1
      try clear c2
      try clear p2
      try clear c3
      try clear c4
      try clear c9
      try clear c11
      try clear c16
      try clear c20
      try clear c23
      try clear c24
      try clear hcz12_0
      try clear hcz12_1
      try clear hcz13_0
      try clear hcz13_1
      try clear hcz13_2
      try clear hcz17_0
      try clear hcz17_1
      try clear hcz18_0
      try clear hcz18_1
      try clear hcz18_2
      try clear hcz25_0
      try clear hcz25_1
      try clear hcz26_0
      try clear hcz26_1
      try clear hcz26_2
      try clear hcz28_0
      try clear hcz28_1
      try clear hcz28_2
      try clear hfz12_0
      try clear hfz12_1
      try clear hfz13_0
      try clear hfz13_1
      try clear hfz13_2
      try clear hfz17_0
      try clear hfz17_1
      try clear hfz18_0
      try clear hfz18_1
      try clear hfz18_2
      try clear hfz25_0
      try clear hfz25_1
      try clear hfz26_0
      try clear hfz26_1
      try clear hfz26_2
      try clear hfz28_0
      try clear hfz28_1
      try clear hfz28_2
      try clear p2
      obtain ⟨x12_2, x39_2, rfl, rfl, HA, HK2, HO_37, BK650, BK651, HB⟩ := hrel
      cases gk with
      | zero => exact absurd HA.out (by simp [spec_WorstLag.l0])
      | succ k2 =>
       have H := HA.out
       clear HA
       simp only [spec_WorstLag.l0] at H
       by_cases c31 : x39_2 < (t654.length : Int)
       ·
        rw [if_pos c31] at H
        have c31b0 : decide (x39_2 < (t654.length : Int)) = true := decide_eq_true c31
        clear c31
        by_cases c32 : 0 ≤ x39_2
        ·
         rw [if_pos c32] at H
         have c32b0 : decide (0 ≤ x39_2) = true := decide_eq_true c32
         clear c32
         by_cases c33 : x39_2 < (t654.length : Int)
         ·
          rw [if_pos c33] at H
          have c33b0 : decide (x39_2 < (t654.length : Int)) = true := decide_eq_true c33
          clear c33
          by_cases c34 : x39_2 < (l3.length : Int)
          ·
           rw [if_pos c34] at H
           have c34b0 : decide (x39_2 < (l3.length : Int)) = true := decide_eq_true c34
           clear c34
           replace H := Option.bind_eq_some_iff.mp H
           obtain ⟨t665, A350, H⟩ := H
           replace H : ((spec_l1Most.f x12_2 t665).bind fun t666 => (spec_WorstLag.l0 k2 l3 t666 t654 (t654.length : Int) (wrap64 (x39_2 + 1)))) = some (r1, r2) := H
           have A35 := zm A350
           clear A350
           replace H := Option.bind_eq_some_iff.mp H
           obtain ⟨t666, A360, H⟩ := H
           replace H : (spec_WorstLag.l0 k2 l3 t666 t654 (t654.length : Int) (wrap64 (x39_2 + 1))) = some (r1, r2) := H
           have A36 := zm A360
           clear A360
           have H' := zm H
           clear H
           have p661 : 0 ≤ (x39_2 : Int) := zd
           have q661 : x39_2 < (t654.length : Int) := zd
           obtain ⟨ad661, e661, hx661_0, hx661_1, hx661_2⟩ := at_T79 (Kd.R_reads' HO_37.out).2.2 x39_2 p661 q661
           cases e661
           replace p661 := eq_true p661
           replace q661 := eq_true q661
           go_wp2_with (first | ((with_reducible refine gate_dst (N := 14) rfl ?_); refine box_event ?hg (N := 14) ?hd (cs := #[.int .i64 0, .int .i64 0, .int .i64 0]) (t := 79) ?hr ?_; (case hd => rfl); (case hg => rfl); (case hr => first | (go_simp; done) | (go_simp; rfl)); intro gb662 hg w37 hbox hb; have n0_ := zm (Kd.R_below (Kd.R_elderB (by (with_reducible repeat (first | apply Kd.R_alloc | apply Kd.R_drewN | apply Kd.R_drew)); exact HO_37.out) gb662 (Nat.le_of_eq hg.symm)) hb); have n1_ := zm (blk_below (g := gb650) zk hb); have n2_ := zm (blk_below (g := gb651) zk hb); have n3_ := zm (below_step zb hb); have n4_ := zm (hbox); have n5_ := zm (zs hg zb : w.heap.size ≤ gb662); have n6_ := zm (zs hg zb : w.heap.size ≤ gb662); have n7_ := zm (zl hg zk : gb650 ≠ gb662); have n8_ := zm (zg hg zk : gb662 ≠ gb650); have n9_ := zm (zl hg zk : gb651 ≠ gb662); have n10_ := zm (zg hg zk : gb662 ≠ gb651); clear HO_37; clear BK650; clear BK651; clear HB; have HO_37 := n0_; have BK650 := n1_; have BK651 := n2_; have HB := n3_; have BK662 := n4_; have GW662 := n5_; have GE662 := n6_; have NB650_662 := n7_; have NB662_650 := n8_; have NB651_662 := n9_; have NB662_651 := n10_; clear n0_ n1_ n2_ n3_ n4_ n5_ n6_ n7_ n8_ n9_ n10_; clear hb hbox hg; have hnb38 := NB662_650.out; have hnc38 := NB650_662.out; have hnb39 := NB662_651.out; have hnc39 := NB651_662.out; obtain ⟨hcz40_0, hcz40_1, hcz40_2, hfz40_0, hfz40_1, hfz40_2⟩ := zc3 BK662.out; have p663 : 0 ≤ (x39_2 : Int) := zd; have q663 : x39_2 < (l3.length : Int) := zd; obtain ⟨ad663, e663, hx663_0, hx663_1, hx663_2⟩ := at_T83 HR3.out x39_2 p663 q663; cases e663; have hn663_0 : ad663.block ≠ gb662 := Nat.ne_of_lt (Nat.lt_of_lt_of_le (by have := World.block_lt_of_cell? _ _ hx663_0; first | rwa [add_block] at this | exact this) GW662.out); have hn663_1 : ad663.block ≠ gb662 := Nat.ne_of_lt (Nat.lt_of_lt_of_le (by have := World.block_lt_of_cell? _ _ hx663_0; first | rwa [add_block] at this | exact this) GW662.out); have hn663_2 : ad663.block ≠ gb662 := Nat.ne_of_lt (Nat.lt_of_lt_of_le (by have := World.block_lt_of_cell? _ _ hx663_0; first | rwa [add_block] at this | exact this) GW662.out); replace hx663_0 := zx HB.out hx663_0; replace hx663_1 := zx HB.out hx663_1; replace hx663_2 := zx HB.out hx663_2; replace hx663_0 := zf (p := ⟨gb662, 0, none⟩) (.int .i64 ((rd_T79 t654 x39_2).f0)) hx663_0; replace hx663_1 := zf (p := ⟨gb662, 0, none⟩) (.int .i64 ((rd_T79 t654 x39_2).f0)) hx663_1; replace hx663_2 := zf (p := ⟨gb662, 0, none⟩) (.int .i64 ((rd_T79 t654 x39_2).f0)) hx663_2; replace hx663_0 := zf (p := ⟨gb662, 1, none⟩) (.int .i64 ((rd_T79 t654 x39_2).f1)) hx663_0; replace hx663_1 := zf (p := ⟨gb662, 1, none⟩) (.int .i64 ((rd_T79 t654 x39_2).f1)) hx663_1; replace hx663_2 := zf (p := ⟨gb662, 1, none⟩) (.int .i64 ((rd_T79 t654 x39_2).f1)) hx663_2; replace hx663_0 := zf (p := ⟨gb662, 2, none⟩) (.int .i64 ((rd_T79 t654 x39_2).f2)) hx663_0; replace hx663_1 := zf (p := ⟨gb662, 2, none⟩) (.int .i64 ((rd_T79 t654 x39_2).f2)) hx663_1; replace hx663_2 := zf (p := ⟨gb662, 2, none⟩) (.int .i64 ((rd_T79 t654 x39_2).f2)) hx663_2; (try have hy663_0 := fun (n_ : Nat) => (show (((((w37.drewN n_).setCell ⟨gb662, 0, none⟩ (.int .i64 ((rd_T79 t654 x39_2).f0))).setCell ⟨gb662, 1, none⟩ (.int .i64 ((rd_T79 t654 x39_2).f1))).setCell ⟨gb662, 2, none⟩ (.int .i64 ((rd_T79 t654 x39_2).f2)))).cell? _ = some _ from hx663_0)); (try have hy663_1 := fun (n_ : Nat) => (show (((((w37.drewN n_).setCell ⟨gb662, 0, none⟩ (.int .i64 ((rd_T79 t654 x39_2).f0))).setCell ⟨gb662, 1, none⟩ (.int .i64 ((rd_T79 t654 x39_2).f1))).setCell ⟨gb662, 2, none⟩ (.int .i64 ((rd_T79 t654 x39_2).f2)))).cell? _ = some _ from hx663_1)); (try have hy663_2 := fun (n_ : Nat) => (show (((((w37.drewN n_).setCell ⟨gb662, 0, none⟩ (.int .i64 ((rd_T79 t654 x39_2).f0))).setCell ⟨gb662, 1, none⟩ (.int .i64 ((rd_T79 t654 x39_2).f1))).setCell ⟨gb662, 2, none⟩ (.int .i64 ((rd_T79 t654 x39_2).f2)))).cell? _ = some _ from hx663_2)); clear hn663_0; clear hn663_1; clear hn663_2; replace p663 := eq_true p663; replace q663 := eq_true q663; have p664 : 0 ≤ (x39_2 : Int) := zd; have q664 : x39_2 < (l3.length : Int) := zd; obtain ⟨ad664, e664, hx664_0, hx664_1, hx664_2⟩ := at_T83 HR3.out x39_2 p664 q664; obtain rfl : ad663 = ad664 := (by injection e664); have hn664_0 : ad663.block ≠ gb662 := Nat.ne_of_lt (Nat.lt_of_lt_of_le (by have := World.block_lt_of_cell? _ _ hx664_0; first | rwa [add_block] at this | exact this) GW662.out); have hn664_1 : ad663.block ≠ gb662 := Nat.ne_of_lt (Nat.lt_of_lt_of_le (by have := World.block_lt_of_cell? _ _ hx664_0; first | rwa [add_block] at this | exact this) GW662.out); have hn664_2 : ad663.block ≠ gb662 := Nat.ne_of_lt (Nat.lt_of_lt_of_le (by have := World.block_lt_of_cell? _ _ hx664_0; first | rwa [add_block] at this | exact this) GW662.out); replace hx664_0 := zx HB.out hx664_0; replace hx664_1 := zx HB.out hx664_1; replace hx664_2 := zx HB.out hx664_2; replace hx664_0 := zf (p := ⟨gb662, 0, none⟩) (.int .i64 ((rd_T79 t654 x39_2).f0)) hx664_0; replace hx664_1 := zf (p := ⟨gb662, 0, none⟩) (.int .i64 ((rd_T79 t654 x39_2).f0)) hx664_1; replace hx664_2 := zf (p := ⟨gb662, 0, none⟩) (.int .i64 ((rd_T79 t654 x39_2).f0)) hx664_2; replace hx664_0 := zf (p := ⟨gb662, 1, none⟩) (.int .i64 ((rd_T79 t654 x39_2).f1)) hx664_0; replace hx664_1 := zf (p := ⟨gb662, 1, none⟩) (.int .i64 ((rd_T79 t654 x39_2).f1)) hx664_1; replace hx664_2 := zf (p := ⟨gb662, 1, none⟩) (.int .i64 ((rd_T79 t654 x39_2).f1)) hx664_2; replace hx664_0 := zf (p := ⟨gb662, 2, none⟩) (.int .i64 ((rd_T79 t654 x39_2).f2)) hx664_0; replace hx664_1 := zf (p := ⟨gb662, 2, none⟩) (.int .i64 ((rd_T79 t654 x39_2).f2)) hx664_1; replace hx664_2 := zf (p := ⟨gb662, 2, none⟩) (.int .i64 ((rd_T79 t654 x39_2).f2)) hx664_2; (try have hy664_0 := fun (n_ : Nat) => (show (((((w37.drewN n_).setCell ⟨gb662, 0, none⟩ (.int .i64 ((rd_T79 t654 x39_2).f0))).setCell ⟨gb662, 1, none⟩ (.int .i64 ((rd_T79 t654 x39_2).f1))).setCell ⟨gb662, 2, none⟩ (.int .i64 ((rd_T79 t654 x39_2).f2)))).cell? _ = some _ from hx664_0)); (try have hy664_1 := fun (n_ : Nat) => (show (((((w37.drewN n_).setCell ⟨gb662, 0, none⟩ (.int .i64 ((rd_T79 t654 x39_2).f0))).setCell ⟨gb662, 1, none⟩ (.int .i64 ((rd_T79 t654 x39_2).f1))).setCell ⟨gb662, 2, none⟩ (.int .i64 ((rd_T79 t654 x39_2).f2)))).cell? _ = some _ from hx664_1)); (try have hy664_2 := fun (n_ : Nat) => (show (((((w37.drewN n_).setCell ⟨gb662, 0, none⟩ (.int .i64 ((rd_T79 t654 x39_2).f0))).setCell ⟨gb662, 1, none⟩ (.int .i64 ((rd_T79 t654 x39_2).f1))).setCell ⟨gb662, 2, none⟩ (.int .i64 ((rd_T79 t654 x39_2).f2)))).cell? _ = some _ from hx664_2)); clear hn664_0; clear hn664_1; clear hn664_2; replace p664 := eq_true p664; replace q664 := eq_true q664) | (go_at_call 64; (with_reducible refine (spec_l1Abs.calls (wrap64 (((rd_T79 t654 x39_2).f2) - (wrap64 (2 * (wrap64 (((rd_T83 l3 x39_2).f1) + ((rd_T83 l3 x39_2).f2))))))) t665 _ A35.out).mono ?_); rintro e w' ⟨rfl, ⟨nd, rfl⟩⟩; (try first | exact ⟨rfl, _, World.drewN_drewN _ _ _⟩ | exact ⟨rfl, _, Eq.trans (World.drewN_drewN _ _ _) (congrArg (World.drewN _) (Nat.add_assoc _ _ _))⟩)) | (go_at_call 63; (with_reducible refine (spec_l1Most.calls x12_2 t665 t666 _ A36.out).mono ?_); rintro e w' ⟨rfl, ⟨nd, rfl⟩⟩; (try first | exact ⟨rfl, _, World.drewN_drewN _ _ _⟩ | exact ⟨rfl, _, Eq.trans (World.drewN_drewN _ _ _) (congrArg (World.drewN _) (Nat.add_assoc _ _ _))⟩)) | ((with_reducible refine spec_WorstLag.gq ?_); go_quiet (first | (go_at_call 64; (with_reducible refine (spec_l1Abs.calls (wrap64 (((rd_T79 t654 x39_2).f2) - (wrap64 (2 * (wrap64 (((rd_T83 l3 x39_2).f1) + ((rd_T83 l3 x39_2).f2))))))) t665 _ A35.out).mono ?_); rintro e w' ⟨rfl, ⟨nd, rfl⟩⟩; (try first | exact ⟨rfl, _, World.drewN_drewN _ _ _⟩ | exact ⟨rfl, _, Eq.trans (World.drewN_drewN _ _ _) (congrArg (World.drewN _) (Nat.add_assoc _ _ _))⟩)) | (go_at_call 63; (with_reducible refine (spec_l1Most.calls x12_2 t665 t666 _ A36.out).mono ?_); rintro e w' ⟨rfl, ⟨nd, rfl⟩⟩; (try first | exact ⟨rfl, _, World.drewN_drewN _ _ _⟩ | exact ⟨rfl, _, Eq.trans (World.drewN_drewN _ _ _) (congrArg (World.drewN _) (Nat.add_assoc _ _ _))⟩)))))
           go_roundg k2
           case measure => have := HJ4.out; have := HK2.out; omega
           case rel => exact ⟨(t666), (wrap64 (x39_2 + 1)), (by first | rfl | (simp; done) | (simp [*]; done)), (by first | rfl | (simp; done) | (simp [*]; done)), H', ⟨by have := HJ4.out; have := HK2.out; omega⟩, ⟨by (with_reducible repeat (first | apply Kd.R_alloc | apply Kd.R_drewN | apply Kd.R_drew)); exact Kd.R_mono (Kd.R_far (p := ⟨gb662, 2, none⟩) (Kd.R_far (p := ⟨gb662, 1, none⟩) (Kd.R_far (p := ⟨gb662, 0, none⟩) (Kd.R_mono HO_37.out (fun k_ hk => (⟨hk, hk.2⟩ : _ ∧ k_ ≠ gb662))) (fun _ hk => hk.2) (.int .i64 ((rd_T79 t654 x39_2).f0))) (fun _ hk => hk.2) (.int .i64 ((rd_T79 t654 x39_2).f1))) (fun _ hk => hk.2) (.int .i64 ((rd_T79 t654 x39_2).f2))) (fun _ hk => trivial)⟩, ⟨zK⟩, ⟨zK⟩, ⟨zb⟩⟩
          ·
           rw [if_neg c34] at H
           exact absurd H (by simp)
         ·
          rw [if_neg c33] at H
          exact absurd H (by simp)
        ·
         rw [if_neg c32] at H
         exact absurd H (by simp)
       ·
        rw [if_neg c31] at H
        have c31b0 : decide (x39_2 < (t654.length : Int)) = false := decide_eq_false c31
        clear c31
        simp only [Option.some.injEq, Prod.mk.injEq] at H
        obtain ⟨rfl, rfl⟩ := H
        go_wp2
        repeat (go_quiet (fail); try go_wp2)
        go_ret2
        exact ⟨zr, zb⟩
    ·
     replace c23 := Bool.eq_false_iff.mpr c23
     subst c23
     have H1 : (some (0, false)) = some (r1, r2) := by rw [if_neg (show ¬ (false = true) by decide)] at H; exact H
     clear H
     have H := H1
     clear H1
     simp only [Option.some.injEq, Prod.mk.injEq] at H
     obtain ⟨rfl, rfl⟩ := H
     have hnb41 := NB650_651.out
     have hnc41 := NB651_650.out
     obtain ⟨hcz42_0, hcz42_1, hfz42_0, hfz42_1⟩ := zc2 BK650.out
     obtain ⟨hcz43_0, hcz43_1, hcz43_2, hfz43_0, hfz43_1, hfz43_2⟩ := zc3 BK651.out
     go_wp2_with (first | (go_at_call 50; (with_reducible refine (spec_pyAll.calls kj4 _ _ l0_0 a0_1 _ _ l1 a2_0 a2_1 a2_2 t654 t657 _ ?side1 ?side2 ?side3 ?side4 A21.out).mono ?_); (case side1 => repeat (first | exact (Kd.C_below HR0_0.out HB.out) | (with_reducible refine Kd.C_alloc ?_ _) | (with_reducible refine Kd.C_drewN ?_ _) | (with_reducible refine Kd.C_drew ?_))); (case side2 => exact HC0_0.out); (case side3 => repeat (first | exact (Kd.C_below HR1.out HB.out) | (with_reducible refine Kd.C_alloc ?_ _) | (with_reducible refine Kd.C_drewN ?_ _) | (with_reducible refine Kd.C_drew ?_))); (case side4 => exact HC1.out); rintro e w44 ⟨v655, v658, rfl, ho0, ho1, hb⟩; have n0_ := zm (Kd.R_lower ho0 (below_size zb)); have n1_ := zm (Kd.R_lower ho1 (below_size zb)); have n2_ := zm (blk_below (g := gb650) zk hb); have n3_ := zm (blk_below (g := gb651) zk hb); have n4_ := zm (below_step zb hb); clear BK650; clear BK651; clear HB; have HO656 := n0_; have HO659 := n1_; have BK650 := n2_; have BK651 := n3_; have HB := n4_; clear n0_ n1_ n2_ n3_ n4_; (try clear hb); (try clear hb2); (try clear hk); (try clear hi); (try clear ho0); (try clear ho1); obtain ⟨hcz45_0, hcz45_1, hcz45_2, hfz45_0, hfz45_1, hfz45_2⟩ := zc3 BK651.out; obtain ⟨Ao46, co46, eo46⟩ := Kd.R_slice HO656.out; subst eo46) | (go_at_call 58; (with_reducible refine (spec_pyTrue.calls kj4 _ _ t654 a2_0 a2_1 a2_2 _ _ l3 false _ ?side1 ?side2 ?side3 ?side4 A22.out).mono ?_); (case side1 => repeat (first | exact (Kd.R_reads' HO656.out).2.2 | (with_reducible refine Kd.C_alloc ?_ _) | (with_reducible refine Kd.C_drewN ?_ _) | (with_reducible refine Kd.C_drew ?_))); (case side2 => exact (Kd.R_reads' HO656.out).2.1); (case side3 => repeat (first | exact (Kd.C_below HR3.out HB.out) | (with_reducible refine Kd.C_alloc ?_ _) | (with_reducible refine Kd.C_drewN ?_ _) | (with_reducible refine Kd.C_drew ?_))); (case side4 => exact HC3.out); rintro e w47 ⟨rfl, hb⟩; have n0_ := zm (Kd.R_below (by (with_reducible repeat (first | apply Kd.R_alloc | apply Kd.R_drewN | apply Kd.R_drew)); exact HO656.out) hb); have n1_ := zm (Kd.R_below (by (with_reducible repeat (first | apply Kd.R_alloc | apply Kd.R_drewN | apply Kd.R_drew)); exact HO659.out) hb); have n2_ := zm (blk_below (g := gb650) zk hb); have n3_ := zm (blk_below (g := gb651) zk hb); have n4_ := zm (below_step zb hb); clear HO656; clear HO659; clear BK650; clear BK651; clear HB; have HO656 := n0_; have HO659 := n1_; have BK650 := n2_; have BK651 := n3_; have HB := n4_; clear n0_ n1_ n2_ n3_ n4_; (try clear hb); (try clear hb2); (try clear hk); (try clear hi)) | ((with_reducible refine spec_WorstLag.gq ?_); go_quiet (first | (go_at_call 50; (with_reducible refine (spec_pyAll.calls kj4 _ _ l0_0 a0_1 _ _ l1 a2_0 a2_1 a2_2 t654 t657 _ ?side1 ?side2 ?side3 ?side4 A21.out).mono ?_); (case side1 => repeat (first | exact (Kd.C_below HR0_0.out HB.out) | (with_reducible refine Kd.C_alloc ?_ _) | (with_reducible refine Kd.C_drewN ?_ _) | (with_reducible refine Kd.C_drew ?_))); (case side2 => exact HC0_0.out); (case side3 => repeat (first | exact (Kd.C_below HR1.out HB.out) | (with_reducible refine Kd.C_alloc ?_ _) | (with_reducible refine Kd.C_drewN ?_ _) | (with_reducible refine Kd.C_drew ?_))); (case side4 => exact HC1.out); rintro e w44 ⟨v655, v658, rfl, ho0, ho1, hb⟩; have n0_ := zm (Kd.R_lower ho0 (below_size zb)); have n1_ := zm (Kd.R_lower ho1 (below_size zb)); have n2_ := zm (blk_below (g := gb650) zk hb); have n3_ := zm (blk_below (g := gb651) zk hb); have n4_ := zm (below_step zb hb); clear BK650; clear BK651; clear HB; have HO656 := n0_; have HO659 := n1_; have BK650 := n2_; have BK651 := n3_; have HB := n4_; clear n0_ n1_ n2_ n3_ n4_; (try clear hb); (try clear hb2); (try clear hk); (try clear hi); (try clear ho0); (try clear ho1); obtain ⟨hcz45_0, hcz45_1, hcz45_2, hfz45_0, hfz45_1, hfz45_2⟩ := zc3 BK651.out; obtain ⟨Ao46, co46, eo46⟩ := Kd.R_slice HO656.out; subst eo46) | (go_at_call 58; (with_reducible refine (spec_pyTrue.calls kj4 _ _ t654 a2_0 a2_1 a2_2 _ _ l3 false _ ?side1 ?side2 ?side3 ?side4 A22.out).mono ?_); (case side1 => repeat (first | exact (Kd.R_reads' HO656.out).2.2 | (with_reducible refine Kd.C_alloc ?_ _) | (with_reducible refine Kd.C_drewN ?_ _) | (with_reducible refine Kd.C_drew ?_))); (case side2 => exact (Kd.R_reads' HO656.out).2.1); (case side3 => repeat (first | exact (Kd.C_below HR3.out HB.out) | (with_reducible refine Kd.C_alloc ?_ _) | (with_reducible refine Kd.C_drewN ?_ _) | (with_reducible refine Kd.C_drew ?_))); (case side4 => exact HC3.out); rintro e w47 ⟨rfl, hb⟩; have n0_ := zm (Kd.R_below (by (with_reducible repeat (first | apply Kd.R_alloc | apply Kd.R_drewN | apply Kd.R_drew)); exact HO656.out) hb); have n1_ := zm (Kd.R_below (by (with_reducible repeat (first | apply Kd.R_alloc | apply Kd.R_drewN | apply Kd.R_drew)); exact HO659.out) hb); have n2_ := zm (blk_below (g := gb650) zk hb); have n3_ := zm (blk_below (g := gb651) zk hb); have n4_ := zm (below_step zb hb); clear HO656; clear HO659; clear BK650; clear BK651; clear HB; have HO656 := n0_; have HO659 := n1_; have BK650 := n2_; have BK651 := n3_; have HB := n4_; clear n0_ n1_ n2_ n3_ n4_; (try clear hb); (try clear hb2); (try clear hk); (try clear hi)))))
     go_ret2
     exact ⟨zr, zb⟩

/-! ### impl_distance: function 65 -/
def impl_distance.f (a0 : Int) (a1 : Int) : Option (Int) := some (mx (wrap64 (a0 - a1)) (wrap64 (a1 - a0)))
set_option maxHeartbeats 8000000 in
set_option maxRecDepth 100000 in
theorem impl_distance.calls (a0 : Int) (a1 : Int) (r : Int) (w : World) (h : impl_distance.f a0 a1 = some r) :
  Calls Try.prog 65 #[.int .i64 a0, .int .i64 a1] w fun e w' => e = .returned (.int .i64 r) ∧ Below w.heap.size w w' := by
 have HB := zm (Below.refl w.heap.size w)
 have H : (some (mx (wrap64 (a0 - a1)) (wrap64 (a1 - a0)))) = some r := h
 clear h
 obtain ⟨ji3, hji3⟩ : ∃ j_ : Int, (mx (wrap64 (a0 - a1)) (wrap64 (a1 - a0))) = j_ := ⟨_, rfl⟩
 replace H : (some ji3) = some r := by first | (rw [hji3] at H; exact H) | (simp only [hji3] at H ⊢; exact H)
 have hji3_ : (if (wrap64 (a0 - a1)) < (wrap64 (a1 - a0)) then (wrap64 (a1 - a0)) else (wrap64 (a0 - a1))) = ji3 := hji3
 obtain rfl := Option.some.inj H
 go_enter Try.func65, Try.ntmps65
 go_wp2
 go_ret
 exact ⟨by first | rfl | (simp [errW_none, errW_some] <;> rfl) | (simp only [← hji3]; first | rfl | (simp [errW_none, errW_some] <;> rfl)) | (simp [*, errW_none, errW_some] <;> rfl), zb⟩

end Go.Proofs.Ytioheacdldgaaaa.PAll
