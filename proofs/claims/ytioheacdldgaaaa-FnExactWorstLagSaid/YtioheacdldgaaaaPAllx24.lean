-- Written for this claim by a program of this session (wip/tpl/patchprint.py), not by print.sh.
import Derived.Test.YtioheacdldgaaaaPAllx0
import Derived.Test.YtioheacdldgaaaaPAllx1
import Derived.Test.YtioheacdldgaaaaPAllx2
import Derived.Test.YtioheacdldgaaaaPAllx15
import Derived.Test.YtioheacdldgaaaaPAllx17
import Derived.Test.YtioheacdldgaaaaPAllx20
import Derived.Test.YtioheacdldgaaaaPAllx22
import Derived.Test.YtioheacdldgaaaaPAllx23
namespace Go.Proofs.Ytioheacdldgaaaa.PAll
open Go.RowKit Go.Proofs.YtioheacdldgaaaaW.PrintWords Go.Proofs.YtioheacdldgaaaaW.PrintLast Go.Proofs.YtioheacdldgaaaaW.PrintMore
attribute [local go_sem] max2_int min2_int max_two min_two max_three min_three max_four min_four   -- for this text's walks alone
set_option linter.unusedVariables false
set_option linter.unusedSimpArgs false

/-! ### laws_FnExactWorstLag: function 8 -/
def laws_FnExactWorstLag.j0 : Nat → List (S75) → List (S85) → List (S73) → List (S83) → Bool → List Int → Int → List Int → Int → Option (Bool)
  | 0, _, _, _, _, _, _, _, _, _ => none
  | k + 1, x1, x3, x13, x14, x66, x684000, x684001, x708000, x708001 => if x66 = true then (some false) else ((laws_toInstrument.f k x684000 x684001).bind fun bt719 => ((laws_eqInstrument.f k x708000 x708001 bt719.1 bt719.2).bind fun t723 => (if t723 = true then ((laws_toHoleS.f k x1).bind fun t724 => ((laws_eqHoleS.f k x13 t724).bind fun t727 => (if t727 = true then ((laws_toNoteS.f k x3).bind fun t728 => ((laws_eqNoteS.f k x14 t728).bind fun t731 => (if t731 = true then (some true) else (some false)))) else (some false)))) else (some false))))
def laws_FnExactWorstLag.f (k : Nat) (l0_0 : List Int) (a0_1 : Int) (l1 : List (S75)) (a2_0 : Int) (a2_1 : Int) (a2_2 : Int) (l3 : List (S85)) : Option (Bool) := (laws_szInstrument.f l0_0 a0_1 1048576).bind fun t685 => (if t685 < 0 then (some true) else ((laws_szHoleS.f l1 t685).bind fun t686 => (if t686 < 0 then (some true) else ((laws_szNoteS.f l3 t686).bind fun t687 => (if t687 < 0 then (some true) else ((laws_toInstrument.f k l0_0 a0_1).bind fun bt688 => ((laws_toHoleS.f k l1).bind fun t692 => ((laws_toAction.f a2_0 a2_1 a2_2).bind fun bt695 => ((laws_toNoteS.f k l3).bind fun t698 => ((spec_WorstLag.f k bt688.1 bt688.2 t692 bt695.1 bt695.2.1 bt695.2.2 t698).bind fun bt701 => ((laws_toInstrument.f k l0_0 a0_1).bind fun bt703 => ((laws_toHoleS.f k l1).bind fun t708 => ((laws_toNoteS.f k l3).bind fun t711 => ((laws_toAction.f a2_0 a2_1 a2_2).bind fun bt714 => ((impl_WorstLag.f k bt703.1 bt703.2 t708 bt714.1 bt714.2.1 bt714.2.2 t711).bind fun bt717 => (if bt717.1 = bt701.1 then (laws_FnExactWorstLag.j0 k l1 l3 t708 t711 (bt717.2 != bt701.2) l0_0 a0_1 bt703.1 bt703.2) else (laws_FnExactWorstLag.j0 k l1 l3 t708 t711 true l0_0 a0_1 bt703.1 bt703.2)))))))))))))))))
theorem laws_FnExactWorstLag.mono_l : ∀ k, (∀ y0 y1 y2 y3 y4 y5 y6 y7 y8, LeO (laws_FnExactWorstLag.j0 k y0 y1 y2 y3 y4 y5 y6 y7 y8) (laws_FnExactWorstLag.j0 (k + 1) y0 y1 y2 y3 y4 y5 y6 y7 y8))
  | 0 => fun _ _ _ _ _ _ _ _ _ r h => by simp [laws_FnExactWorstLag.j0] at h
  | k + 1 => by
    have ih0 := laws_FnExactWorstLag.mono_l k
    · intro y0 y1 y2 y3 y4 y5 y6 y7 y8
      unfold laws_FnExactWorstLag.j0
      repeat' first
      | (with_reducible exact ih0 _ _ _ _ _ _ _ _ _)
      | (with_reducible exact impl_WorstLag.mono _ _ _ _ _ _ _ _)
      | (with_reducible exact laws_eqHoleS.mono _ _ _)
      | (with_reducible exact laws_eqInstrument.mono _ _ _ _ _)
      | (with_reducible exact laws_eqNoteS.mono _ _ _)
      | (with_reducible exact laws_toHoleS.mono _ _)
      | (with_reducible exact laws_toInstrument.mono _ _ _)
      | (with_reducible exact laws_toNoteS.mono _ _)
      | (with_reducible exact spec_WorstLag.mono _ _ _ _ _ _ _ _)
      | (with_reducible exact LeO.refl _)
      | (with_reducible exact LeO.none _)
      | (with_reducible refine LeO.ite ?_ ?_)
      | (with_reducible refine LeO.bind ?_ (fun _ => ?_))
      | exact ih0 _ _ _ _ _ _ _ _ _
      | exact impl_WorstLag.mono _ _ _ _ _ _ _ _
      | exact laws_eqHoleS.mono _ _ _
      | exact laws_eqInstrument.mono _ _ _ _ _
      | exact laws_eqNoteS.mono _ _ _
      | exact laws_toHoleS.mono _ _
      | exact laws_toInstrument.mono _ _ _
      | exact laws_toNoteS.mono _ _
      | exact spec_WorstLag.mono _ _ _ _ _ _ _ _
      | exact LeO.none _
      | refine LeO.ite ?_ ?_
      | refine LeO.bind ?_ (fun _ => ?_)
theorem laws_FnExactWorstLag.mono : ∀ a0 a1 a2 a3 a4 a5 a6 k, LeO (laws_FnExactWorstLag.f k a0 a1 a2 a3 a4 a5 a6) (laws_FnExactWorstLag.f (k + 1) a0 a1 a2 a3 a4 a5 a6) := by
  intro a0 a1 a2 a3 a4 a5 a6 k
  have ih0 := laws_FnExactWorstLag.mono_l k
  unfold laws_FnExactWorstLag.f
  repeat' first
      | (with_reducible exact ih0 _ _ _ _ _ _ _ _ _)
      | (with_reducible exact impl_WorstLag.mono _ _ _ _ _ _ _ _)
      | (with_reducible exact laws_eqHoleS.mono _ _ _)
      | (with_reducible exact laws_eqInstrument.mono _ _ _ _ _)
      | (with_reducible exact laws_eqNoteS.mono _ _ _)
      | (with_reducible exact laws_toHoleS.mono _ _)
      | (with_reducible exact laws_toInstrument.mono _ _ _)
      | (with_reducible exact laws_toNoteS.mono _ _)
      | (with_reducible exact spec_WorstLag.mono _ _ _ _ _ _ _ _)
      | (with_reducible exact LeO.refl _)
      | (with_reducible exact LeO.none _)
      | (with_reducible refine LeO.ite ?_ ?_)
      | (with_reducible refine LeO.bind ?_ (fun _ => ?_))
      | exact ih0 _ _ _ _ _ _ _ _ _
      | exact impl_WorstLag.mono _ _ _ _ _ _ _ _
      | exact laws_eqHoleS.mono _ _ _
      | exact laws_eqInstrument.mono _ _ _ _ _
      | exact laws_eqNoteS.mono _ _ _
      | exact laws_toHoleS.mono _ _
      | exact laws_toInstrument.mono _ _ _
      | exact laws_toNoteS.mono _ _
      | exact spec_WorstLag.mono _ _ _ _ _ _ _ _
      | exact LeO.none _
      | refine LeO.ite ?_ ?_
      | refine LeO.bind ?_ (fun _ => ?_)
def laws_FnExactWorstLag.T11 : Bool × List (List Nat × List Nat) := (true, [([], []), ([0], [0]), ([], []), ([2, 1], [2]), ([], []), ([4, 3], [4]), ([], []), ([6, 5], [6]), ([1, 3, 5, 7, 7], [1, 3, 5, 7]), ([8], [8]), ([9], [9]), ([9], [9]), ([10, 8, 0, 1, 2, 3, 4, 5, 6, 7, 8, 9, 10], [10]), ([11, 12, 0, 1, 2, 3, 4, 5, 6, 7, 8, 9, 10, 11, 12], [11])])
def laws_FnExactWorstLag.B11 : List Nat := [0, 1, 0, 7, 0, 31, 0, 127, 255, 511, 1023, 1023, 2047, 8191]
theorem laws_FnExactWorstLag.tab11 : rtab .any (opsOf Try.f8 11) = laws_FnExactWorstLag.T11 := by kernel_rfl
theorem laws_FnExactWorstLag.bits11 : waitsOk laws_FnExactWorstLag.T11.2 laws_FnExactWorstLag.B11 = true := by kernel_rfl
def laws_FnExactWorstLag.T15 : Bool × List (List Nat × List Nat) := (true, [([], []), ([], []), ([], []), ([2], [2]), ([], []), ([0, 1, 3, 4, 3], [0, 1, 3, 4]), ([5], [5]), ([6], [6]), ([6], [6]), ([7, 5, 0, 1, 2, 3, 4, 5, 6, 7], [7]), ([8, 9, 0, 1, 2, 3, 4, 5, 6, 7, 8, 9], [8])])
def laws_FnExactWorstLag.B15 : List Nat := [0, 0, 0, 4, 0, 31, 63, 127, 127, 255, 1023]
theorem laws_FnExactWorstLag.tab15 : rtab .any (opsOf Try.f8 15) = laws_FnExactWorstLag.T15 := by kernel_rfl
theorem laws_FnExactWorstLag.bits15 : waitsOk laws_FnExactWorstLag.T15.2 laws_FnExactWorstLag.B15 = true := by kernel_rfl
theorem laws_FnExactWorstLag.j0_t {k : Nat} : ∀ {a0_ a1_ a2_ a3_ a5_ a6_ a7_ a8_}, laws_FnExactWorstLag.j0 k a0_ a1_ a2_ a3_ true a5_ a6_ a7_ a8_ = some true → False := by
  intros; rename_i h; revert h; cases k <;> simp [laws_FnExactWorstLag.j0]
set_option maxHeartbeats 8000000 in
set_option maxRecDepth 100000 in
theorem laws_FnExactWorstLag.calls (k : Nat) (A0_0 : Option Addr) (c0_0 : Nat) (l0_0 : List Int) (a0_1 : Int) (A1 : Option Addr) (c1 : Nat) (l1 : List (S75)) (a2_0 : Int) (a2_1 : Int) (a2_2 : Int) (A3 : Option Addr) (c3 : Nat) (l3 : List (S85)) (r : Bool) (w : World) (hr0_0 : Kd.C (Kd.int .i64) w A0_0 l0_0.length l0_0) (hc0_0 : l0_0.length ≤ c0_0) (hr1 : Kd.C k75 w A1 l1.length l1) (hc1 : l1.length ≤ c1) (hr3 : Kd.C k85 w A3 l3.length l3) (hc3 : l3.length ≤ c3) (h : laws_FnExactWorstLag.f k l0_0 a0_1 l1 a2_0 a2_1 a2_2 l3 = some r) (hr_ : r = true) :
  Calls Try.prog 8 #[.agg #[.slice A0_0 l0_0.length c0_0, .int .i64 a0_1], .slice A1 l1.length c1, .agg #[.int .i64 a2_0, .int .i64 a2_1, .int .i64 a2_2], .slice A3 l3.length c3] w fun e w' => e = .returned (.bool r) ∧ Below w.heap.size w w' := by
 have hu24 := Try.underlying24
 have hu27 := Try.underlying27
 have hu32 := Try.underlying32
 have HR0_0 := zm hr0_0
 have HC0_0 := zm hc0_0
 clear hr0_0 hc0_0
 have HR1 := zm hr1
 have HC1 := zm hc1
 clear hr1 hc1
 have HR3 := zm hr3
 have HC3 := zm hc3
 clear hr3 hc3
 have HB := zm (Below.refl w.heap.size w)
 have H : ((laws_szInstrument.f l0_0 a0_1 1048576).bind fun t685 => (if t685 < 0 then (some true) else ((laws_szHoleS.f l1 t685).bind fun t686 => (if t686 < 0 then (some true) else ((laws_szNoteS.f l3 t686).bind fun t687 => (if t687 < 0 then (some true) else ((laws_toInstrument.f k l0_0 a0_1).bind fun bt688 => ((laws_toHoleS.f k l1).bind fun t692 => ((laws_toAction.f a2_0 a2_1 a2_2).bind fun bt695 => ((laws_toNoteS.f k l3).bind fun t698 => ((spec_WorstLag.f k bt688.1 bt688.2 t692 bt695.1 bt695.2.1 bt695.2.2 t698).bind fun bt701 => ((laws_toInstrument.f k l0_0 a0_1).bind fun bt703 => ((laws_toHoleS.f k l1).bind fun t708 => ((laws_toNoteS.f k l3).bind fun t711 => ((laws_toAction.f a2_0 a2_1 a2_2).bind fun bt714 => ((impl_WorstLag.f k bt703.1 bt703.2 t708 bt714.1 bt714.2.1 bt714.2.2 t711).bind fun bt717 => (if bt717.1 = bt701.1 then (laws_FnExactWorstLag.j0 k l1 l3 t708 t711 (bt717.2 != bt701.2) l0_0 a0_1 bt703.1 bt703.2) else (laws_FnExactWorstLag.j0 k l1 l3 t708 t711 true l0_0 a0_1 bt703.1 bt703.2)))))))))))))))))) = some r := h
 clear h
 replace H := Option.bind_eq_some_iff.mp H
 obtain ⟨t685, A50, H⟩ := H
 replace H : (if t685 < 0 then (some true) else ((laws_szHoleS.f l1 t685).bind fun t686 => (if t686 < 0 then (some true) else ((laws_szNoteS.f l3 t686).bind fun t687 => (if t687 < 0 then (some true) else ((laws_toInstrument.f k l0_0 a0_1).bind fun bt688 => ((laws_toHoleS.f k l1).bind fun t692 => ((laws_toAction.f a2_0 a2_1 a2_2).bind fun bt695 => ((laws_toNoteS.f k l3).bind fun t698 => ((spec_WorstLag.f k bt688.1 bt688.2 t692 bt695.1 bt695.2.1 bt695.2.2 t698).bind fun bt701 => ((laws_toInstrument.f k l0_0 a0_1).bind fun bt703 => ((laws_toHoleS.f k l1).bind fun t708 => ((laws_toNoteS.f k l3).bind fun t711 => ((laws_toAction.f a2_0 a2_1 a2_2).bind fun bt714 => ((impl_WorstLag.f k bt703.1 bt703.2 t708 bt714.1 bt714.2.1 bt714.2.2 t711).bind fun bt717 => (if bt717.1 = bt701.1 then (laws_FnExactWorstLag.j0 k l1 l3 t708 t711 (bt717.2 != bt701.2) l0_0 a0_1 bt703.1 bt703.2) else (laws_FnExactWorstLag.j0 k l1 l3 t708 t711 true l0_0 a0_1 bt703.1 bt703.2))))))))))))))))) = some r := H
 have A5 := zm A50
 clear A50
 by_cases c6 : t685 < 0
 ·
  rw [if_pos c6] at H
  have c6b0 : decide (t685 < 0) = true := decide_eq_true c6
  clear c6
  obtain rfl := Option.some.inj H
  go_enter Try.func8, Try.ntmps8
  go_wp2_with (first | ((with_reducible refine gate_dst (N := 4) rfl ?_); refine box_event ?hg (N := 4) ?hd (cs := #[.slice A0_0 l0_0.length c0_0, .int .i64 a0_1]) (t := 24) ?hr ?_; (case hd => rfl); (case hg => rfl); (case hr => first | (go_simp; done) | (go_simp; rfl)); intro gb683 hg w7 hbox hb; have n0_ := zm (below_step zb hb); have n1_ := zm (hbox); have n2_ := zm (zs hg zb : w.heap.size ≤ gb683); have n3_ := zm (zs hg zb : w.heap.size ≤ gb683); clear HB; have HB := n0_; have BK683 := n1_; have GW683 := n2_; have GE683 := n3_; clear n0_ n1_ n2_ n3_; clear hb hbox hg) | ((with_reducible refine gate_dst (N := 6) rfl ?_); refine box_event ?hg (N := 6) ?hd (cs := #[.int .i64 a2_0, .int .i64 a2_1, .int .i64 a2_2]) (t := 27) ?hr ?_; (case hd => rfl); (case hg => rfl); (case hr => first | (go_simp; done) | (go_simp; rfl)); intro gb684 hg w8 hbox hb; have n0_ := zm (blk_below (g := gb683) zk hb); have n1_ := zm (below_step zb hb); have n2_ := zm (hbox); have n3_ := zm (zs hg zb : w.heap.size ≤ gb684); have n4_ := zm (zs hg zb : w.heap.size ≤ gb684); have n5_ := zm (zl hg zk : gb683 ≠ gb684); have n6_ := zm (zg hg zk : gb684 ≠ gb683); clear BK683; clear HB; have BK683 := n0_; have HB := n1_; have BK684 := n2_; have GW684 := n3_; have GE684 := n4_; have NB683_684 := n5_; have NB684_683 := n6_; clear n0_ n1_ n2_ n3_ n4_ n5_ n6_; clear hb hbox hg; have hnb9 := NB683_684.out; have hnc9 := NB684_683.out; obtain ⟨hcz10_0, hcz10_1, hfz10_0, hfz10_1⟩ := zc2 BK683.out) | ((with_reducible refine gate_callee (f := 11) rfl ?_); refine goesL_ (some 19) rfl rfl Try.func11 (by kernel_rfl) rfl #[.agg #[.slice A0_0 l0_0.length c0_0, .int .i64 a0_1], .int .i64 1048576] rfl (by (try simp only [List.map_toArray, List.map_cons, List.map_nil]); first | done | rfl | (simp only [List.length_drop, List.length_take]; rfl)) ?_; (with_reducible refine (laws_szInstrument.calls _ _ l0_0 a0_1 1048576 t685 _ ?side1 ?side2 A5.out).mono ?_); (case side1 => repeat (first | exact (Kd.C_below HR0_0.out HB.out) | (with_reducible refine Kd.C_alloc ?_ _) | (with_reducible refine Kd.C_drewN ?_ _) | (with_reducible refine Kd.C_drew ?_))); (case side2 => exact HC0_0.out); rintro e w11 ⟨rfl, hb⟩; refine ⟨_, rfl, ?_⟩; have n0_ := zm (blk_below (g := gb683) zk hb); have n1_ := zm (blk_below (g := gb684) zk hb); have n2_ := zm (below_step zb hb); clear BK683; clear BK684; clear HB; have BK683 := n0_; have BK684 := n1_; have HB := n2_; clear n0_ n1_ n2_; (try clear hb); (try clear hb2); (try clear hk); (try clear hi)))
  go_ret
  exact ⟨zr, zb⟩
 ·
  rw [if_neg c6] at H
  have c6b0 : decide (t685 < 0) = false := decide_eq_false c6
  clear c6
  replace H := Option.bind_eq_some_iff.mp H
  obtain ⟨t686, A120, H⟩ := H
  replace H : (if t686 < 0 then (some true) else ((laws_szNoteS.f l3 t686).bind fun t687 => (if t687 < 0 then (some true) else ((laws_toInstrument.f k l0_0 a0_1).bind fun bt688 => ((laws_toHoleS.f k l1).bind fun t692 => ((laws_toAction.f a2_0 a2_1 a2_2).bind fun bt695 => ((laws_toNoteS.f k l3).bind fun t698 => ((spec_WorstLag.f k bt688.1 bt688.2 t692 bt695.1 bt695.2.1 bt695.2.2 t698).bind fun bt701 => ((laws_toInstrument.f k l0_0 a0_1).bind fun bt703 => ((laws_toHoleS.f k l1).bind fun t708 => ((laws_toNoteS.f k l3).bind fun t711 => ((laws_toAction.f a2_0 a2_1 a2_2).bind fun bt714 => ((impl_WorstLag.f k bt703.1 bt703.2 t708 bt714.1 bt714.2.1 bt714.2.2 t711).bind fun bt717 => (if bt717.1 = bt701.1 then (laws_FnExactWorstLag.j0 k l1 l3 t708 t711 (bt717.2 != bt701.2) l0_0 a0_1 bt703.1 bt703.2) else (laws_FnExactWorstLag.j0 k l1 l3 t708 t711 true l0_0 a0_1 bt703.1 bt703.2))))))))))))))) = some r := H
  have A12 := zm A120
  clear A120
  by_cases c13 : t686 < 0
  ·
   rw [if_pos c13] at H
   have c13b0 : decide (t686 < 0) = true := decide_eq_true c13
   clear c13
   obtain rfl := Option.some.inj H
   go_enter Try.func8, Try.ntmps8
   go_wp2_with (first | ((with_reducible refine gate_dst (N := 4) rfl ?_); refine box_event ?hg (N := 4) ?hd (cs := #[.slice A0_0 l0_0.length c0_0, .int .i64 a0_1]) (t := 24) ?hr ?_; (case hd => rfl); (case hg => rfl); (case hr => first | (go_simp; done) | (go_simp; rfl)); intro gb683 hg w14 hbox hb; have n0_ := zm (below_step zb hb); have n1_ := zm (hbox); have n2_ := zm (zs hg zb : w.heap.size ≤ gb683); have n3_ := zm (zs hg zb : w.heap.size ≤ gb683); clear HB; have HB := n0_; have BK683 := n1_; have GW683 := n2_; have GE683 := n3_; clear n0_ n1_ n2_ n3_; clear hb hbox hg) | ((with_reducible refine gate_dst (N := 6) rfl ?_); refine box_event ?hg (N := 6) ?hd (cs := #[.int .i64 a2_0, .int .i64 a2_1, .int .i64 a2_2]) (t := 27) ?hr ?_; (case hd => rfl); (case hg => rfl); (case hr => first | (go_simp; done) | (go_simp; rfl)); intro gb684 hg w15 hbox hb; have n0_ := zm (blk_below (g := gb683) zk hb); have n1_ := zm (below_step zb hb); have n2_ := zm (hbox); have n3_ := zm (zs hg zb : w.heap.size ≤ gb684); have n4_ := zm (zs hg zb : w.heap.size ≤ gb684); have n5_ := zm (zl hg zk : gb683 ≠ gb684); have n6_ := zm (zg hg zk : gb684 ≠ gb683); clear BK683; clear HB; have BK683 := n0_; have HB := n1_; have BK684 := n2_; have GW684 := n3_; have GE684 := n4_; have NB683_684 := n5_; have NB684_683 := n6_; clear n0_ n1_ n2_ n3_ n4_ n5_ n6_; clear hb hbox hg; have hnb16 := NB683_684.out; have hnc16 := NB684_683.out; obtain ⟨hcz17_0, hcz17_1, hfz17_0, hfz17_1⟩ := zc2 BK683.out) | ((with_reducible refine gate_callee (f := 11) rfl ?_); refine goesL_ (some 19) rfl rfl Try.func11 (by kernel_rfl) rfl #[.agg #[.slice A0_0 l0_0.length c0_0, .int .i64 a0_1], .int .i64 1048576] rfl (by (try simp only [List.map_toArray, List.map_cons, List.map_nil]); first | done | rfl | (simp only [List.length_drop, List.length_take]; rfl)) ?_; (with_reducible refine (laws_szInstrument.calls _ _ l0_0 a0_1 1048576 t685 _ ?side1 ?side2 A5.out).mono ?_); (case side1 => repeat (first | exact (Kd.C_below HR0_0.out HB.out) | (with_reducible refine Kd.C_alloc ?_ _) | (with_reducible refine Kd.C_drewN ?_ _) | (with_reducible refine Kd.C_drew ?_))); (case side2 => exact HC0_0.out); rintro e w18 ⟨rfl, hb⟩; refine ⟨_, rfl, ?_⟩; have n0_ := zm (blk_below (g := gb683) zk hb); have n1_ := zm (blk_below (g := gb684) zk hb); have n2_ := zm (below_step zb hb); clear BK683; clear BK684; clear HB; have BK683 := n0_; have BK684 := n1_; have HB := n2_; clear n0_ n1_ n2_; (try clear hb); (try clear hb2); (try clear hk); (try clear hi)) | ((with_reducible refine gate_callee (f := 12) rfl ?_); refine goesL_ (some 24) rfl rfl Try.func12 (by kernel_rfl) rfl #[.slice A1 l1.length c1, .int .i64 t685] rfl (by (try simp only [List.map_toArray, List.map_cons, List.map_nil]); first | done | rfl | (simp only [List.length_drop, List.length_take]; rfl)) ?_; (with_reducible refine (laws_szHoleS.calls _ _ l1 t685 t686 _ ?side1 ?side2 A12.out).mono ?_); (case side1 => repeat (first | exact (Kd.C_below HR1.out HB.out) | (with_reducible refine Kd.C_alloc ?_ _) | (with_reducible refine Kd.C_drewN ?_ _) | (with_reducible refine Kd.C_drew ?_))); (case side2 => exact HC1.out); rintro e w' ⟨rfl, ⟨nd, rfl⟩⟩; refine ⟨_, rfl, ?_⟩))
   go_ret
   exact ⟨zr, zb⟩
  ·
   rw [if_neg c13] at H
   have c13b0 : decide (t686 < 0) = false := decide_eq_false c13
   clear c13
   replace H := Option.bind_eq_some_iff.mp H
   obtain ⟨t687, A190, H⟩ := H
   replace H : (if t687 < 0 then (some true) else ((laws_toInstrument.f k l0_0 a0_1).bind fun bt688 => ((laws_toHoleS.f k l1).bind fun t692 => ((laws_toAction.f a2_0 a2_1 a2_2).bind fun bt695 => ((laws_toNoteS.f k l3).bind fun t698 => ((spec_WorstLag.f k bt688.1 bt688.2 t692 bt695.1 bt695.2.1 bt695.2.2 t698).bind fun bt701 => ((laws_toInstrument.f k l0_0 a0_1).bind fun bt703 => ((laws_toHoleS.f k l1).bind fun t708 => ((laws_toNoteS.f k l3).bind fun t711 => ((laws_toAction.f a2_0 a2_1 a2_2).bind fun bt714 => ((impl_WorstLag.f k bt703.1 bt703.2 t708 bt714.1 bt714.2.1 bt714.2.2 t711).bind fun bt717 => (if bt717.1 = bt701.1 then (laws_FnExactWorstLag.j0 k l1 l3 t708 t711 (bt717.2 != bt701.2) l0_0 a0_1 bt703.1 bt703.2) else (laws_FnExactWorstLag.j0 k l1 l3 t708 t711 true l0_0 a0_1 bt703.1 bt703.2))))))))))))) = some r := H
   have A19 := zm A190
   clear A190
   by_cases c20 : t687 < 0
   ·
    rw [if_pos c20] at H
    have c20b0 : decide (t687 < 0) = true := decide_eq_true c20
    clear c20
    obtain rfl := Option.some.inj H
    go_enter Try.func8, Try.ntmps8
    go_wp2_with (first | ((with_reducible refine gate_dst (N := 4) rfl ?_); refine box_event ?hg (N := 4) ?hd (cs := #[.slice A0_0 l0_0.length c0_0, .int .i64 a0_1]) (t := 24) ?hr ?_; (case hd => rfl); (case hg => rfl); (case hr => first | (go_simp; done) | (go_simp; rfl)); intro gb683 hg w21 hbox hb; have n0_ := zm (below_step zb hb); have n1_ := zm (hbox); have n2_ := zm (zs hg zb : w.heap.size ≤ gb683); have n3_ := zm (zs hg zb : w.heap.size ≤ gb683); clear HB; have HB := n0_; have BK683 := n1_; have GW683 := n2_; have GE683 := n3_; clear n0_ n1_ n2_ n3_; clear hb hbox hg) | ((with_reducible refine gate_dst (N := 6) rfl ?_); refine box_event ?hg (N := 6) ?hd (cs := #[.int .i64 a2_0, .int .i64 a2_1, .int .i64 a2_2]) (t := 27) ?hr ?_; (case hd => rfl); (case hg => rfl); (case hr => first | (go_simp; done) | (go_simp; rfl)); intro gb684 hg w22 hbox hb; have n0_ := zm (blk_below (g := gb683) zk hb); have n1_ := zm (below_step zb hb); have n2_ := zm (hbox); have n3_ := zm (zs hg zb : w.heap.size ≤ gb684); have n4_ := zm (zs hg zb : w.heap.size ≤ gb684); have n5_ := zm (zl hg zk : gb683 ≠ gb684); have n6_ := zm (zg hg zk : gb684 ≠ gb683); clear BK683; clear HB; have BK683 := n0_; have HB := n1_; have BK684 := n2_; have GW684 := n3_; have GE684 := n4_; have NB683_684 := n5_; have NB684_683 := n6_; clear n0_ n1_ n2_ n3_ n4_ n5_ n6_; clear hb hbox hg; have hnb23 := NB683_684.out; have hnc23 := NB684_683.out; obtain ⟨hcz24_0, hcz24_1, hfz24_0, hfz24_1⟩ := zc2 BK683.out) | ((with_reducible refine gate_callee (f := 11) rfl ?_); refine goesL_ (some 19) rfl rfl Try.func11 (by kernel_rfl) rfl #[.agg #[.slice A0_0 l0_0.length c0_0, .int .i64 a0_1], .int .i64 1048576] rfl (by (try simp only [List.map_toArray, List.map_cons, List.map_nil]); first | done | rfl | (simp only [List.length_drop, List.length_take]; rfl)) ?_; (with_reducible refine (laws_szInstrument.calls _ _ l0_0 a0_1 1048576 t685 _ ?side1 ?side2 A5.out).mono ?_); (case side1 => repeat (first | exact (Kd.C_below HR0_0.out HB.out) | (with_reducible refine Kd.C_alloc ?_ _) | (with_reducible refine Kd.C_drewN ?_ _) | (with_reducible refine Kd.C_drew ?_))); (case side2 => exact HC0_0.out); rintro e w25 ⟨rfl, hb⟩; refine ⟨_, rfl, ?_⟩; have n0_ := zm (blk_below (g := gb683) zk hb); have n1_ := zm (blk_below (g := gb684) zk hb); have n2_ := zm (below_step zb hb); clear BK683; clear BK684; clear HB; have BK683 := n0_; have BK684 := n1_; have HB := n2_; clear n0_ n1_ n2_; (try clear hb); (try clear hb2); (try clear hk); (try clear hi)) | ((with_reducible refine gate_callee (f := 12) rfl ?_); refine goesL_ (some 24) rfl rfl Try.func12 (by kernel_rfl) rfl #[.slice A1 l1.length c1, .int .i64 t685] rfl (by (try simp only [List.map_toArray, List.map_cons, List.map_nil]); first | done | rfl | (simp only [List.length_drop, List.length_take]; rfl)) ?_; (with_reducible refine (laws_szHoleS.calls _ _ l1 t685 t686 _ ?side1 ?side2 A12.out).mono ?_); (case side1 => repeat (first | exact (Kd.C_below HR1.out HB.out) | (with_reducible refine Kd.C_alloc ?_ _) | (with_reducible refine Kd.C_drewN ?_ _) | (with_reducible refine Kd.C_drew ?_))); (case side2 => exact HC1.out); rintro e w' ⟨rfl, ⟨nd, rfl⟩⟩; refine ⟨_, rfl, ?_⟩) | ((with_reducible refine gate_callee (f := 37) rfl ?_); refine goesL_ (some 29) rfl rfl Try.func37 (by kernel_rfl) rfl #[.slice A3 l3.length c3, .int .i64 t686] rfl (by (try simp only [List.map_toArray, List.map_cons, List.map_nil]); first | done | rfl | (simp only [List.length_drop, List.length_take]; rfl)) ?_; (with_reducible refine (laws_szNoteS.calls _ _ l3 t686 t687 _ ?side1 ?side2 A19.out).mono ?_); (case side1 => repeat (first | exact (Kd.C_below HR3.out zb) | (with_reducible refine Kd.C_alloc ?_ _) | (with_reducible refine Kd.C_drewN ?_ _) | (with_reducible refine Kd.C_drew ?_))); (case side2 => exact HC3.out); rintro e w' ⟨rfl, ⟨nd, rfl⟩⟩; refine ⟨_, rfl, ?_⟩))
    go_ret
    exact ⟨zr, zb⟩
   ·
    rw [if_neg c20] at H
    have c20b0 : decide (t687 < 0) = false := decide_eq_false c20
    clear c20
    replace H := Option.bind_eq_some_iff.mp H
    obtain ⟨⟨t688, t691⟩, A260, H⟩ := H
    replace H : ((laws_toHoleS.f k l1).bind fun t692 => ((laws_toAction.f a2_0 a2_1 a2_2).bind fun bt695 => ((laws_toNoteS.f k l3).bind fun t698 => ((spec_WorstLag.f k t688 t691 t692 bt695.1 bt695.2.1 bt695.2.2 t698).bind fun bt701 => ((laws_toInstrument.f k l0_0 a0_1).bind fun bt703 => ((laws_toHoleS.f k l1).bind fun t708 => ((laws_toNoteS.f k l3).bind fun t711 => ((laws_toAction.f a2_0 a2_1 a2_2).bind fun bt714 => ((impl_WorstLag.f k bt703.1 bt703.2 t708 bt714.1 bt714.2.1 bt714.2.2 t711).bind fun bt717 => (if bt717.1 = bt701.1 then (laws_FnExactWorstLag.j0 k l1 l3 t708 t711 (bt717.2 != bt701.2) l0_0 a0_1 bt703.1 bt703.2) else (laws_FnExactWorstLag.j0 k l1 l3 t708 t711 true l0_0 a0_1 bt703.1 bt703.2))))))))))) = some r := H
    have A26 := zm A260
    clear A260
    replace H := Option.bind_eq_some_iff.mp H
    obtain ⟨t692, A270, H⟩ := H
    replace H : ((laws_toAction.f a2_0 a2_1 a2_2).bind fun bt695 => ((laws_toNoteS.f k l3).bind fun t698 => ((spec_WorstLag.f k t688 t691 t692 bt695.1 bt695.2.1 bt695.2.2 t698).bind fun bt701 => ((laws_toInstrument.f k l0_0 a0_1).bind fun bt703 => ((laws_toHoleS.f k l1).bind fun t708 => ((laws_toNoteS.f k l3).bind fun t711 => ((laws_toAction.f a2_0 a2_1 a2_2).bind fun bt714 => ((impl_WorstLag.f k bt703.1 bt703.2 t708 bt714.1 bt714.2.1 bt714.2.2 t711).bind fun bt717 => (if bt717.1 = bt701.1 then (laws_FnExactWorstLag.j0 k l1 l3 t708 t711 (bt717.2 != bt701.2) l0_0 a0_1 bt703.1 bt703.2) else (laws_FnExactWorstLag.j0 k l1 l3 t708 t711 true l0_0 a0_1 bt703.1 bt703.2)))))))))) = some r := H
    have A27 := zm A270
    clear A270
    replace H := Option.bind_eq_some_iff.mp H
    obtain ⟨⟨t695, t696, t697⟩, A280, H⟩ := H
    replace H : ((laws_toNoteS.f k l3).bind fun t698 => ((spec_WorstLag.f k t688 t691 t692 t695 t696 t697 t698).bind fun bt701 => ((laws_toInstrument.f k l0_0 a0_1).bind fun bt703 => ((laws_toHoleS.f k l1).bind fun t708 => ((laws_toNoteS.f k l3).bind fun t711 => ((laws_toAction.f a2_0 a2_1 a2_2).bind fun bt714 => ((impl_WorstLag.f k bt703.1 bt703.2 t708 bt714.1 bt714.2.1 bt714.2.2 t711).bind fun bt717 => (if bt717.1 = bt701.1 then (laws_FnExactWorstLag.j0 k l1 l3 t708 t711 (bt717.2 != bt701.2) l0_0 a0_1 bt703.1 bt703.2) else (laws_FnExactWorstLag.j0 k l1 l3 t708 t711 true l0_0 a0_1 bt703.1 bt703.2))))))))) = some r := H
    have A28 := zm A280
    clear A280
    replace H := Option.bind_eq_some_iff.mp H
    obtain ⟨t698, A290, H⟩ := H
    replace H : ((spec_WorstLag.f k t688 t691 t692 t695 t696 t697 t698).bind fun bt701 => ((laws_toInstrument.f k l0_0 a0_1).bind fun bt703 => ((laws_toHoleS.f k l1).bind fun t708 => ((laws_toNoteS.f k l3).bind fun t711 => ((laws_toAction.f a2_0 a2_1 a2_2).bind fun bt714 => ((impl_WorstLag.f k bt703.1 bt703.2 t708 bt714.1 bt714.2.1 bt714.2.2 t711).bind fun bt717 => (if bt717.1 = bt701.1 then (laws_FnExactWorstLag.j0 k l1 l3 t708 t711 (bt717.2 != bt701.2) l0_0 a0_1 bt703.1 bt703.2) else (laws_FnExactWorstLag.j0 k l1 l3 t708 t711 true l0_0 a0_1 bt703.1 bt703.2)))))))) = some r := H
    have A29 := zm A290
    clear A290
    replace H := Option.bind_eq_some_iff.mp H
    obtain ⟨⟨t701, t702⟩, A300, H⟩ := H
    replace H : ((laws_toInstrument.f k l0_0 a0_1).bind fun bt703 => ((laws_toHoleS.f k l1).bind fun t708 => ((laws_toNoteS.f k l3).bind fun t711 => ((laws_toAction.f a2_0 a2_1 a2_2).bind fun bt714 => ((impl_WorstLag.f k bt703.1 bt703.2 t708 bt714.1 bt714.2.1 bt714.2.2 t711).bind fun bt717 => (if bt717.1 = t701 then (laws_FnExactWorstLag.j0 k l1 l3 t708 t711 (bt717.2 != t702) l0_0 a0_1 bt703.1 bt703.2) else (laws_FnExactWorstLag.j0 k l1 l3 t708 t711 true l0_0 a0_1 bt703.1 bt703.2))))))) = some r := H
    have A30 := zm A300
    clear A300
    replace H := Option.bind_eq_some_iff.mp H
    obtain ⟨⟨t703, t706⟩, A310, H⟩ := H
    replace H : ((laws_toHoleS.f k l1).bind fun t708 => ((laws_toNoteS.f k l3).bind fun t711 => ((laws_toAction.f a2_0 a2_1 a2_2).bind fun bt714 => ((impl_WorstLag.f k t703 t706 t708 bt714.1 bt714.2.1 bt714.2.2 t711).bind fun bt717 => (if bt717.1 = t701 then (laws_FnExactWorstLag.j0 k l1 l3 t708 t711 (bt717.2 != t702) l0_0 a0_1 t703 t706) else (laws_FnExactWorstLag.j0 k l1 l3 t708 t711 true l0_0 a0_1 t703 t706)))))) = some r := H
    have A31 := zm A310
    clear A310
    replace H := Option.bind_eq_some_iff.mp H
    obtain ⟨t708, A320, H⟩ := H
    replace H : ((laws_toNoteS.f k l3).bind fun t711 => ((laws_toAction.f a2_0 a2_1 a2_2).bind fun bt714 => ((impl_WorstLag.f k t703 t706 t708 bt714.1 bt714.2.1 bt714.2.2 t711).bind fun bt717 => (if bt717.1 = t701 then (laws_FnExactWorstLag.j0 k l1 l3 t708 t711 (bt717.2 != t702) l0_0 a0_1 t703 t706) else (laws_FnExactWorstLag.j0 k l1 l3 t708 t711 true l0_0 a0_1 t703 t706))))) = some r := H
    have A32 := zm A320
    clear A320
    replace H := Option.bind_eq_some_iff.mp H
    obtain ⟨t711, A330, H⟩ := H
    replace H : ((laws_toAction.f a2_0 a2_1 a2_2).bind fun bt714 => ((impl_WorstLag.f k t703 t706 t708 bt714.1 bt714.2.1 bt714.2.2 t711).bind fun bt717 => (if bt717.1 = t701 then (laws_FnExactWorstLag.j0 k l1 l3 t708 t711 (bt717.2 != t702) l0_0 a0_1 t703 t706) else (laws_FnExactWorstLag.j0 k l1 l3 t708 t711 true l0_0 a0_1 t703 t706)))) = some r := H
    have A33 := zm A330
    clear A330
    replace H := Option.bind_eq_some_iff.mp H
    obtain ⟨⟨t714, t715, t716⟩, A340, H⟩ := H
    replace H : ((impl_WorstLag.f k t703 t706 t708 t714 t715 t716 t711).bind fun bt717 => (if bt717.1 = t701 then (laws_FnExactWorstLag.j0 k l1 l3 t708 t711 (bt717.2 != t702) l0_0 a0_1 t703 t706) else (laws_FnExactWorstLag.j0 k l1 l3 t708 t711 true l0_0 a0_1 t703 t706))) = some r := H
    have A34 := zm A340
    clear A340
    replace H := Option.bind_eq_some_iff.mp H
    obtain ⟨⟨t717, t718⟩, A350, H⟩ := H
    replace H : (if t717 = t701 then (laws_FnExactWorstLag.j0 k l1 l3 t708 t711 (t718 != t702) l0_0 a0_1 t703 t706) else (laws_FnExactWorstLag.j0 k l1 l3 t708 t711 true l0_0 a0_1 t703 t706)) = some r := H
    have A35 := zm A350
    clear A350
    have HC36 := zm H
    clear H
    go_enter Try.func8, Try.ntmps8
    try go_wp2_with (first | ((with_reducible refine gate_dst (N := 4) rfl ?_); refine box_event ?hg (N := 4) ?hd (cs := #[.slice A0_0 l0_0.length c0_0, .int .i64 a0_1]) (t := 24) ?hr ?_; (case hd => rfl); (case hg => rfl); (case hr => first | (go_simp; done) | (go_simp; rfl)); intro gb683 hg w37 hbox hb; have n0_ := zm (below_step zb hb); have n1_ := zm (hbox); have n2_ := zm (zs hg zb : w.heap.size ≤ gb683); have n3_ := zm (zs hg zb : w.heap.size ≤ gb683); clear HB; have HB := n0_; have BK683 := n1_; have GW683 := n2_; have GE683 := n3_; clear n0_ n1_ n2_ n3_; clear hb hbox hg) | ((with_reducible refine gate_dst (N := 6) rfl ?_); refine box_event ?hg (N := 6) ?hd (cs := #[.int .i64 a2_0, .int .i64 a2_1, .int .i64 a2_2]) (t := 27) ?hr ?_; (case hd => rfl); (case hg => rfl); (case hr => first | (go_simp; done) | (go_simp; rfl)); intro gb684 hg w38 hbox hb; have n0_ := zm (blk_below (g := gb683) zk hb); have n1_ := zm (below_step zb hb); have n2_ := zm (hbox); have n3_ := zm (zs hg zb : w.heap.size ≤ gb684); have n4_ := zm (zs hg zb : w.heap.size ≤ gb684); have n5_ := zm (zl hg zk : gb683 ≠ gb684); have n6_ := zm (zg hg zk : gb684 ≠ gb683); clear BK683; clear HB; have BK683 := n0_; have HB := n1_; have BK684 := n2_; have GW684 := n3_; have GE684 := n4_; have NB683_684 := n5_; have NB684_683 := n6_; clear n0_ n1_ n2_ n3_ n4_ n5_ n6_; clear hb hbox hg; have hnb39 := NB683_684.out; have hnc39 := NB684_683.out; obtain ⟨hcz40_0, hcz40_1, hfz40_0, hfz40_1⟩ := zc2 BK683.out) | ((with_reducible refine gate_callee (f := 11) rfl ?_); refine goesL_ (some 19) rfl rfl Try.func11 (by kernel_rfl) rfl #[.agg #[.slice A0_0 l0_0.length c0_0, .int .i64 a0_1], .int .i64 1048576] rfl (by (try simp only [List.map_toArray, List.map_cons, List.map_nil]); first | done | rfl | (simp only [List.length_drop, List.length_take]; rfl)) ?_; (with_reducible refine (laws_szInstrument.calls _ _ l0_0 a0_1 1048576 t685 _ ?side1 ?side2 A5.out).mono ?_); (case side1 => repeat (first | exact (Kd.C_below HR0_0.out HB.out) | (with_reducible refine Kd.C_alloc ?_ _) | (with_reducible refine Kd.C_drewN ?_ _) | (with_reducible refine Kd.C_drew ?_))); (case side2 => exact HC0_0.out); rintro e w41 ⟨rfl, hb⟩; refine ⟨_, rfl, ?_⟩; have n0_ := zm (blk_below (g := gb683) zk hb); have n1_ := zm (blk_below (g := gb684) zk hb); have n2_ := zm (below_step zb hb); clear BK683; clear BK684; clear HB; have BK683 := n0_; have BK684 := n1_; have HB := n2_; clear n0_ n1_ n2_; (try clear hb); (try clear hb2); (try clear hk); (try clear hi)) | ((with_reducible refine gate_callee (f := 12) rfl ?_); refine goesL_ (some 24) rfl rfl Try.func12 (by kernel_rfl) rfl #[.slice A1 l1.length c1, .int .i64 t685] rfl (by (try simp only [List.map_toArray, List.map_cons, List.map_nil]); first | done | rfl | (simp only [List.length_drop, List.length_take]; rfl)) ?_; (with_reducible refine (laws_szHoleS.calls _ _ l1 t685 t686 _ ?side1 ?side2 A12.out).mono ?_); (case side1 => repeat (first | exact (Kd.C_below HR1.out HB.out) | (with_reducible refine Kd.C_alloc ?_ _) | (with_reducible refine Kd.C_drewN ?_ _) | (with_reducible refine Kd.C_drew ?_))); (case side2 => exact HC1.out); rintro e w' ⟨rfl, ⟨nd, rfl⟩⟩; refine ⟨_, rfl, ?_⟩; (try (rw [drewN_self w41]; generalize hq_ : World.drewN w41 _ = w41; have n0_ : Aside0 (w41.heap[gb683]? = some (.cells #[.slice A0_0 l0_0.length c0_0, .int .i64 a0_1] 24 (0, 0))) := ⟨by rw [← hq_]; exact zk⟩; have n1_ : Aside0 (w41.heap[gb684]? = some (.cells #[.int .i64 a2_0, .int .i64 a2_1, .int .i64 a2_2] 27 (0, 0))) := ⟨by rw [← hq_]; exact zk⟩; have n2_ : Aside0 (Below w.heap.size w w41) := ⟨by rw [← hq_]; exact zb⟩; clear BK683 BK684 HB hq_; have BK683 := n0_; have BK684 := n1_; have HB := n2_; clear n0_ n1_ n2_))) | ((with_reducible refine gate_callee (f := 37) rfl ?_); refine goesL_ (some 29) rfl rfl Try.func37 (by kernel_rfl) rfl #[.slice A3 l3.length c3, .int .i64 t686] rfl (by (try simp only [List.map_toArray, List.map_cons, List.map_nil]); first | done | rfl | (simp only [List.length_drop, List.length_take]; rfl)) ?_; (with_reducible refine (laws_szNoteS.calls _ _ l3 t686 t687 _ ?side1 ?side2 A19.out).mono ?_); (case side1 => repeat (first | exact (Kd.C_below HR3.out HB.out) | (with_reducible refine Kd.C_alloc ?_ _) | (with_reducible refine Kd.C_drewN ?_ _) | (with_reducible refine Kd.C_drew ?_))); (case side2 => exact HC3.out); rintro e w' ⟨rfl, ⟨nd, rfl⟩⟩; refine ⟨_, rfl, ?_⟩; (try (rw [drewN_self w41]; generalize hq_ : World.drewN w41 _ = w41; have n0_ : Aside0 (w41.heap[gb683]? = some (.cells #[.slice A0_0 l0_0.length c0_0, .int .i64 a0_1] 24 (0, 0))) := ⟨by rw [← hq_]; exact zk⟩; have n1_ : Aside0 (w41.heap[gb684]? = some (.cells #[.int .i64 a2_0, .int .i64 a2_1, .int .i64 a2_2] 27 (0, 0))) := ⟨by rw [← hq_]; exact zk⟩; have n2_ : Aside0 (Below w.heap.size w w41) := ⟨by rw [← hq_]; exact zb⟩; clear BK683 BK684 HB hq_; have BK683 := n0_; have BK684 := n1_; have HB := n2_; clear n0_ n1_ n2_))))
    have n0_ := zm (blk_drew BK683.out)
    have n1_ := zm (blk_drew BK684.out)
    have n2_ := zm (below_drew1 HB.out)
    clear BK683
    clear BK684
    clear HB
    have BK683 := n0_
    have BK684 := n1_
    have HB := n2_
    clear n0_ n1_ n2_
    refine start_ (n := 14) (S := fun w' => w'.cell? ⟨gb683, 0, none⟩ = some (.slice A0_0 l0_0.length c0_0) ∧ w'.cell? ⟨gb683, 1, none⟩ = some (.int .i64 a0_1) ∧ w'.cell? ⟨gb684, 0, none⟩ = some (.int .i64 a2_0) ∧ w'.cell? ⟨gb684, 1, none⟩ = some (.int .i64 a2_1) ∧ w'.cell? ⟨gb684, 2, none⟩ = some (.int .i64 a2_2)) (ds := []) #[false, false, false, false, false, false, false, false, false, false, false, false, false, false] (by kernel_rfl) rfl rfl ⟨(blk_cell BK683.out 0).trans rfl, (blk_cell BK683.out 1).trans rfl, (blk_cell BK684.out 0).trans rfl, (blk_cell BK684.out 1).trans rfl, (blk_cell BK684.out 2).trans rfl⟩ (fun hHeld => ?_); refine with_tabW laws_FnExactWorstLag.tab11 laws_FnExactWorstLag.bits11 (fun HT_ HW_ => ?_)
    generalize w41.drew = w42 at BK683 BK684 HB hHeld ⊢
    refine pure_ (i := 2) (N := some 35) (v := ?_) (a' := ?_) #[false, false, true, false, false, false, false, false, false, false, false, false, false, false] rfl rfl (any_of HT_.out (by kernel_rfl)) (fun _ _ _ h => h) (Or.inl ⟨by rfl, ?_⟩) ?_ ?_
    rotate_left
    ·
     intro w'
     go_simp
     with_reducible rfl
    rotate_left
    ·
     simp only [Act.put, zA, zB, zD, i64_w, i32_w]
     rfl
    refine pure_ (i := 6) (N := some 39) (v := ?_) (a' := ?_) #[false, false, true, false, false, false, true, false, false, false, false, false, false, false] rfl rfl (any_of HT_.out (by kernel_rfl)) (fun _ _ _ h => h) (Or.inl ⟨by rfl, ?_⟩) ?_ ?_
    rotate_left
    ·
     intro w'
     go_simp
     with_reducible rfl
    rotate_left
    ·
     simp only [Act.put, zA, zB, zD, i64_w, i32_w]
     rfl
    refine take_ (i := 0) (N := some 33) (v := ?_) (a' := ?_) #[true, false, true, false, false, false, true, false, false, false, false, false, false, false] rfl rfl (take_ofW HT_.out HW_.out (by kernel_rfl)) (fun _ _ _ h => h) (Or.inl ⟨by rfl, ?_⟩) hHeld ?_ ?_
    rotate_left
    ·
     rintro w' ⟨s0, s1, s2, s3, s4⟩
     go_simp
     with_reducible rfl
    rotate_left
    ·
     simp only [Act.put, zA, zB, zD, i64_w, i32_w]
     rfl
    refine take_ (i := 4) (N := some 37) (v := ?_) (a' := ?_) #[true, false, true, false, true, false, true, false, false, false, false, false, false, false] rfl rfl (take_ofW HT_.out HW_.out (by kernel_rfl)) (fun _ _ _ h => h) (Or.inl ⟨by rfl, ?_⟩) hHeld ?_ ?_
    rotate_left
    ·
     rintro w' ⟨s0, s1, s2, s3, s4⟩
     go_simp
     with_reducible rfl
    rotate_left
    ·
     simp only [Act.put, zA, zB, zD, i64_w, i32_w]
     rfl
    refine one_ (i := 1) (N := some 34) #[true, true, true, false, true, false, true, false, false, false, false, false, false, false] rfl rfl (one_of HT_.out (by kernel_rfl)) (by decide) (fun K hK => ?_)
    refine goes_ Try.func14 (by kernel_rfl) rfl #[.agg #[.slice A0_0 l0_0.length c0_0, .int .i64 a0_1]] (by rfl) rfl rfl (by (try simp only [List.map_toArray, List.map_cons, List.map_nil]); first | done | rfl | (simp only [List.length_drop, List.length_take]; rfl)) ?_
    with_reducible refine (laws_toInstrument.calls k _ _ l0_0 a0_1 t688 t691 _ ?side1 ?side2 A26.out).mono ?_
    (case side1 => repeat (first | exact (Kd.C_below HR0_0.out HB.out) | (with_reducible refine Kd.C_alloc ?_ _) | (with_reducible refine Kd.C_drewN ?_ _) | (with_reducible refine Kd.C_drew ?_)))
    (case side2 => exact HC0_0.out)
    rintro e w43 ⟨v689, rfl, ho0, hb⟩
    refine ⟨_, rfl, ?_⟩
    have n0_ := zm (Kd.R_lower ho0 (below_size zb))
    have n1_ := zm (blk_below (g := gb683) zk hb)
    have n2_ := zm (blk_below (g := gb684) zk hb)
    have n3_ := zm (below_step zb hb)
    clear BK683
    clear BK684
    clear HB
    have HO690 := n0_
    have BK683 := n1_
    have BK684 := n2_
    have HB := n3_
    clear n0_ n1_ n2_ n3_
    (try clear hb)
    (try clear hb2)
    (try clear hk)
    (try clear hi)
    (try clear ho0)
    refine hK.out _ _ ⟨(blk_cell BK683.out 0).trans rfl, (blk_cell BK683.out 1).trans rfl, (blk_cell BK684.out 0).trans rfl, (blk_cell BK684.out 1).trans rfl, (blk_cell BK684.out 2).trans rfl⟩ (fun hHeld => ?_)
    clear hK K
    refine norm_ (a' := ?_) ?_ ?_
    rotate_left
    ·
     show Act.put _ (some 34) _ = _
     simp only [Act.put, zA, zB, zD, i64_w, i32_w]
     rfl
    refine one_ (i := 3) (N := some 36) #[true, true, true, true, true, false, true, false, false, false, false, false, false, false] rfl rfl (one_of HT_.out (by kernel_rfl)) (by decide) (fun K hK => ?_)
    refine goes_ Try.func15 (by kernel_rfl) rfl #[.slice A1 l1.length c1] (by rfl) rfl rfl (by (try simp only [List.map_toArray, List.map_cons, List.map_nil]); first | done | rfl | (simp only [List.length_drop, List.length_take]; rfl)) ?_
    with_reducible refine (laws_toHoleS.calls k _ _ l1 t692 _ ?side1 ?side2 A27.out).mono ?_
    (case side1 => repeat (first | exact (Kd.C_below HR1.out HB.out) | (with_reducible refine Kd.C_alloc ?_ _) | (with_reducible refine Kd.C_drewN ?_ _) | (with_reducible refine Kd.C_drew ?_)))
    (case side2 => exact HC1.out)
    rintro e w44 ⟨v693, rfl, ho0, hb⟩
    refine ⟨_, rfl, ?_⟩
    have n0_ := zm (Kd.R_below (by (with_reducible repeat (first | apply Kd.R_alloc | apply Kd.R_drewN | apply Kd.R_drew)); exact HO690.out) hb)
    have n1_ := zm (Kd.R_lower ho0 (below_size zb))
    have n2_ := zm (blk_below (g := gb683) zk hb)
    have n3_ := zm (blk_below (g := gb684) zk hb)
    have n4_ := zm (below_step zb hb)
    clear HO690
    clear BK683
    clear BK684
    clear HB
    have HO690 := n0_
    have HO694 := n1_
    have BK683 := n2_
    have BK684 := n3_
    have HB := n4_
    clear n0_ n1_ n2_ n3_ n4_
    (try clear hb)
    (try clear hb2)
    (try clear hk)
    (try clear hi)
    (try clear ho0)
    refine hK.out _ _ ⟨(blk_cell BK683.out 0).trans rfl, (blk_cell BK683.out 1).trans rfl, (blk_cell BK684.out 0).trans rfl, (blk_cell BK684.out 1).trans rfl, (blk_cell BK684.out 2).trans rfl⟩ (fun hHeld => ?_)
    clear hK K
    refine norm_ (a' := ?_) ?_ ?_
    rotate_left
    ·
     show Act.put _ (some 36) _ = _
     simp only [Act.put, zA, zB, zD, i64_w, i32_w]
     rfl
    refine one_ (i := 5) (N := some 38) #[true, true, true, true, true, true, true, false, false, false, false, false, false, false] rfl rfl (one_of HT_.out (by kernel_rfl)) (by decide) (fun K hK => ?_)
    refine goes_ Try.func16 (by kernel_rfl) rfl #[.agg #[.int .i64 a2_0, .int .i64 a2_1, .int .i64 a2_2]] (by rfl) rfl rfl (by (try simp only [List.map_toArray, List.map_cons, List.map_nil]); first | done | rfl | (simp only [List.length_drop, List.length_take]; rfl)) ?_
    with_reducible refine (laws_toAction.calls a2_0 a2_1 a2_2 t695 t696 t697 _ A28.out).mono ?_
    rintro e w45 ⟨rfl, hb⟩
    refine ⟨_, rfl, ?_⟩
    have n0_ := zm (Kd.R_below (by (with_reducible repeat (first | apply Kd.R_alloc | apply Kd.R_drewN | apply Kd.R_drew)); exact HO690.out) hb)
    have n1_ := zm (Kd.R_below (by (with_reducible repeat (first | apply Kd.R_alloc | apply Kd.R_drewN | apply Kd.R_drew)); exact HO694.out) hb)
    have n2_ := zm (blk_below (g := gb683) zk hb)
    have n3_ := zm (blk_below (g := gb684) zk hb)
    have n4_ := zm (below_step zb hb)
    clear HO690
    clear HO694
    clear BK683
    clear BK684
    clear HB
    have HO690 := n0_
    have HO694 := n1_
    have BK683 := n2_
    have BK684 := n3_
    have HB := n4_
    clear n0_ n1_ n2_ n3_ n4_
    (try clear hb)
    (try clear hb2)
    (try clear hk)
    (try clear hi)
    refine hK.out _ _ ⟨(blk_cell BK683.out 0).trans rfl, (blk_cell BK683.out 1).trans rfl, (blk_cell BK684.out 0).trans rfl, (blk_cell BK684.out 1).trans rfl, (blk_cell BK684.out 2).trans rfl⟩ (fun hHeld => ?_)
    clear hK K
    refine norm_ (a' := ?_) ?_ ?_
    rotate_left
    ·
     show Act.put _ (some 38) _ = _
     simp only [Act.put, zA, zB, zD, i64_w, i32_w]
     rfl
    refine one_ (i := 7) (N := some 40) #[true, true, true, true, true, true, true, true, false, false, false, false, false, false] rfl rfl (one_of HT_.out (by kernel_rfl)) (by decide) (fun K hK => ?_)
    refine goes_ Try.func39 (by kernel_rfl) rfl #[.slice A3 l3.length c3] (by rfl) rfl rfl (by (try simp only [List.map_toArray, List.map_cons, List.map_nil]); first | done | rfl | (simp only [List.length_drop, List.length_take]; rfl)) ?_
    with_reducible refine (laws_toNoteS.calls k _ _ l3 t698 _ ?side1 ?side2 A29.out).mono ?_
    (case side1 => repeat (first | exact (Kd.C_below HR3.out HB.out) | (with_reducible refine Kd.C_alloc ?_ _) | (with_reducible refine Kd.C_drewN ?_ _) | (with_reducible refine Kd.C_drew ?_)))
    (case side2 => exact HC3.out)
    rintro e w46 ⟨v699, rfl, ho0, hb⟩
    refine ⟨_, rfl, ?_⟩
    have n0_ := zm (Kd.R_below (by (with_reducible repeat (first | apply Kd.R_alloc | apply Kd.R_drewN | apply Kd.R_drew)); exact HO690.out) hb)
    have n1_ := zm (Kd.R_below (by (with_reducible repeat (first | apply Kd.R_alloc | apply Kd.R_drewN | apply Kd.R_drew)); exact HO694.out) hb)
    have n2_ := zm (Kd.R_lower ho0 (below_size zb))
    have n3_ := zm (blk_below (g := gb683) zk hb)
    have n4_ := zm (blk_below (g := gb684) zk hb)
    have n5_ := zm (below_step zb hb)
    clear HO690
    clear HO694
    clear BK683
    clear BK684
    clear HB
    have HO690 := n0_
    have HO694 := n1_
    have HO700 := n2_
    have BK683 := n3_
    have BK684 := n4_
    have HB := n5_
    clear n0_ n1_ n2_ n3_ n4_ n5_
    (try clear hb)
    (try clear hb2)
    (try clear hk)
    (try clear hi)
    (try clear ho0)
    obtain ⟨Ao47, co47, eo47⟩ := Kd.R_slice HO690.out
    (first | subst eo47 | (injection eo47 with f1_ f2_ f3_; have f4_ := f1_.symm; have f5_ := f3_.symm; clear f1_ f2_ f3_; subst f4_; subst f5_))
    obtain ⟨Ao48, co48, eo48⟩ := Kd.R_slice HO694.out
    (first | subst eo48 | (injection eo48 with f1_ f2_ f3_; have f4_ := f1_.symm; have f5_ := f3_.symm; clear f1_ f2_ f3_; subst f4_; subst f5_))
    obtain ⟨Ao49, co49, eo49⟩ := Kd.R_slice HO700.out
    (first | subst eo49 | (injection eo49 with f1_ f2_ f3_; have f4_ := f1_.symm; have f5_ := f3_.symm; clear f1_ f2_ f3_; subst f4_; subst f5_))
    refine hK.out _ _ ⟨(blk_cell BK683.out 0).trans rfl, (blk_cell BK683.out 1).trans rfl, (blk_cell BK684.out 0).trans rfl, (blk_cell BK684.out 1).trans rfl, (blk_cell BK684.out 2).trans rfl⟩ (fun hHeld => ?_)
    clear hK K
    refine norm_ (a' := ?_) ?_ ?_
    rotate_left
    ·
     show Act.put _ (some 40) _ = _
     simp only [Act.put, zA, zB, zD, i64_w, i32_w]
     rfl
    refine one_ (i := 8) (N := some 41) #[true, true, true, true, true, true, true, true, true, false, false, false, false, false] rfl rfl (one_of HT_.out (by kernel_rfl)) (by decide) (fun K hK => ?_)
    refine goes_ Try.func42 (by kernel_rfl) rfl #[.agg #[.slice Ao47 t688.length co47, .int .i64 t691], .slice Ao48 t692.length co48, .agg #[.int .i64 t695, .int .i64 t696, .int .i64 t697], .slice Ao49 t698.length co49] (by rfl) rfl rfl (by (try simp only [List.map_toArray, List.map_cons, List.map_nil]); first | done | rfl | (simp only [List.length_drop, List.length_take]; rfl)) ?_
    with_reducible refine (spec_WorstLag.calls k _ _ t688 t691 _ _ t692 t695 t696 t697 _ _ t698 t701 t702 _ ?side1 ?side2 ?side3 ?side4 ?side5 ?side6 A30.out).mono ?_
    (case side1 => repeat (first | exact (Kd.R_reads' HO690.out).2.2 | (with_reducible refine Kd.C_alloc ?_ _) | (with_reducible refine Kd.C_drewN ?_ _) | (with_reducible refine Kd.C_drew ?_)))
    (case side2 => exact (Kd.R_reads' HO690.out).2.1)
    (case side3 => repeat (first | exact (Kd.R_reads' HO694.out).2.2 | (with_reducible refine Kd.C_alloc ?_ _) | (with_reducible refine Kd.C_drewN ?_ _) | (with_reducible refine Kd.C_drew ?_)))
    (case side4 => exact (Kd.R_reads' HO694.out).2.1)
    (case side5 => repeat (first | exact (Kd.R_reads' HO700.out).2.2 | (with_reducible refine Kd.C_alloc ?_ _) | (with_reducible refine Kd.C_drewN ?_ _) | (with_reducible refine Kd.C_drew ?_)))
    (case side6 => exact (Kd.R_reads' HO700.out).2.1)
    rintro e w50 ⟨rfl, hb⟩
    refine ⟨_, rfl, ?_⟩
    have n0_ := zm (Kd.R_below (by (with_reducible repeat (first | apply Kd.R_alloc | apply Kd.R_drewN | apply Kd.R_drew)); exact HO690.out) hb)
    have n1_ := zm (Kd.R_below (by (with_reducible repeat (first | apply Kd.R_alloc | apply Kd.R_drewN | apply Kd.R_drew)); exact HO694.out) hb)
    have n2_ := zm (Kd.R_below (by (with_reducible repeat (first | apply Kd.R_alloc | apply Kd.R_drewN | apply Kd.R_drew)); exact HO700.out) hb)
    have n3_ := zm (blk_below (g := gb683) zk hb)
    have n4_ := zm (blk_below (g := gb684) zk hb)
    have n5_ := zm (below_step zb hb)
    clear HO690
    clear HO694
    clear HO700
    clear BK683
    clear BK684
    clear HB
    have HO690 := n0_
    have HO694 := n1_
    have HO700 := n2_
    have BK683 := n3_
    have BK684 := n4_
    have HB := n5_
    clear n0_ n1_ n2_ n3_ n4_ n5_
    (try clear hb)
    (try clear hb2)
    (try clear hk)
    (try clear hi)
    refine hK.out _ _ ⟨(blk_cell BK683.out 0).trans rfl, (blk_cell BK683.out 1).trans rfl, (blk_cell BK684.out 0).trans rfl, (blk_cell BK684.out 1).trans rfl, (blk_cell BK684.out 2).trans rfl⟩ (fun hHeld => ?_)
    clear hK K
    refine norm_ (a' := ?_) ?_ ?_
    rotate_left
    ·
     show Act.put _ (some 41) _ = _
     simp only [Act.put, zA, zB, zD, i64_w, i32_w]
     rfl
    refine pure_ (i := 9) (N := some 32) (v := ?_) (a' := ?_) #[true, true, true, true, true, true, true, true, true, true, false, false, false, false] rfl rfl (any_of HT_.out (by kernel_rfl)) (fun _ _ _ h => h) (Or.inl ⟨by rfl, ?_⟩) ?_ ?_
    rotate_left
    ·
     intro w'
     go_simp
     with_reducible rfl
    rotate_left
    ·
     simp only [Act.put, zA, zB, zD, i64_w, i32_w]
     rfl
    refine pure_ (i := 10) (N := some 42) (v := ?_) (a' := ?_) #[true, true, true, true, true, true, true, true, true, true, true, false, false, false] rfl rfl (any_of HT_.out (by kernel_rfl)) (fun _ _ _ h => h) (Or.inl ⟨by rfl, ?_⟩) ?_ ?_
    rotate_left
    ·
     intro w'
     go_simp
     with_reducible rfl
    rotate_left
    ·
     simp only [Act.put, zA, zB, zD, i64_w, i32_w]
     rfl
    refine pure_ (i := 11) (N := some 43) (v := ?_) (a' := ?_) #[true, true, true, true, true, true, true, true, true, true, true, true, false, false] rfl rfl (any_of HT_.out (by kernel_rfl)) (fun _ _ _ h => h) (Or.inl ⟨by rfl, ?_⟩) ?_ ?_
    rotate_left
    ·
     intro w'
     go_simp
     with_reducible rfl
    rotate_left
    ·
     simp only [Act.put, zA, zB, zD, i64_w, i32_w]
     rfl
    refine pure_ (i := 12) (N := some 10) (v := ?_) (a' := ?_) #[true, true, true, true, true, true, true, true, true, true, true, true, true, false] rfl rfl (any_of HT_.out (by kernel_rfl)) (fun _ _ _ h => h) (Or.inl ⟨by rfl, ?_⟩) ?_ ?_
    rotate_left
    ·
     intro w'
     go_simp
     with_reducible rfl
    rotate_left
    ·
     simp only [Act.put, zA, zB, zD, i64_w, i32_w]
     rfl
    refine pure_ (i := 13) (N := some 11) (v := ?_) (a' := ?_) #[true, true, true, true, true, true, true, true, true, true, true, true, true, true] rfl rfl (any_of HT_.out (by kernel_rfl)) (fun _ _ _ h => h) (Or.inl ⟨by rfl, ?_⟩) ?_ ?_
    rotate_left
    ·
     intro w'
     go_simp
     with_reducible rfl
    rotate_left
    ·
     simp only [Act.put, zA, zB, zD, i64_w, i32_w]
     rfl
    refine done_ (done_of HT_.out (by kernel_rfl)) ?_
    obtain ⟨hcz51_0, hcz51_1, hfz51_0, hfz51_1⟩ := zc2 BK683.out
    try go_wp2_with (first | ((with_reducible refine gate_callee (f := 14) rfl ?_); refine goesL_ (some 45) rfl rfl Try.func14 (by kernel_rfl) rfl #[.agg #[.slice A0_0 l0_0.length c0_0, .int .i64 a0_1]] rfl (by (try simp only [List.map_toArray, List.map_cons, List.map_nil]); first | done | rfl | (simp only [List.length_drop, List.length_take]; rfl)) ?_; (with_reducible refine (laws_toInstrument.calls k _ _ l0_0 a0_1 t703 t706 _ ?side1 ?side2 A31.out).mono ?_); (case side1 => repeat (first | exact (Kd.C_below HR0_0.out HB.out) | (with_reducible refine Kd.C_alloc ?_ _) | (with_reducible refine Kd.C_drewN ?_ _) | (with_reducible refine Kd.C_drew ?_))); (case side2 => exact HC0_0.out); rintro e w52 ⟨v704, rfl, ho0, hb⟩; refine ⟨_, rfl, ?_⟩; have n0_ := zm (Kd.R_elder' (by (with_reducible repeat (first | apply Kd.R_alloc | apply Kd.R_drewN | apply Kd.R_drew)); exact HO690.out) (Kd.R_base ho0) hb); have n1_ := zm (Kd.R_below (by (with_reducible repeat (first | apply Kd.R_alloc | apply Kd.R_drewN | apply Kd.R_drew)); exact HO694.out) hb); have n2_ := zm (Kd.R_below (by (with_reducible repeat (first | apply Kd.R_alloc | apply Kd.R_drewN | apply Kd.R_drew)); exact HO700.out) hb); have n3_ := zm (Kd.R_lower (Kd.R_new' ho0 (Kd.R_lt (by (with_reducible repeat (first | apply Kd.R_alloc | apply Kd.R_drewN | apply Kd.R_drew)); exact HO690.out))) (below_size zb)); have n4_ := zm (blk_below (g := gb683) zk hb); have n5_ := zm (blk_below (g := gb684) zk hb); have n6_ := zm (below_step zb hb); clear HO690; clear HO694; clear HO700; clear BK683; clear BK684; clear HB; have HO690 := n0_; have HO694 := n1_; have HO700 := n2_; have HO705 := n3_; have BK683 := n4_; have BK684 := n5_; have HB := n6_; clear n0_ n1_ n2_ n3_ n4_ n5_ n6_; (try clear hb); (try clear hb2); (try clear hk); (try clear hi); (try clear ho0)) | ((with_reducible refine gate_dst (N := 12) rfl ?_); refine box_event ?hg (N := 12) ?hd (cs := #[.slice none 0 0, .int .i64 0]) (t := 32) ?hr ?_; (case hd => rfl); (case hg => rfl); (case hr => first | (go_simp; done) | (go_simp; rfl)); intro gb707 hg w53 hbox hb; have n0_ := zm (Kd.R_below (by (with_reducible repeat (first | apply Kd.R_alloc | apply Kd.R_drewN | apply Kd.R_drew)); exact HO690.out) hb); have n1_ := zm (Kd.R_below (by (with_reducible repeat (first | apply Kd.R_alloc | apply Kd.R_drewN | apply Kd.R_drew)); exact HO694.out) hb); have n2_ := zm (Kd.R_below (by (with_reducible repeat (first | apply Kd.R_alloc | apply Kd.R_drewN | apply Kd.R_drew)); exact HO700.out) hb); have n3_ := zm (Kd.R_below (by (with_reducible repeat (first | apply Kd.R_alloc | apply Kd.R_drewN | apply Kd.R_drew)); exact HO705.out) hb); have n4_ := zm (blk_below (g := gb683) zk hb); have n5_ := zm (blk_below (g := gb684) zk hb); have n6_ := zm (below_step zb hb); have n7_ := zm (hbox); have n8_ := zm (zs hg zb : w.heap.size ≤ gb707); have n9_ := zm (zs hg zb : w.heap.size ≤ gb707); have n10_ := zm (zl hg zk : gb683 ≠ gb707); have n11_ := zm (zg hg zk : gb707 ≠ gb683); have n12_ := zm (zl hg zk : gb684 ≠ gb707); have n13_ := zm (zg hg zk : gb707 ≠ gb684); clear HO690; clear HO694; clear HO700; clear HO705; clear BK683; clear BK684; clear HB; have HO690 := n0_; have HO694 := n1_; have HO700 := n2_; have HO705 := n3_; have BK683 := n4_; have BK684 := n5_; have HB := n6_; have BK707 := n7_; have GW707 := n8_; have GE707 := n9_; have NB683_707 := n10_; have NB707_683 := n11_; have NB684_707 := n12_; have NB707_684 := n13_; clear n0_ n1_ n2_ n3_ n4_ n5_ n6_ n7_ n8_ n9_ n10_ n11_ n12_ n13_; clear hb hbox hg; obtain ⟨Ao54, co54, eo54⟩ := Kd.R_slice HO705.out; subst eo54; have hnb55 := NB707_683.out; have hnc55 := NB683_707.out; have hnb56 := NB707_684.out; have hnc56 := NB684_707.out; obtain ⟨hcz57_0, hcz57_1, hfz57_0, hfz57_1⟩ := zc2 BK707.out) | ((with_reducible refine gate_callee (f := 15) rfl ?_); refine goesL_ (some 47) rfl rfl Try.func15 (by kernel_rfl) rfl #[.slice A1 l1.length c1] rfl (by (try simp only [List.map_toArray, List.map_cons, List.map_nil]); first | done | rfl | (simp only [List.length_drop, List.length_take]; rfl)) ?_; (with_reducible refine (laws_toHoleS.calls k _ _ l1 t708 _ ?side1 ?side2 A32.out).mono ?_); (case side1 => exact Kd.C_below HR1.out zb); (case side2 => exact HC1.out); rintro e w58 ⟨v709, rfl, ho0, hb⟩; refine ⟨_, rfl, ?_⟩; have n0_ := zm (Kd.R_below (by (with_reducible repeat (first | apply Kd.R_alloc | apply Kd.R_drewN | apply Kd.R_drew)); exact (Kd.R_mono (Kd.R_far (p := ⟨gb707, 1, none⟩) (Kd.R_far (p := ⟨gb707, 0, none⟩) (Kd.R_types HO690.out BK707.out (by decide)) (fun _ hk => hk.2) (.slice Ao54 t703.length co54)) (fun _ hk => hk.2) (.int .i64 t706)) (fun _ h_ => h_.1))) hb); have n1_ := zm (Kd.R_elder' (by (with_reducible repeat (first | apply Kd.R_alloc | apply Kd.R_drewN | apply Kd.R_drew)); exact (Kd.R_mono (Kd.R_far (p := ⟨gb707, 1, none⟩) (Kd.R_far (p := ⟨gb707, 0, none⟩) (Kd.R_types HO694.out BK707.out (by decide)) (fun _ hk => hk.2) (.slice Ao54 t703.length co54)) (fun _ hk => hk.2) (.int .i64 t706)) (fun _ h_ => h_.1))) (Kd.R_base ho0) hb); have n2_ := zm (Kd.R_below (by (with_reducible repeat (first | apply Kd.R_alloc | apply Kd.R_drewN | apply Kd.R_drew)); exact (Kd.R_mono (Kd.R_far (p := ⟨gb707, 1, none⟩) (Kd.R_far (p := ⟨gb707, 0, none⟩) (Kd.R_types HO700.out BK707.out (by decide)) (fun _ hk => hk.2) (.slice Ao54 t703.length co54)) (fun _ hk => hk.2) (.int .i64 t706)) (fun _ h_ => h_.1))) hb); have n3_ := zm (Kd.R_below (by (with_reducible repeat (first | apply Kd.R_alloc | apply Kd.R_drewN | apply Kd.R_drew)); exact (Kd.R_mono (Kd.R_far (p := ⟨gb707, 1, none⟩) (Kd.R_far (p := ⟨gb707, 0, none⟩) (Kd.R_types HO705.out BK707.out (by decide)) (fun _ hk => hk.2) (.slice Ao54 t703.length co54)) (fun _ hk => hk.2) (.int .i64 t706)) (fun _ h_ => h_.1))) hb); have n4_ := zm (Kd.R_lower (Kd.R_new' ho0 (Kd.R_lt (by (with_reducible repeat (first | apply Kd.R_alloc | apply Kd.R_drewN | apply Kd.R_drew)); exact (Kd.R_mono (Kd.R_far (p := ⟨gb707, 1, none⟩) (Kd.R_far (p := ⟨gb707, 0, none⟩) (Kd.R_types HO694.out BK707.out (by decide)) (fun _ hk => hk.2) (.slice Ao54 t703.length co54)) (fun _ hk => hk.2) (.int .i64 t706)) (fun _ h_ => h_.1))))) (below_size zb)); have n5_ := zm (blk_below (g := gb683) (o := .cells #[.slice A0_0 l0_0.length c0_0, .int .i64 a0_1] 24 (0, 0)) zK hb); have n6_ := zm (blk_below (g := gb684) (o := .cells #[.int .i64 a2_0, .int .i64 a2_1, .int .i64 a2_2] 27 (0, 0)) zK hb); have n7_ := zm (blk_below (g := gb707) (o := .cells #[.slice Ao54 t703.length co54, .int .i64 t706] 32 (0, 0)) (by (with_reducible repeat (first | refine blk_drewN ?_ _ | refine blk_drew ?_ | refine blk_alloc ?_ _)); refine blk_put (cs := #[.slice Ao54 t703.length co54, .int .i64 0]) ?_ 1 _ rfl; (with_reducible repeat (first | refine blk_drewN ?_ _ | refine blk_drew ?_ | refine blk_alloc ?_ _)); refine blk_put (cs := #[.slice none 0 0, .int .i64 0]) ?_ 0 _ rfl; (with_reducible repeat (first | refine blk_drewN ?_ _ | refine blk_drew ?_ | refine blk_alloc ?_ _)); exact BK707.out) hb); have n8_ := zm (below_step zb hb); clear HO690; clear HO694; clear HO700; clear HO705; clear BK683; clear BK684; clear BK707; clear HB; have HO690 := n0_; have HO694 := n1_; have HO700 := n2_; have HO705 := n3_; have HO710 := n4_; have BK683 := n5_; have BK684 := n6_; have BK707 := n7_; have HB := n8_; clear n0_ n1_ n2_ n3_ n4_ n5_ n6_ n7_ n8_; (try clear hb); (try clear hb2); (try clear hk); (try clear hi); (try clear ho0)) | ((with_reducible refine gate_callee (f := 39) rfl ?_); refine goesL_ (some 49) rfl rfl Try.func39 (by kernel_rfl) rfl #[.slice A3 l3.length c3] rfl (by (try simp only [List.map_toArray, List.map_cons, List.map_nil]); first | done | rfl | (simp only [List.length_drop, List.length_take]; rfl)) ?_; (with_reducible refine (laws_toNoteS.calls k _ _ l3 t711 _ ?side1 ?side2 A33.out).mono ?_); (case side1 => repeat (first | exact (Kd.C_below HR3.out HB.out) | (with_reducible refine Kd.C_alloc ?_ _) | (with_reducible refine Kd.C_drewN ?_ _) | (with_reducible refine Kd.C_drew ?_))); (case side2 => exact HC3.out); rintro e w59 ⟨v712, rfl, ho0, hb⟩; refine ⟨_, rfl, ?_⟩; have n0_ := zm (Kd.R_below (by (with_reducible repeat (first | apply Kd.R_alloc | apply Kd.R_drewN | apply Kd.R_drew)); exact HO690.out) hb); have n1_ := zm (Kd.R_below (by (with_reducible repeat (first | apply Kd.R_alloc | apply Kd.R_drewN | apply Kd.R_drew)); exact HO694.out) hb); have n2_ := zm (Kd.R_elder' (by (with_reducible repeat (first | apply Kd.R_alloc | apply Kd.R_drewN | apply Kd.R_drew)); exact HO700.out) (Kd.R_base ho0) hb); have n3_ := zm (Kd.R_below (by (with_reducible repeat (first | apply Kd.R_alloc | apply Kd.R_drewN | apply Kd.R_drew)); exact HO705.out) hb); have n4_ := zm (Kd.R_below (by (with_reducible repeat (first | apply Kd.R_alloc | apply Kd.R_drewN | apply Kd.R_drew)); exact HO710.out) hb); have n5_ := zm (Kd.R_lower (Kd.R_new' ho0 (Kd.R_lt (by (with_reducible repeat (first | apply Kd.R_alloc | apply Kd.R_drewN | apply Kd.R_drew)); exact HO700.out))) (below_size zb)); have n6_ := zm (blk_below (g := gb683) zk hb); have n7_ := zm (blk_below (g := gb684) zk hb); have n8_ := zm (blk_below (g := gb707) zk hb); have n9_ := zm (below_step zb hb); clear HO690; clear HO694; clear HO700; clear HO705; clear HO710; clear BK683; clear BK684; clear BK707; clear HB; have HO690 := n0_; have HO694 := n1_; have HO700 := n2_; have HO705 := n3_; have HO710 := n4_; have HO713 := n5_; have BK683 := n6_; have BK684 := n7_; have BK707 := n8_; have HB := n9_; clear n0_ n1_ n2_ n3_ n4_ n5_ n6_ n7_ n8_ n9_; (try clear hb); (try clear hb2); (try clear hk); (try clear hi); (try clear ho0)))
    have n0_ := zm (Kd.R_drew HO690.out)
    have n1_ := zm (Kd.R_drew HO694.out)
    have n2_ := zm (Kd.R_drew HO700.out)
    have n3_ := zm (Kd.R_drew HO705.out)
    have n4_ := zm (Kd.R_drew HO710.out)
    have n5_ := zm (Kd.R_drew HO713.out)
    have n6_ := zm (blk_drew BK683.out)
    have n7_ := zm (blk_drew BK684.out)
    have n8_ := zm (blk_drew BK707.out)
    have n9_ := zm (below_drew1 HB.out)
    clear HO690
    clear HO694
    clear HO700
    clear HO705
    clear HO710
    clear HO713
    clear BK683
    clear BK684
    clear BK707
    clear HB
    have HO690 := n0_
    have HO694 := n1_
    have HO700 := n2_
    have HO705 := n3_
    have HO710 := n4_
    have HO713 := n5_
    have BK683 := n6_
    have BK684 := n7_
    have BK707 := n8_
    have HB := n9_
    clear n0_ n1_ n2_ n3_ n4_ n5_ n6_ n7_ n8_ n9_
    refine start_ (n := 11) (S := fun w' => w'.cell? ⟨gb707, 0, none⟩ = some (.slice Ao54 t703.length co54) ∧ w'.cell? ⟨gb707, 1, none⟩ = some (.int .i64 t706) ∧ w'.cell? ⟨gb684, 0, none⟩ = some (.int .i64 a2_0) ∧ w'.cell? ⟨gb684, 1, none⟩ = some (.int .i64 a2_1) ∧ w'.cell? ⟨gb684, 2, none⟩ = some (.int .i64 a2_2)) (ds := []) #[false, false, false, false, false, false, false, false, false, false, false] (by kernel_rfl) rfl rfl ⟨(blk_cell BK707.out 0).trans rfl, (blk_cell BK707.out 1).trans rfl, (blk_cell BK684.out 0).trans rfl, (blk_cell BK684.out 1).trans rfl, (blk_cell BK684.out 2).trans rfl⟩ (fun hHeld => ?_); refine with_tabW laws_FnExactWorstLag.tab15 laws_FnExactWorstLag.bits15 (fun HT_ HW_ => ?_)
    generalize w59.drew = w60 at HO690 HO694 HO700 HO705 HO710 HO713 BK683 BK684 BK707 HB hHeld ⊢
    refine pure_ (i := 1) (N := some 52) (v := ?_) (a' := ?_) #[false, true, false, false, false, false, false, false, false, false, false] rfl rfl (any_of HT_.out (by kernel_rfl)) (fun _ _ _ h => h) (Or.inl ⟨by rfl, ?_⟩) ?_ ?_
    rotate_left
    ·
     intro w'
     go_simp
     with_reducible rfl
    rotate_left
    ·
     simp only [Act.put, zA, zB, zD, i64_w, i32_w]
     rfl
    refine pure_ (i := 4) (N := some 55) (v := ?_) (a' := ?_) #[false, true, false, false, true, false, false, false, false, false, false] rfl rfl (any_of HT_.out (by kernel_rfl)) (fun _ _ _ h => h) (Or.inl ⟨by rfl, ?_⟩) ?_ ?_
    rotate_left
    ·
     intro w'
     go_simp
     with_reducible rfl
    rotate_left
    ·
     simp only [Act.put, zA, zB, zD, i64_w, i32_w]
     rfl
    refine take_ (i := 0) (N := some 51) (v := ?_) (a' := ?_) #[true, true, false, false, true, false, false, false, false, false, false] rfl rfl (take_ofW HT_.out HW_.out (by kernel_rfl)) (fun _ _ _ h => h) (Or.inl ⟨by rfl, ?_⟩) hHeld ?_ ?_
    rotate_left
    ·
     rintro w' ⟨s0, s1, s2, s3, s4⟩
     go_simp
     with_reducible rfl
    rotate_left
    ·
     simp only [Act.put, zA, zB, zD, i64_w, i32_w]
     rfl
    refine take_ (i := 2) (N := some 53) (v := ?_) (a' := ?_) #[true, true, true, false, true, false, false, false, false, false, false] rfl rfl (take_ofW HT_.out HW_.out (by kernel_rfl)) (fun _ _ _ h => h) (Or.inl ⟨by rfl, ?_⟩) hHeld ?_ ?_
    rotate_left
    ·
     rintro w' ⟨s0, s1, s2, s3, s4⟩
     go_simp
     with_reducible rfl
    rotate_left
    ·
     simp only [Act.put, zA, zB, zD, i64_w, i32_w]
     rfl
    refine one_ (i := 3) (N := some 54) #[true, true, true, true, true, false, false, false, false, false, false] rfl rfl (one_of HT_.out (by kernel_rfl)) (by decide) (fun K hK => ?_)
    refine goes_ Try.func16 (by kernel_rfl) rfl #[.agg #[.int .i64 a2_0, .int .i64 a2_1, .int .i64 a2_2]] (by rfl) rfl rfl (by (try simp only [List.map_toArray, List.map_cons, List.map_nil]); first | done | rfl | (simp only [List.length_drop, List.length_take]; rfl)) ?_
    with_reducible refine (laws_toAction.calls a2_0 a2_1 a2_2 t714 t715 t716 _ A34.out).mono ?_
    rintro e w61 ⟨rfl, hb⟩
    refine ⟨_, rfl, ?_⟩
    have n0_ := zm (Kd.R_below (by (with_reducible repeat (first | apply Kd.R_alloc | apply Kd.R_drewN | apply Kd.R_drew)); exact HO690.out) hb)
    have n1_ := zm (Kd.R_below (by (with_reducible repeat (first | apply Kd.R_alloc | apply Kd.R_drewN | apply Kd.R_drew)); exact HO694.out) hb)
    have n2_ := zm (Kd.R_below (by (with_reducible repeat (first | apply Kd.R_alloc | apply Kd.R_drewN | apply Kd.R_drew)); exact HO700.out) hb)
    have n3_ := zm (Kd.R_below (by (with_reducible repeat (first | apply Kd.R_alloc | apply Kd.R_drewN | apply Kd.R_drew)); exact HO705.out) hb)
    have n4_ := zm (Kd.R_below (by (with_reducible repeat (first | apply Kd.R_alloc | apply Kd.R_drewN | apply Kd.R_drew)); exact HO710.out) hb)
    have n5_ := zm (Kd.R_below (by (with_reducible repeat (first | apply Kd.R_alloc | apply Kd.R_drewN | apply Kd.R_drew)); exact HO713.out) hb)
    have n6_ := zm (blk_below (g := gb683) zk hb)
    have n7_ := zm (blk_below (g := gb684) zk hb)
    have n8_ := zm (blk_below (g := gb707) zk hb)
    have n9_ := zm (below_step zb hb)
    clear HO690
    clear HO694
    clear HO700
    clear HO705
    clear HO710
    clear HO713
    clear BK683
    clear BK684
    clear BK707
    clear HB
    have HO690 := n0_
    have HO694 := n1_
    have HO700 := n2_
    have HO705 := n3_
    have HO710 := n4_
    have HO713 := n5_
    have BK683 := n6_
    have BK684 := n7_
    have BK707 := n8_
    have HB := n9_
    clear n0_ n1_ n2_ n3_ n4_ n5_ n6_ n7_ n8_ n9_
    (try clear hb)
    (try clear hb2)
    (try clear hk)
    (try clear hi)
    obtain ⟨Ao62, co62, eo62⟩ := Kd.R_slice HO710.out
    (first | subst eo62 | (injection eo62 with f1_ f2_ f3_; have f4_ := f1_.symm; have f5_ := f3_.symm; clear f1_ f2_ f3_; subst f4_; subst f5_))
    obtain ⟨Ao63, co63, eo63⟩ := Kd.R_slice HO713.out
    (first | subst eo63 | (injection eo63 with f1_ f2_ f3_; have f4_ := f1_.symm; have f5_ := f3_.symm; clear f1_ f2_ f3_; subst f4_; subst f5_))
    refine hK.out _ _ ⟨(blk_cell BK707.out 0).trans rfl, (blk_cell BK707.out 1).trans rfl, (blk_cell BK684.out 0).trans rfl, (blk_cell BK684.out 1).trans rfl, (blk_cell BK684.out 2).trans rfl⟩ (fun hHeld => ?_)
    clear hK K
    refine norm_ (a' := ?_) ?_ ?_
    rotate_left
    ·
     show Act.put _ (some 54) _ = _
     simp only [Act.put, zA, zB, zD, i64_w, i32_w]
     rfl
    refine one_ (i := 5) (N := some 56) #[true, true, true, true, true, true, false, false, false, false, false] rfl rfl (one_of HT_.out (by kernel_rfl)) (by decide) (fun K hK => ?_)
    refine goes_ Try.func43 (by kernel_rfl) rfl #[.agg #[.slice Ao54 t703.length co54, .int .i64 t706], .slice Ao62 t708.length co62, .agg #[.int .i64 t714, .int .i64 t715, .int .i64 t716], .slice Ao63 t711.length co63] (by rfl) rfl rfl (by (try simp only [List.map_toArray, List.map_cons, List.map_nil]); first | done | rfl | (simp only [List.length_drop, List.length_take]; rfl)) ?_
    with_reducible refine (impl_WorstLag.calls k _ _ t703 t706 _ _ t708 t714 t715 t716 _ _ t711 t717 t718 _ ?side1 ?side2 ?side3 ?side4 ?side5 ?side6 A35.out).mono ?_
    (case side1 => repeat (first | exact (Kd.R_reads' HO705.out).2.2 | (with_reducible refine Kd.C_alloc ?_ _) | (with_reducible refine Kd.C_drewN ?_ _) | (with_reducible refine Kd.C_drew ?_)))
    (case side2 => exact (Kd.R_reads' HO705.out).2.1)
    (case side3 => repeat (first | exact (Kd.R_reads' HO710.out).2.2 | (with_reducible refine Kd.C_alloc ?_ _) | (with_reducible refine Kd.C_drewN ?_ _) | (with_reducible refine Kd.C_drew ?_)))
    (case side4 => exact (Kd.R_reads' HO710.out).2.1)
    (case side5 => repeat (first | exact (Kd.R_reads' HO713.out).2.2 | (with_reducible refine Kd.C_alloc ?_ _) | (with_reducible refine Kd.C_drewN ?_ _) | (with_reducible refine Kd.C_drew ?_)))
    (case side6 => exact (Kd.R_reads' HO713.out).2.1)
    rintro e w64 ⟨rfl, hb⟩
    refine ⟨_, rfl, ?_⟩
    have n0_ := zm (Kd.R_below (by (with_reducible repeat (first | apply Kd.R_alloc | apply Kd.R_drewN | apply Kd.R_drew)); exact HO690.out) hb)
    have n1_ := zm (Kd.R_below (by (with_reducible repeat (first | apply Kd.R_alloc | apply Kd.R_drewN | apply Kd.R_drew)); exact HO694.out) hb)
    have n2_ := zm (Kd.R_below (by (with_reducible repeat (first | apply Kd.R_alloc | apply Kd.R_drewN | apply Kd.R_drew)); exact HO700.out) hb)
    have n3_ := zm (Kd.R_below (by (with_reducible repeat (first | apply Kd.R_alloc | apply Kd.R_drewN | apply Kd.R_drew)); exact HO705.out) hb)
    have n4_ := zm (Kd.R_below (by (with_reducible repeat (first | apply Kd.R_alloc | apply Kd.R_drewN | apply Kd.R_drew)); exact HO710.out) hb)
    have n5_ := zm (Kd.R_below (by (with_reducible repeat (first | apply Kd.R_alloc | apply Kd.R_drewN | apply Kd.R_drew)); exact HO713.out) hb)
    have n6_ := zm (blk_below (g := gb683) zk hb)
    have n7_ := zm (blk_below (g := gb684) zk hb)
    have n8_ := zm (blk_below (g := gb707) zk hb)
    have n9_ := zm (below_step zb hb)
    clear HO690
    clear HO694
    clear HO700
    clear HO705
    clear HO710
    clear HO713
    clear BK683
    clear BK684
    clear BK707
    clear HB
    have HO690 := n0_
    have HO694 := n1_
    have HO700 := n2_
    have HO705 := n3_
    have HO710 := n4_
    have HO713 := n5_
    have BK683 := n6_
    have BK684 := n7_
    have BK707 := n8_
    have HB := n9_
    clear n0_ n1_ n2_ n3_ n4_ n5_ n6_ n7_ n8_ n9_
    (try clear hb)
    (try clear hb2)
    (try clear hk)
    (try clear hi)
    refine hK.out _ _ ⟨(blk_cell BK707.out 0).trans rfl, (blk_cell BK707.out 1).trans rfl, (blk_cell BK684.out 0).trans rfl, (blk_cell BK684.out 1).trans rfl, (blk_cell BK684.out 2).trans rfl⟩ (fun hHeld => ?_)
    clear hK K
    refine norm_ (a' := ?_) ?_ ?_
    rotate_left
    ·
     show Act.put _ (some 56) _ = _
     simp only [Act.put, zA, zB, zD, i64_w, i32_w]
     rfl
    refine pure_ (i := 6) (N := some 50) (v := ?_) (a' := ?_) #[true, true, true, true, true, true, true, false, false, false, false] rfl rfl (any_of HT_.out (by kernel_rfl)) (fun _ _ _ h => h) (Or.inl ⟨by rfl, ?_⟩) ?_ ?_
    rotate_left
    ·
     intro w'
     go_simp
     with_reducible rfl
    rotate_left
    ·
     simp only [Act.put, zA, zB, zD, i64_w, i32_w]
     rfl
    refine pure_ (i := 7) (N := some 57) (v := ?_) (a' := ?_) #[true, true, true, true, true, true, true, true, false, false, false] rfl rfl (any_of HT_.out (by kernel_rfl)) (fun _ _ _ h => h) (Or.inl ⟨by rfl, ?_⟩) ?_ ?_
    rotate_left
    ·
     intro w'
     go_simp
     with_reducible rfl
    rotate_left
    ·
     simp only [Act.put, zA, zB, zD, i64_w, i32_w]
     rfl
    refine pure_ (i := 8) (N := some 58) (v := ?_) (a' := ?_) #[true, true, true, true, true, true, true, true, true, false, false] rfl rfl (any_of HT_.out (by kernel_rfl)) (fun _ _ _ h => h) (Or.inl ⟨by rfl, ?_⟩) ?_ ?_
    rotate_left
    ·
     intro w'
     go_simp
     with_reducible rfl
    rotate_left
    ·
     simp only [Act.put, zA, zB, zD, i64_w, i32_w]
     rfl
    refine pure_ (i := 9) (N := some 15) (v := ?_) (a' := ?_) #[true, true, true, true, true, true, true, true, true, true, false] rfl rfl (any_of HT_.out (by kernel_rfl)) (fun _ _ _ h => h) (Or.inl ⟨by rfl, ?_⟩) ?_ ?_
    rotate_left
    ·
     intro w'
     go_simp
     with_reducible rfl
    rotate_left
    ·
     simp only [Act.put, zA, zB, zD, i64_w, i32_w]
     rfl
    refine pure_ (i := 10) (N := some 16) (v := ?_) (a' := ?_) #[true, true, true, true, true, true, true, true, true, true, true] rfl rfl (any_of HT_.out (by kernel_rfl)) (fun _ _ _ h => h) (Or.inl ⟨by rfl, ?_⟩) ?_ ?_
    rotate_left
    ·
     intro w'
     go_simp
     with_reducible rfl
    rotate_left
    ·
     simp only [Act.put, zA, zB, zD, i64_w, i32_w]
     rfl
    refine done_ (done_of HT_.out (by kernel_rfl)) ?_
    go_upto_region 16 with (fail)
    go_cut [66] (fun v66 wc => ∃ (kq : Nat) (x66_35 : Bool), v66 = .bool x66_35 ∧ Aside0 (laws_FnExactWorstLag.j0 kq l1 l3 t708 t711 x66_35 l0_0 a0_1 t703 t706 = some r) ∧ Aside0 (kq ≤ k) ∧ Aside0 (Kd.R k73 73 wc w.heap.size (fun _ => True) (.slice Ao62 t708.length co62) t708) ∧ Aside0 (Kd.R k83 83 wc w.heap.size (fun _ => True) (.slice Ao63 t711.length co63) t711) ∧ Aside0 (Kd.R (Kd.int .i64) 3 wc w.heap.size (fun _ => True) (.slice Ao54 t703.length co54) t703) ∧ Aside0 (wc.heap[gb683]? = some (.cells #[(.slice A0_0 l0_0.length c0_0), .int .i64 a0_1] 24 (0, 0))) ∧ Aside0 (wc.heap[gb684]? = some (.cells #[.int .i64 a2_0, .int .i64 a2_1, .int .i64 a2_2] 27 (0, 0))) ∧ Aside0 (wc.heap[gb707]? = some (.cells #[(.slice Ao54 t703.length co54), .int .i64 t706] 32 (0, 0))) ∧ Aside0 (Below w.heap.size w wc))
    case first =>
     have H := HC36.out
     clear HC36
     by_cases c65 : t717 = t701
     ·
      rw [if_pos c65] at H
      have c65b0 : (t717 == t701) = true := beq_iff_eq.mpr c65
      have c65b1 : (t717 != t701) = false := bne_eq_false_iff_eq.mpr c65
      clear c65
      (first | rw [c65b0] | (simp only [i64_w, i32_w]; rw [c65b0]) | skip)
      have H' := zm H
      clear H
      go_wp2
      go_meet
      case rel => exact ⟨_, ((t718 != t702)), (by first | rfl | (simp; done) | (simp [*]; done)), H', ⟨by first | omega | exact Nat.le_refl _⟩, ⟨by (with_reducible repeat (first | apply Kd.R_alloc | apply Kd.R_drewN | apply Kd.R_drew)); exact Kd.R_mono HO710.out (fun _ hk => trivial)⟩, ⟨by (with_reducible repeat (first | apply Kd.R_alloc | apply Kd.R_drewN | apply Kd.R_drew)); exact Kd.R_mono HO713.out (fun _ hk => trivial)⟩, ⟨by (with_reducible repeat (first | apply Kd.R_alloc | apply Kd.R_drewN | apply Kd.R_drew)); exact Kd.R_mono HO705.out (fun _ hk => trivial)⟩, ⟨zk⟩, ⟨zk⟩, ⟨zk⟩, ⟨zb⟩⟩
     ·
      rw [if_neg c65] at H
      have c65b0 : (t717 == t701) = false := beq_eq_false_iff_ne.mpr c65
      have c65b1 : (t717 != t701) = true := bne_iff_ne.mpr c65
      (first | rw [c65b0] | (simp only [i64_w, i32_w]; rw [c65b0]) | skip)
      exact (laws_FnExactWorstLag.j0_t (H.trans (congrArg some hr_))).elim
    case rest =>
     clear HC36
     try clear c1
     try clear c2
     try clear p2
     try clear c3
     try clear c4
     try clear c5
     try clear c6
     try clear c6b0
     try clear c8
     try clear c9
     try clear c11
     try clear c12
     try clear c13
     try clear c13b0
     try clear c14
     try clear c15
     try clear c16
     try clear c20
     try clear c20b0
     try clear c23
     try clear c37
     try clear c39
     try clear c42
     try clear c43
     try clear c55
     try clear c56
     try clear c65
     try clear c65b0
     try clear c65b1
     try clear hcz10_0
     try clear hcz10_1
     try clear hcz17_0
     try clear hcz17_1
     try clear hcz24_0
     try clear hcz24_1
     try clear hcz40_0
     try clear hcz40_1
     try clear hcz51_0
     try clear hcz51_1
     try clear hcz57_0
     try clear hcz57_1
     try clear hfz10_0
     try clear hfz10_1
     try clear hfz17_0
     try clear hfz17_1
     try clear hfz24_0
     try clear hfz24_1
     try clear hfz40_0
     try clear hfz40_1
     try clear hfz51_0
     try clear hfz51_1
     try clear hfz57_0
     try clear hfz57_1
     obtain ⟨kq, x66_35, rfl, HA, HJ35, HO_13, HO_14, HO_708000, BK683, BK684, BK707, HB⟩ := hcut
     cases kq with
     | zero => exact absurd HA.out (by simp [laws_FnExactWorstLag.j0])
     | succ kj35 =>
      have H := HA.out
      clear HA
      simp only [laws_FnExactWorstLag.j0] at H
      by_cases c66 : x66_35 = true
      ·
       subst c66
       have H1 : (some false) = some r := by rw [if_pos rfl] at H; exact H
       clear H
       have H := H1
       clear H1
       exact absurd ((Option.some.inj H).trans hr_) (by decide)
      ·
       replace c66 := Bool.eq_false_iff.mpr c66
       subst c66
       have H1 : ((laws_toInstrument.f kj35 l0_0 a0_1).bind fun bt719 => ((laws_eqInstrument.f kj35 t703 t706 bt719.1 bt719.2).bind fun t723 => (if t723 = true then ((laws_toHoleS.f kj35 l1).bind fun t724 => ((laws_eqHoleS.f kj35 t708 t724).bind fun t727 => (if t727 = true then ((laws_toNoteS.f kj35 l3).bind fun t728 => ((laws_eqNoteS.f kj35 t711 t728).bind fun t731 => (if t731 = true then (some true) else (some false)))) else (some false)))) else (some false)))) = some r := by rw [if_neg (show ¬ (false = true) by decide)] at H; exact H
       clear H
       have H := H1
       clear H1
       replace H := Option.bind_eq_some_iff.mp H
       obtain ⟨⟨t719, t722⟩, A670, H⟩ := H
       replace H : ((laws_eqInstrument.f kj35 t703 t706 t719 t722).bind fun t723 => (if t723 = true then ((laws_toHoleS.f kj35 l1).bind fun t724 => ((laws_eqHoleS.f kj35 t708 t724).bind fun t727 => (if t727 = true then ((laws_toNoteS.f kj35 l3).bind fun t728 => ((laws_eqNoteS.f kj35 t711 t728).bind fun t731 => (if t731 = true then (some true) else (some false)))) else (some false)))) else (some false))) = some r := H
       have A67 := zm A670
       clear A670
       replace H := Option.bind_eq_some_iff.mp H
       obtain ⟨t723, A680, H⟩ := H
       replace H : (if t723 = true then ((laws_toHoleS.f kj35 l1).bind fun t724 => ((laws_eqHoleS.f kj35 t708 t724).bind fun t727 => (if t727 = true then ((laws_toNoteS.f kj35 l3).bind fun t728 => ((laws_eqNoteS.f kj35 t711 t728).bind fun t731 => (if t731 = true then (some true) else (some false)))) else (some false)))) else (some false)) = some r := H
       have A68 := zm A680
       clear A680
       by_cases c69 : t723 = true
       ·
        subst c69
        have H1 : ((laws_toHoleS.f kj35 l1).bind fun t724 => ((laws_eqHoleS.f kj35 t708 t724).bind fun t727 => (if t727 = true then ((laws_toNoteS.f kj35 l3).bind fun t728 => ((laws_eqNoteS.f kj35 t711 t728).bind fun t731 => (if t731 = true then (some true) else (some false)))) else (some false)))) = some r := by rw [if_pos rfl] at H; exact H
        clear H
        have H := H1
        clear H1
        replace H := Option.bind_eq_some_iff.mp H
        obtain ⟨t724, A700, H⟩ := H
        replace H : ((laws_eqHoleS.f kj35 t708 t724).bind fun t727 => (if t727 = true then ((laws_toNoteS.f kj35 l3).bind fun t728 => ((laws_eqNoteS.f kj35 t711 t728).bind fun t731 => (if t731 = true then (some true) else (some false)))) else (some false))) = some r := H
        have A70 := zm A700
        clear A700
        replace H := Option.bind_eq_some_iff.mp H
        obtain ⟨t727, A710, H⟩ := H
        replace H : (if t727 = true then ((laws_toNoteS.f kj35 l3).bind fun t728 => ((laws_eqNoteS.f kj35 t711 t728).bind fun t731 => (if t731 = true then (some true) else (some false)))) else (some false)) = some r := H
        have A71 := zm A710
        clear A710
        by_cases c72 : t727 = true
        ·
         subst c72
         have H1 : ((laws_toNoteS.f kj35 l3).bind fun t728 => ((laws_eqNoteS.f kj35 t711 t728).bind fun t731 => (if t731 = true then (some true) else (some false)))) = some r := by rw [if_pos rfl] at H; exact H
         clear H
         have H := H1
         clear H1
         replace H := Option.bind_eq_some_iff.mp H
         obtain ⟨t728, A730, H⟩ := H
         replace H : ((laws_eqNoteS.f kj35 t711 t728).bind fun t731 => (if t731 = true then (some true) else (some false))) = some r := H
         have A73 := zm A730
         clear A730
         replace H := Option.bind_eq_some_iff.mp H
         obtain ⟨t731, A740, H⟩ := H
         replace H : (if t731 = true then (some true) else (some false)) = some r := H
         have A74 := zm A740
         clear A740
         by_cases c75 : t731 = true
         ·
          subst c75
          have H1 : (some true) = some r := by rw [if_pos rfl] at H; exact H
          clear H
          have H := H1
          clear H1
          obtain rfl := Option.some.inj H
          try go_wp2
          have n0_ := zm (Kd.R_drew HO_13.out)
          have n1_ := zm (Kd.R_drew HO_14.out)
          have n2_ := zm (Kd.R_drew HO_708000.out)
          have n3_ := zm (blk_drew BK683.out)
          have n4_ := zm (blk_drew BK684.out)
          have n5_ := zm (blk_drew BK707.out)
          have n6_ := zm (below_drew1 HB.out)
          clear HO_13
          clear HO_14
          clear HO_708000
          clear BK683
          clear BK684
          clear BK707
          clear HB
          have HO_13 := n0_
          have HO_14 := n1_
          have HO_708000 := n2_
          have BK683 := n3_
          have BK684 := n4_
          have BK707 := n5_
          have HB := n6_
          clear n0_ n1_ n2_ n3_ n4_ n5_ n6_
          refine start_ (n := 5) (S := fun w' => w'.cell? ⟨gb707, 0, none⟩ = some (.slice Ao54 t703.length co54) ∧ w'.cell? ⟨gb707, 1, none⟩ = some (.int .i64 t706) ∧ w'.cell? ⟨gb683, 0, none⟩ = some (.slice A0_0 l0_0.length c0_0) ∧ w'.cell? ⟨gb683, 1, none⟩ = some (.int .i64 a0_1)) (ds := []) #[false, false, false, false, false] (by kernel_rfl) rfl rfl ⟨(blk_cell BK707.out 0).trans rfl, (blk_cell BK707.out 1).trans rfl, (blk_cell BK683.out 0).trans rfl, (blk_cell BK683.out 1).trans rfl⟩ (fun hHeld => ?_)
          generalize wc.drew = w76 at HO_13 HO_14 HO_708000 BK683 BK684 BK707 HB hHeld ⊢
          refine take_ (i := 0) (N := some 67) (v := ?_) (a' := ?_) #[true, false, false, false, false] rfl rfl (by kernel_rfl) (fun _ _ _ h => h) (Or.inl ⟨by rfl, ?_⟩) hHeld ?_ ?_
          rotate_left
          ·
           rintro w' ⟨s0, s1, s2, s3⟩
           go_simp
           with_reducible rfl
          rotate_left
          ·
           simp only [Act.put, zA, zB, zD, i64_w, i32_w]
           rfl
          refine take_ (i := 1) (N := some 68) (v := ?_) (a' := ?_) #[true, true, false, false, false] rfl rfl (by kernel_rfl) (fun _ _ _ h => h) (Or.inl ⟨by rfl, ?_⟩) hHeld ?_ ?_
          rotate_left
          ·
           rintro w' ⟨s0, s1, s2, s3⟩
           go_simp
           with_reducible rfl
          rotate_left
          ·
           simp only [Act.put, zA, zB, zD, i64_w, i32_w]
           rfl
          refine one_ (i := 2) (N := some 69) #[true, true, true, false, false] rfl rfl (by kernel_rfl) (by decide) (fun K hK => ?_)
          refine goes_ Try.func14 (by kernel_rfl) rfl #[.agg #[.slice A0_0 l0_0.length c0_0, .int .i64 a0_1]] (by rfl) rfl rfl (by (try simp only [List.map_toArray, List.map_cons, List.map_nil]); first | done | rfl | (simp only [List.length_drop, List.length_take]; rfl)) ?_
          with_reducible refine (laws_toInstrument.calls kj35 _ _ l0_0 a0_1 t719 t722 _ ?side1 ?side2 A67.out).mono ?_
          (case side1 => repeat (first | exact (Kd.C_below HR0_0.out HB.out) | (with_reducible refine Kd.C_alloc ?_ _) | (with_reducible refine Kd.C_drewN ?_ _) | (with_reducible refine Kd.C_drew ?_)))
          (case side2 => exact HC0_0.out)
          rintro e w77 ⟨v720, rfl, ho0, hb⟩
          refine ⟨_, rfl, ?_⟩
          have n0_ := zm (Kd.R_below (by (with_reducible repeat (first | apply Kd.R_alloc | apply Kd.R_drewN | apply Kd.R_drew)); exact HO_13.out) hb)
          have n1_ := zm (Kd.R_below (by (with_reducible repeat (first | apply Kd.R_alloc | apply Kd.R_drewN | apply Kd.R_drew)); exact HO_14.out) hb)
          have n2_ := zm (Kd.R_elder' (by (with_reducible repeat (first | apply Kd.R_alloc | apply Kd.R_drewN | apply Kd.R_drew)); exact HO_708000.out) (Kd.R_base ho0) hb)
          have n3_ := zm (Kd.R_lower (Kd.R_new' ho0 (Kd.R_lt (by (with_reducible repeat (first | apply Kd.R_alloc | apply Kd.R_drewN | apply Kd.R_drew)); exact HO_708000.out))) (below_size zb))
          have n4_ := zm (blk_below (g := gb683) zk hb)
          have n5_ := zm (blk_below (g := gb684) zk hb)
          have n6_ := zm (blk_below (g := gb707) zk hb)
          have n7_ := zm (below_step zb hb)
          clear HO_13
          clear HO_14
          clear HO_708000
          clear BK683
          clear BK684
          clear BK707
          clear HB
          have HO_13 := n0_
          have HO_14 := n1_
          have HO_708000 := n2_
          have HO721 := n3_
          have BK683 := n4_
          have BK684 := n5_
          have BK707 := n6_
          have HB := n7_
          clear n0_ n1_ n2_ n3_ n4_ n5_ n6_ n7_
          (try clear hb)
          (try clear hb2)
          (try clear hk)
          (try clear hi)
          (try clear ho0)
          obtain ⟨Ao78, co78, eo78⟩ := Kd.R_slice HO721.out
          (first | subst eo78 | (injection eo78 with f1_ f2_ f3_; have f4_ := f1_.symm; have f5_ := f3_.symm; clear f1_ f2_ f3_; subst f4_; subst f5_))
          refine hK.out _ _ ⟨(blk_cell BK707.out 0).trans rfl, (blk_cell BK707.out 1).trans rfl, (blk_cell BK683.out 0).trans rfl, (blk_cell BK683.out 1).trans rfl⟩ (fun hHeld => ?_)
          clear hK K
          refine norm_ (a' := ?_) ?_ ?_
          rotate_left
          ·
           show Act.put _ (some 69) _ = _
           simp only [Act.put, zA, zB, zD, i64_w, i32_w]
           rfl
          refine one_ (i := 3) (N := some 70) #[true, true, true, true, false] rfl rfl (by kernel_rfl) (by decide) (fun K hK => ?_)
          refine goes_ Try.func18 (by kernel_rfl) rfl #[.agg #[.slice Ao54 t703.length co54, .int .i64 t706], .agg #[.slice Ao78 t719.length co78, .int .i64 t722]] (by rfl) rfl rfl (by (try simp only [List.map_toArray, List.map_cons, List.map_nil]); first | done | rfl | (simp only [List.length_drop, List.length_take]; rfl)) ?_
          with_reducible refine (laws_eqInstrument.calls kj35 _ _ t703 t706 _ _ t719 t722 true _ ?side1 ?side2 ?side3 ?side4 A68.out).mono ?_
          (case side1 => repeat (first | exact (Kd.R_reads' HO_708000.out).2.2 | (with_reducible refine Kd.C_alloc ?_ _) | (with_reducible refine Kd.C_drewN ?_ _) | (with_reducible refine Kd.C_drew ?_)))
          (case side2 => exact (Kd.R_reads' HO_708000.out).2.1)
          (case side3 => repeat (first | exact (Kd.R_reads' HO721.out).2.2 | (with_reducible refine Kd.C_alloc ?_ _) | (with_reducible refine Kd.C_drewN ?_ _) | (with_reducible refine Kd.C_drew ?_)))
          (case side4 => exact (Kd.R_reads' HO721.out).2.1)
          rintro e w79 ⟨rfl, hb⟩
          refine ⟨_, rfl, ?_⟩
          have n0_ := zm (Kd.R_below (by (with_reducible repeat (first | apply Kd.R_alloc | apply Kd.R_drewN | apply Kd.R_drew)); exact HO_13.out) hb)
          have n1_ := zm (Kd.R_below (by (with_reducible repeat (first | apply Kd.R_alloc | apply Kd.R_drewN | apply Kd.R_drew)); exact HO_14.out) hb)
          have n2_ := zm (Kd.R_below (by (with_reducible repeat (first | apply Kd.R_alloc | apply Kd.R_drewN | apply Kd.R_drew)); exact HO_708000.out) hb)
          have n3_ := zm (Kd.R_below (by (with_reducible repeat (first | apply Kd.R_alloc | apply Kd.R_drewN | apply Kd.R_drew)); exact HO721.out) hb)
          have n4_ := zm (blk_below (g := gb683) zk hb)
          have n5_ := zm (blk_below (g := gb684) zk hb)
          have n6_ := zm (blk_below (g := gb707) zk hb)
          have n7_ := zm (below_step zb hb)
          clear HO_13
          clear HO_14
          clear HO_708000
          clear HO721
          clear BK683
          clear BK684
          clear BK707
          clear HB
          have HO_13 := n0_
          have HO_14 := n1_
          have HO_708000 := n2_
          have HO721 := n3_
          have BK683 := n4_
          have BK684 := n5_
          have BK707 := n6_
          have HB := n7_
          clear n0_ n1_ n2_ n3_ n4_ n5_ n6_ n7_
          (try clear hb)
          (try clear hb2)
          (try clear hk)
          (try clear hi)
          refine hK.out _ _ ⟨(blk_cell BK707.out 0).trans rfl, (blk_cell BK707.out 1).trans rfl, (blk_cell BK683.out 0).trans rfl, (blk_cell BK683.out 1).trans rfl⟩ (fun hHeld => ?_)
          clear hK K
          refine norm_ (a' := ?_) ?_ ?_
          rotate_left
          ·
           show Act.put _ (some 70) _ = _
           simp only [Act.put, zA, zB, zD, i64_w, i32_w]
           rfl
          refine pure_ (i := 4) (N := some 71) (v := ?_) (a' := ?_) #[true, true, true, true, true] rfl rfl (by kernel_rfl) (fun _ _ _ h => h) (Or.inl ⟨by rfl, ?_⟩) ?_ ?_
          rotate_left
          ·
           intro w'
           go_simp
           with_reducible rfl
          rotate_left
          ·
           simp only [Act.put, zA, zB, zD, i64_w, i32_w]
           rfl
          refine done_ (by kernel_rfl) ?_
          try go_wp2_with (first | ((with_reducible refine gate_callee (f := 15) rfl ?_); refine goesL_ (some 74) rfl rfl Try.func15 (by kernel_rfl) rfl #[.slice A1 l1.length c1] rfl (by (try simp only [List.map_toArray, List.map_cons, List.map_nil]); first | done | rfl | (simp only [List.length_drop, List.length_take]; rfl)) ?_; (with_reducible refine (laws_toHoleS.calls kj35 _ _ l1 t724 _ ?side1 ?side2 A70.out).mono ?_); (case side1 => repeat (first | exact (Kd.C_below HR1.out HB.out) | (with_reducible refine Kd.C_alloc ?_ _) | (with_reducible refine Kd.C_drewN ?_ _) | (with_reducible refine Kd.C_drew ?_))); (case side2 => exact HC1.out); rintro e w80 ⟨v725, rfl, ho0, hb⟩; refine ⟨_, rfl, ?_⟩; have n0_ := zm (Kd.R_elder' (by (with_reducible repeat (first | apply Kd.R_alloc | apply Kd.R_drewN | apply Kd.R_drew)); exact HO_13.out) (Kd.R_base ho0) hb); have n1_ := zm (Kd.R_below (by (with_reducible repeat (first | apply Kd.R_alloc | apply Kd.R_drewN | apply Kd.R_drew)); exact HO_14.out) hb); have n2_ := zm (Kd.R_below (by (with_reducible repeat (first | apply Kd.R_alloc | apply Kd.R_drewN | apply Kd.R_drew)); exact HO_708000.out) hb); have n3_ := zm (Kd.R_below (by (with_reducible repeat (first | apply Kd.R_alloc | apply Kd.R_drewN | apply Kd.R_drew)); exact HO721.out) hb); have n4_ := zm (Kd.R_lower (Kd.R_new' ho0 (Kd.R_lt (by (with_reducible repeat (first | apply Kd.R_alloc | apply Kd.R_drewN | apply Kd.R_drew)); exact HO_13.out))) (below_size zb)); have n5_ := zm (blk_below (g := gb683) zk hb); have n6_ := zm (blk_below (g := gb684) zk hb); have n7_ := zm (blk_below (g := gb707) zk hb); have n8_ := zm (below_step zb hb); clear HO_13; clear HO_14; clear HO_708000; clear HO721; clear BK683; clear BK684; clear BK707; clear HB; have HO_13 := n0_; have HO_14 := n1_; have HO_708000 := n2_; have HO721 := n3_; have HO726 := n4_; have BK683 := n5_; have BK684 := n6_; have BK707 := n7_; have HB := n8_; clear n0_ n1_ n2_ n3_ n4_ n5_ n6_ n7_ n8_; (try clear hb); (try clear hb2); (try clear hk); (try clear hi); (try clear ho0); obtain ⟨Ao81, co81, eo81⟩ := Kd.R_slice HO726.out; subst eo81) | ((with_reducible refine gate_callee (f := 19) rfl ?_); refine goesL_ (some 75) rfl rfl Try.func19 (by kernel_rfl) rfl #[.slice Ao62 t708.length co62, .slice Ao81 t724.length co81] rfl (by (try simp only [List.map_toArray, List.map_cons, List.map_nil]); first | done | rfl | (simp only [List.length_drop, List.length_take]; rfl)) ?_; (with_reducible refine (laws_eqHoleS.calls kj35 _ _ t708 _ _ t724 true _ ?side1 ?side2 ?side3 ?side4 A71.out).mono ?_); (case side1 => repeat (first | exact (Kd.R_reads' HO_13.out).2.2 | (with_reducible refine Kd.C_alloc ?_ _) | (with_reducible refine Kd.C_drewN ?_ _) | (with_reducible refine Kd.C_drew ?_))); (case side2 => exact (Kd.R_reads' HO_13.out).2.1); (case side3 => repeat (first | exact (Kd.R_reads' HO726.out).2.2 | (with_reducible refine Kd.C_alloc ?_ _) | (with_reducible refine Kd.C_drewN ?_ _) | (with_reducible refine Kd.C_drew ?_))); (case side4 => exact (Kd.R_reads' HO726.out).2.1); rintro e w82 ⟨rfl, hb⟩; refine ⟨_, rfl, ?_⟩; have n0_ := zm (Kd.R_below (by (with_reducible repeat (first | apply Kd.R_alloc | apply Kd.R_drewN | apply Kd.R_drew)); exact HO_13.out) hb); have n1_ := zm (Kd.R_below (by (with_reducible repeat (first | apply Kd.R_alloc | apply Kd.R_drewN | apply Kd.R_drew)); exact HO_14.out) hb); have n2_ := zm (Kd.R_below (by (with_reducible repeat (first | apply Kd.R_alloc | apply Kd.R_drewN | apply Kd.R_drew)); exact HO_708000.out) hb); have n3_ := zm (Kd.R_below (by (with_reducible repeat (first | apply Kd.R_alloc | apply Kd.R_drewN | apply Kd.R_drew)); exact HO721.out) hb); have n4_ := zm (Kd.R_below (by (with_reducible repeat (first | apply Kd.R_alloc | apply Kd.R_drewN | apply Kd.R_drew)); exact HO726.out) hb); have n5_ := zm (blk_below (g := gb683) zk hb); have n6_ := zm (blk_below (g := gb684) zk hb); have n7_ := zm (blk_below (g := gb707) zk hb); have n8_ := zm (below_step zb hb); clear HO_13; clear HO_14; clear HO_708000; clear HO721; clear HO726; clear BK683; clear BK684; clear BK707; clear HB; have HO_13 := n0_; have HO_14 := n1_; have HO_708000 := n2_; have HO721 := n3_; have HO726 := n4_; have BK683 := n5_; have BK684 := n6_; have BK707 := n7_; have HB := n8_; clear n0_ n1_ n2_ n3_ n4_ n5_ n6_ n7_ n8_; (try clear hb); (try clear hb2); (try clear hk); (try clear hi)) | ((with_reducible refine gate_callee (f := 39) rfl ?_); refine goesL_ (some 79) rfl rfl Try.func39 (by kernel_rfl) rfl #[.slice A3 l3.length c3] rfl (by (try simp only [List.map_toArray, List.map_cons, List.map_nil]); first | done | rfl | (simp only [List.length_drop, List.length_take]; rfl)) ?_; (with_reducible refine (laws_toNoteS.calls kj35 _ _ l3 t728 _ ?side1 ?side2 A73.out).mono ?_); (case side1 => repeat (first | exact (Kd.C_below HR3.out HB.out) | (with_reducible refine Kd.C_alloc ?_ _) | (with_reducible refine Kd.C_drewN ?_ _) | (with_reducible refine Kd.C_drew ?_))); (case side2 => exact HC3.out); rintro e w83 ⟨v729, rfl, ho0, hb⟩; refine ⟨_, rfl, ?_⟩; have n0_ := zm (Kd.R_below (by (with_reducible repeat (first | apply Kd.R_alloc | apply Kd.R_drewN | apply Kd.R_drew)); exact HO_13.out) hb); have n1_ := zm (Kd.R_elder' (by (with_reducible repeat (first | apply Kd.R_alloc | apply Kd.R_drewN | apply Kd.R_drew)); exact HO_14.out) (Kd.R_base ho0) hb); have n2_ := zm (Kd.R_below (by (with_reducible repeat (first | apply Kd.R_alloc | apply Kd.R_drewN | apply Kd.R_drew)); exact HO_708000.out) hb); have n3_ := zm (Kd.R_below (by (with_reducible repeat (first | apply Kd.R_alloc | apply Kd.R_drewN | apply Kd.R_drew)); exact HO721.out) hb); have n4_ := zm (Kd.R_below (by (with_reducible repeat (first | apply Kd.R_alloc | apply Kd.R_drewN | apply Kd.R_drew)); exact HO726.out) hb); have n5_ := zm (Kd.R_lower (Kd.R_new' ho0 (Kd.R_lt (by (with_reducible repeat (first | apply Kd.R_alloc | apply Kd.R_drewN | apply Kd.R_drew)); exact HO_14.out))) (below_size zb)); have n6_ := zm (blk_below (g := gb683) zk hb); have n7_ := zm (blk_below (g := gb684) zk hb); have n8_ := zm (blk_below (g := gb707) zk hb); have n9_ := zm (below_step zb hb); clear HO_13; clear HO_14; clear HO_708000; clear HO721; clear HO726; clear BK683; clear BK684; clear BK707; clear HB; have HO_13 := n0_; have HO_14 := n1_; have HO_708000 := n2_; have HO721 := n3_; have HO726 := n4_; have HO730 := n5_; have BK683 := n6_; have BK684 := n7_; have BK707 := n8_; have HB := n9_; clear n0_ n1_ n2_ n3_ n4_ n5_ n6_ n7_ n8_ n9_; (try clear hb); (try clear hb2); (try clear hk); (try clear hi); (try clear ho0); obtain ⟨Ao84, co84, eo84⟩ := Kd.R_slice HO730.out; subst eo84) | ((with_reducible refine gate_callee (f := 41) rfl ?_); refine goesL_ (some 80) rfl rfl Try.func41 (by kernel_rfl) rfl #[.slice Ao63 t711.length co63, .slice Ao84 t728.length co84] rfl (by (try simp only [List.map_toArray, List.map_cons, List.map_nil]); first | done | rfl | (simp only [List.length_drop, List.length_take]; rfl)) ?_; (with_reducible refine (laws_eqNoteS.calls kj35 _ _ t711 _ _ t728 true _ ?side1 ?side2 ?side3 ?side4 A74.out).mono ?_); (case side1 => repeat (first | exact (Kd.R_reads' HO_14.out).2.2 | (with_reducible refine Kd.C_alloc ?_ _) | (with_reducible refine Kd.C_drewN ?_ _) | (with_reducible refine Kd.C_drew ?_))); (case side2 => exact (Kd.R_reads' HO_14.out).2.1); (case side3 => repeat (first | exact (Kd.R_reads' HO730.out).2.2 | (with_reducible refine Kd.C_alloc ?_ _) | (with_reducible refine Kd.C_drewN ?_ _) | (with_reducible refine Kd.C_drew ?_))); (case side4 => exact (Kd.R_reads' HO730.out).2.1); rintro e w85 ⟨rfl, hb⟩; refine ⟨_, rfl, ?_⟩; have n0_ := zm (Kd.R_below (by (with_reducible repeat (first | apply Kd.R_alloc | apply Kd.R_drewN | apply Kd.R_drew)); exact HO_13.out) hb); have n1_ := zm (Kd.R_below (by (with_reducible repeat (first | apply Kd.R_alloc | apply Kd.R_drewN | apply Kd.R_drew)); exact HO_14.out) hb); have n2_ := zm (Kd.R_below (by (with_reducible repeat (first | apply Kd.R_alloc | apply Kd.R_drewN | apply Kd.R_drew)); exact HO_708000.out) hb); have n3_ := zm (Kd.R_below (by (with_reducible repeat (first | apply Kd.R_alloc | apply Kd.R_drewN | apply Kd.R_drew)); exact HO721.out) hb); have n4_ := zm (Kd.R_below (by (with_reducible repeat (first | apply Kd.R_alloc | apply Kd.R_drewN | apply Kd.R_drew)); exact HO726.out) hb); have n5_ := zm (Kd.R_below (by (with_reducible repeat (first | apply Kd.R_alloc | apply Kd.R_drewN | apply Kd.R_drew)); exact HO730.out) hb); have n6_ := zm (blk_below (g := gb683) zk hb); have n7_ := zm (blk_below (g := gb684) zk hb); have n8_ := zm (blk_below (g := gb707) zk hb); have n9_ := zm (below_step zb hb); clear HO_13; clear HO_14; clear HO_708000; clear HO721; clear HO726; clear HO730; clear BK683; clear BK684; clear BK707; clear HB; have HO_13 := n0_; have HO_14 := n1_; have HO_708000 := n2_; have HO721 := n3_; have HO726 := n4_; have HO730 := n5_; have BK683 := n6_; have BK684 := n7_; have BK707 := n8_; have HB := n9_; clear n0_ n1_ n2_ n3_ n4_ n5_ n6_ n7_ n8_ n9_; (try clear hb); (try clear hb2); (try clear hk); (try clear hi)))
          go_ret
          exact ⟨zr, zb⟩
         ·
          replace c75 := Bool.eq_false_iff.mpr c75
          subst c75
          have H1 : (some false) = some r := by rw [if_neg (show ¬ (false = true) by decide)] at H; exact H
          clear H
          have H := H1
          clear H1
          exact absurd ((Option.some.inj H).trans hr_) (by decide)
        ·
         replace c72 := Bool.eq_false_iff.mpr c72
         subst c72
         have H1 : (some false) = some r := by rw [if_neg (show ¬ (false = true) by decide)] at H; exact H
         clear H
         have H := H1
         clear H1
         exact absurd ((Option.some.inj H).trans hr_) (by decide)
       ·
        replace c69 := Bool.eq_false_iff.mpr c69
        subst c69
        have H1 : (some false) = some r := by rw [if_neg (show ¬ (false = true) by decide)] at H; exact H
        clear H
        have H := H1
        clear H1
        exact absurd ((Option.some.inj H).trans hr_) (by decide)

end Go.Proofs.Ytioheacdldgaaaa.PAll
