-- Written for this claim by a program of this session (wip/tpl/patchprint.py), not by print.sh.
import Derived.Test.YtioheacdldgaaaaPAllx0
import Derived.Test.YtioheacdldgaaaaPAllx1
import Derived.Test.YtioheacdldgaaaaPAllx2
import Derived.Test.YtioheacdldgaaaaPAllx13
namespace Go.Proofs.Ytioheacdldgaaaa.PAll
open Go.RowKit Go.Proofs.YtioheacdldgaaaaW.PrintWords Go.Proofs.YtioheacdldgaaaaW.PrintLast Go.Proofs.YtioheacdldgaaaaW.PrintMore
attribute [local go_sem] max2_int min2_int max_two min_two max_three min_three max_four min_four   -- for this text's walks alone
set_option linter.unusedVariables false
set_option linter.unusedSimpArgs false

/-! ### laws_FnExactGreatestLeast: function 3 -/
def laws_FnExactGreatestLeast.j0 : Nat → List (S75) → List (S73) → Bool → List Int → Int → List Int → Int → Option (Bool)
  | 0, _, _, _, _, _, _, _ => none
  | k + 1, x1, x11, x53, x478000, x478001, x498000, x498001 => if x53 = true then (some false) else ((laws_toInstrument.f k x478000 x478001).bind fun bt506 => ((laws_eqInstrument.f k x498000 x498001 bt506.1 bt506.2).bind fun t510 => (if t510 = true then ((laws_toHoleS.f k x1).bind fun t511 => ((laws_eqHoleS.f k x11 t511).bind fun t514 => (if t514 = true then (some true) else (some false)))) else (some false))))
def laws_FnExactGreatestLeast.f (k : Nat) (l0_0 : List Int) (a0_1 : Int) (l1 : List (S75)) (a2_0 : Int) (a2_1 : Int) (a2_2 : Int) : Option (Bool) := (laws_szInstrument.f l0_0 a0_1 1048576).bind fun t479 => (if t479 < 0 then (some true) else ((laws_szHoleS.f l1 t479).bind fun t480 => (if t480 < 0 then (some true) else ((laws_toInstrument.f k l0_0 a0_1).bind fun bt481 => ((laws_toHoleS.f k l1).bind fun t485 => ((laws_toAction.f a2_0 a2_1 a2_2).bind fun bt488 => ((spec_GreatestLeast.f k bt481.1 bt481.2 t485 bt488.1 bt488.2.1 bt488.2.2).bind fun bt491 => ((laws_toInstrument.f k l0_0 a0_1).bind fun bt493 => ((laws_toHoleS.f k l1).bind fun t498 => ((laws_toAction.f a2_0 a2_1 a2_2).bind fun bt501 => ((impl_GreatestLeast.f k bt493.1 bt493.2 t498 bt501.1 bt501.2.1 bt501.2.2).bind fun bt504 => (if bt504.1 = bt491.1 then (laws_FnExactGreatestLeast.j0 k l1 t498 (bt504.2 != bt491.2) l0_0 a0_1 bt493.1 bt493.2) else (laws_FnExactGreatestLeast.j0 k l1 t498 true l0_0 a0_1 bt493.1 bt493.2)))))))))))))
theorem laws_FnExactGreatestLeast.mono_l : ∀ k, (∀ y0 y1 y2 y3 y4 y5 y6, LeO (laws_FnExactGreatestLeast.j0 k y0 y1 y2 y3 y4 y5 y6) (laws_FnExactGreatestLeast.j0 (k + 1) y0 y1 y2 y3 y4 y5 y6))
  | 0 => fun _ _ _ _ _ _ _ r h => by simp [laws_FnExactGreatestLeast.j0] at h
  | k + 1 => by
    have ih0 := laws_FnExactGreatestLeast.mono_l k
    · intro y0 y1 y2 y3 y4 y5 y6
      unfold laws_FnExactGreatestLeast.j0
      repeat' first
      | (with_reducible exact ih0 _ _ _ _ _ _ _)
      | (with_reducible exact impl_GreatestLeast.mono _ _ _ _ _ _ _)
      | (with_reducible exact laws_eqHoleS.mono _ _ _)
      | (with_reducible exact laws_eqInstrument.mono _ _ _ _ _)
      | (with_reducible exact laws_toHoleS.mono _ _)
      | (with_reducible exact laws_toInstrument.mono _ _ _)
      | (with_reducible exact spec_GreatestLeast.mono _ _ _ _ _ _ _)
      | (with_reducible exact LeO.refl _)
      | (with_reducible exact LeO.none _)
      | (with_reducible refine LeO.ite ?_ ?_)
      | (with_reducible refine LeO.bind ?_ (fun _ => ?_))
      | exact ih0 _ _ _ _ _ _ _
      | exact impl_GreatestLeast.mono _ _ _ _ _ _ _
      | exact laws_eqHoleS.mono _ _ _
      | exact laws_eqInstrument.mono _ _ _ _ _
      | exact laws_toHoleS.mono _ _
      | exact laws_toInstrument.mono _ _ _
      | exact spec_GreatestLeast.mono _ _ _ _ _ _ _
      | exact LeO.none _
      | refine LeO.ite ?_ ?_
      | refine LeO.bind ?_ (fun _ => ?_)
theorem laws_FnExactGreatestLeast.mono : ∀ a0 a1 a2 a3 a4 a5 k, LeO (laws_FnExactGreatestLeast.f k a0 a1 a2 a3 a4 a5) (laws_FnExactGreatestLeast.f (k + 1) a0 a1 a2 a3 a4 a5) := by
  intro a0 a1 a2 a3 a4 a5 k
  have ih0 := laws_FnExactGreatestLeast.mono_l k
  unfold laws_FnExactGreatestLeast.f
  repeat' first
      | (with_reducible exact ih0 _ _ _ _ _ _ _)
      | (with_reducible exact impl_GreatestLeast.mono _ _ _ _ _ _ _)
      | (with_reducible exact laws_eqHoleS.mono _ _ _)
      | (with_reducible exact laws_eqInstrument.mono _ _ _ _ _)
      | (with_reducible exact laws_toHoleS.mono _ _)
      | (with_reducible exact laws_toInstrument.mono _ _ _)
      | (with_reducible exact spec_GreatestLeast.mono _ _ _ _ _ _ _)
      | (with_reducible exact LeO.refl _)
      | (with_reducible exact LeO.none _)
      | (with_reducible refine LeO.ite ?_ ?_)
      | (with_reducible refine LeO.bind ?_ (fun _ => ?_))
      | exact ih0 _ _ _ _ _ _ _
      | exact impl_GreatestLeast.mono _ _ _ _ _ _ _
      | exact laws_eqHoleS.mono _ _ _
      | exact laws_eqInstrument.mono _ _ _ _ _
      | exact laws_toHoleS.mono _ _
      | exact laws_toInstrument.mono _ _ _
      | exact spec_GreatestLeast.mono _ _ _ _ _ _ _
      | exact LeO.none _
      | refine LeO.ite ?_ ?_
      | refine LeO.bind ?_ (fun _ => ?_)
def laws_FnExactGreatestLeast.T8 : Bool × List (List Nat × List Nat) := (true, [([], []), ([0], [0]), ([], []), ([2, 1], [2]), ([], []), ([4, 3], [4]), ([1, 3, 5, 5], [1, 3, 5]), ([6], [6]), ([7], [7]), ([7], [7]), ([8, 6, 0, 1, 2, 3, 4, 5, 6, 7, 8], [8]), ([9, 10, 0, 1, 2, 3, 4, 5, 6, 7, 8, 9, 10], [9])])
def laws_FnExactGreatestLeast.B8 : List Nat := [0, 1, 0, 7, 0, 31, 63, 127, 255, 255, 511, 2047]
theorem laws_FnExactGreatestLeast.tab8 : rtab .any (opsOf Try.f3 8) = laws_FnExactGreatestLeast.T8 := by kernel_rfl
theorem laws_FnExactGreatestLeast.bits8 : waitsOk laws_FnExactGreatestLeast.T8.2 laws_FnExactGreatestLeast.B8 = true := by kernel_rfl
def laws_FnExactGreatestLeast.T11 : Bool × List (List Nat × List Nat) := (true, [([], []), ([], []), ([], []), ([2], [2]), ([0, 1, 3, 3], [0, 1, 3]), ([4], [4]), ([5], [5]), ([5], [5]), ([6, 4, 0, 1, 2, 3, 4, 5, 6], [6]), ([7, 8, 0, 1, 2, 3, 4, 5, 6, 7, 8], [7])])
def laws_FnExactGreatestLeast.B11 : List Nat := [0, 0, 0, 4, 15, 31, 63, 63, 127, 511]
theorem laws_FnExactGreatestLeast.tab11 : rtab .any (opsOf Try.f3 11) = laws_FnExactGreatestLeast.T11 := by kernel_rfl
theorem laws_FnExactGreatestLeast.bits11 : waitsOk laws_FnExactGreatestLeast.T11.2 laws_FnExactGreatestLeast.B11 = true := by kernel_rfl
theorem laws_FnExactGreatestLeast.j0_t {k : Nat} : ∀ {a0_ a1_ a3_ a4_ a5_ a6_}, laws_FnExactGreatestLeast.j0 k a0_ a1_ true a3_ a4_ a5_ a6_ = some true → False := by
  intros; rename_i h; revert h; cases k <;> simp [laws_FnExactGreatestLeast.j0]
set_option maxHeartbeats 8000000 in
set_option maxRecDepth 100000 in
theorem laws_FnExactGreatestLeast.calls (k : Nat) (A0_0 : Option Addr) (c0_0 : Nat) (l0_0 : List Int) (a0_1 : Int) (A1 : Option Addr) (c1 : Nat) (l1 : List (S75)) (a2_0 : Int) (a2_1 : Int) (a2_2 : Int) (r : Bool) (w : World) (hr0_0 : Kd.C (Kd.int .i64) w A0_0 l0_0.length l0_0) (hc0_0 : l0_0.length ≤ c0_0) (hr1 : Kd.C k75 w A1 l1.length l1) (hc1 : l1.length ≤ c1) (h : laws_FnExactGreatestLeast.f k l0_0 a0_1 l1 a2_0 a2_1 a2_2 = some r) (hr_ : r = true) :
  Calls Try.prog 3 #[.agg #[.slice A0_0 l0_0.length c0_0, .int .i64 a0_1], .slice A1 l1.length c1, .agg #[.int .i64 a2_0, .int .i64 a2_1, .int .i64 a2_2]] w fun e w' => e = .returned (.bool r) ∧ Below w.heap.size w w' := by
 have hu24 := Try.underlying24
 have hu27 := Try.underlying27
 have hu32 := Try.underlying32
 have HR0_0 := zm hr0_0
 have HC0_0 := zm hc0_0
 clear hr0_0 hc0_0
 have HR1 := zm hr1
 have HC1 := zm hc1
 clear hr1 hc1
 have HB := zm (Below.refl w.heap.size w)
 have H : ((laws_szInstrument.f l0_0 a0_1 1048576).bind fun t479 => (if t479 < 0 then (some true) else ((laws_szHoleS.f l1 t479).bind fun t480 => (if t480 < 0 then (some true) else ((laws_toInstrument.f k l0_0 a0_1).bind fun bt481 => ((laws_toHoleS.f k l1).bind fun t485 => ((laws_toAction.f a2_0 a2_1 a2_2).bind fun bt488 => ((spec_GreatestLeast.f k bt481.1 bt481.2 t485 bt488.1 bt488.2.1 bt488.2.2).bind fun bt491 => ((laws_toInstrument.f k l0_0 a0_1).bind fun bt493 => ((laws_toHoleS.f k l1).bind fun t498 => ((laws_toAction.f a2_0 a2_1 a2_2).bind fun bt501 => ((impl_GreatestLeast.f k bt493.1 bt493.2 t498 bt501.1 bt501.2.1 bt501.2.2).bind fun bt504 => (if bt504.1 = bt491.1 then (laws_FnExactGreatestLeast.j0 k l1 t498 (bt504.2 != bt491.2) l0_0 a0_1 bt493.1 bt493.2) else (laws_FnExactGreatestLeast.j0 k l1 t498 true l0_0 a0_1 bt493.1 bt493.2)))))))))))))) = some r := h
 clear h
 replace H := Option.bind_eq_some_iff.mp H
 obtain ⟨t479, A40, H⟩ := H
 replace H : (if t479 < 0 then (some true) else ((laws_szHoleS.f l1 t479).bind fun t480 => (if t480 < 0 then (some true) else ((laws_toInstrument.f k l0_0 a0_1).bind fun bt481 => ((laws_toHoleS.f k l1).bind fun t485 => ((laws_toAction.f a2_0 a2_1 a2_2).bind fun bt488 => ((spec_GreatestLeast.f k bt481.1 bt481.2 t485 bt488.1 bt488.2.1 bt488.2.2).bind fun bt491 => ((laws_toInstrument.f k l0_0 a0_1).bind fun bt493 => ((laws_toHoleS.f k l1).bind fun t498 => ((laws_toAction.f a2_0 a2_1 a2_2).bind fun bt501 => ((impl_GreatestLeast.f k bt493.1 bt493.2 t498 bt501.1 bt501.2.1 bt501.2.2).bind fun bt504 => (if bt504.1 = bt491.1 then (laws_FnExactGreatestLeast.j0 k l1 t498 (bt504.2 != bt491.2) l0_0 a0_1 bt493.1 bt493.2) else (laws_FnExactGreatestLeast.j0 k l1 t498 true l0_0 a0_1 bt493.1 bt493.2))))))))))))) = some r := H
 have A4 := zm A40
 clear A40
 by_cases c5 : t479 < 0
 ·
  rw [if_pos c5] at H
  have c5b0 : decide (t479 < 0) = true := decide_eq_true c5
  clear c5
  obtain rfl := Option.some.inj H
  go_enter Try.func3, Try.ntmps3
  go_wp2_with (first | ((with_reducible refine gate_dst (N := 3) rfl ?_); refine box_event ?hg (N := 3) ?hd (cs := #[.slice A0_0 l0_0.length c0_0, .int .i64 a0_1]) (t := 24) ?hr ?_; (case hd => rfl); (case hg => rfl); (case hr => first | (go_simp; done) | (go_simp; rfl)); intro gb477 hg w6 hbox hb; have n0_ := zm (below_step zb hb); have n1_ := zm (hbox); have n2_ := zm (zs hg zb : w.heap.size ≤ gb477); have n3_ := zm (zs hg zb : w.heap.size ≤ gb477); clear HB; have HB := n0_; have BK477 := n1_; have GW477 := n2_; have GE477 := n3_; clear n0_ n1_ n2_ n3_; clear hb hbox hg) | ((with_reducible refine gate_dst (N := 5) rfl ?_); refine box_event ?hg (N := 5) ?hd (cs := #[.int .i64 a2_0, .int .i64 a2_1, .int .i64 a2_2]) (t := 27) ?hr ?_; (case hd => rfl); (case hg => rfl); (case hr => first | (go_simp; done) | (go_simp; rfl)); intro gb478 hg w7 hbox hb; have n0_ := zm (blk_below (g := gb477) zk hb); have n1_ := zm (below_step zb hb); have n2_ := zm (hbox); have n3_ := zm (zs hg zb : w.heap.size ≤ gb478); have n4_ := zm (zs hg zb : w.heap.size ≤ gb478); have n5_ := zm (zl hg zk : gb477 ≠ gb478); have n6_ := zm (zg hg zk : gb478 ≠ gb477); clear BK477; clear HB; have BK477 := n0_; have HB := n1_; have BK478 := n2_; have GW478 := n3_; have GE478 := n4_; have NB477_478 := n5_; have NB478_477 := n6_; clear n0_ n1_ n2_ n3_ n4_ n5_ n6_; clear hb hbox hg; have hnb8 := NB477_478.out; have hnc8 := NB478_477.out; obtain ⟨hcz9_0, hcz9_1, hfz9_0, hfz9_1⟩ := zc2 BK477.out) | ((with_reducible refine gate_callee (f := 11) rfl ?_); refine goesL_ (some 16) rfl rfl Try.func11 (by kernel_rfl) rfl #[.agg #[.slice A0_0 l0_0.length c0_0, .int .i64 a0_1], .int .i64 1048576] rfl (by (try simp only [List.map_toArray, List.map_cons, List.map_nil]); first | done | rfl | (simp only [List.length_drop, List.length_take]; rfl)) ?_; (with_reducible refine (laws_szInstrument.calls _ _ l0_0 a0_1 1048576 t479 _ ?side1 ?side2 A4.out).mono ?_); (case side1 => repeat (first | exact (Kd.C_below HR0_0.out HB.out) | (with_reducible refine Kd.C_alloc ?_ _) | (with_reducible refine Kd.C_drewN ?_ _) | (with_reducible refine Kd.C_drew ?_))); (case side2 => exact HC0_0.out); rintro e w10 ⟨rfl, hb⟩; refine ⟨_, rfl, ?_⟩; have n0_ := zm (blk_below (g := gb477) zk hb); have n1_ := zm (blk_below (g := gb478) zk hb); have n2_ := zm (below_step zb hb); clear BK477; clear BK478; clear HB; have BK477 := n0_; have BK478 := n1_; have HB := n2_; clear n0_ n1_ n2_; (try clear hb); (try clear hb2); (try clear hk); (try clear hi)))
  go_ret
  exact ⟨zr, zb⟩
 ·
  rw [if_neg c5] at H
  have c5b0 : decide (t479 < 0) = false := decide_eq_false c5
  clear c5
  replace H := Option.bind_eq_some_iff.mp H
  obtain ⟨t480, A110, H⟩ := H
  replace H : (if t480 < 0 then (some true) else ((laws_toInstrument.f k l0_0 a0_1).bind fun bt481 => ((laws_toHoleS.f k l1).bind fun t485 => ((laws_toAction.f a2_0 a2_1 a2_2).bind fun bt488 => ((spec_GreatestLeast.f k bt481.1 bt481.2 t485 bt488.1 bt488.2.1 bt488.2.2).bind fun bt491 => ((laws_toInstrument.f k l0_0 a0_1).bind fun bt493 => ((laws_toHoleS.f k l1).bind fun t498 => ((laws_toAction.f a2_0 a2_1 a2_2).bind fun bt501 => ((impl_GreatestLeast.f k bt493.1 bt493.2 t498 bt501.1 bt501.2.1 bt501.2.2).bind fun bt504 => (if bt504.1 = bt491.1 then (laws_FnExactGreatestLeast.j0 k l1 t498 (bt504.2 != bt491.2) l0_0 a0_1 bt493.1 bt493.2) else (laws_FnExactGreatestLeast.j0 k l1 t498 true l0_0 a0_1 bt493.1 bt493.2))))))))))) = some r := H
  have A11 := zm A110
  clear A110
  by_cases c12 : t480 < 0
  ·
   rw [if_pos c12] at H
   have c12b0 : decide (t480 < 0) = true := decide_eq_true c12
   clear c12
   obtain rfl := Option.some.inj H
   go_enter Try.func3, Try.ntmps3
   go_wp2_with (first | ((with_reducible refine gate_dst (N := 3) rfl ?_); refine box_event ?hg (N := 3) ?hd (cs := #[.slice A0_0 l0_0.length c0_0, .int .i64 a0_1]) (t := 24) ?hr ?_; (case hd => rfl); (case hg => rfl); (case hr => first | (go_simp; done) | (go_simp; rfl)); intro gb477 hg w13 hbox hb; have n0_ := zm (below_step zb hb); have n1_ := zm (hbox); have n2_ := zm (zs hg zb : w.heap.size ≤ gb477); have n3_ := zm (zs hg zb : w.heap.size ≤ gb477); clear HB; have HB := n0_; have BK477 := n1_; have GW477 := n2_; have GE477 := n3_; clear n0_ n1_ n2_ n3_; clear hb hbox hg) | ((with_reducible refine gate_dst (N := 5) rfl ?_); refine box_event ?hg (N := 5) ?hd (cs := #[.int .i64 a2_0, .int .i64 a2_1, .int .i64 a2_2]) (t := 27) ?hr ?_; (case hd => rfl); (case hg => rfl); (case hr => first | (go_simp; done) | (go_simp; rfl)); intro gb478 hg w14 hbox hb; have n0_ := zm (blk_below (g := gb477) zk hb); have n1_ := zm (below_step zb hb); have n2_ := zm (hbox); have n3_ := zm (zs hg zb : w.heap.size ≤ gb478); have n4_ := zm (zs hg zb : w.heap.size ≤ gb478); have n5_ := zm (zl hg zk : gb477 ≠ gb478); have n6_ := zm (zg hg zk : gb478 ≠ gb477); clear BK477; clear HB; have BK477 := n0_; have HB := n1_; have BK478 := n2_; have GW478 := n3_; have GE478 := n4_; have NB477_478 := n5_; have NB478_477 := n6_; clear n0_ n1_ n2_ n3_ n4_ n5_ n6_; clear hb hbox hg; have hnb15 := NB477_478.out; have hnc15 := NB478_477.out; obtain ⟨hcz16_0, hcz16_1, hfz16_0, hfz16_1⟩ := zc2 BK477.out) | ((with_reducible refine gate_callee (f := 11) rfl ?_); refine goesL_ (some 16) rfl rfl Try.func11 (by kernel_rfl) rfl #[.agg #[.slice A0_0 l0_0.length c0_0, .int .i64 a0_1], .int .i64 1048576] rfl (by (try simp only [List.map_toArray, List.map_cons, List.map_nil]); first | done | rfl | (simp only [List.length_drop, List.length_take]; rfl)) ?_; (with_reducible refine (laws_szInstrument.calls _ _ l0_0 a0_1 1048576 t479 _ ?side1 ?side2 A4.out).mono ?_); (case side1 => repeat (first | exact (Kd.C_below HR0_0.out HB.out) | (with_reducible refine Kd.C_alloc ?_ _) | (with_reducible refine Kd.C_drewN ?_ _) | (with_reducible refine Kd.C_drew ?_))); (case side2 => exact HC0_0.out); rintro e w17 ⟨rfl, hb⟩; refine ⟨_, rfl, ?_⟩; have n0_ := zm (blk_below (g := gb477) zk hb); have n1_ := zm (blk_below (g := gb478) zk hb); have n2_ := zm (below_step zb hb); clear BK477; clear BK478; clear HB; have BK477 := n0_; have BK478 := n1_; have HB := n2_; clear n0_ n1_ n2_; (try clear hb); (try clear hb2); (try clear hk); (try clear hi)) | ((with_reducible refine gate_callee (f := 12) rfl ?_); refine goesL_ (some 21) rfl rfl Try.func12 (by kernel_rfl) rfl #[.slice A1 l1.length c1, .int .i64 t479] rfl (by (try simp only [List.map_toArray, List.map_cons, List.map_nil]); first | done | rfl | (simp only [List.length_drop, List.length_take]; rfl)) ?_; (with_reducible refine (laws_szHoleS.calls _ _ l1 t479 t480 _ ?side1 ?side2 A11.out).mono ?_); (case side1 => repeat (first | exact (Kd.C_below HR1.out HB.out) | (with_reducible refine Kd.C_alloc ?_ _) | (with_reducible refine Kd.C_drewN ?_ _) | (with_reducible refine Kd.C_drew ?_))); (case side2 => exact HC1.out); rintro e w' ⟨rfl, ⟨nd, rfl⟩⟩; refine ⟨_, rfl, ?_⟩))
   go_ret
   exact ⟨zr, zb⟩
  ·
   rw [if_neg c12] at H
   have c12b0 : decide (t480 < 0) = false := decide_eq_false c12
   clear c12
   replace H := Option.bind_eq_some_iff.mp H
   obtain ⟨⟨t481, t484⟩, A180, H⟩ := H
   replace H : ((laws_toHoleS.f k l1).bind fun t485 => ((laws_toAction.f a2_0 a2_1 a2_2).bind fun bt488 => ((spec_GreatestLeast.f k t481 t484 t485 bt488.1 bt488.2.1 bt488.2.2).bind fun bt491 => ((laws_toInstrument.f k l0_0 a0_1).bind fun bt493 => ((laws_toHoleS.f k l1).bind fun t498 => ((laws_toAction.f a2_0 a2_1 a2_2).bind fun bt501 => ((impl_GreatestLeast.f k bt493.1 bt493.2 t498 bt501.1 bt501.2.1 bt501.2.2).bind fun bt504 => (if bt504.1 = bt491.1 then (laws_FnExactGreatestLeast.j0 k l1 t498 (bt504.2 != bt491.2) l0_0 a0_1 bt493.1 bt493.2) else (laws_FnExactGreatestLeast.j0 k l1 t498 true l0_0 a0_1 bt493.1 bt493.2))))))))) = some r := H
   have A18 := zm A180
   clear A180
   replace H := Option.bind_eq_some_iff.mp H
   obtain ⟨t485, A190, H⟩ := H
   replace H : ((laws_toAction.f a2_0 a2_1 a2_2).bind fun bt488 => ((spec_GreatestLeast.f k t481 t484 t485 bt488.1 bt488.2.1 bt488.2.2).bind fun bt491 => ((laws_toInstrument.f k l0_0 a0_1).bind fun bt493 => ((laws_toHoleS.f k l1).bind fun t498 => ((laws_toAction.f a2_0 a2_1 a2_2).bind fun bt501 => ((impl_GreatestLeast.f k bt493.1 bt493.2 t498 bt501.1 bt501.2.1 bt501.2.2).bind fun bt504 => (if bt504.1 = bt491.1 then (laws_FnExactGreatestLeast.j0 k l1 t498 (bt504.2 != bt491.2) l0_0 a0_1 bt493.1 bt493.2) else (laws_FnExactGreatestLeast.j0 k l1 t498 true l0_0 a0_1 bt493.1 bt493.2)))))))) = some r := H
   have A19 := zm A190
   clear A190
   replace H := Option.bind_eq_some_iff.mp H
   obtain ⟨⟨t488, t489, t490⟩, A200, H⟩ := H
   replace H : ((spec_GreatestLeast.f k t481 t484 t485 t488 t489 t490).bind fun bt491 => ((laws_toInstrument.f k l0_0 a0_1).bind fun bt493 => ((laws_toHoleS.f k l1).bind fun t498 => ((laws_toAction.f a2_0 a2_1 a2_2).bind fun bt501 => ((impl_GreatestLeast.f k bt493.1 bt493.2 t498 bt501.1 bt501.2.1 bt501.2.2).bind fun bt504 => (if bt504.1 = bt491.1 then (laws_FnExactGreatestLeast.j0 k l1 t498 (bt504.2 != bt491.2) l0_0 a0_1 bt493.1 bt493.2) else (laws_FnExactGreatestLeast.j0 k l1 t498 true l0_0 a0_1 bt493.1 bt493.2))))))) = some r := H
   have A20 := zm A200
   clear A200
   replace H := Option.bind_eq_some_iff.mp H
   obtain ⟨⟨t491, t492⟩, A210, H⟩ := H
   replace H : ((laws_toInstrument.f k l0_0 a0_1).bind fun bt493 => ((laws_toHoleS.f k l1).bind fun t498 => ((laws_toAction.f a2_0 a2_1 a2_2).bind fun bt501 => ((impl_GreatestLeast.f k bt493.1 bt493.2 t498 bt501.1 bt501.2.1 bt501.2.2).bind fun bt504 => (if bt504.1 = t491 then (laws_FnExactGreatestLeast.j0 k l1 t498 (bt504.2 != t492) l0_0 a0_1 bt493.1 bt493.2) else (laws_FnExactGreatestLeast.j0 k l1 t498 true l0_0 a0_1 bt493.1 bt493.2)))))) = some r := H
   have A21 := zm A210
   clear A210
   replace H := Option.bind_eq_some_iff.mp H
   obtain ⟨⟨t493, t496⟩, A220, H⟩ := H
   replace H : ((laws_toHoleS.f k l1).bind fun t498 => ((laws_toAction.f a2_0 a2_1 a2_2).bind fun bt501 => ((impl_GreatestLeast.f k t493 t496 t498 bt501.1 bt501.2.1 bt501.2.2).bind fun bt504 => (if bt504.1 = t491 then (laws_FnExactGreatestLeast.j0 k l1 t498 (bt504.2 != t492) l0_0 a0_1 t493 t496) else (laws_FnExactGreatestLeast.j0 k l1 t498 true l0_0 a0_1 t493 t496))))) = some r := H
   have A22 := zm A220
   clear A220
   replace H := Option.bind_eq_some_iff.mp H
   obtain ⟨t498, A230, H⟩ := H
   replace H : ((laws_toAction.f a2_0 a2_1 a2_2).bind fun bt501 => ((impl_GreatestLeast.f k t493 t496 t498 bt501.1 bt501.2.1 bt501.2.2).bind fun bt504 => (if bt504.1 = t491 then (laws_FnExactGreatestLeast.j0 k l1 t498 (bt504.2 != t492) l0_0 a0_1 t493 t496) else (laws_FnExactGreatestLeast.j0 k l1 t498 true l0_0 a0_1 t493 t496)))) = some r := H
   have A23 := zm A230
   clear A230
   replace H := Option.bind_eq_some_iff.mp H
   obtain ⟨⟨t501, t502, t503⟩, A240, H⟩ := H
   replace H : ((impl_GreatestLeast.f k t493 t496 t498 t501 t502 t503).bind fun bt504 => (if bt504.1 = t491 then (laws_FnExactGreatestLeast.j0 k l1 t498 (bt504.2 != t492) l0_0 a0_1 t493 t496) else (laws_FnExactGreatestLeast.j0 k l1 t498 true l0_0 a0_1 t493 t496))) = some r := H
   have A24 := zm A240
   clear A240
   replace H := Option.bind_eq_some_iff.mp H
   obtain ⟨⟨t504, t505⟩, A250, H⟩ := H
   replace H : (if t504 = t491 then (laws_FnExactGreatestLeast.j0 k l1 t498 (t505 != t492) l0_0 a0_1 t493 t496) else (laws_FnExactGreatestLeast.j0 k l1 t498 true l0_0 a0_1 t493 t496)) = some r := H
   have A25 := zm A250
   clear A250
   have HC26 := zm H
   clear H
   go_enter Try.func3, Try.ntmps3
   try go_wp2_with (first | ((with_reducible refine gate_dst (N := 3) rfl ?_); refine box_event ?hg (N := 3) ?hd (cs := #[.slice A0_0 l0_0.length c0_0, .int .i64 a0_1]) (t := 24) ?hr ?_; (case hd => rfl); (case hg => rfl); (case hr => first | (go_simp; done) | (go_simp; rfl)); intro gb477 hg w27 hbox hb; have n0_ := zm (below_step zb hb); have n1_ := zm (hbox); have n2_ := zm (zs hg zb : w.heap.size ≤ gb477); have n3_ := zm (zs hg zb : w.heap.size ≤ gb477); clear HB; have HB := n0_; have BK477 := n1_; have GW477 := n2_; have GE477 := n3_; clear n0_ n1_ n2_ n3_; clear hb hbox hg) | ((with_reducible refine gate_dst (N := 5) rfl ?_); refine box_event ?hg (N := 5) ?hd (cs := #[.int .i64 a2_0, .int .i64 a2_1, .int .i64 a2_2]) (t := 27) ?hr ?_; (case hd => rfl); (case hg => rfl); (case hr => first | (go_simp; done) | (go_simp; rfl)); intro gb478 hg w28 hbox hb; have n0_ := zm (blk_below (g := gb477) zk hb); have n1_ := zm (below_step zb hb); have n2_ := zm (hbox); have n3_ := zm (zs hg zb : w.heap.size ≤ gb478); have n4_ := zm (zs hg zb : w.heap.size ≤ gb478); have n5_ := zm (zl hg zk : gb477 ≠ gb478); have n6_ := zm (zg hg zk : gb478 ≠ gb477); clear BK477; clear HB; have BK477 := n0_; have HB := n1_; have BK478 := n2_; have GW478 := n3_; have GE478 := n4_; have NB477_478 := n5_; have NB478_477 := n6_; clear n0_ n1_ n2_ n3_ n4_ n5_ n6_; clear hb hbox hg; have hnb29 := NB477_478.out; have hnc29 := NB478_477.out; obtain ⟨hcz30_0, hcz30_1, hfz30_0, hfz30_1⟩ := zc2 BK477.out) | ((with_reducible refine gate_callee (f := 11) rfl ?_); refine goesL_ (some 16) rfl rfl Try.func11 (by kernel_rfl) rfl #[.agg #[.slice A0_0 l0_0.length c0_0, .int .i64 a0_1], .int .i64 1048576] rfl (by (try simp only [List.map_toArray, List.map_cons, List.map_nil]); first | done | rfl | (simp only [List.length_drop, List.length_take]; rfl)) ?_; (with_reducible refine (laws_szInstrument.calls _ _ l0_0 a0_1 1048576 t479 _ ?side1 ?side2 A4.out).mono ?_); (case side1 => repeat (first | exact (Kd.C_below HR0_0.out HB.out) | (with_reducible refine Kd.C_alloc ?_ _) | (with_reducible refine Kd.C_drewN ?_ _) | (with_reducible refine Kd.C_drew ?_))); (case side2 => exact HC0_0.out); rintro e w31 ⟨rfl, hb⟩; refine ⟨_, rfl, ?_⟩; have n0_ := zm (blk_below (g := gb477) zk hb); have n1_ := zm (blk_below (g := gb478) zk hb); have n2_ := zm (below_step zb hb); clear BK477; clear BK478; clear HB; have BK477 := n0_; have BK478 := n1_; have HB := n2_; clear n0_ n1_ n2_; (try clear hb); (try clear hb2); (try clear hk); (try clear hi)) | ((with_reducible refine gate_callee (f := 12) rfl ?_); refine goesL_ (some 21) rfl rfl Try.func12 (by kernel_rfl) rfl #[.slice A1 l1.length c1, .int .i64 t479] rfl (by (try simp only [List.map_toArray, List.map_cons, List.map_nil]); first | done | rfl | (simp only [List.length_drop, List.length_take]; rfl)) ?_; (with_reducible refine (laws_szHoleS.calls _ _ l1 t479 t480 _ ?side1 ?side2 A11.out).mono ?_); (case side1 => repeat (first | exact (Kd.C_below HR1.out HB.out) | (with_reducible refine Kd.C_alloc ?_ _) | (with_reducible refine Kd.C_drewN ?_ _) | (with_reducible refine Kd.C_drew ?_))); (case side2 => exact HC1.out); rintro e w' ⟨rfl, ⟨nd, rfl⟩⟩; refine ⟨_, rfl, ?_⟩; (try (rw [drewN_self w31]; generalize hq_ : World.drewN w31 _ = w31; have n0_ : Aside0 (w31.heap[gb477]? = some (.cells #[.slice A0_0 l0_0.length c0_0, .int .i64 a0_1] 24 (0, 0))) := ⟨by rw [← hq_]; exact zk⟩; have n1_ : Aside0 (w31.heap[gb478]? = some (.cells #[.int .i64 a2_0, .int .i64 a2_1, .int .i64 a2_2] 27 (0, 0))) := ⟨by rw [← hq_]; exact zk⟩; have n2_ : Aside0 (Below w.heap.size w w31) := ⟨by rw [← hq_]; exact zb⟩; clear BK477 BK478 HB hq_; have BK477 := n0_; have BK478 := n1_; have HB := n2_; clear n0_ n1_ n2_))))
   have n0_ := zm (blk_drew BK477.out)
   have n1_ := zm (blk_drew BK478.out)
   have n2_ := zm (below_drew1 HB.out)
   clear BK477
   clear BK478
   clear HB
   have BK477 := n0_
   have BK478 := n1_
   have HB := n2_
   clear n0_ n1_ n2_
   refine start_ (n := 12) (S := fun w' => w'.cell? ⟨gb477, 0, none⟩ = some (.slice A0_0 l0_0.length c0_0) ∧ w'.cell? ⟨gb477, 1, none⟩ = some (.int .i64 a0_1) ∧ w'.cell? ⟨gb478, 0, none⟩ = some (.int .i64 a2_0) ∧ w'.cell? ⟨gb478, 1, none⟩ = some (.int .i64 a2_1) ∧ w'.cell? ⟨gb478, 2, none⟩ = some (.int .i64 a2_2)) (ds := []) #[false, false, false, false, false, false, false, false, false, false, false, false] (by kernel_rfl) rfl rfl ⟨(blk_cell BK477.out 0).trans rfl, (blk_cell BK477.out 1).trans rfl, (blk_cell BK478.out 0).trans rfl, (blk_cell BK478.out 1).trans rfl, (blk_cell BK478.out 2).trans rfl⟩ (fun hHeld => ?_); refine with_tabW laws_FnExactGreatestLeast.tab8 laws_FnExactGreatestLeast.bits8 (fun HT_ HW_ => ?_)
   generalize w31.drew = w32 at BK477 BK478 HB hHeld ⊢
   refine pure_ (i := 2) (N := some 27) (v := ?_) (a' := ?_) #[false, false, true, false, false, false, false, false, false, false, false, false] rfl rfl (any_of HT_.out (by kernel_rfl)) (fun _ _ _ h => h) (Or.inl ⟨by rfl, ?_⟩) ?_ ?_
   rotate_left
   ·
    intro w'
    go_simp
    with_reducible rfl
   rotate_left
   ·
    simp only [Act.put, zA, zB, zD, i64_w, i32_w]
    rfl
   refine take_ (i := 0) (N := some 25) (v := ?_) (a' := ?_) #[true, false, true, false, false, false, false, false, false, false, false, false] rfl rfl (take_ofW HT_.out HW_.out (by kernel_rfl)) (fun _ _ _ h => h) (Or.inl ⟨by rfl, ?_⟩) hHeld ?_ ?_
   rotate_left
   ·
    rintro w' ⟨s0, s1, s2, s3, s4⟩
    go_simp
    with_reducible rfl
   rotate_left
   ·
    simp only [Act.put, zA, zB, zD, i64_w, i32_w]
    rfl
   refine take_ (i := 4) (N := some 29) (v := ?_) (a' := ?_) #[true, false, true, false, true, false, false, false, false, false, false, false] rfl rfl (take_ofW HT_.out HW_.out (by kernel_rfl)) (fun _ _ _ h => h) (Or.inl ⟨by rfl, ?_⟩) hHeld ?_ ?_
   rotate_left
   ·
    rintro w' ⟨s0, s1, s2, s3, s4⟩
    go_simp
    with_reducible rfl
   rotate_left
   ·
    simp only [Act.put, zA, zB, zD, i64_w, i32_w]
    rfl
   refine one_ (i := 1) (N := some 26) #[true, true, true, false, true, false, false, false, false, false, false, false] rfl rfl (one_of HT_.out (by kernel_rfl)) (by decide) (fun K hK => ?_)
   refine goes_ Try.func14 (by kernel_rfl) rfl #[.agg #[.slice A0_0 l0_0.length c0_0, .int .i64 a0_1]] (by rfl) rfl rfl (by (try simp only [List.map_toArray, List.map_cons, List.map_nil]); first | done | rfl | (simp only [List.length_drop, List.length_take]; rfl)) ?_
   with_reducible refine (laws_toInstrument.calls k _ _ l0_0 a0_1 t481 t484 _ ?side1 ?side2 A18.out).mono ?_
   (case side1 => repeat (first | exact (Kd.C_below HR0_0.out HB.out) | (with_reducible refine Kd.C_alloc ?_ _) | (with_reducible refine Kd.C_drewN ?_ _) | (with_reducible refine Kd.C_drew ?_)))
   (case side2 => exact HC0_0.out)
   rintro e w33 ⟨v482, rfl, ho0, hb⟩
   refine ⟨_, rfl, ?_⟩
   have n0_ := zm (Kd.R_lower ho0 (below_size zb))
   have n1_ := zm (blk_below (g := gb477) zk hb)
   have n2_ := zm (blk_below (g := gb478) zk hb)
   have n3_ := zm (below_step zb hb)
   clear BK477
   clear BK478
   clear HB
   have HO483 := n0_
   have BK477 := n1_
   have BK478 := n2_
   have HB := n3_
   clear n0_ n1_ n2_ n3_
   (try clear hb)
   (try clear hb2)
   (try clear hk)
   (try clear hi)
   (try clear ho0)
   refine hK.out _ _ ⟨(blk_cell BK477.out 0).trans rfl, (blk_cell BK477.out 1).trans rfl, (blk_cell BK478.out 0).trans rfl, (blk_cell BK478.out 1).trans rfl, (blk_cell BK478.out 2).trans rfl⟩ (fun hHeld => ?_)
   clear hK K
   refine norm_ (a' := ?_) ?_ ?_
   rotate_left
   ·
    show Act.put _ (some 26) _ = _
    simp only [Act.put, zA, zB, zD, i64_w, i32_w]
    rfl
   refine one_ (i := 3) (N := some 28) #[true, true, true, true, true, false, false, false, false, false, false, false] rfl rfl (one_of HT_.out (by kernel_rfl)) (by decide) (fun K hK => ?_)
   refine goes_ Try.func15 (by kernel_rfl) rfl #[.slice A1 l1.length c1] (by rfl) rfl rfl (by (try simp only [List.map_toArray, List.map_cons, List.map_nil]); first | done | rfl | (simp only [List.length_drop, List.length_take]; rfl)) ?_
   with_reducible refine (laws_toHoleS.calls k _ _ l1 t485 _ ?side1 ?side2 A19.out).mono ?_
   (case side1 => repeat (first | exact (Kd.C_below HR1.out HB.out) | (with_reducible refine Kd.C_alloc ?_ _) | (with_reducible refine Kd.C_drewN ?_ _) | (with_reducible refine Kd.C_drew ?_)))
   (case side2 => exact HC1.out)
   rintro e w34 ⟨v486, rfl, ho0, hb⟩
   refine ⟨_, rfl, ?_⟩
   have n0_ := zm (Kd.R_below (by (with_reducible repeat (first | apply Kd.R_alloc | apply Kd.R_drewN | apply Kd.R_drew)); exact HO483.out) hb)
   have n1_ := zm (Kd.R_lower ho0 (below_size zb))
   have n2_ := zm (blk_below (g := gb477) zk hb)
   have n3_ := zm (blk_below (g := gb478) zk hb)
   have n4_ := zm (below_step zb hb)
   clear HO483
   clear BK477
   clear BK478
   clear HB
   have HO483 := n0_
   have HO487 := n1_
   have BK477 := n2_
   have BK478 := n3_
   have HB := n4_
   clear n0_ n1_ n2_ n3_ n4_
   (try clear hb)
   (try clear hb2)
   (try clear hk)
   (try clear hi)
   (try clear ho0)
   refine hK.out _ _ ⟨(blk_cell BK477.out 0).trans rfl, (blk_cell BK477.out 1).trans rfl, (blk_cell BK478.out 0).trans rfl, (blk_cell BK478.out 1).trans rfl, (blk_cell BK478.out 2).trans rfl⟩ (fun hHeld => ?_)
   clear hK K
   refine norm_ (a' := ?_) ?_ ?_
   rotate_left
   ·
    show Act.put _ (some 28) _ = _
    simp only [Act.put, zA, zB, zD, i64_w, i32_w]
    rfl
   refine one_ (i := 5) (N := some 30) #[true, true, true, true, true, true, false, false, false, false, false, false] rfl rfl (one_of HT_.out (by kernel_rfl)) (by decide) (fun K hK => ?_)
   refine goes_ Try.func16 (by kernel_rfl) rfl #[.agg #[.int .i64 a2_0, .int .i64 a2_1, .int .i64 a2_2]] (by rfl) rfl rfl (by (try simp only [List.map_toArray, List.map_cons, List.map_nil]); first | done | rfl | (simp only [List.length_drop, List.length_take]; rfl)) ?_
   with_reducible refine (laws_toAction.calls a2_0 a2_1 a2_2 t488 t489 t490 _ A20.out).mono ?_
   rintro e w35 ⟨rfl, hb⟩
   refine ⟨_, rfl, ?_⟩
   have n0_ := zm (Kd.R_below (by (with_reducible repeat (first | apply Kd.R_alloc | apply Kd.R_drewN | apply Kd.R_drew)); exact HO483.out) hb)
   have n1_ := zm (Kd.R_below (by (with_reducible repeat (first | apply Kd.R_alloc | apply Kd.R_drewN | apply Kd.R_drew)); exact HO487.out) hb)
   have n2_ := zm (blk_below (g := gb477) zk hb)
   have n3_ := zm (blk_below (g := gb478) zk hb)
   have n4_ := zm (below_step zb hb)
   clear HO483
   clear HO487
   clear BK477
   clear BK478
   clear HB
   have HO483 := n0_
   have HO487 := n1_
   have BK477 := n2_
   have BK478 := n3_
   have HB := n4_
   clear n0_ n1_ n2_ n3_ n4_
   (try clear hb)
   (try clear hb2)
   (try clear hk)
   (try clear hi)
   obtain ⟨Ao36, co36, eo36⟩ := Kd.R_slice HO483.out
   (first | subst eo36 | (injection eo36 with f1_ f2_ f3_; have f4_ := f1_.symm; have f5_ := f3_.symm; clear f1_ f2_ f3_; subst f4_; subst f5_))
   obtain ⟨Ao37, co37, eo37⟩ := Kd.R_slice HO487.out
   (first | subst eo37 | (injection eo37 with f1_ f2_ f3_; have f4_ := f1_.symm; have f5_ := f3_.symm; clear f1_ f2_ f3_; subst f4_; subst f5_))
   refine hK.out _ _ ⟨(blk_cell BK477.out 0).trans rfl, (blk_cell BK477.out 1).trans rfl, (blk_cell BK478.out 0).trans rfl, (blk_cell BK478.out 1).trans rfl, (blk_cell BK478.out 2).trans rfl⟩ (fun hHeld => ?_)
   clear hK K
   refine norm_ (a' := ?_) ?_ ?_
   rotate_left
   ·
    show Act.put _ (some 30) _ = _
    simp only [Act.put, zA, zB, zD, i64_w, i32_w]
    rfl
   refine one_ (i := 6) (N := some 31) #[true, true, true, true, true, true, true, false, false, false, false, false] rfl rfl (one_of HT_.out (by kernel_rfl)) (by decide) (fun K hK => ?_)
   refine goes_ Try.func13 (by kernel_rfl) rfl #[.agg #[.slice Ao36 t481.length co36, .int .i64 t484], .slice Ao37 t485.length co37, .agg #[.int .i64 t488, .int .i64 t489, .int .i64 t490]] (by rfl) rfl rfl (by (try simp only [List.map_toArray, List.map_cons, List.map_nil]); first | done | rfl | (simp only [List.length_drop, List.length_take]; rfl)) ?_
   with_reducible refine (spec_GreatestLeast.calls k _ _ t481 t484 _ _ t485 t488 t489 t490 t491 t492 _ ?side1 ?side2 ?side3 ?side4 A21.out).mono ?_
   (case side1 => repeat (first | exact (Kd.R_reads' HO483.out).2.2 | (with_reducible refine Kd.C_alloc ?_ _) | (with_reducible refine Kd.C_drewN ?_ _) | (with_reducible refine Kd.C_drew ?_)))
   (case side2 => exact (Kd.R_reads' HO483.out).2.1)
   (case side3 => repeat (first | exact (Kd.R_reads' HO487.out).2.2 | (with_reducible refine Kd.C_alloc ?_ _) | (with_reducible refine Kd.C_drewN ?_ _) | (with_reducible refine Kd.C_drew ?_)))
   (case side4 => exact (Kd.R_reads' HO487.out).2.1)
   rintro e w38 ⟨rfl, hb⟩
   refine ⟨_, rfl, ?_⟩
   have n0_ := zm (Kd.R_below (by (with_reducible repeat (first | apply Kd.R_alloc | apply Kd.R_drewN | apply Kd.R_drew)); exact HO483.out) hb)
   have n1_ := zm (Kd.R_below (by (with_reducible repeat (first | apply Kd.R_alloc | apply Kd.R_drewN | apply Kd.R_drew)); exact HO487.out) hb)
   have n2_ := zm (blk_below (g := gb477) zk hb)
   have n3_ := zm (blk_below (g := gb478) zk hb)
   have n4_ := zm (below_step zb hb)
   clear HO483
   clear HO487
   clear BK477
   clear BK478
   clear HB
   have HO483 := n0_
   have HO487 := n1_
   have BK477 := n2_
   have BK478 := n3_
   have HB := n4_
   clear n0_ n1_ n2_ n3_ n4_
   (try clear hb)
   (try clear hb2)
   (try clear hk)
   (try clear hi)
   refine hK.out _ _ ⟨(blk_cell BK477.out 0).trans rfl, (blk_cell BK477.out 1).trans rfl, (blk_cell BK478.out 0).trans rfl, (blk_cell BK478.out 1).trans rfl, (blk_cell BK478.out 2).trans rfl⟩ (fun hHeld => ?_)
   clear hK K
   refine norm_ (a' := ?_) ?_ ?_
   rotate_left
   ·
    show Act.put _ (some 31) _ = _
    simp only [Act.put, zA, zB, zD, i64_w, i32_w]
    rfl
   refine pure_ (i := 7) (N := some 24) (v := ?_) (a' := ?_) #[true, true, true, true, true, true, true, true, false, false, false, false] rfl rfl (any_of HT_.out (by kernel_rfl)) (fun _ _ _ h => h) (Or.inl ⟨by rfl, ?_⟩) ?_ ?_
   rotate_left
   ·
    intro w'
    go_simp
    with_reducible rfl
   rotate_left
   ·
    simp only [Act.put, zA, zB, zD, i64_w, i32_w]
    rfl
   refine pure_ (i := 8) (N := some 32) (v := ?_) (a' := ?_) #[true, true, true, true, true, true, true, true, true, false, false, false] rfl rfl (any_of HT_.out (by kernel_rfl)) (fun _ _ _ h => h) (Or.inl ⟨by rfl, ?_⟩) ?_ ?_
   rotate_left
   ·
    intro w'
    go_simp
    with_reducible rfl
   rotate_left
   ·
    simp only [Act.put, zA, zB, zD, i64_w, i32_w]
    rfl
   refine pure_ (i := 9) (N := some 33) (v := ?_) (a' := ?_) #[true, true, true, true, true, true, true, true, true, true, false, false] rfl rfl (any_of HT_.out (by kernel_rfl)) (fun _ _ _ h => h) (Or.inl ⟨by rfl, ?_⟩) ?_ ?_
   rotate_left
   ·
    intro w'
    go_simp
    with_reducible rfl
   rotate_left
   ·
    simp only [Act.put, zA, zB, zD, i64_w, i32_w]
    rfl
   refine pure_ (i := 10) (N := some 8) (v := ?_) (a' := ?_) #[true, true, true, true, true, true, true, true, true, true, true, false] rfl rfl (any_of HT_.out (by kernel_rfl)) (fun _ _ _ h => h) (Or.inl ⟨by rfl, ?_⟩) ?_ ?_
   rotate_left
   ·
    intro w'
    go_simp
    with_reducible rfl
   rotate_left
   ·
    simp only [Act.put, zA, zB, zD, i64_w, i32_w]
    rfl
   refine pure_ (i := 11) (N := some 9) (v := ?_) (a' := ?_) #[true, true, true, true, true, true, true, true, true, true, true, true] rfl rfl (any_of HT_.out (by kernel_rfl)) (fun _ _ _ h => h) (Or.inl ⟨by rfl, ?_⟩) ?_ ?_
   rotate_left
   ·
    intro w'
    go_simp
    with_reducible rfl
   rotate_left
   ·
    simp only [Act.put, zA, zB, zD, i64_w, i32_w]
    rfl
   refine done_ (done_of HT_.out (by kernel_rfl)) ?_
   obtain ⟨hcz39_0, hcz39_1, hfz39_0, hfz39_1⟩ := zc2 BK477.out
   try go_wp2_with (first | ((with_reducible refine gate_callee (f := 14) rfl ?_); refine goesL_ (some 35) rfl rfl Try.func14 (by kernel_rfl) rfl #[.agg #[.slice A0_0 l0_0.length c0_0, .int .i64 a0_1]] rfl (by (try simp only [List.map_toArray, List.map_cons, List.map_nil]); first | done | rfl | (simp only [List.length_drop, List.length_take]; rfl)) ?_; (with_reducible refine (laws_toInstrument.calls k _ _ l0_0 a0_1 t493 t496 _ ?side1 ?side2 A22.out).mono ?_); (case side1 => repeat (first | exact (Kd.C_below HR0_0.out HB.out) | (with_reducible refine Kd.C_alloc ?_ _) | (with_reducible refine Kd.C_drewN ?_ _) | (with_reducible refine Kd.C_drew ?_))); (case side2 => exact HC0_0.out); rintro e w40 ⟨v494, rfl, ho0, hb⟩; refine ⟨_, rfl, ?_⟩; have n0_ := zm (Kd.R_elder' (by (with_reducible repeat (first | apply Kd.R_alloc | apply Kd.R_drewN | apply Kd.R_drew)); exact HO483.out) (Kd.R_base ho0) hb); have n1_ := zm (Kd.R_below (by (with_reducible repeat (first | apply Kd.R_alloc | apply Kd.R_drewN | apply Kd.R_drew)); exact HO487.out) hb); have n2_ := zm (Kd.R_lower (Kd.R_new' ho0 (Kd.R_lt (by (with_reducible repeat (first | apply Kd.R_alloc | apply Kd.R_drewN | apply Kd.R_drew)); exact HO483.out))) (below_size zb)); have n3_ := zm (blk_below (g := gb477) zk hb); have n4_ := zm (blk_below (g := gb478) zk hb); have n5_ := zm (below_step zb hb); clear HO483; clear HO487; clear BK477; clear BK478; clear HB; have HO483 := n0_; have HO487 := n1_; have HO495 := n2_; have BK477 := n3_; have BK478 := n4_; have HB := n5_; clear n0_ n1_ n2_ n3_ n4_ n5_; (try clear hb); (try clear hb2); (try clear hk); (try clear hi); (try clear ho0)) | ((with_reducible refine gate_dst (N := 10) rfl ?_); refine box_event ?hg (N := 10) ?hd (cs := #[.slice none 0 0, .int .i64 0]) (t := 32) ?hr ?_; (case hd => rfl); (case hg => rfl); (case hr => first | (go_simp; done) | (go_simp; rfl)); intro gb497 hg w41 hbox hb; have n0_ := zm (Kd.R_below (by (with_reducible repeat (first | apply Kd.R_alloc | apply Kd.R_drewN | apply Kd.R_drew)); exact HO483.out) hb); have n1_ := zm (Kd.R_below (by (with_reducible repeat (first | apply Kd.R_alloc | apply Kd.R_drewN | apply Kd.R_drew)); exact HO487.out) hb); have n2_ := zm (Kd.R_below (by (with_reducible repeat (first | apply Kd.R_alloc | apply Kd.R_drewN | apply Kd.R_drew)); exact HO495.out) hb); have n3_ := zm (blk_below (g := gb477) zk hb); have n4_ := zm (blk_below (g := gb478) zk hb); have n5_ := zm (below_step zb hb); have n6_ := zm (hbox); have n7_ := zm (zs hg zb : w.heap.size ≤ gb497); have n8_ := zm (zs hg zb : w.heap.size ≤ gb497); have n9_ := zm (zl hg zk : gb477 ≠ gb497); have n10_ := zm (zg hg zk : gb497 ≠ gb477); have n11_ := zm (zl hg zk : gb478 ≠ gb497); have n12_ := zm (zg hg zk : gb497 ≠ gb478); clear HO483; clear HO487; clear HO495; clear BK477; clear BK478; clear HB; have HO483 := n0_; have HO487 := n1_; have HO495 := n2_; have BK477 := n3_; have BK478 := n4_; have HB := n5_; have BK497 := n6_; have GW497 := n7_; have GE497 := n8_; have NB477_497 := n9_; have NB497_477 := n10_; have NB478_497 := n11_; have NB497_478 := n12_; clear n0_ n1_ n2_ n3_ n4_ n5_ n6_ n7_ n8_ n9_ n10_ n11_ n12_; clear hb hbox hg; obtain ⟨Ao42, co42, eo42⟩ := Kd.R_slice HO495.out; subst eo42; have hnb43 := NB497_477.out; have hnc43 := NB477_497.out; have hnb44 := NB497_478.out; have hnc44 := NB478_497.out; obtain ⟨hcz45_0, hcz45_1, hfz45_0, hfz45_1⟩ := zc2 BK497.out) | ((with_reducible refine gate_callee (f := 15) rfl ?_); refine goesL_ (some 37) rfl rfl Try.func15 (by kernel_rfl) rfl #[.slice A1 l1.length c1] rfl (by (try simp only [List.map_toArray, List.map_cons, List.map_nil]); first | done | rfl | (simp only [List.length_drop, List.length_take]; rfl)) ?_; (with_reducible refine (laws_toHoleS.calls k _ _ l1 t498 _ ?side1 ?side2 A23.out).mono ?_); (case side1 => exact Kd.C_below HR1.out zb); (case side2 => exact HC1.out); rintro e w46 ⟨v499, rfl, ho0, hb⟩; refine ⟨_, rfl, ?_⟩; have n0_ := zm (Kd.R_below (by (with_reducible repeat (first | apply Kd.R_alloc | apply Kd.R_drewN | apply Kd.R_drew)); exact (Kd.R_mono (Kd.R_far (p := ⟨gb497, 1, none⟩) (Kd.R_far (p := ⟨gb497, 0, none⟩) (Kd.R_types HO483.out BK497.out (by decide)) (fun _ hk => hk.2) (.slice Ao42 t493.length co42)) (fun _ hk => hk.2) (.int .i64 t496)) (fun _ h_ => h_.1))) hb); have n1_ := zm (Kd.R_elder' (by (with_reducible repeat (first | apply Kd.R_alloc | apply Kd.R_drewN | apply Kd.R_drew)); exact (Kd.R_mono (Kd.R_far (p := ⟨gb497, 1, none⟩) (Kd.R_far (p := ⟨gb497, 0, none⟩) (Kd.R_types HO487.out BK497.out (by decide)) (fun _ hk => hk.2) (.slice Ao42 t493.length co42)) (fun _ hk => hk.2) (.int .i64 t496)) (fun _ h_ => h_.1))) (Kd.R_base ho0) hb); have n2_ := zm (Kd.R_below (by (with_reducible repeat (first | apply Kd.R_alloc | apply Kd.R_drewN | apply Kd.R_drew)); exact (Kd.R_mono (Kd.R_far (p := ⟨gb497, 1, none⟩) (Kd.R_far (p := ⟨gb497, 0, none⟩) (Kd.R_types HO495.out BK497.out (by decide)) (fun _ hk => hk.2) (.slice Ao42 t493.length co42)) (fun _ hk => hk.2) (.int .i64 t496)) (fun _ h_ => h_.1))) hb); have n3_ := zm (Kd.R_lower (Kd.R_new' ho0 (Kd.R_lt (by (with_reducible repeat (first | apply Kd.R_alloc | apply Kd.R_drewN | apply Kd.R_drew)); exact (Kd.R_mono (Kd.R_far (p := ⟨gb497, 1, none⟩) (Kd.R_far (p := ⟨gb497, 0, none⟩) (Kd.R_types HO487.out BK497.out (by decide)) (fun _ hk => hk.2) (.slice Ao42 t493.length co42)) (fun _ hk => hk.2) (.int .i64 t496)) (fun _ h_ => h_.1))))) (below_size zb)); have n4_ := zm (blk_below (g := gb477) (o := .cells #[.slice A0_0 l0_0.length c0_0, .int .i64 a0_1] 24 (0, 0)) zK hb); have n5_ := zm (blk_below (g := gb478) (o := .cells #[.int .i64 a2_0, .int .i64 a2_1, .int .i64 a2_2] 27 (0, 0)) zK hb); have n6_ := zm (blk_below (g := gb497) (o := .cells #[.slice Ao42 t493.length co42, .int .i64 t496] 32 (0, 0)) (by (with_reducible repeat (first | refine blk_drewN ?_ _ | refine blk_drew ?_ | refine blk_alloc ?_ _)); refine blk_put (cs := #[.slice Ao42 t493.length co42, .int .i64 0]) ?_ 1 _ rfl; (with_reducible repeat (first | refine blk_drewN ?_ _ | refine blk_drew ?_ | refine blk_alloc ?_ _)); refine blk_put (cs := #[.slice none 0 0, .int .i64 0]) ?_ 0 _ rfl; (with_reducible repeat (first | refine blk_drewN ?_ _ | refine blk_drew ?_ | refine blk_alloc ?_ _)); exact BK497.out) hb); have n7_ := zm (below_step zb hb); clear HO483; clear HO487; clear HO495; clear BK477; clear BK478; clear BK497; clear HB; have HO483 := n0_; have HO487 := n1_; have HO495 := n2_; have HO500 := n3_; have BK477 := n4_; have BK478 := n5_; have BK497 := n6_; have HB := n7_; clear n0_ n1_ n2_ n3_ n4_ n5_ n6_ n7_; (try clear hb); (try clear hb2); (try clear hk); (try clear hi); (try clear ho0)))
   have n0_ := zm (Kd.R_drew HO483.out)
   have n1_ := zm (Kd.R_drew HO487.out)
   have n2_ := zm (Kd.R_drew HO495.out)
   have n3_ := zm (Kd.R_drew HO500.out)
   have n4_ := zm (blk_drew BK477.out)
   have n5_ := zm (blk_drew BK478.out)
   have n6_ := zm (blk_drew BK497.out)
   have n7_ := zm (below_drew1 HB.out)
   clear HO483
   clear HO487
   clear HO495
   clear HO500
   clear BK477
   clear BK478
   clear BK497
   clear HB
   have HO483 := n0_
   have HO487 := n1_
   have HO495 := n2_
   have HO500 := n3_
   have BK477 := n4_
   have BK478 := n5_
   have BK497 := n6_
   have HB := n7_
   clear n0_ n1_ n2_ n3_ n4_ n5_ n6_ n7_
   refine start_ (n := 10) (S := fun w' => w'.cell? ⟨gb497, 0, none⟩ = some (.slice Ao42 t493.length co42) ∧ w'.cell? ⟨gb497, 1, none⟩ = some (.int .i64 t496) ∧ w'.cell? ⟨gb478, 0, none⟩ = some (.int .i64 a2_0) ∧ w'.cell? ⟨gb478, 1, none⟩ = some (.int .i64 a2_1) ∧ w'.cell? ⟨gb478, 2, none⟩ = some (.int .i64 a2_2)) (ds := []) #[false, false, false, false, false, false, false, false, false, false] (by kernel_rfl) rfl rfl ⟨(blk_cell BK497.out 0).trans rfl, (blk_cell BK497.out 1).trans rfl, (blk_cell BK478.out 0).trans rfl, (blk_cell BK478.out 1).trans rfl, (blk_cell BK478.out 2).trans rfl⟩ (fun hHeld => ?_); refine with_tabW laws_FnExactGreatestLeast.tab11 laws_FnExactGreatestLeast.bits11 (fun HT_ HW_ => ?_)
   generalize w46.drew = w47 at HO483 HO487 HO495 HO500 BK477 BK478 BK497 HB hHeld ⊢
   refine pure_ (i := 1) (N := some 40) (v := ?_) (a' := ?_) #[false, true, false, false, false, false, false, false, false, false] rfl rfl (any_of HT_.out (by kernel_rfl)) (fun _ _ _ h => h) (Or.inl ⟨by rfl, ?_⟩) ?_ ?_
   rotate_left
   ·
    intro w'
    go_simp
    with_reducible rfl
   rotate_left
   ·
    simp only [Act.put, zA, zB, zD, i64_w, i32_w]
    rfl
   refine take_ (i := 0) (N := some 39) (v := ?_) (a' := ?_) #[true, true, false, false, false, false, false, false, false, false] rfl rfl (take_ofW HT_.out HW_.out (by kernel_rfl)) (fun _ _ _ h => h) (Or.inl ⟨by rfl, ?_⟩) hHeld ?_ ?_
   rotate_left
   ·
    rintro w' ⟨s0, s1, s2, s3, s4⟩
    go_simp
    with_reducible rfl
   rotate_left
   ·
    simp only [Act.put, zA, zB, zD, i64_w, i32_w]
    rfl
   refine take_ (i := 2) (N := some 41) (v := ?_) (a' := ?_) #[true, true, true, false, false, false, false, false, false, false] rfl rfl (take_ofW HT_.out HW_.out (by kernel_rfl)) (fun _ _ _ h => h) (Or.inl ⟨by rfl, ?_⟩) hHeld ?_ ?_
   rotate_left
   ·
    rintro w' ⟨s0, s1, s2, s3, s4⟩
    go_simp
    with_reducible rfl
   rotate_left
   ·
    simp only [Act.put, zA, zB, zD, i64_w, i32_w]
    rfl
   refine one_ (i := 3) (N := some 42) #[true, true, true, true, false, false, false, false, false, false] rfl rfl (one_of HT_.out (by kernel_rfl)) (by decide) (fun K hK => ?_)
   refine goes_ Try.func16 (by kernel_rfl) rfl #[.agg #[.int .i64 a2_0, .int .i64 a2_1, .int .i64 a2_2]] (by rfl) rfl rfl (by (try simp only [List.map_toArray, List.map_cons, List.map_nil]); first | done | rfl | (simp only [List.length_drop, List.length_take]; rfl)) ?_
   with_reducible refine (laws_toAction.calls a2_0 a2_1 a2_2 t501 t502 t503 _ A24.out).mono ?_
   rintro e w48 ⟨rfl, hb⟩
   refine ⟨_, rfl, ?_⟩
   have n0_ := zm (Kd.R_below (by (with_reducible repeat (first | apply Kd.R_alloc | apply Kd.R_drewN | apply Kd.R_drew)); exact HO483.out) hb)
   have n1_ := zm (Kd.R_below (by (with_reducible repeat (first | apply Kd.R_alloc | apply Kd.R_drewN | apply Kd.R_drew)); exact HO487.out) hb)
   have n2_ := zm (Kd.R_below (by (with_reducible repeat (first | apply Kd.R_alloc | apply Kd.R_drewN | apply Kd.R_drew)); exact HO495.out) hb)
   have n3_ := zm (Kd.R_below (by (with_reducible repeat (first | apply Kd.R_alloc | apply Kd.R_drewN | apply Kd.R_drew)); exact HO500.out) hb)
   have n4_ := zm (blk_below (g := gb477) zk hb)
   have n5_ := zm (blk_below (g := gb478) zk hb)
   have n6_ := zm (blk_below (g := gb497) zk hb)
   have n7_ := zm (below_step zb hb)
   clear HO483
   clear HO487
   clear HO495
   clear HO500
   clear BK477
   clear BK478
   clear BK497
   clear HB
   have HO483 := n0_
   have HO487 := n1_
   have HO495 := n2_
   have HO500 := n3_
   have BK477 := n4_
   have BK478 := n5_
   have BK497 := n6_
   have HB := n7_
   clear n0_ n1_ n2_ n3_ n4_ n5_ n6_ n7_
   (try clear hb)
   (try clear hb2)
   (try clear hk)
   (try clear hi)
   obtain ⟨Ao49, co49, eo49⟩ := Kd.R_slice HO500.out
   (first | subst eo49 | (injection eo49 with f1_ f2_ f3_; have f4_ := f1_.symm; have f5_ := f3_.symm; clear f1_ f2_ f3_; subst f4_; subst f5_))
   refine hK.out _ _ ⟨(blk_cell BK497.out 0).trans rfl, (blk_cell BK497.out 1).trans rfl, (blk_cell BK478.out 0).trans rfl, (blk_cell BK478.out 1).trans rfl, (blk_cell BK478.out 2).trans rfl⟩ (fun hHeld => ?_)
   clear hK K
   refine norm_ (a' := ?_) ?_ ?_
   rotate_left
   ·
    show Act.put _ (some 42) _ = _
    simp only [Act.put, zA, zB, zD, i64_w, i32_w]
    rfl
   refine one_ (i := 4) (N := some 43) #[true, true, true, true, true, false, false, false, false, false] rfl rfl (one_of HT_.out (by kernel_rfl)) (by decide) (fun K hK => ?_)
   refine goes_ Try.func17 (by kernel_rfl) rfl #[.agg #[.slice Ao42 t493.length co42, .int .i64 t496], .slice Ao49 t498.length co49, .agg #[.int .i64 t501, .int .i64 t502, .int .i64 t503]] (by rfl) rfl rfl (by (try simp only [List.map_toArray, List.map_cons, List.map_nil]); first | done | rfl | (simp only [List.length_drop, List.length_take]; rfl)) ?_
   with_reducible refine (impl_GreatestLeast.calls k _ _ t493 t496 _ _ t498 t501 t502 t503 t504 t505 _ ?side1 ?side2 ?side3 ?side4 A25.out).mono ?_
   (case side1 => repeat (first | exact (Kd.R_reads' HO495.out).2.2 | (with_reducible refine Kd.C_alloc ?_ _) | (with_reducible refine Kd.C_drewN ?_ _) | (with_reducible refine Kd.C_drew ?_)))
   (case side2 => exact (Kd.R_reads' HO495.out).2.1)
   (case side3 => repeat (first | exact (Kd.R_reads' HO500.out).2.2 | (with_reducible refine Kd.C_alloc ?_ _) | (with_reducible refine Kd.C_drewN ?_ _) | (with_reducible refine Kd.C_drew ?_)))
   (case side4 => exact (Kd.R_reads' HO500.out).2.1)
   rintro e w50 ⟨rfl, hb⟩
   refine ⟨_, rfl, ?_⟩
   have n0_ := zm (Kd.R_below (by (with_reducible repeat (first | apply Kd.R_alloc | apply Kd.R_drewN | apply Kd.R_drew)); exact HO483.out) hb)
   have n1_ := zm (Kd.R_below (by (with_reducible repeat (first | apply Kd.R_alloc | apply Kd.R_drewN | apply Kd.R_drew)); exact HO487.out) hb)
   have n2_ := zm (Kd.R_below (by (with_reducible repeat (first | apply Kd.R_alloc | apply Kd.R_drewN | apply Kd.R_drew)); exact HO495.out) hb)
   have n3_ := zm (Kd.R_below (by (with_reducible repeat (first | apply Kd.R_alloc | apply Kd.R_drewN | apply Kd.R_drew)); exact HO500.out) hb)
   have n4_ := zm (blk_below (g := gb477) zk hb)
   have n5_ := zm (blk_below (g := gb478) zk hb)
   have n6_ := zm (blk_below (g := gb497) zk hb)
   have n7_ := zm (below_step zb hb)
   clear HO483
   clear HO487
   clear HO495
   clear HO500
   clear BK477
   clear BK478
   clear BK497
   clear HB
   have HO483 := n0_
   have HO487 := n1_
   have HO495 := n2_
   have HO500 := n3_
   have BK477 := n4_
   have BK478 := n5_
   have BK497 := n6_
   have HB := n7_
   clear n0_ n1_ n2_ n3_ n4_ n5_ n6_ n7_
   (try clear hb)
   (try clear hb2)
   (try clear hk)
   (try clear hi)
   refine hK.out _ _ ⟨(blk_cell BK497.out 0).trans rfl, (blk_cell BK497.out 1).trans rfl, (blk_cell BK478.out 0).trans rfl, (blk_cell BK478.out 1).trans rfl, (blk_cell BK478.out 2).trans rfl⟩ (fun hHeld => ?_)
   clear hK K
   refine norm_ (a' := ?_) ?_ ?_
   rotate_left
   ·
    show Act.put _ (some 43) _ = _
    simp only [Act.put, zA, zB, zD, i64_w, i32_w]
    rfl
   refine pure_ (i := 5) (N := some 38) (v := ?_) (a' := ?_) #[true, true, true, true, true, true, false, false, false, false] rfl rfl (any_of HT_.out (by kernel_rfl)) (fun _ _ _ h => h) (Or.inl ⟨by rfl, ?_⟩) ?_ ?_
   rotate_left
   ·
    intro w'
    go_simp
    with_reducible rfl
   rotate_left
   ·
    simp only [Act.put, zA, zB, zD, i64_w, i32_w]
    rfl
   refine pure_ (i := 6) (N := some 44) (v := ?_) (a' := ?_) #[true, true, true, true, true, true, true, false, false, false] rfl rfl (any_of HT_.out (by kernel_rfl)) (fun _ _ _ h => h) (Or.inl ⟨by rfl, ?_⟩) ?_ ?_
   rotate_left
   ·
    intro w'
    go_simp
    with_reducible rfl
   rotate_left
   ·
    simp only [Act.put, zA, zB, zD, i64_w, i32_w]
    rfl
   refine pure_ (i := 7) (N := some 45) (v := ?_) (a' := ?_) #[true, true, true, true, true, true, true, true, false, false] rfl rfl (any_of HT_.out (by kernel_rfl)) (fun _ _ _ h => h) (Or.inl ⟨by rfl, ?_⟩) ?_ ?_
   rotate_left
   ·
    intro w'
    go_simp
    with_reducible rfl
   rotate_left
   ·
    simp only [Act.put, zA, zB, zD, i64_w, i32_w]
    rfl
   refine pure_ (i := 8) (N := some 12) (v := ?_) (a' := ?_) #[true, true, true, true, true, true, true, true, true, false] rfl rfl (any_of HT_.out (by kernel_rfl)) (fun _ _ _ h => h) (Or.inl ⟨by rfl, ?_⟩) ?_ ?_
   rotate_left
   ·
    intro w'
    go_simp
    with_reducible rfl
   rotate_left
   ·
    simp only [Act.put, zA, zB, zD, i64_w, i32_w]
    rfl
   refine pure_ (i := 9) (N := some 13) (v := ?_) (a' := ?_) #[true, true, true, true, true, true, true, true, true, true] rfl rfl (any_of HT_.out (by kernel_rfl)) (fun _ _ _ h => h) (Or.inl ⟨by rfl, ?_⟩) ?_ ?_
   rotate_left
   ·
    intro w'
    go_simp
    with_reducible rfl
   rotate_left
   ·
    simp only [Act.put, zA, zB, zD, i64_w, i32_w]
    rfl
   refine done_ (done_of HT_.out (by kernel_rfl)) ?_
   go_upto_region 12 with (fail)
   go_cut [53] (fun v53 wc => ∃ (kq : Nat) (x53_25 : Bool), v53 = .bool x53_25 ∧ Aside0 (laws_FnExactGreatestLeast.j0 kq l1 t498 x53_25 l0_0 a0_1 t493 t496 = some r) ∧ Aside0 (kq ≤ k) ∧ Aside0 (Kd.R k73 73 wc w.heap.size (fun _ => True) (.slice Ao49 t498.length co49) t498) ∧ Aside0 (Kd.R (Kd.int .i64) 3 wc w.heap.size (fun _ => True) (.slice Ao42 t493.length co42) t493) ∧ Aside0 (wc.heap[gb477]? = some (.cells #[(.slice A0_0 l0_0.length c0_0), .int .i64 a0_1] 24 (0, 0))) ∧ Aside0 (wc.heap[gb478]? = some (.cells #[.int .i64 a2_0, .int .i64 a2_1, .int .i64 a2_2] 27 (0, 0))) ∧ Aside0 (wc.heap[gb497]? = some (.cells #[(.slice Ao42 t493.length co42), .int .i64 t496] 32 (0, 0))) ∧ Aside0 (Below w.heap.size w wc))
   case first =>
    have H := HC26.out
    clear HC26
    by_cases c51 : t504 = t491
    ·
     rw [if_pos c51] at H
     have c51b0 : (t504 == t491) = true := beq_iff_eq.mpr c51
     have c51b1 : (t504 != t491) = false := bne_eq_false_iff_eq.mpr c51
     clear c51
     (first | rw [c51b0] | (simp only [i64_w, i32_w]; rw [c51b0]) | skip)
     have H' := zm H
     clear H
     go_wp2
     go_meet
     case rel => exact ⟨_, ((t505 != t492)), (by first | rfl | (simp; done) | (simp [*]; done)), H', ⟨by first | omega | exact Nat.le_refl _⟩, ⟨by (with_reducible repeat (first | apply Kd.R_alloc | apply Kd.R_drewN | apply Kd.R_drew)); exact Kd.R_mono HO500.out (fun _ hk => trivial)⟩, ⟨by (with_reducible repeat (first | apply Kd.R_alloc | apply Kd.R_drewN | apply Kd.R_drew)); exact Kd.R_mono HO495.out (fun _ hk => trivial)⟩, ⟨zk⟩, ⟨zk⟩, ⟨zk⟩, ⟨zb⟩⟩
    ·
     rw [if_neg c51] at H
     have c51b0 : (t504 == t491) = false := beq_eq_false_iff_ne.mpr c51
     have c51b1 : (t504 != t491) = true := bne_iff_ne.mpr c51
     (first | rw [c51b0] | (simp only [i64_w, i32_w]; rw [c51b0]) | skip)
     exact (laws_FnExactGreatestLeast.j0_t (H.trans (congrArg some hr_))).elim
   case rest =>
    clear HC26
    try clear c1
    try clear c2
    try clear p2
    try clear c3
    try clear c4
    try clear c5
    try clear c5b0
    try clear c8
    try clear c11
    try clear c12
    try clear c12b0
    try clear c13
    try clear c14
    try clear c15
    try clear c16
    try clear c17
    try clear c29
    try clear c43
    try clear c44
    try clear c51
    try clear c51b0
    try clear c51b1
    try clear hcz16_0
    try clear hcz16_1
    try clear hcz30_0
    try clear hcz30_1
    try clear hcz39_0
    try clear hcz39_1
    try clear hcz45_0
    try clear hcz45_1
    try clear hcz9_0
    try clear hcz9_1
    try clear hfz16_0
    try clear hfz16_1
    try clear hfz30_0
    try clear hfz30_1
    try clear hfz39_0
    try clear hfz39_1
    try clear hfz45_0
    try clear hfz45_1
    try clear hfz9_0
    try clear hfz9_1
    obtain ⟨kq, x53_25, rfl, HA, HJ25, HO_11, HO_498000, BK477, BK478, BK497, HB⟩ := hcut
    cases kq with
    | zero => exact absurd HA.out (by simp [laws_FnExactGreatestLeast.j0])
    | succ kj25 =>
     have H := HA.out
     clear HA
     simp only [laws_FnExactGreatestLeast.j0] at H
     by_cases c52 : x53_25 = true
     ·
      subst c52
      have H1 : (some false) = some r := by rw [if_pos rfl] at H; exact H
      clear H
      have H := H1
      clear H1
      exact absurd ((Option.some.inj H).trans hr_) (by decide)
     ·
      replace c52 := Bool.eq_false_iff.mpr c52
      subst c52
      have H1 : ((laws_toInstrument.f kj25 l0_0 a0_1).bind fun bt506 => ((laws_eqInstrument.f kj25 t493 t496 bt506.1 bt506.2).bind fun t510 => (if t510 = true then ((laws_toHoleS.f kj25 l1).bind fun t511 => ((laws_eqHoleS.f kj25 t498 t511).bind fun t514 => (if t514 = true then (some true) else (some false)))) else (some false)))) = some r := by rw [if_neg (show ¬ (false = true) by decide)] at H; exact H
      clear H
      have H := H1
      clear H1
      replace H := Option.bind_eq_some_iff.mp H
      obtain ⟨⟨t506, t509⟩, A530, H⟩ := H
      replace H : ((laws_eqInstrument.f kj25 t493 t496 t506 t509).bind fun t510 => (if t510 = true then ((laws_toHoleS.f kj25 l1).bind fun t511 => ((laws_eqHoleS.f kj25 t498 t511).bind fun t514 => (if t514 = true then (some true) else (some false)))) else (some false))) = some r := H
      have A53 := zm A530
      clear A530
      replace H := Option.bind_eq_some_iff.mp H
      obtain ⟨t510, A540, H⟩ := H
      replace H : (if t510 = true then ((laws_toHoleS.f kj25 l1).bind fun t511 => ((laws_eqHoleS.f kj25 t498 t511).bind fun t514 => (if t514 = true then (some true) else (some false)))) else (some false)) = some r := H
      have A54 := zm A540
      clear A540
      by_cases c55 : t510 = true
      ·
       subst c55
       have H1 : ((laws_toHoleS.f kj25 l1).bind fun t511 => ((laws_eqHoleS.f kj25 t498 t511).bind fun t514 => (if t514 = true then (some true) else (some false)))) = some r := by rw [if_pos rfl] at H; exact H
       clear H
       have H := H1
       clear H1
       replace H := Option.bind_eq_some_iff.mp H
       obtain ⟨t511, A560, H⟩ := H
       replace H : ((laws_eqHoleS.f kj25 t498 t511).bind fun t514 => (if t514 = true then (some true) else (some false))) = some r := H
       have A56 := zm A560
       clear A560
       replace H := Option.bind_eq_some_iff.mp H
       obtain ⟨t514, A570, H⟩ := H
       replace H : (if t514 = true then (some true) else (some false)) = some r := H
       have A57 := zm A570
       clear A570
       by_cases c58 : t514 = true
       ·
        subst c58
        have H1 : (some true) = some r := by rw [if_pos rfl] at H; exact H
        clear H
        have H := H1
        clear H1
        obtain rfl := Option.some.inj H
        try go_wp2
        have n0_ := zm (Kd.R_drew HO_11.out)
        have n1_ := zm (Kd.R_drew HO_498000.out)
        have n2_ := zm (blk_drew BK477.out)
        have n3_ := zm (blk_drew BK478.out)
        have n4_ := zm (blk_drew BK497.out)
        have n5_ := zm (below_drew1 HB.out)
        clear HO_11
        clear HO_498000
        clear BK477
        clear BK478
        clear BK497
        clear HB
        have HO_11 := n0_
        have HO_498000 := n1_
        have BK477 := n2_
        have BK478 := n3_
        have BK497 := n4_
        have HB := n5_
        clear n0_ n1_ n2_ n3_ n4_ n5_
        refine start_ (n := 5) (S := fun w' => w'.cell? ⟨gb497, 0, none⟩ = some (.slice Ao42 t493.length co42) ∧ w'.cell? ⟨gb497, 1, none⟩ = some (.int .i64 t496) ∧ w'.cell? ⟨gb477, 0, none⟩ = some (.slice A0_0 l0_0.length c0_0) ∧ w'.cell? ⟨gb477, 1, none⟩ = some (.int .i64 a0_1)) (ds := []) #[false, false, false, false, false] (by kernel_rfl) rfl rfl ⟨(blk_cell BK497.out 0).trans rfl, (blk_cell BK497.out 1).trans rfl, (blk_cell BK477.out 0).trans rfl, (blk_cell BK477.out 1).trans rfl⟩ (fun hHeld => ?_)
        generalize wc.drew = w59 at HO_11 HO_498000 BK477 BK478 BK497 HB hHeld ⊢
        refine take_ (i := 0) (N := some 54) (v := ?_) (a' := ?_) #[true, false, false, false, false] rfl rfl (by kernel_rfl) (fun _ _ _ h => h) (Or.inl ⟨by rfl, ?_⟩) hHeld ?_ ?_
        rotate_left
        ·
         rintro w' ⟨s0, s1, s2, s3⟩
         go_simp
         with_reducible rfl
        rotate_left
        ·
         simp only [Act.put, zA, zB, zD, i64_w, i32_w]
         rfl
        refine take_ (i := 1) (N := some 55) (v := ?_) (a' := ?_) #[true, true, false, false, false] rfl rfl (by kernel_rfl) (fun _ _ _ h => h) (Or.inl ⟨by rfl, ?_⟩) hHeld ?_ ?_
        rotate_left
        ·
         rintro w' ⟨s0, s1, s2, s3⟩
         go_simp
         with_reducible rfl
        rotate_left
        ·
         simp only [Act.put, zA, zB, zD, i64_w, i32_w]
         rfl
        refine one_ (i := 2) (N := some 56) #[true, true, true, false, false] rfl rfl (by kernel_rfl) (by decide) (fun K hK => ?_)
        refine goes_ Try.func14 (by kernel_rfl) rfl #[.agg #[.slice A0_0 l0_0.length c0_0, .int .i64 a0_1]] (by rfl) rfl rfl (by (try simp only [List.map_toArray, List.map_cons, List.map_nil]); first | done | rfl | (simp only [List.length_drop, List.length_take]; rfl)) ?_
        with_reducible refine (laws_toInstrument.calls kj25 _ _ l0_0 a0_1 t506 t509 _ ?side1 ?side2 A53.out).mono ?_
        (case side1 => repeat (first | exact (Kd.C_below HR0_0.out HB.out) | (with_reducible refine Kd.C_alloc ?_ _) | (with_reducible refine Kd.C_drewN ?_ _) | (with_reducible refine Kd.C_drew ?_)))
        (case side2 => exact HC0_0.out)
        rintro e w60 ⟨v507, rfl, ho0, hb⟩
        refine ⟨_, rfl, ?_⟩
        have n0_ := zm (Kd.R_below (by (with_reducible repeat (first | apply Kd.R_alloc | apply Kd.R_drewN | apply Kd.R_drew)); exact HO_11.out) hb)
        have n1_ := zm (Kd.R_elder' (by (with_reducible repeat (first | apply Kd.R_alloc | apply Kd.R_drewN | apply Kd.R_drew)); exact HO_498000.out) (Kd.R_base ho0) hb)
        have n2_ := zm (Kd.R_lower (Kd.R_new' ho0 (Kd.R_lt (by (with_reducible repeat (first | apply Kd.R_alloc | apply Kd.R_drewN | apply Kd.R_drew)); exact HO_498000.out))) (below_size zb))
        have n3_ := zm (blk_below (g := gb477) zk hb)
        have n4_ := zm (blk_below (g := gb478) zk hb)
        have n5_ := zm (blk_below (g := gb497) zk hb)
        have n6_ := zm (below_step zb hb)
        clear HO_11
        clear HO_498000
        clear BK477
        clear BK478
        clear BK497
        clear HB
        have HO_11 := n0_
        have HO_498000 := n1_
        have HO508 := n2_
        have BK477 := n3_
        have BK478 := n4_
        have BK497 := n5_
        have HB := n6_
        clear n0_ n1_ n2_ n3_ n4_ n5_ n6_
        (try clear hb)
        (try clear hb2)
        (try clear hk)
        (try clear hi)
        (try clear ho0)
        obtain ⟨Ao61, co61, eo61⟩ := Kd.R_slice HO508.out
        (first | subst eo61 | (injection eo61 with f1_ f2_ f3_; have f4_ := f1_.symm; have f5_ := f3_.symm; clear f1_ f2_ f3_; subst f4_; subst f5_))
        refine hK.out _ _ ⟨(blk_cell BK497.out 0).trans rfl, (blk_cell BK497.out 1).trans rfl, (blk_cell BK477.out 0).trans rfl, (blk_cell BK477.out 1).trans rfl⟩ (fun hHeld => ?_)
        clear hK K
        refine norm_ (a' := ?_) ?_ ?_
        rotate_left
        ·
         show Act.put _ (some 56) _ = _
         simp only [Act.put, zA, zB, zD, i64_w, i32_w]
         rfl
        refine one_ (i := 3) (N := some 57) #[true, true, true, true, false] rfl rfl (by kernel_rfl) (by decide) (fun K hK => ?_)
        refine goes_ Try.func18 (by kernel_rfl) rfl #[.agg #[.slice Ao42 t493.length co42, .int .i64 t496], .agg #[.slice Ao61 t506.length co61, .int .i64 t509]] (by rfl) rfl rfl (by (try simp only [List.map_toArray, List.map_cons, List.map_nil]); first | done | rfl | (simp only [List.length_drop, List.length_take]; rfl)) ?_
        with_reducible refine (laws_eqInstrument.calls kj25 _ _ t493 t496 _ _ t506 t509 true _ ?side1 ?side2 ?side3 ?side4 A54.out).mono ?_
        (case side1 => repeat (first | exact (Kd.R_reads' HO_498000.out).2.2 | (with_reducible refine Kd.C_alloc ?_ _) | (with_reducible refine Kd.C_drewN ?_ _) | (with_reducible refine Kd.C_drew ?_)))
        (case side2 => exact (Kd.R_reads' HO_498000.out).2.1)
        (case side3 => repeat (first | exact (Kd.R_reads' HO508.out).2.2 | (with_reducible refine Kd.C_alloc ?_ _) | (with_reducible refine Kd.C_drewN ?_ _) | (with_reducible refine Kd.C_drew ?_)))
        (case side4 => exact (Kd.R_reads' HO508.out).2.1)
        rintro e w62 ⟨rfl, hb⟩
        refine ⟨_, rfl, ?_⟩
        have n0_ := zm (Kd.R_below (by (with_reducible repeat (first | apply Kd.R_alloc | apply Kd.R_drewN | apply Kd.R_drew)); exact HO_11.out) hb)
        have n1_ := zm (Kd.R_below (by (with_reducible repeat (first | apply Kd.R_alloc | apply Kd.R_drewN | apply Kd.R_drew)); exact HO_498000.out) hb)
        have n2_ := zm (Kd.R_below (by (with_reducible repeat (first | apply Kd.R_alloc | apply Kd.R_drewN | apply Kd.R_drew)); exact HO508.out) hb)
        have n3_ := zm (blk_below (g := gb477) zk hb)
        have n4_ := zm (blk_below (g := gb478) zk hb)
        have n5_ := zm (blk_below (g := gb497) zk hb)
        have n6_ := zm (below_step zb hb)
        clear HO_11
        clear HO_498000
        clear HO508
        clear BK477
        clear BK478
        clear BK497
        clear HB
        have HO_11 := n0_
        have HO_498000 := n1_
        have HO508 := n2_
        have BK477 := n3_
        have BK478 := n4_
        have BK497 := n5_
        have HB := n6_
        clear n0_ n1_ n2_ n3_ n4_ n5_ n6_
        (try clear hb)
        (try clear hb2)
        (try clear hk)
        (try clear hi)
        refine hK.out _ _ ⟨(blk_cell BK497.out 0).trans rfl, (blk_cell BK497.out 1).trans rfl, (blk_cell BK477.out 0).trans rfl, (blk_cell BK477.out 1).trans rfl⟩ (fun hHeld => ?_)
        clear hK K
        refine norm_ (a' := ?_) ?_ ?_
        rotate_left
        ·
         show Act.put _ (some 57) _ = _
         simp only [Act.put, zA, zB, zD, i64_w, i32_w]
         rfl
        refine pure_ (i := 4) (N := some 58) (v := ?_) (a' := ?_) #[true, true, true, true, true] rfl rfl (by kernel_rfl) (fun _ _ _ h => h) (Or.inl ⟨by rfl, ?_⟩) ?_ ?_
        rotate_left
        ·
         intro w'
         go_simp
         with_reducible rfl
        rotate_left
        ·
         simp only [Act.put, zA, zB, zD, i64_w, i32_w]
         rfl
        refine done_ (by kernel_rfl) ?_
        try go_wp2_with (first | ((with_reducible refine gate_callee (f := 15) rfl ?_); refine goesL_ (some 61) rfl rfl Try.func15 (by kernel_rfl) rfl #[.slice A1 l1.length c1] rfl (by (try simp only [List.map_toArray, List.map_cons, List.map_nil]); first | done | rfl | (simp only [List.length_drop, List.length_take]; rfl)) ?_; (with_reducible refine (laws_toHoleS.calls kj25 _ _ l1 t511 _ ?side1 ?side2 A56.out).mono ?_); (case side1 => repeat (first | exact (Kd.C_below HR1.out HB.out) | (with_reducible refine Kd.C_alloc ?_ _) | (with_reducible refine Kd.C_drewN ?_ _) | (with_reducible refine Kd.C_drew ?_))); (case side2 => exact HC1.out); rintro e w63 ⟨v512, rfl, ho0, hb⟩; refine ⟨_, rfl, ?_⟩; have n0_ := zm (Kd.R_elder' (by (with_reducible repeat (first | apply Kd.R_alloc | apply Kd.R_drewN | apply Kd.R_drew)); exact HO_11.out) (Kd.R_base ho0) hb); have n1_ := zm (Kd.R_below (by (with_reducible repeat (first | apply Kd.R_alloc | apply Kd.R_drewN | apply Kd.R_drew)); exact HO_498000.out) hb); have n2_ := zm (Kd.R_below (by (with_reducible repeat (first | apply Kd.R_alloc | apply Kd.R_drewN | apply Kd.R_drew)); exact HO508.out) hb); have n3_ := zm (Kd.R_lower (Kd.R_new' ho0 (Kd.R_lt (by (with_reducible repeat (first | apply Kd.R_alloc | apply Kd.R_drewN | apply Kd.R_drew)); exact HO_11.out))) (below_size zb)); have n4_ := zm (blk_below (g := gb477) zk hb); have n5_ := zm (blk_below (g := gb478) zk hb); have n6_ := zm (blk_below (g := gb497) zk hb); have n7_ := zm (below_step zb hb); clear HO_11; clear HO_498000; clear HO508; clear BK477; clear BK478; clear BK497; clear HB; have HO_11 := n0_; have HO_498000 := n1_; have HO508 := n2_; have HO513 := n3_; have BK477 := n4_; have BK478 := n5_; have BK497 := n6_; have HB := n7_; clear n0_ n1_ n2_ n3_ n4_ n5_ n6_ n7_; (try clear hb); (try clear hb2); (try clear hk); (try clear hi); (try clear ho0); obtain ⟨Ao64, co64, eo64⟩ := Kd.R_slice HO513.out; subst eo64) | ((with_reducible refine gate_callee (f := 19) rfl ?_); refine goesL_ (some 62) rfl rfl Try.func19 (by kernel_rfl) rfl #[.slice Ao49 t498.length co49, .slice Ao64 t511.length co64] rfl (by (try simp only [List.map_toArray, List.map_cons, List.map_nil]); first | done | rfl | (simp only [List.length_drop, List.length_take]; rfl)) ?_; (with_reducible refine (laws_eqHoleS.calls kj25 _ _ t498 _ _ t511 true _ ?side1 ?side2 ?side3 ?side4 A57.out).mono ?_); (case side1 => repeat (first | exact (Kd.R_reads' HO_11.out).2.2 | (with_reducible refine Kd.C_alloc ?_ _) | (with_reducible refine Kd.C_drewN ?_ _) | (with_reducible refine Kd.C_drew ?_))); (case side2 => exact (Kd.R_reads' HO_11.out).2.1); (case side3 => repeat (first | exact (Kd.R_reads' HO513.out).2.2 | (with_reducible refine Kd.C_alloc ?_ _) | (with_reducible refine Kd.C_drewN ?_ _) | (with_reducible refine Kd.C_drew ?_))); (case side4 => exact (Kd.R_reads' HO513.out).2.1); rintro e w65 ⟨rfl, hb⟩; refine ⟨_, rfl, ?_⟩; have n0_ := zm (Kd.R_below (by (with_reducible repeat (first | apply Kd.R_alloc | apply Kd.R_drewN | apply Kd.R_drew)); exact HO_11.out) hb); have n1_ := zm (Kd.R_below (by (with_reducible repeat (first | apply Kd.R_alloc | apply Kd.R_drewN | apply Kd.R_drew)); exact HO_498000.out) hb); have n2_ := zm (Kd.R_below (by (with_reducible repeat (first | apply Kd.R_alloc | apply Kd.R_drewN | apply Kd.R_drew)); exact HO508.out) hb); have n3_ := zm (Kd.R_below (by (with_reducible repeat (first | apply Kd.R_alloc | apply Kd.R_drewN | apply Kd.R_drew)); exact HO513.out) hb); have n4_ := zm (blk_below (g := gb477) zk hb); have n5_ := zm (blk_below (g := gb478) zk hb); have n6_ := zm (blk_below (g := gb497) zk hb); have n7_ := zm (below_step zb hb); clear HO_11; clear HO_498000; clear HO508; clear HO513; clear BK477; clear BK478; clear BK497; clear HB; have HO_11 := n0_; have HO_498000 := n1_; have HO508 := n2_; have HO513 := n3_; have BK477 := n4_; have BK478 := n5_; have BK497 := n6_; have HB := n7_; clear n0_ n1_ n2_ n3_ n4_ n5_ n6_ n7_; (try clear hb); (try clear hb2); (try clear hk); (try clear hi)))
        go_ret
        exact ⟨zr, zb⟩
       ·
        replace c58 := Bool.eq_false_iff.mpr c58
        subst c58
        have H1 : (some false) = some r := by rw [if_neg (show ¬ (false = true) by decide)] at H; exact H
        clear H
        have H := H1
        clear H1
        exact absurd ((Option.some.inj H).trans hr_) (by decide)
      ·
       replace c55 := Bool.eq_false_iff.mpr c55
       subst c55
       have H1 : (some false) = some r := by rw [if_neg (show ¬ (false = true) by decide)] at H; exact H
       clear H
       have H := H1
       clear H1
       exact absurd ((Option.some.inj H).trans hr_) (by decide)

end Go.Proofs.Ytioheacdldgaaaa.PAll
