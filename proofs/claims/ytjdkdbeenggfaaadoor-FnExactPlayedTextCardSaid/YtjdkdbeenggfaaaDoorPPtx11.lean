-- Written for this claim by a program of this session (wip/tpl/patchprint.py), not by print.sh.
import Derived.Test.YtjdkdbeenggfaaaDoorPPtx0
import Derived.Test.YtjdkdbeenggfaaaDoorPPtx1
import Derived.Test.YtjdkdbeenggfaaaDoorPPtx5
import Derived.Test.YtjdkdbeenggfaaaDoorPPtx6
import Derived.Test.YtjdkdbeenggfaaaDoorPPtx9
import Derived.Test.YtjdkdbeenggfaaaDoorPPtx10
namespace Go.Proofs.YtjdkdbeenggfaaaDoor.PPt
open Go.RowKit Go.Proofs.YtjdkdbeenggfaaaDoorW.PrintWords Go.Proofs.YtjdkdbeenggfaaaDoorW.PrintLast Go.Proofs.YtjdkdbeenggfaaaDoorW.PrintMore
attribute [local go_sem] max2_int min2_int max_two min_two max_three min_three max_four min_four   -- for this text's walks alone
set_option linter.unusedVariables false
set_option linter.unusedSimpArgs false

/-! ### laws_FnExactPlayedText: function 3 -/
def laws_FnExactPlayedText.j0 : Nat → List (S62) → List (S60) → Bool → List Int → Int → List Int → Int → Option (Bool)
  | 0, _, _, _, _, _, _, _ => none
  | k + 1, x1, x11, x53, x302000, x302001, x322000, x322001 => if x53 = true then (some false) else ((laws_toInstrument.f k x302000 x302001).bind fun bt330 => ((laws_eqInstrument.f k x322000 x322001 bt330.1 bt330.2).bind fun t334 => (if t334 = true then ((laws_toHoleS.f k x1).bind fun t335 => ((laws_eqHoleS.f k x11 t335).bind fun t338 => (if t338 = true then (some true) else (some false)))) else (some false))))
def laws_FnExactPlayedText.f (k : Nat) (l0_0 : List Int) (a0_1 : Int) (l1 : List (S62)) (a2_0 : Int) (a2_1 : Int) (a2_2 : Int) : Option (Bool) := (laws_szInstrument.f l0_0 a0_1 1048576).bind fun t303 => (if t303 < 0 then (some true) else ((laws_szHoleS.f l1 t303).bind fun t304 => (if t304 < 0 then (some true) else ((laws_toInstrument.f k l0_0 a0_1).bind fun bt305 => ((laws_toHoleS.f k l1).bind fun t309 => ((laws_toAction.f a2_0 a2_1 a2_2).bind fun bt312 => ((spec_PlayedText.f k bt305.1 bt305.2 t309 bt312.1 bt312.2.1 bt312.2.2).bind fun bt315 => ((laws_toInstrument.f k l0_0 a0_1).bind fun bt317 => ((laws_toHoleS.f k l1).bind fun t322 => ((laws_toAction.f a2_0 a2_1 a2_2).bind fun bt325 => ((impl_PlayedText.f k bt317.1 bt317.2 t322 bt325.1 bt325.2.1 bt325.2.2).bind fun bt328 => (if bt328.1.toList = bt315.1.toList then (laws_FnExactPlayedText.j0 k l1 t322 (bt328.2 != bt315.2) l0_0 a0_1 bt317.1 bt317.2) else (laws_FnExactPlayedText.j0 k l1 t322 true l0_0 a0_1 bt317.1 bt317.2)))))))))))))
theorem laws_FnExactPlayedText.mono_l : ∀ k, (∀ y0 y1 y2 y3 y4 y5 y6, LeO (laws_FnExactPlayedText.j0 k y0 y1 y2 y3 y4 y5 y6) (laws_FnExactPlayedText.j0 (k + 1) y0 y1 y2 y3 y4 y5 y6))
  | 0 => fun _ _ _ _ _ _ _ r h => by simp [laws_FnExactPlayedText.j0] at h
  | k + 1 => by
    have ih0 := laws_FnExactPlayedText.mono_l k
    · intro y0 y1 y2 y3 y4 y5 y6
      unfold laws_FnExactPlayedText.j0
      repeat' first
      | (with_reducible exact ih0 _ _ _ _ _ _ _)
      | (with_reducible exact impl_PlayedText.mono _ _ _ _ _ _ _)
      | (with_reducible exact laws_eqHoleS.mono _ _ _)
      | (with_reducible exact laws_eqInstrument.mono _ _ _ _ _)
      | (with_reducible exact laws_toHoleS.mono _ _)
      | (with_reducible exact laws_toInstrument.mono _ _ _)
      | (with_reducible exact spec_PlayedText.mono _ _ _ _ _ _ _)
      | (with_reducible exact LeO.refl _)
      | (with_reducible exact LeO.none _)
      | (with_reducible refine LeO.ite ?_ ?_)
      | (with_reducible refine LeO.bind ?_ (fun _ => ?_))
      | exact ih0 _ _ _ _ _ _ _
      | exact impl_PlayedText.mono _ _ _ _ _ _ _
      | exact laws_eqHoleS.mono _ _ _
      | exact laws_eqInstrument.mono _ _ _ _ _
      | exact laws_toHoleS.mono _ _
      | exact laws_toInstrument.mono _ _ _
      | exact spec_PlayedText.mono _ _ _ _ _ _ _
      | exact LeO.none _
      | refine LeO.ite ?_ ?_
      | refine LeO.bind ?_ (fun _ => ?_)
theorem laws_FnExactPlayedText.mono : ∀ a0 a1 a2 a3 a4 a5 k, LeO (laws_FnExactPlayedText.f k a0 a1 a2 a3 a4 a5) (laws_FnExactPlayedText.f (k + 1) a0 a1 a2 a3 a4 a5) := by
  intro a0 a1 a2 a3 a4 a5 k
  have ih0 := laws_FnExactPlayedText.mono_l k
  unfold laws_FnExactPlayedText.f
  repeat' first
      | (with_reducible exact ih0 _ _ _ _ _ _ _)
      | (with_reducible exact impl_PlayedText.mono _ _ _ _ _ _ _)
      | (with_reducible exact laws_eqHoleS.mono _ _ _)
      | (with_reducible exact laws_eqInstrument.mono _ _ _ _ _)
      | (with_reducible exact laws_toHoleS.mono _ _)
      | (with_reducible exact laws_toInstrument.mono _ _ _)
      | (with_reducible exact spec_PlayedText.mono _ _ _ _ _ _ _)
      | (with_reducible exact LeO.refl _)
      | (with_reducible exact LeO.none _)
      | (with_reducible refine LeO.ite ?_ ?_)
      | (with_reducible refine LeO.bind ?_ (fun _ => ?_))
      | exact ih0 _ _ _ _ _ _ _
      | exact impl_PlayedText.mono _ _ _ _ _ _ _
      | exact laws_eqHoleS.mono _ _ _
      | exact laws_eqInstrument.mono _ _ _ _ _
      | exact laws_toHoleS.mono _ _
      | exact laws_toInstrument.mono _ _ _
      | exact spec_PlayedText.mono _ _ _ _ _ _ _
      | exact LeO.none _
      | refine LeO.ite ?_ ?_
      | refine LeO.bind ?_ (fun _ => ?_)
def laws_FnExactPlayedText.T8 : Bool × List (List Nat × List Nat) := (true, [([], []), ([0], [0]), ([], []), ([2, 1], [2]), ([], []), ([4, 3], [4]), ([1, 3, 5, 5], [1, 3, 5]), ([6], [6]), ([7], [7]), ([7], [7]), ([8, 6, 0, 1, 2, 3, 4, 5, 6, 7, 8], [8]), ([9, 10, 0, 1, 2, 3, 4, 5, 6, 7, 8, 9, 10], [9])])
def laws_FnExactPlayedText.B8 : List Nat := [0, 1, 0, 7, 0, 31, 63, 127, 255, 255, 511, 2047]
theorem laws_FnExactPlayedText.tab8 : rtab .any (opsOf Tryd.f3 8) = laws_FnExactPlayedText.T8 := by kernel_rfl
theorem laws_FnExactPlayedText.bits8 : waitsOk laws_FnExactPlayedText.T8.2 laws_FnExactPlayedText.B8 = true := by kernel_rfl
def laws_FnExactPlayedText.T11 : Bool × List (List Nat × List Nat) := (true, [([], []), ([], []), ([], []), ([2], [2]), ([0, 1, 3, 3], [0, 1, 3]), ([4], [4]), ([5], [5]), ([5], [5]), ([6, 4, 0, 1, 2, 3, 4, 5, 6], [6]), ([7, 8, 0, 1, 2, 3, 4, 5, 6, 7, 8], [7])])
def laws_FnExactPlayedText.B11 : List Nat := [0, 0, 0, 4, 15, 31, 63, 63, 127, 511]
theorem laws_FnExactPlayedText.tab11 : rtab .any (opsOf Tryd.f3 11) = laws_FnExactPlayedText.T11 := by kernel_rfl
theorem laws_FnExactPlayedText.bits11 : waitsOk laws_FnExactPlayedText.T11.2 laws_FnExactPlayedText.B11 = true := by kernel_rfl
theorem laws_FnExactPlayedText.j0_t {k : Nat} : ∀ {a0_ a1_ a3_ a4_ a5_ a6_}, laws_FnExactPlayedText.j0 k a0_ a1_ true a3_ a4_ a5_ a6_ = some true → False := by
  intros; rename_i h; revert h; cases k <;> simp [laws_FnExactPlayedText.j0]
set_option maxHeartbeats 8000000 in
set_option maxRecDepth 100000 in
theorem laws_FnExactPlayedText.calls (k : Nat) (A0_0 : Option Addr) (c0_0 : Nat) (l0_0 : List Int) (a0_1 : Int) (A1 : Option Addr) (c1 : Nat) (l1 : List (S62)) (a2_0 : Int) (a2_1 : Int) (a2_2 : Int) (r : Bool) (w : World) (hr0_0 : Kd.C (Kd.int .i64) w A0_0 l0_0.length l0_0) (hc0_0 : l0_0.length ≤ c0_0) (hr1 : Kd.C k62 w A1 l1.length l1) (hc1 : l1.length ≤ c1) (h : laws_FnExactPlayedText.f k l0_0 a0_1 l1 a2_0 a2_1 a2_2 = some r) (hr_ : r = true) (ht : Lib.HTab w := by exact Lib.zt HT0.out zb) :
  Calls Tryd.prog 3 #[.agg #[.slice A0_0 l0_0.length c0_0, .int .i64 a0_1], .slice A1 l1.length c1, .agg #[.int .i64 a2_0, .int .i64 a2_1, .int .i64 a2_2]] w fun e w' => e = .returned (.bool r) ∧ Below w.heap.size w w' := by
 have HT0 := zm ht
 clear ht
 have hu24 := Tryd.underlying24
 have hu27 := Tryd.underlying27
 have hu32 := Tryd.underlying32
 have HR0_0 := zm hr0_0
 have HC0_0 := zm hc0_0
 clear hr0_0 hc0_0
 have HR1 := zm hr1
 have HC1 := zm hc1
 clear hr1 hc1
 have HB := zm (Below.refl w.heap.size w)
 have H : ((laws_szInstrument.f l0_0 a0_1 1048576).bind fun t303 => (if t303 < 0 then (some true) else ((laws_szHoleS.f l1 t303).bind fun t304 => (if t304 < 0 then (some true) else ((laws_toInstrument.f k l0_0 a0_1).bind fun bt305 => ((laws_toHoleS.f k l1).bind fun t309 => ((laws_toAction.f a2_0 a2_1 a2_2).bind fun bt312 => ((spec_PlayedText.f k bt305.1 bt305.2 t309 bt312.1 bt312.2.1 bt312.2.2).bind fun bt315 => ((laws_toInstrument.f k l0_0 a0_1).bind fun bt317 => ((laws_toHoleS.f k l1).bind fun t322 => ((laws_toAction.f a2_0 a2_1 a2_2).bind fun bt325 => ((impl_PlayedText.f k bt317.1 bt317.2 t322 bt325.1 bt325.2.1 bt325.2.2).bind fun bt328 => (if bt328.1.toList = bt315.1.toList then (laws_FnExactPlayedText.j0 k l1 t322 (bt328.2 != bt315.2) l0_0 a0_1 bt317.1 bt317.2) else (laws_FnExactPlayedText.j0 k l1 t322 true l0_0 a0_1 bt317.1 bt317.2)))))))))))))) = some r := h
 clear h
 replace H := Option.bind_eq_some_iff.mp H
 obtain ⟨t303, A40, H⟩ := H
 (try dsimp only at H)
 have A4 := zm A40
 clear A40
 by_cases c5 : t303 < 0
 ·
  rw [if_pos c5] at H
  have c5b0 : decide (t303 < 0) = true := decide_eq_true c5
  clear c5
  obtain rfl := Option.some.inj H
  go_enter Tryd.func3, Tryd.ntmps3
  go_wp2_with (first | ((with_reducible refine gate_dst (N := 3) rfl ?_); refine box_event ?hg (N := 3) ?hd (cs := #[.slice A0_0 l0_0.length c0_0, .int .i64 a0_1]) (t := 24) ?hr ?_; (case hd => rfl); (case hg => rfl); (case hr => first | (go_simp; done) | (go_simp; rfl)); intro gb301 hg w6 hbox hb; have n0_ := zm (below_step zb hb); have BK301 := zm (hbox); have GW301 := zm (zs hg zb : w.heap.size ≤ gb301); have GE301 := zm (zs hg zb : w.heap.size ≤ gb301); replace HB := n0_; clear n0_; clear hb hbox hg) | ((with_reducible refine gate_dst (N := 5) rfl ?_); refine box_event ?hg (N := 5) ?hd (cs := #[.int .i64 a2_0, .int .i64 a2_1, .int .i64 a2_2]) (t := 27) ?hr ?_; (case hd => rfl); (case hg => rfl); (case hr => first | (go_simp; done) | (go_simp; rfl)); intro gb302 hg w7 hbox hb; have n0_ := zm (blk_below (g := gb301) (o := .cells #[.slice A0_0 l0_0.length c0_0, .int .i64 a0_1] 24 (0, 0)) zk hb); have n1_ := zm (below_step zb hb); have BK302 := zm (hbox); have GW302 := zm (zs hg zb : w.heap.size ≤ gb302); have GE302 := zm (zs hg zb : w.heap.size ≤ gb302); have NB301_302 := zm (zl hg zk : gb301 ≠ gb302); have NB302_301 := zm (zg hg zk : gb302 ≠ gb301); replace BK301 := n0_; replace HB := n1_; clear n0_ n1_; clear hb hbox hg; have hnb8 := NB301_302.out; have hnc8 := NB302_301.out; obtain ⟨hcz9_0, hcz9_1, hfz9_0, hfz9_1⟩ := zc2 BK301.out) | ((with_reducible refine gate_callee (f := 5) rfl ?_); refine goesA_ (some 16) Tryd.func5 #[.agg #[.slice A0_0 l0_0.length c0_0, .int .i64 a0_1], .int .i64 1048576] rfl ?_; (with_reducible refine (laws_szInstrument.calls _ _ l0_0 a0_1 1048576 t303 _ ?side1 ?side2 A4.out).mono ?_); (case side1 => repeat (first | exact (Kd.C_below HR0_0.out HB.out) | (with_reducible refine Kd.C_alloc ?_ _) | (with_reducible refine Kd.C_drewN ?_ _) | (with_reducible refine Kd.C_drew ?_))); (case side2 => exact HC0_0.out); rintro e w10 ⟨rfl, hb⟩; refine ⟨_, rfl, ?_⟩; have n0_ := zm (blk_below (g := gb301) (o := .cells #[.slice A0_0 l0_0.length c0_0, .int .i64 a0_1] 24 (0, 0)) zk hb); replace BK302 := zm (blk_below (g := gb302) (o := .cells #[.int .i64 a2_0, .int .i64 a2_1, .int .i64 a2_2] 27 (0, 0)) zk hb); replace HB := zm (below_step zb hb); replace BK301 := n0_; clear n0_; (try clear hb); (try clear hb2); (try clear hk); (try clear hi)))
  go_ret
  exact ⟨zr, zb⟩
 rw [if_neg c5] at H
 have c5b0 : decide (t303 < 0) = false := decide_eq_false c5
 clear c5
 replace H := Option.bind_eq_some_iff.mp H
 obtain ⟨t304, A110, H⟩ := H
 (try dsimp only at H)
 have A11 := zm A110
 clear A110
 by_cases c12 : t304 < 0
 ·
  rw [if_pos c12] at H
  have c12b0 : decide (t304 < 0) = true := decide_eq_true c12
  clear c12
  obtain rfl := Option.some.inj H
  go_enter Tryd.func3, Tryd.ntmps3
  go_wp2_with (first | ((with_reducible refine gate_dst (N := 3) rfl ?_); refine box_event ?hg (N := 3) ?hd (cs := #[.slice A0_0 l0_0.length c0_0, .int .i64 a0_1]) (t := 24) ?hr ?_; (case hd => rfl); (case hg => rfl); (case hr => first | (go_simp; done) | (go_simp; rfl)); intro gb301 hg w13 hbox hb; have n0_ := zm (below_step zb hb); have BK301 := zm (hbox); have GW301 := zm (zs hg zb : w.heap.size ≤ gb301); have GE301 := zm (zs hg zb : w.heap.size ≤ gb301); replace HB := n0_; clear n0_; clear hb hbox hg) | ((with_reducible refine gate_dst (N := 5) rfl ?_); refine box_event ?hg (N := 5) ?hd (cs := #[.int .i64 a2_0, .int .i64 a2_1, .int .i64 a2_2]) (t := 27) ?hr ?_; (case hd => rfl); (case hg => rfl); (case hr => first | (go_simp; done) | (go_simp; rfl)); intro gb302 hg w14 hbox hb; have n0_ := zm (blk_below (g := gb301) (o := .cells #[.slice A0_0 l0_0.length c0_0, .int .i64 a0_1] 24 (0, 0)) zk hb); have n1_ := zm (below_step zb hb); have BK302 := zm (hbox); have GW302 := zm (zs hg zb : w.heap.size ≤ gb302); have GE302 := zm (zs hg zb : w.heap.size ≤ gb302); have NB301_302 := zm (zl hg zk : gb301 ≠ gb302); have NB302_301 := zm (zg hg zk : gb302 ≠ gb301); replace BK301 := n0_; replace HB := n1_; clear n0_ n1_; clear hb hbox hg; have hnb15 := NB301_302.out; have hnc15 := NB302_301.out; obtain ⟨hcz16_0, hcz16_1, hfz16_0, hfz16_1⟩ := zc2 BK301.out) | ((with_reducible refine gate_callee (f := 5) rfl ?_); refine goesA_ (some 16) Tryd.func5 #[.agg #[.slice A0_0 l0_0.length c0_0, .int .i64 a0_1], .int .i64 1048576] rfl ?_; (with_reducible refine (laws_szInstrument.calls _ _ l0_0 a0_1 1048576 t303 _ ?side1 ?side2 A4.out).mono ?_); (case side1 => repeat (first | exact (Kd.C_below HR0_0.out HB.out) | (with_reducible refine Kd.C_alloc ?_ _) | (with_reducible refine Kd.C_drewN ?_ _) | (with_reducible refine Kd.C_drew ?_))); (case side2 => exact HC0_0.out); rintro e w17 ⟨rfl, hb⟩; refine ⟨_, rfl, ?_⟩; have n0_ := zm (blk_below (g := gb301) (o := .cells #[.slice A0_0 l0_0.length c0_0, .int .i64 a0_1] 24 (0, 0)) zk hb); replace BK302 := zm (blk_below (g := gb302) (o := .cells #[.int .i64 a2_0, .int .i64 a2_1, .int .i64 a2_2] 27 (0, 0)) zk hb); replace HB := zm (below_step zb hb); replace BK301 := n0_; clear n0_; (try clear hb); (try clear hb2); (try clear hk); (try clear hi)) | ((with_reducible refine gate_callee (f := 6) rfl ?_); refine goesA_ (some 21) Tryd.func6 #[.slice A1 l1.length c1, .int .i64 t303] rfl ?_; (with_reducible refine (laws_szHoleS.calls _ _ l1 t303 t304 _ ?side1 ?side2 A11.out).mono ?_); (case side1 => repeat (first | exact (Kd.C_below HR1.out HB.out) | (with_reducible refine Kd.C_alloc ?_ _) | (with_reducible refine Kd.C_drewN ?_ _) | (with_reducible refine Kd.C_drew ?_))); (case side2 => exact HC1.out); rintro e w' ⟨rfl, ⟨nd, rfl⟩⟩; refine ⟨_, rfl, ?_⟩))
  go_ret
  exact ⟨zr, zb⟩
 rw [if_neg c12] at H
 have c12b0 : decide (t304 < 0) = false := decide_eq_false c12
 clear c12
 replace H := Option.bind_eq_some_iff.mp H
 obtain ⟨⟨t305, t308⟩, A180, H⟩ := H
 (try dsimp only at H)
 have A18 := zm A180
 clear A180
 replace H := Option.bind_eq_some_iff.mp H
 obtain ⟨t309, A190, H⟩ := H
 (try dsimp only at H)
 have A19 := zm A190
 clear A190
 replace H := Option.bind_eq_some_iff.mp H
 obtain ⟨⟨t312, t313, t314⟩, A200, H⟩ := H
 (try dsimp only at H)
 have A20 := zm A200
 clear A200
 replace H := Option.bind_eq_some_iff.mp H
 obtain ⟨⟨t315, t316⟩, A210, H⟩ := H
 (try dsimp only at H)
 have A21 := zm A210
 clear A210
 replace H := Option.bind_eq_some_iff.mp H
 obtain ⟨⟨t317, t320⟩, A220, H⟩ := H
 (try dsimp only at H)
 have A22 := zm A220
 clear A220
 replace H := Option.bind_eq_some_iff.mp H
 obtain ⟨t322, A230, H⟩ := H
 (try dsimp only at H)
 have A23 := zm A230
 clear A230
 replace H := Option.bind_eq_some_iff.mp H
 obtain ⟨⟨t325, t326, t327⟩, A240, H⟩ := H
 (try dsimp only at H)
 have A24 := zm A240
 clear A240
 replace H := Option.bind_eq_some_iff.mp H
 obtain ⟨⟨t328, t329⟩, A250, H⟩ := H
 (try dsimp only at H)
 have A25 := zm A250
 clear A250
 have HC26 := zm H
 clear H
 go_enter Tryd.func3, Tryd.ntmps3
 try go_wp2_with (first | ((with_reducible refine gate_dst (N := 3) rfl ?_); refine box_event ?hg (N := 3) ?hd (cs := #[.slice A0_0 l0_0.length c0_0, .int .i64 a0_1]) (t := 24) ?hr ?_; (case hd => rfl); (case hg => rfl); (case hr => first | (go_simp; done) | (go_simp; rfl)); intro gb301 hg w27 hbox hb; have n0_ := zm (below_step zb hb); have BK301 := zm (hbox); have GW301 := zm (zs hg zb : w.heap.size ≤ gb301); have GE301 := zm (zs hg zb : w.heap.size ≤ gb301); replace HB := n0_; clear n0_; clear hb hbox hg) | ((with_reducible refine gate_dst (N := 5) rfl ?_); refine box_event ?hg (N := 5) ?hd (cs := #[.int .i64 a2_0, .int .i64 a2_1, .int .i64 a2_2]) (t := 27) ?hr ?_; (case hd => rfl); (case hg => rfl); (case hr => first | (go_simp; done) | (go_simp; rfl)); intro gb302 hg w28 hbox hb; have n0_ := zm (blk_below (g := gb301) (o := .cells #[.slice A0_0 l0_0.length c0_0, .int .i64 a0_1] 24 (0, 0)) zk hb); have n1_ := zm (below_step zb hb); have BK302 := zm (hbox); have GW302 := zm (zs hg zb : w.heap.size ≤ gb302); have GE302 := zm (zs hg zb : w.heap.size ≤ gb302); have NB301_302 := zm (zl hg zk : gb301 ≠ gb302); have NB302_301 := zm (zg hg zk : gb302 ≠ gb301); replace BK301 := n0_; replace HB := n1_; clear n0_ n1_; clear hb hbox hg; have hnb29 := NB301_302.out; have hnc29 := NB302_301.out; obtain ⟨hcz30_0, hcz30_1, hfz30_0, hfz30_1⟩ := zc2 BK301.out) | ((with_reducible refine gate_callee (f := 5) rfl ?_); refine goesA_ (some 16) Tryd.func5 #[.agg #[.slice A0_0 l0_0.length c0_0, .int .i64 a0_1], .int .i64 1048576] rfl ?_; (with_reducible refine (laws_szInstrument.calls _ _ l0_0 a0_1 1048576 t303 _ ?side1 ?side2 A4.out).mono ?_); (case side1 => repeat (first | exact (Kd.C_below HR0_0.out HB.out) | (with_reducible refine Kd.C_alloc ?_ _) | (with_reducible refine Kd.C_drewN ?_ _) | (with_reducible refine Kd.C_drew ?_))); (case side2 => exact HC0_0.out); rintro e w31 ⟨rfl, hb⟩; refine ⟨_, rfl, ?_⟩; have n0_ := zm (blk_below (g := gb301) (o := .cells #[.slice A0_0 l0_0.length c0_0, .int .i64 a0_1] 24 (0, 0)) zk hb); replace BK302 := zm (blk_below (g := gb302) (o := .cells #[.int .i64 a2_0, .int .i64 a2_1, .int .i64 a2_2] 27 (0, 0)) zk hb); replace HB := zm (below_step zb hb); replace BK301 := n0_; clear n0_; (try clear hb); (try clear hb2); (try clear hk); (try clear hi)) | ((with_reducible refine gate_callee (f := 6) rfl ?_); refine goesA_ (some 21) Tryd.func6 #[.slice A1 l1.length c1, .int .i64 t303] rfl ?_; (with_reducible refine (laws_szHoleS.calls _ _ l1 t303 t304 _ ?side1 ?side2 A11.out).mono ?_); (case side1 => repeat (first | exact (Kd.C_below HR1.out HB.out) | (with_reducible refine Kd.C_alloc ?_ _) | (with_reducible refine Kd.C_drewN ?_ _) | (with_reducible refine Kd.C_drew ?_))); (case side2 => exact HC1.out); rintro e w' ⟨rfl, ⟨nd, rfl⟩⟩; refine ⟨_, rfl, ?_⟩; (try (rw [drewN_self w31]; generalize hq_ : World.drewN w31 _ = w31; have n0_ : Aside0 (w31.heap[gb301]? = some (.cells #[.slice A0_0 l0_0.length c0_0, .int .i64 a0_1] 24 (0, 0))) := ⟨by rw [← hq_]; exact zk⟩; have n1_ : Aside0 (w31.heap[gb302]? = some (.cells #[.int .i64 a2_0, .int .i64 a2_1, .int .i64 a2_2] 27 (0, 0))) := ⟨by rw [← hq_]; exact zk⟩; have n2_ : Aside0 (Below w.heap.size w w31) := ⟨by rw [← hq_]; exact zb⟩; clear BK301 BK302 HB hq_; have BK301 := n0_; have BK302 := n1_; have HB := n2_; clear n0_ n1_ n2_))))
 have n0_ := zm (blk_drew BK301.out)
 have n1_ := zm (blk_drew BK302.out)
 have n2_ := zm (below_drew1 HB.out)
 clear BK301
 clear BK302
 clear HB
 have BK301 := n0_
 have BK302 := n1_
 have HB := n2_
 clear n0_ n1_ n2_
 refine start_ (n := 12) (S := fun w' => w'.cell? ⟨gb301, 0, none⟩ = some (.slice A0_0 l0_0.length c0_0) ∧ w'.cell? ⟨gb301, 1, none⟩ = some (.int .i64 a0_1) ∧ w'.cell? ⟨gb302, 0, none⟩ = some (.int .i64 a2_0) ∧ w'.cell? ⟨gb302, 1, none⟩ = some (.int .i64 a2_1) ∧ w'.cell? ⟨gb302, 2, none⟩ = some (.int .i64 a2_2)) (ds := []) #[false, false, false, false, false, false, false, false, false, false, false, false] (by kernel_rfl) rfl rfl ⟨(blk_cell BK301.out 0).trans rfl, (blk_cell BK301.out 1).trans rfl, (blk_cell BK302.out 0).trans rfl, (blk_cell BK302.out 1).trans rfl, (blk_cell BK302.out 2).trans rfl⟩ (fun hHeld => ?_); refine with_tabW laws_FnExactPlayedText.tab8 laws_FnExactPlayedText.bits8 (fun HT_ HW_ => ?_)
 generalize w31.drew = w32 at BK301 BK302 HB hHeld ⊢
 refine pure_ (i := 2) (N := some 27) (v := ?_) (a' := ?_) #[false, false, true, false, false, false, false, false, false, false, false, false] rfl rfl (any_of HT_.out (by kernel_rfl)) (fun _ _ _ h => h) (Or.inl ⟨by rfl, ?_⟩) ?_ ?_
 rotate_left
 ·
  intro w'
  go_simp
  with_reducible rfl
 rotate_left
 ·
  simp only [Act.put, zA, zB, zD, i64_w, i32_w]
  rfl
 refine take_ (i := 0) (N := some 25) (v := ?_) (a' := ?_) #[true, false, true, false, false, false, false, false, false, false, false, false] rfl rfl (take_ofW HT_.out HW_.out (by kernel_rfl)) (fun _ _ _ h => h) (Or.inl ⟨by rfl, ?_⟩) hHeld ?_ ?_
 rotate_left
 ·
  rintro w' ⟨s0, s1, s2, s3, s4⟩
  go_simp
  with_reducible rfl
 rotate_left
 ·
  simp only [Act.put, zA, zB, zD, i64_w, i32_w]
  rfl
 refine take_ (i := 4) (N := some 29) (v := ?_) (a' := ?_) #[true, false, true, false, true, false, false, false, false, false, false, false] rfl rfl (take_ofW HT_.out HW_.out (by kernel_rfl)) (fun _ _ _ h => h) (Or.inl ⟨by rfl, ?_⟩) hHeld ?_ ?_
 rotate_left
 ·
  rintro w' ⟨s0, s1, s2, s3, s4⟩
  go_simp
  with_reducible rfl
 rotate_left
 ·
  simp only [Act.put, zA, zB, zD, i64_w, i32_w]
  rfl
 refine one_ (i := 1) (N := some 26) #[true, true, true, false, true, false, false, false, false, false, false, false] rfl rfl (one_of HT_.out (by kernel_rfl)) (by decide) (fun K hK => ?_)
 refine goes_ Tryd.func8 (by kernel_rfl) rfl #[.agg #[.slice A0_0 l0_0.length c0_0, .int .i64 a0_1]] (by rfl) rfl rfl (by (try simp only [List.map_toArray, List.map_cons, List.map_nil]); first | done | rfl | (simp only [List.length_drop, List.length_take]; rfl)) ?_
 with_reducible refine (laws_toInstrument.calls k _ _ l0_0 a0_1 t305 t308 _ ?side1 ?side2 A18.out).mono ?_
 (case side1 => repeat (first | exact (Kd.C_below HR0_0.out HB.out) | (with_reducible refine Kd.C_alloc ?_ _) | (with_reducible refine Kd.C_drewN ?_ _) | (with_reducible refine Kd.C_drew ?_)))
 (case side2 => exact HC0_0.out)
 rintro e w33 ⟨v306, rfl, ho0, hb⟩
 refine ⟨_, rfl, ?_⟩
 have n0_ := zm (Kd.R_lower ho0 (below_size zb))
 have n1_ := zm (blk_below (g := gb301) (o := .cells #[.slice A0_0 l0_0.length c0_0, .int .i64 a0_1] 24 (0, 0)) zk hb)
 have n2_ := zm (blk_below (g := gb302) (o := .cells #[.int .i64 a2_0, .int .i64 a2_1, .int .i64 a2_2] 27 (0, 0)) zk hb)
 have n3_ := zm (below_step zb hb)
 clear BK301
 clear BK302
 clear HB
 have HO307 := n0_
 have BK301 := n1_
 have BK302 := n2_
 have HB := n3_
 clear n0_ n1_ n2_ n3_
 (try clear hb)
 (try clear hb2)
 (try clear hk)
 (try clear hi)
 (try clear ho0)
 refine hK.out _ _ ⟨(blk_cell BK301.out 0).trans rfl, (blk_cell BK301.out 1).trans rfl, (blk_cell BK302.out 0).trans rfl, (blk_cell BK302.out 1).trans rfl, (blk_cell BK302.out 2).trans rfl⟩ (fun hHeld => ?_)
 clear hK K
 refine norm_ (a' := ?_) ?_ ?_
 rotate_left
 ·
  show Act.put _ (some 26) _ = _
  simp only [Act.put, zA, zB, zD, i64_w, i32_w]
  rfl
 refine one_ (i := 3) (N := some 28) #[true, true, true, true, true, false, false, false, false, false, false, false] rfl rfl (one_of HT_.out (by kernel_rfl)) (by decide) (fun K hK => ?_)
 refine goes_ Tryd.func9 (by kernel_rfl) rfl #[.slice A1 l1.length c1] (by rfl) rfl rfl (by (try simp only [List.map_toArray, List.map_cons, List.map_nil]); first | done | rfl | (simp only [List.length_drop, List.length_take]; rfl)) ?_
 with_reducible refine (laws_toHoleS.calls k _ _ l1 t309 _ ?side1 ?side2 A19.out).mono ?_
 (case side1 => repeat (first | exact (Kd.C_below HR1.out HB.out) | (with_reducible refine Kd.C_alloc ?_ _) | (with_reducible refine Kd.C_drewN ?_ _) | (with_reducible refine Kd.C_drew ?_)))
 (case side2 => exact HC1.out)
 rintro e w34 ⟨v310, rfl, ho0, hb⟩
 refine ⟨_, rfl, ?_⟩
 have n0_ := zm (Kd.R_below (zP HO307.out) hb)
 have n1_ := zm (Kd.R_lower ho0 (below_size zb))
 have n2_ := zm (blk_below (g := gb301) (o := .cells #[.slice A0_0 l0_0.length c0_0, .int .i64 a0_1] 24 (0, 0)) zk hb)
 have n3_ := zm (blk_below (g := gb302) (o := .cells #[.int .i64 a2_0, .int .i64 a2_1, .int .i64 a2_2] 27 (0, 0)) zk hb)
 have n4_ := zm (below_step zb hb)
 clear HO307
 clear BK301
 clear BK302
 clear HB
 have HO307 := n0_
 have HO311 := n1_
 have BK301 := n2_
 have BK302 := n3_
 have HB := n4_
 clear n0_ n1_ n2_ n3_ n4_
 (try clear hb)
 (try clear hb2)
 (try clear hk)
 (try clear hi)
 (try clear ho0)
 refine hK.out _ _ ⟨(blk_cell BK301.out 0).trans rfl, (blk_cell BK301.out 1).trans rfl, (blk_cell BK302.out 0).trans rfl, (blk_cell BK302.out 1).trans rfl, (blk_cell BK302.out 2).trans rfl⟩ (fun hHeld => ?_)
 clear hK K
 refine norm_ (a' := ?_) ?_ ?_
 rotate_left
 ·
  show Act.put _ (some 28) _ = _
  simp only [Act.put, zA, zB, zD, i64_w, i32_w]
  rfl
 refine one_ (i := 5) (N := some 30) #[true, true, true, true, true, true, false, false, false, false, false, false] rfl rfl (one_of HT_.out (by kernel_rfl)) (by decide) (fun K hK => ?_)
 refine goes_ Tryd.func10 (by kernel_rfl) rfl #[.agg #[.int .i64 a2_0, .int .i64 a2_1, .int .i64 a2_2]] (by rfl) rfl rfl (by (try simp only [List.map_toArray, List.map_cons, List.map_nil]); first | done | rfl | (simp only [List.length_drop, List.length_take]; rfl)) ?_
 with_reducible refine (laws_toAction.calls a2_0 a2_1 a2_2 t312 t313 t314 _ A20.out).mono ?_
 rintro e w35 ⟨rfl, hb⟩
 refine ⟨_, rfl, ?_⟩
 have n0_ := zm (Kd.R_below (zP HO307.out) hb)
 have n1_ := zm (Kd.R_below (zP HO311.out) hb)
 have n2_ := zm (blk_below (g := gb301) (o := .cells #[.slice A0_0 l0_0.length c0_0, .int .i64 a0_1] 24 (0, 0)) zk hb)
 have n3_ := zm (blk_below (g := gb302) (o := .cells #[.int .i64 a2_0, .int .i64 a2_1, .int .i64 a2_2] 27 (0, 0)) zk hb)
 have n4_ := zm (below_step zb hb)
 clear HO307
 clear HO311
 clear BK301
 clear BK302
 clear HB
 have HO307 := n0_
 have HO311 := n1_
 have BK301 := n2_
 have BK302 := n3_
 have HB := n4_
 clear n0_ n1_ n2_ n3_ n4_
 (try clear hb)
 (try clear hb2)
 (try clear hk)
 (try clear hi)
 obtain ⟨Ao36, co36, eo36⟩ := Kd.R_slice HO307.out
 (first | subst eo36 | (injection eo36 with f1_ f2_ f3_; have f4_ := f1_.symm; have f5_ := f3_.symm; clear f1_ f2_ f3_; subst f4_; subst f5_))
 obtain ⟨Ao37, co37, eo37⟩ := Kd.R_slice HO311.out
 (first | subst eo37 | (injection eo37 with f1_ f2_ f3_; have f4_ := f1_.symm; have f5_ := f3_.symm; clear f1_ f2_ f3_; subst f4_; subst f5_))
 refine hK.out _ _ ⟨(blk_cell BK301.out 0).trans rfl, (blk_cell BK301.out 1).trans rfl, (blk_cell BK302.out 0).trans rfl, (blk_cell BK302.out 1).trans rfl, (blk_cell BK302.out 2).trans rfl⟩ (fun hHeld => ?_)
 clear hK K
 refine norm_ (a' := ?_) ?_ ?_
 rotate_left
 ·
  show Act.put _ (some 30) _ = _
  simp only [Act.put, zA, zB, zD, i64_w, i32_w]
  rfl
 refine one_ (i := 6) (N := some 31) #[true, true, true, true, true, true, true, false, false, false, false, false] rfl rfl (one_of HT_.out (by kernel_rfl)) (by decide) (fun K hK => ?_)
 refine goes_ Tryd.func7 (by kernel_rfl) rfl #[.agg #[.slice Ao36 t305.length co36, .int .i64 t308], .slice Ao37 t309.length co37, .agg #[.int .i64 t312, .int .i64 t313, .int .i64 t314]] (by rfl) rfl rfl (by (try simp only [List.map_toArray, List.map_cons, List.map_nil]); first | done | rfl | (simp only [List.length_drop, List.length_take]; rfl)) ?_
 with_reducible refine (spec_PlayedText.calls k _ _ t305 t308 _ _ t309 t312 t313 t314 t315 t316 _ ?side1 ?side2 ?side3 ?side4 A21.out).mono ?_
 (case side1 => repeat (first | exact (Kd.R_reads' HO307.out).2.2 | (with_reducible refine Kd.C_alloc ?_ _) | (with_reducible refine Kd.C_drewN ?_ _) | (with_reducible refine Kd.C_drew ?_)))
 (case side2 => exact (Kd.R_reads' HO307.out).2.1)
 (case side3 => repeat (first | exact (Kd.R_reads' HO311.out).2.2 | (with_reducible refine Kd.C_alloc ?_ _) | (with_reducible refine Kd.C_drewN ?_ _) | (with_reducible refine Kd.C_drew ?_)))
 (case side4 => exact (Kd.R_reads' HO311.out).2.1)
 rintro e w38 ⟨rfl, hb⟩
 refine ⟨_, rfl, ?_⟩
 have n0_ := zm (Kd.R_below (zP HO307.out) hb)
 have n1_ := zm (Kd.R_below (zP HO311.out) hb)
 have n2_ := zm (blk_below (g := gb301) (o := .cells #[.slice A0_0 l0_0.length c0_0, .int .i64 a0_1] 24 (0, 0)) zk hb)
 have n3_ := zm (blk_below (g := gb302) (o := .cells #[.int .i64 a2_0, .int .i64 a2_1, .int .i64 a2_2] 27 (0, 0)) zk hb)
 have n4_ := zm (below_step zb hb)
 clear HO307
 clear HO311
 clear BK301
 clear BK302
 clear HB
 have HO307 := n0_
 have HO311 := n1_
 have BK301 := n2_
 have BK302 := n3_
 have HB := n4_
 clear n0_ n1_ n2_ n3_ n4_
 (try clear hb)
 (try clear hb2)
 (try clear hk)
 (try clear hi)
 refine hK.out _ _ ⟨(blk_cell BK301.out 0).trans rfl, (blk_cell BK301.out 1).trans rfl, (blk_cell BK302.out 0).trans rfl, (blk_cell BK302.out 1).trans rfl, (blk_cell BK302.out 2).trans rfl⟩ (fun hHeld => ?_)
 clear hK K
 refine norm_ (a' := ?_) ?_ ?_
 rotate_left
 ·
  show Act.put _ (some 31) _ = _
  simp only [Act.put, zA, zB, zD, i64_w, i32_w]
  rfl
 refine pure_ (i := 7) (N := some 24) (v := ?_) (a' := ?_) #[true, true, true, true, true, true, true, true, false, false, false, false] rfl rfl (any_of HT_.out (by kernel_rfl)) (fun _ _ _ h => h) (Or.inl ⟨by rfl, ?_⟩) ?_ ?_
 rotate_left
 ·
  intro w'
  go_simp
  with_reducible rfl
 rotate_left
 ·
  simp only [Act.put, zA, zB, zD, i64_w, i32_w]
  rfl
 refine pure_ (i := 8) (N := some 32) (v := ?_) (a' := ?_) #[true, true, true, true, true, true, true, true, true, false, false, false] rfl rfl (any_of HT_.out (by kernel_rfl)) (fun _ _ _ h => h) (Or.inl ⟨by rfl, ?_⟩) ?_ ?_
 rotate_left
 ·
  intro w'
  go_simp
  with_reducible rfl
 rotate_left
 ·
  simp only [Act.put, zA, zB, zD, i64_w, i32_w]
  rfl
 refine pure_ (i := 9) (N := some 33) (v := ?_) (a' := ?_) #[true, true, true, true, true, true, true, true, true, true, false, false] rfl rfl (any_of HT_.out (by kernel_rfl)) (fun _ _ _ h => h) (Or.inl ⟨by rfl, ?_⟩) ?_ ?_
 rotate_left
 ·
  intro w'
  go_simp
  with_reducible rfl
 rotate_left
 ·
  simp only [Act.put, zA, zB, zD, i64_w, i32_w]
  rfl
 refine pure_ (i := 10) (N := some 8) (v := ?_) (a' := ?_) #[true, true, true, true, true, true, true, true, true, true, true, false] rfl rfl (any_of HT_.out (by kernel_rfl)) (fun _ _ _ h => h) (Or.inl ⟨by rfl, ?_⟩) ?_ ?_
 rotate_left
 ·
  intro w'
  go_simp
  with_reducible rfl
 rotate_left
 ·
  simp only [Act.put, zA, zB, zD, i64_w, i32_w]
  rfl
 refine pure_ (i := 11) (N := some 9) (v := ?_) (a' := ?_) #[true, true, true, true, true, true, true, true, true, true, true, true] rfl rfl (any_of HT_.out (by kernel_rfl)) (fun _ _ _ h => h) (Or.inl ⟨by rfl, ?_⟩) ?_ ?_
 rotate_left
 ·
  intro w'
  go_simp
  with_reducible rfl
 rotate_left
 ·
  simp only [Act.put, zA, zB, zD, i64_w, i32_w]
  rfl
 refine done_ (done_of HT_.out (by kernel_rfl)) ?_
 obtain ⟨hcz39_0, hcz39_1, hfz39_0, hfz39_1⟩ := zc2 BK301.out
 try go_wp2_with (first | ((with_reducible refine gate_callee (f := 8) rfl ?_); refine goesA_ (some 35) Tryd.func8 #[.agg #[.slice A0_0 l0_0.length c0_0, .int .i64 a0_1]] rfl ?_; (with_reducible refine (laws_toInstrument.calls k _ _ l0_0 a0_1 t317 t320 _ ?side1 ?side2 A22.out).mono ?_); (case side1 => repeat (first | exact (Kd.C_below HR0_0.out HB.out) | (with_reducible refine Kd.C_alloc ?_ _) | (with_reducible refine Kd.C_drewN ?_ _) | (with_reducible refine Kd.C_drew ?_))); (case side2 => exact HC0_0.out); rintro e w40 ⟨v318, rfl, ho0, hb⟩; refine ⟨_, rfl, ?_⟩; have n0_ := zm (Kd.R_elder' (zP HO307.out) (Kd.R_base ho0) hb); replace HO311 := zm (Kd.R_below (zP HO311.out) hb); have HO319 := zm (Kd.R_lower (Kd.R_new' ho0 (Kd.R_lt (zP HO307.out))) (below_size zb)); have n3_ := zm (blk_below (g := gb301) (o := .cells #[.slice A0_0 l0_0.length c0_0, .int .i64 a0_1] 24 (0, 0)) zk hb); replace BK302 := zm (blk_below (g := gb302) (o := .cells #[.int .i64 a2_0, .int .i64 a2_1, .int .i64 a2_2] 27 (0, 0)) zk hb); replace HB := zm (below_step zb hb); replace HO307 := n0_; replace BK301 := n3_; clear n0_ n3_; (try clear hb); (try clear hb2); (try clear hk); (try clear hi); (try clear ho0)) | ((with_reducible refine gate_dst (N := 10) rfl ?_); refine box_event ?hg (N := 10) ?hd (cs := #[.slice none 0 0, .int .i64 0]) (t := 32) ?hr ?_; (case hd => rfl); (case hg => rfl); (case hr => first | (go_simp; done) | (go_simp; rfl)); intro gb321 hg w41 hbox hb; replace HO307 := zm (Kd.R_below (zP HO307.out) hb); replace HO311 := zm (Kd.R_below (zP HO311.out) hb); replace HO319 := zm (Kd.R_below (zP HO319.out) hb); have n3_ := zm (blk_below (g := gb301) (o := .cells #[.slice A0_0 l0_0.length c0_0, .int .i64 a0_1] 24 (0, 0)) zk hb); have n4_ := zm (blk_below (g := gb302) (o := .cells #[.int .i64 a2_0, .int .i64 a2_1, .int .i64 a2_2] 27 (0, 0)) zk hb); have n5_ := zm (below_step zb hb); have BK321 := zm (hbox); have GW321 := zm (zs hg zb : w.heap.size ≤ gb321); have GE321 := zm (zs hg zb : w.heap.size ≤ gb321); have NB301_321 := zm (zl hg zk : gb301 ≠ gb321); have NB321_301 := zm (zg hg zk : gb321 ≠ gb301); have NB302_321 := zm (zl hg zk : gb302 ≠ gb321); have NB321_302 := zm (zg hg zk : gb321 ≠ gb302); replace BK301 := n3_; replace BK302 := n4_; replace HB := n5_; clear n3_ n4_ n5_; clear hb hbox hg; obtain ⟨Ao42, co42, eo42⟩ := Kd.R_slice HO319.out; subst eo42; have hnb43 := NB321_301.out; have hnc43 := NB301_321.out; have hnb44 := NB321_302.out; have hnc44 := NB302_321.out; obtain ⟨hcz45_0, hcz45_1, hfz45_0, hfz45_1⟩ := zc2 BK321.out) | ((with_reducible refine gate_callee (f := 9) rfl ?_); refine goesA_ (some 37) Tryd.func9 #[.slice A1 l1.length c1] rfl ?_; (with_reducible refine (laws_toHoleS.calls k _ _ l1 t322 _ ?side1 ?side2 A23.out).mono ?_); (case side1 => exact Kd.C_below HR1.out zb); (case side2 => exact HC1.out); rintro e w46 ⟨v323, rfl, ho0, hb⟩; refine ⟨_, rfl, ?_⟩; replace HO307 := zm (Kd.R_below (zP ((Kd.R_mono (Kd.R_far (p := ⟨gb321, 1, none⟩) (Kd.R_far (p := ⟨gb321, 0, none⟩) (Kd.R_types HO307.out BK321.out (by decide)) (fun _ hk => hk.2) (.slice Ao42 t317.length co42)) (fun _ hk => hk.2) (.int .i64 t320)) (fun _ h_ => h_.1)))) hb); have n1_ := zm (Kd.R_elder' (zP ((Kd.R_mono (Kd.R_far (p := ⟨gb321, 1, none⟩) (Kd.R_far (p := ⟨gb321, 0, none⟩) (Kd.R_types HO311.out BK321.out (by decide)) (fun _ hk => hk.2) (.slice Ao42 t317.length co42)) (fun _ hk => hk.2) (.int .i64 t320)) (fun _ h_ => h_.1)))) (Kd.R_base ho0) hb); replace HO319 := zm (Kd.R_below (zP ((Kd.R_mono (Kd.R_far (p := ⟨gb321, 1, none⟩) (Kd.R_far (p := ⟨gb321, 0, none⟩) (Kd.R_types HO319.out BK321.out (by decide)) (fun _ hk => hk.2) (.slice Ao42 t317.length co42)) (fun _ hk => hk.2) (.int .i64 t320)) (fun _ h_ => h_.1)))) hb); have HO324 := zm (Kd.R_lower (Kd.R_new' ho0 (Kd.R_lt (zP ((Kd.R_mono (Kd.R_far (p := ⟨gb321, 1, none⟩) (Kd.R_far (p := ⟨gb321, 0, none⟩) (Kd.R_types HO311.out BK321.out (by decide)) (fun _ hk => hk.2) (.slice Ao42 t317.length co42)) (fun _ hk => hk.2) (.int .i64 t320)) (fun _ h_ => h_.1)))))) (below_size zb)); have n4_ := zm (blk_below (g := gb301) (o := .cells #[.slice A0_0 l0_0.length c0_0, .int .i64 a0_1] 24 (0, 0)) zK hb); replace BK302 := zm (blk_below (g := gb302) (o := .cells #[.int .i64 a2_0, .int .i64 a2_1, .int .i64 a2_2] 27 (0, 0)) zK hb); replace BK321 := zm (blk_below (g := gb321) (o := .cells #[.slice Ao42 t317.length co42, .int .i64 t320] 32 (0, 0)) (by (with_reducible repeat (first | refine blk_drewN ?_ _ | refine blk_drew ?_ | refine blk_alloc ?_ _)); refine blk_put (cs := #[.slice Ao42 t317.length co42, .int .i64 0]) ?_ 1 _ rfl; (with_reducible repeat (first | refine blk_drewN ?_ _ | refine blk_drew ?_ | refine blk_alloc ?_ _)); refine blk_put (cs := #[.slice none 0 0, .int .i64 0]) ?_ 0 _ rfl; (with_reducible repeat (first | refine blk_drewN ?_ _ | refine blk_drew ?_ | refine blk_alloc ?_ _)); exact BK321.out) hb); replace HB := zm (below_step zb hb); replace HO311 := n1_; replace BK301 := n4_; clear n1_ n4_; (try clear hb); (try clear hb2); (try clear hk); (try clear hi); (try clear ho0)))
 have n0_ := zm (Kd.R_drew HO307.out)
 have n1_ := zm (Kd.R_drew HO311.out)
 have n2_ := zm (Kd.R_drew HO319.out)
 have n3_ := zm (Kd.R_drew HO324.out)
 have n4_ := zm (blk_drew BK301.out)
 have n5_ := zm (blk_drew BK302.out)
 have n6_ := zm (blk_drew BK321.out)
 have n7_ := zm (below_drew1 HB.out)
 clear HO307
 clear HO311
 clear HO319
 clear HO324
 clear BK301
 clear BK302
 clear BK321
 clear HB
 have HO307 := n0_
 have HO311 := n1_
 have HO319 := n2_
 have HO324 := n3_
 have BK301 := n4_
 have BK302 := n5_
 have BK321 := n6_
 have HB := n7_
 clear n0_ n1_ n2_ n3_ n4_ n5_ n6_ n7_
 refine start_ (n := 10) (S := fun w' => w'.cell? ⟨gb321, 0, none⟩ = some (.slice Ao42 t317.length co42) ∧ w'.cell? ⟨gb321, 1, none⟩ = some (.int .i64 t320) ∧ w'.cell? ⟨gb302, 0, none⟩ = some (.int .i64 a2_0) ∧ w'.cell? ⟨gb302, 1, none⟩ = some (.int .i64 a2_1) ∧ w'.cell? ⟨gb302, 2, none⟩ = some (.int .i64 a2_2)) (ds := []) #[false, false, false, false, false, false, false, false, false, false] (by kernel_rfl) rfl rfl ⟨(blk_cell BK321.out 0).trans rfl, (blk_cell BK321.out 1).trans rfl, (blk_cell BK302.out 0).trans rfl, (blk_cell BK302.out 1).trans rfl, (blk_cell BK302.out 2).trans rfl⟩ (fun hHeld => ?_); refine with_tabW laws_FnExactPlayedText.tab11 laws_FnExactPlayedText.bits11 (fun HT_ HW_ => ?_)
 generalize w46.drew = w47 at HO307 HO311 HO319 HO324 BK301 BK302 BK321 HB hHeld ⊢
 refine pure_ (i := 1) (N := some 40) (v := ?_) (a' := ?_) #[false, true, false, false, false, false, false, false, false, false] rfl rfl (any_of HT_.out (by kernel_rfl)) (fun _ _ _ h => h) (Or.inl ⟨by rfl, ?_⟩) ?_ ?_
 rotate_left
 ·
  intro w'
  go_simp
  with_reducible rfl
 rotate_left
 ·
  simp only [Act.put, zA, zB, zD, i64_w, i32_w]
  rfl
 refine take_ (i := 0) (N := some 39) (v := ?_) (a' := ?_) #[true, true, false, false, false, false, false, false, false, false] rfl rfl (take_ofW HT_.out HW_.out (by kernel_rfl)) (fun _ _ _ h => h) (Or.inl ⟨by rfl, ?_⟩) hHeld ?_ ?_
 rotate_left
 ·
  rintro w' ⟨s0, s1, s2, s3, s4⟩
  go_simp
  with_reducible rfl
 rotate_left
 ·
  simp only [Act.put, zA, zB, zD, i64_w, i32_w]
  rfl
 refine take_ (i := 2) (N := some 41) (v := ?_) (a' := ?_) #[true, true, true, false, false, false, false, false, false, false] rfl rfl (take_ofW HT_.out HW_.out (by kernel_rfl)) (fun _ _ _ h => h) (Or.inl ⟨by rfl, ?_⟩) hHeld ?_ ?_
 rotate_left
 ·
  rintro w' ⟨s0, s1, s2, s3, s4⟩
  go_simp
  with_reducible rfl
 rotate_left
 ·
  simp only [Act.put, zA, zB, zD, i64_w, i32_w]
  rfl
 refine one_ (i := 3) (N := some 42) #[true, true, true, true, false, false, false, false, false, false] rfl rfl (one_of HT_.out (by kernel_rfl)) (by decide) (fun K hK => ?_)
 refine goes_ Tryd.func10 (by kernel_rfl) rfl #[.agg #[.int .i64 a2_0, .int .i64 a2_1, .int .i64 a2_2]] (by rfl) rfl rfl (by (try simp only [List.map_toArray, List.map_cons, List.map_nil]); first | done | rfl | (simp only [List.length_drop, List.length_take]; rfl)) ?_
 with_reducible refine (laws_toAction.calls a2_0 a2_1 a2_2 t325 t326 t327 _ A24.out).mono ?_
 rintro e w48 ⟨rfl, hb⟩
 refine ⟨_, rfl, ?_⟩
 have n0_ := zm (Kd.R_below (zP HO307.out) hb)
 have n1_ := zm (Kd.R_below (zP HO311.out) hb)
 have n2_ := zm (Kd.R_below (zP HO319.out) hb)
 have n3_ := zm (Kd.R_below (zP HO324.out) hb)
 have n4_ := zm (blk_below (g := gb301) (o := .cells #[.slice A0_0 l0_0.length c0_0, .int .i64 a0_1] 24 (0, 0)) zk hb)
 have n5_ := zm (blk_below (g := gb302) (o := .cells #[.int .i64 a2_0, .int .i64 a2_1, .int .i64 a2_2] 27 (0, 0)) zk hb)
 have n6_ := zm (blk_below (g := gb321) (o := .cells #[.slice Ao42 t317.length co42, .int .i64 t320] 32 (0, 0)) zk hb)
 have n7_ := zm (below_step zb hb)
 clear HO307
 clear HO311
 clear HO319
 clear HO324
 clear BK301
 clear BK302
 clear BK321
 clear HB
 have HO307 := n0_
 have HO311 := n1_
 have HO319 := n2_
 have HO324 := n3_
 have BK301 := n4_
 have BK302 := n5_
 have BK321 := n6_
 have HB := n7_
 clear n0_ n1_ n2_ n3_ n4_ n5_ n6_ n7_
 (try clear hb)
 (try clear hb2)
 (try clear hk)
 (try clear hi)
 obtain ⟨Ao49, co49, eo49⟩ := Kd.R_slice HO324.out
 (first | subst eo49 | (injection eo49 with f1_ f2_ f3_; have f4_ := f1_.symm; have f5_ := f3_.symm; clear f1_ f2_ f3_; subst f4_; subst f5_))
 refine hK.out _ _ ⟨(blk_cell BK321.out 0).trans rfl, (blk_cell BK321.out 1).trans rfl, (blk_cell BK302.out 0).trans rfl, (blk_cell BK302.out 1).trans rfl, (blk_cell BK302.out 2).trans rfl⟩ (fun hHeld => ?_)
 clear hK K
 refine norm_ (a' := ?_) ?_ ?_
 rotate_left
 ·
  show Act.put _ (some 42) _ = _
  simp only [Act.put, zA, zB, zD, i64_w, i32_w]
  rfl
 refine one_ (i := 4) (N := some 43) #[true, true, true, true, true, false, false, false, false, false] rfl rfl (one_of HT_.out (by kernel_rfl)) (by decide) (fun K hK => ?_)
 refine goes_ Tryd.func11 (by kernel_rfl) rfl #[.agg #[.slice Ao42 t317.length co42, .int .i64 t320], .slice Ao49 t322.length co49, .agg #[.int .i64 t325, .int .i64 t326, .int .i64 t327]] (by rfl) rfl rfl (by (try simp only [List.map_toArray, List.map_cons, List.map_nil]); first | done | rfl | (simp only [List.length_drop, List.length_take]; rfl)) ?_
 with_reducible refine (impl_PlayedText.calls k _ _ t317 t320 _ _ t322 t325 t326 t327 t328 t329 _ ?side1 ?side2 ?side3 ?side4 A25.out).mono ?_
 (case side1 => repeat (first | exact (Kd.R_reads' HO319.out).2.2 | (with_reducible refine Kd.C_alloc ?_ _) | (with_reducible refine Kd.C_drewN ?_ _) | (with_reducible refine Kd.C_drew ?_)))
 (case side2 => exact (Kd.R_reads' HO319.out).2.1)
 (case side3 => repeat (first | exact (Kd.R_reads' HO324.out).2.2 | (with_reducible refine Kd.C_alloc ?_ _) | (with_reducible refine Kd.C_drewN ?_ _) | (with_reducible refine Kd.C_drew ?_)))
 (case side4 => exact (Kd.R_reads' HO324.out).2.1)
 rintro e w50 ⟨rfl, hb⟩
 refine ⟨_, rfl, ?_⟩
 have n0_ := zm (Kd.R_below (zP HO307.out) hb)
 have n1_ := zm (Kd.R_below (zP HO311.out) hb)
 have n2_ := zm (Kd.R_below (zP HO319.out) hb)
 have n3_ := zm (Kd.R_below (zP HO324.out) hb)
 have n4_ := zm (blk_below (g := gb301) (o := .cells #[.slice A0_0 l0_0.length c0_0, .int .i64 a0_1] 24 (0, 0)) zk hb)
 have n5_ := zm (blk_below (g := gb302) (o := .cells #[.int .i64 a2_0, .int .i64 a2_1, .int .i64 a2_2] 27 (0, 0)) zk hb)
 have n6_ := zm (blk_below (g := gb321) (o := .cells #[.slice Ao42 t317.length co42, .int .i64 t320] 32 (0, 0)) zk hb)
 have n7_ := zm (below_step zb hb)
 clear HO307
 clear HO311
 clear HO319
 clear HO324
 clear BK301
 clear BK302
 clear BK321
 clear HB
 have HO307 := n0_
 have HO311 := n1_
 have HO319 := n2_
 have HO324 := n3_
 have BK301 := n4_
 have BK302 := n5_
 have BK321 := n6_
 have HB := n7_
 clear n0_ n1_ n2_ n3_ n4_ n5_ n6_ n7_
 (try clear hb)
 (try clear hb2)
 (try clear hk)
 (try clear hi)
 refine hK.out _ _ ⟨(blk_cell BK321.out 0).trans rfl, (blk_cell BK321.out 1).trans rfl, (blk_cell BK302.out 0).trans rfl, (blk_cell BK302.out 1).trans rfl, (blk_cell BK302.out 2).trans rfl⟩ (fun hHeld => ?_)
 clear hK K
 refine norm_ (a' := ?_) ?_ ?_
 rotate_left
 ·
  show Act.put _ (some 43) _ = _
  simp only [Act.put, zA, zB, zD, i64_w, i32_w]
  rfl
 refine pure_ (i := 5) (N := some 38) (v := ?_) (a' := ?_) #[true, true, true, true, true, true, false, false, false, false] rfl rfl (any_of HT_.out (by kernel_rfl)) (fun _ _ _ h => h) (Or.inl ⟨by rfl, ?_⟩) ?_ ?_
 rotate_left
 ·
  intro w'
  go_simp
  with_reducible rfl
 rotate_left
 ·
  simp only [Act.put, zA, zB, zD, i64_w, i32_w]
  rfl
 refine pure_ (i := 6) (N := some 44) (v := ?_) (a' := ?_) #[true, true, true, true, true, true, true, false, false, false] rfl rfl (any_of HT_.out (by kernel_rfl)) (fun _ _ _ h => h) (Or.inl ⟨by rfl, ?_⟩) ?_ ?_
 rotate_left
 ·
  intro w'
  go_simp
  with_reducible rfl
 rotate_left
 ·
  simp only [Act.put, zA, zB, zD, i64_w, i32_w]
  rfl
 refine pure_ (i := 7) (N := some 45) (v := ?_) (a' := ?_) #[true, true, true, true, true, true, true, true, false, false] rfl rfl (any_of HT_.out (by kernel_rfl)) (fun _ _ _ h => h) (Or.inl ⟨by rfl, ?_⟩) ?_ ?_
 rotate_left
 ·
  intro w'
  go_simp
  with_reducible rfl
 rotate_left
 ·
  simp only [Act.put, zA, zB, zD, i64_w, i32_w]
  rfl
 refine pure_ (i := 8) (N := some 12) (v := ?_) (a' := ?_) #[true, true, true, true, true, true, true, true, true, false] rfl rfl (any_of HT_.out (by kernel_rfl)) (fun _ _ _ h => h) (Or.inl ⟨by rfl, ?_⟩) ?_ ?_
 rotate_left
 ·
  intro w'
  go_simp
  with_reducible rfl
 rotate_left
 ·
  simp only [Act.put, zA, zB, zD, i64_w, i32_w]
  rfl
 refine pure_ (i := 9) (N := some 13) (v := ?_) (a' := ?_) #[true, true, true, true, true, true, true, true, true, true] rfl rfl (any_of HT_.out (by kernel_rfl)) (fun _ _ _ h => h) (Or.inl ⟨by rfl, ?_⟩) ?_ ?_
 rotate_left
 ·
  intro w'
  go_simp
  with_reducible rfl
 rotate_left
 ·
  simp only [Act.put, zA, zB, zD, i64_w, i32_w]
  rfl
 refine done_ (done_of HT_.out (by kernel_rfl)) ?_
 go_upto_region 12 with (fail)
 go_cut [53] (fun v53 wc => ∃ (kq : Nat) (x53_25 : Bool), v53 = .bool x53_25 ∧ Aside0 (laws_FnExactPlayedText.j0 kq l1 t322 x53_25 l0_0 a0_1 t317 t320 = some r) ∧ Aside0 (kq ≤ k) ∧ Aside0 (Kd.R k60 60 wc w.heap.size (fun _ => True) (.slice Ao49 t322.length co49) t322) ∧ Aside0 (Kd.R (Kd.int .i64) 3 wc w.heap.size (fun _ => True) (.slice Ao42 t317.length co42) t317) ∧ Aside0 (wc.heap[gb301]? = some (.cells #[(.slice A0_0 l0_0.length c0_0), .int .i64 a0_1] 24 (0, 0))) ∧ Aside0 (wc.heap[gb302]? = some (.cells #[.int .i64 a2_0, .int .i64 a2_1, .int .i64 a2_2] 27 (0, 0))) ∧ Aside0 (wc.heap[gb321]? = some (.cells #[(.slice Ao42 t317.length co42), .int .i64 t320] 32 (0, 0))) ∧ Aside0 (Below w.heap.size w wc))
 case first =>
  have H := HC26.out
  clear HC26
  by_cases c51 : t328.toList = t315.toList
  rotate_left
  ·
   rw [if_neg c51] at H
   have c51b0 : (t328.toList == t315.toList) = false := beq_eq_false_iff_ne.mpr c51
   have c51b1 : (t328.toList != t315.toList) = true := bne_iff_ne.mpr c51
   (first | rw [c51b0] | (simp only [i64_w, i32_w]; rw [c51b0]) | skip)
   exact (laws_FnExactPlayedText.j0_t (H.trans (congrArg some hr_))).elim
  rw [if_pos c51] at H
  have c51b0 : (t328.toList == t315.toList) = true := beq_iff_eq.mpr c51
  have c51b1 : (t328.toList != t315.toList) = false := bne_eq_false_iff_eq.mpr c51
  clear c51
  (first | rw [c51b0] | (simp only [i64_w, i32_w]; rw [c51b0]) | skip)
  have H' := zm H
  clear H
  go_wp2
  go_meet
  case rel => exact ⟨_, ((t329 != t316)), (by first | rfl | (simp; done) | (simp [*]; done)), H', ⟨by first | omega | exact Nat.le_refl _⟩, ⟨zP (Kd.R_mono HO324.out (fun _ hk => trivial))⟩, ⟨zP (Kd.R_mono HO319.out (fun _ hk => trivial))⟩, ⟨zk⟩, ⟨zk⟩, ⟨zk⟩, ⟨zb⟩⟩
 case rest =>
  clear HC26
  (try clear c1); (try clear c2); (try clear p2); (try clear c3); (try clear c4); (try clear c5); (try clear c5b0); (try clear c6); (try clear c7); (try clear c8); (try clear c9); (try clear c10); (try clear c11); (try clear c12); (try clear c12b0); (try clear c15); (try clear c29); (try clear c43); (try clear c44); (try clear c51); (try clear c51b0); (try clear c51b1); (try clear hcz16_0); (try clear hcz16_1); (try clear hcz30_0); (try clear hcz30_1); (try clear hcz39_0); (try clear hcz39_1); (try clear hcz45_0); (try clear hcz45_1); (try clear hcz9_0); (try clear hcz9_1); (try clear hfz16_0); (try clear hfz16_1); (try clear hfz30_0); (try clear hfz30_1); (try clear hfz39_0); (try clear hfz39_1); (try clear hfz45_0); (try clear hfz45_1); (try clear hfz9_0); (try clear hfz9_1)
  obtain ⟨kq, x53_25, rfl, HA, HJ25, HO_11, HO_322000, BK301, BK302, BK321, HB⟩ := hcut
  cases kq with
  | zero => exact absurd HA.out (by simp [laws_FnExactPlayedText.j0])
  | succ kj25 =>
   have H := HA.out
   clear HA
   simp only [laws_FnExactPlayedText.j0] at H
   by_cases c52 : x53_25 = true
   ·
    subst c52
    have H1 : (some false) = some r := by rw [if_pos rfl] at H; exact H
    clear H
    have H := H1
    clear H1
    exact absurd ((Option.some.inj H).trans hr_) (by decide)
   replace c52 := Bool.eq_false_iff.mpr c52
   subst c52
   have H1 : ((laws_toInstrument.f kj25 l0_0 a0_1).bind fun bt330 => ((laws_eqInstrument.f kj25 t317 t320 bt330.1 bt330.2).bind fun t334 => (if t334 = true then ((laws_toHoleS.f kj25 l1).bind fun t335 => ((laws_eqHoleS.f kj25 t322 t335).bind fun t338 => (if t338 = true then (some true) else (some false)))) else (some false)))) = some r := by rw [if_neg (show ¬ (false = true) by decide)] at H; exact H
   clear H
   have H := H1
   clear H1
   replace H := Option.bind_eq_some_iff.mp H
   obtain ⟨⟨t330, t333⟩, A530, H⟩ := H
   (try dsimp only at H)
   have A53 := zm A530
   clear A530
   replace H := Option.bind_eq_some_iff.mp H
   obtain ⟨t334, A540, H⟩ := H
   (try dsimp only at H)
   have A54 := zm A540
   clear A540
   by_cases c55 : t334 = true
   rotate_left
   ·
    replace c55 := Bool.eq_false_iff.mpr c55
    subst c55
    have H1 : (some false) = some r := by rw [if_neg (show ¬ (false = true) by decide)] at H; exact H
    clear H
    have H := H1
    clear H1
    exact absurd ((Option.some.inj H).trans hr_) (by decide)

   subst c55
   have H1 : ((laws_toHoleS.f kj25 l1).bind fun t335 => ((laws_eqHoleS.f kj25 t322 t335).bind fun t338 => (if t338 = true then (some true) else (some false)))) = some r := by rw [if_pos rfl] at H; exact H
   clear H
   have H := H1
   clear H1
   replace H := Option.bind_eq_some_iff.mp H
   obtain ⟨t335, A560, H⟩ := H
   (try dsimp only at H)
   have A56 := zm A560
   clear A560
   replace H := Option.bind_eq_some_iff.mp H
   obtain ⟨t338, A570, H⟩ := H
   (try dsimp only at H)
   have A57 := zm A570
   clear A570
   by_cases c58 : t338 = true
   rotate_left
   ·
    replace c58 := Bool.eq_false_iff.mpr c58
    subst c58
    have H1 : (some false) = some r := by rw [if_neg (show ¬ (false = true) by decide)] at H; exact H
    clear H
    have H := H1
    clear H1
    exact absurd ((Option.some.inj H).trans hr_) (by decide)
   subst c58
   have H1 : (some true) = some r := by rw [if_pos rfl] at H; exact H
   clear H
   have H := H1
   clear H1
   obtain rfl := Option.some.inj H
   try go_wp2
   have n0_ := zm (Kd.R_drew HO_11.out)
   have n1_ := zm (Kd.R_drew HO_322000.out)
   have n2_ := zm (blk_drew BK301.out)
   have n3_ := zm (blk_drew BK302.out)
   have n4_ := zm (blk_drew BK321.out)
   have n5_ := zm (below_drew1 HB.out)
   clear HO_11
   clear HO_322000
   clear BK301
   clear BK302
   clear BK321
   clear HB
   have HO_11 := n0_
   have HO_322000 := n1_
   have BK301 := n2_
   have BK302 := n3_
   have BK321 := n4_
   have HB := n5_
   clear n0_ n1_ n2_ n3_ n4_ n5_
   refine start_ (n := 5) (S := fun w' => w'.cell? ⟨gb321, 0, none⟩ = some (.slice Ao42 t317.length co42) ∧ w'.cell? ⟨gb321, 1, none⟩ = some (.int .i64 t320) ∧ w'.cell? ⟨gb301, 0, none⟩ = some (.slice A0_0 l0_0.length c0_0) ∧ w'.cell? ⟨gb301, 1, none⟩ = some (.int .i64 a0_1)) (ds := []) #[false, false, false, false, false] (by kernel_rfl) rfl rfl ⟨(blk_cell BK321.out 0).trans rfl, (blk_cell BK321.out 1).trans rfl, (blk_cell BK301.out 0).trans rfl, (blk_cell BK301.out 1).trans rfl⟩ (fun hHeld => ?_)
   generalize wc.drew = w59 at HO_11 HO_322000 BK301 BK302 BK321 HB hHeld ⊢
   refine take_ (i := 0) (N := some 54) (v := ?_) (a' := ?_) #[true, false, false, false, false] rfl rfl (by kernel_rfl) (fun _ _ _ h => h) (Or.inl ⟨by rfl, ?_⟩) hHeld ?_ ?_
   rotate_left
   ·
    rintro w' ⟨s0, s1, s2, s3⟩
    go_simp
    with_reducible rfl
   rotate_left
   ·
    simp only [Act.put, zA, zB, zD, i64_w, i32_w]
    rfl
   refine take_ (i := 1) (N := some 55) (v := ?_) (a' := ?_) #[true, true, false, false, false] rfl rfl (by kernel_rfl) (fun _ _ _ h => h) (Or.inl ⟨by rfl, ?_⟩) hHeld ?_ ?_
   rotate_left
   ·
    rintro w' ⟨s0, s1, s2, s3⟩
    go_simp
    with_reducible rfl
   rotate_left
   ·
    simp only [Act.put, zA, zB, zD, i64_w, i32_w]
    rfl
   refine one_ (i := 2) (N := some 56) #[true, true, true, false, false] rfl rfl (by kernel_rfl) (by decide) (fun K hK => ?_)
   refine goes_ Tryd.func8 (by kernel_rfl) rfl #[.agg #[.slice A0_0 l0_0.length c0_0, .int .i64 a0_1]] (by rfl) rfl rfl (by (try simp only [List.map_toArray, List.map_cons, List.map_nil]); first | done | rfl | (simp only [List.length_drop, List.length_take]; rfl)) ?_
   with_reducible refine (laws_toInstrument.calls kj25 _ _ l0_0 a0_1 t330 t333 _ ?side1 ?side2 A53.out).mono ?_
   (case side1 => repeat (first | exact (Kd.C_below HR0_0.out HB.out) | (with_reducible refine Kd.C_alloc ?_ _) | (with_reducible refine Kd.C_drewN ?_ _) | (with_reducible refine Kd.C_drew ?_)))
   (case side2 => exact HC0_0.out)
   rintro e w60 ⟨v331, rfl, ho0, hb⟩
   refine ⟨_, rfl, ?_⟩
   have n0_ := zm (Kd.R_below (zP HO_11.out) hb)
   have n1_ := zm (Kd.R_elder' (zP HO_322000.out) (Kd.R_base ho0) hb)
   have n2_ := zm (Kd.R_lower (Kd.R_new' ho0 (Kd.R_lt (zP HO_322000.out))) (below_size zb))
   have n3_ := zm (blk_below (g := gb301) (o := .cells #[.slice A0_0 l0_0.length c0_0, .int .i64 a0_1] 24 (0, 0)) zk hb)
   have n4_ := zm (blk_below (g := gb302) (o := .cells #[.int .i64 a2_0, .int .i64 a2_1, .int .i64 a2_2] 27 (0, 0)) zk hb)
   have n5_ := zm (blk_below (g := gb321) (o := .cells #[.slice Ao42 t317.length co42, .int .i64 t320] 32 (0, 0)) zk hb)
   have n6_ := zm (below_step zb hb)
   clear HO_11
   clear HO_322000
   clear BK301
   clear BK302
   clear BK321
   clear HB
   have HO_11 := n0_
   have HO_322000 := n1_
   have HO332 := n2_
   have BK301 := n3_
   have BK302 := n4_
   have BK321 := n5_
   have HB := n6_
   clear n0_ n1_ n2_ n3_ n4_ n5_ n6_
   (try clear hb)
   (try clear hb2)
   (try clear hk)
   (try clear hi)
   (try clear ho0)
   obtain ⟨Ao61, co61, eo61⟩ := Kd.R_slice HO332.out
   (first | subst eo61 | (injection eo61 with f1_ f2_ f3_; have f4_ := f1_.symm; have f5_ := f3_.symm; clear f1_ f2_ f3_; subst f4_; subst f5_))
   refine hK.out _ _ ⟨(blk_cell BK321.out 0).trans rfl, (blk_cell BK321.out 1).trans rfl, (blk_cell BK301.out 0).trans rfl, (blk_cell BK301.out 1).trans rfl⟩ (fun hHeld => ?_)
   clear hK K
   refine norm_ (a' := ?_) ?_ ?_
   rotate_left
   ·
    show Act.put _ (some 56) _ = _
    simp only [Act.put, zA, zB, zD, i64_w, i32_w]
    rfl
   refine one_ (i := 3) (N := some 57) #[true, true, true, true, false] rfl rfl (by kernel_rfl) (by decide) (fun K hK => ?_)
   refine goes_ Tryd.func12 (by kernel_rfl) rfl #[.agg #[.slice Ao42 t317.length co42, .int .i64 t320], .agg #[.slice Ao61 t330.length co61, .int .i64 t333]] (by rfl) rfl rfl (by (try simp only [List.map_toArray, List.map_cons, List.map_nil]); first | done | rfl | (simp only [List.length_drop, List.length_take]; rfl)) ?_
   with_reducible refine (laws_eqInstrument.calls kj25 _ _ t317 t320 _ _ t330 t333 true _ ?side1 ?side2 ?side3 ?side4 A54.out).mono ?_
   (case side1 => repeat (first | exact (Kd.R_reads' HO_322000.out).2.2 | (with_reducible refine Kd.C_alloc ?_ _) | (with_reducible refine Kd.C_drewN ?_ _) | (with_reducible refine Kd.C_drew ?_)))
   (case side2 => exact (Kd.R_reads' HO_322000.out).2.1)
   (case side3 => repeat (first | exact (Kd.R_reads' HO332.out).2.2 | (with_reducible refine Kd.C_alloc ?_ _) | (with_reducible refine Kd.C_drewN ?_ _) | (with_reducible refine Kd.C_drew ?_)))
   (case side4 => exact (Kd.R_reads' HO332.out).2.1)
   rintro e w62 ⟨rfl, hb⟩
   refine ⟨_, rfl, ?_⟩
   have n0_ := zm (Kd.R_below (zP HO_11.out) hb)
   have n1_ := zm (Kd.R_below (zP HO_322000.out) hb)
   have n2_ := zm (Kd.R_below (zP HO332.out) hb)
   have n3_ := zm (blk_below (g := gb301) (o := .cells #[.slice A0_0 l0_0.length c0_0, .int .i64 a0_1] 24 (0, 0)) zk hb)
   have n4_ := zm (blk_below (g := gb302) (o := .cells #[.int .i64 a2_0, .int .i64 a2_1, .int .i64 a2_2] 27 (0, 0)) zk hb)
   have n5_ := zm (blk_below (g := gb321) (o := .cells #[.slice Ao42 t317.length co42, .int .i64 t320] 32 (0, 0)) zk hb)
   have n6_ := zm (below_step zb hb)
   clear HO_11
   clear HO_322000
   clear HO332
   clear BK301
   clear BK302
   clear BK321
   clear HB
   have HO_11 := n0_
   have HO_322000 := n1_
   have HO332 := n2_
   have BK301 := n3_
   have BK302 := n4_
   have BK321 := n5_
   have HB := n6_
   clear n0_ n1_ n2_ n3_ n4_ n5_ n6_
   (try clear hb)
   (try clear hb2)
   (try clear hk)
   (try clear hi)
   refine hK.out _ _ ⟨(blk_cell BK321.out 0).trans rfl, (blk_cell BK321.out 1).trans rfl, (blk_cell BK301.out 0).trans rfl, (blk_cell BK301.out 1).trans rfl⟩ (fun hHeld => ?_)
   clear hK K
   refine norm_ (a' := ?_) ?_ ?_
   rotate_left
   ·
    show Act.put _ (some 57) _ = _
    simp only [Act.put, zA, zB, zD, i64_w, i32_w]
    rfl
   refine pure_ (i := 4) (N := some 58) (v := ?_) (a' := ?_) #[true, true, true, true, true] rfl rfl (by kernel_rfl) (fun _ _ _ h => h) (Or.inl ⟨by rfl, ?_⟩) ?_ ?_
   rotate_left
   ·
    intro w'
    go_simp
    with_reducible rfl
   rotate_left
   ·
    simp only [Act.put, zA, zB, zD, i64_w, i32_w]
    rfl
   refine done_ (by kernel_rfl) ?_
   try go_wp2_with (first | ((with_reducible refine gate_callee (f := 9) rfl ?_); refine goesA_ (some 61) Tryd.func9 #[.slice A1 l1.length c1] rfl ?_; (with_reducible refine (laws_toHoleS.calls kj25 _ _ l1 t335 _ ?side1 ?side2 A56.out).mono ?_); (case side1 => repeat (first | exact (Kd.C_below HR1.out HB.out) | (with_reducible refine Kd.C_alloc ?_ _) | (with_reducible refine Kd.C_drewN ?_ _) | (with_reducible refine Kd.C_drew ?_))); (case side2 => exact HC1.out); rintro e w63 ⟨v336, rfl, ho0, hb⟩; refine ⟨_, rfl, ?_⟩; have n0_ := zm (Kd.R_elder' (zP HO_11.out) (Kd.R_base ho0) hb); replace HO_322000 := zm (Kd.R_below (zP HO_322000.out) hb); replace HO332 := zm (Kd.R_below (zP HO332.out) hb); have HO337 := zm (Kd.R_lower (Kd.R_new' ho0 (Kd.R_lt (zP HO_11.out))) (below_size zb)); have n4_ := zm (blk_below (g := gb301) (o := .cells #[.slice A0_0 l0_0.length c0_0, .int .i64 a0_1] 24 (0, 0)) zk hb); have n5_ := zm (blk_below (g := gb302) (o := .cells #[.int .i64 a2_0, .int .i64 a2_1, .int .i64 a2_2] 27 (0, 0)) zk hb); replace BK321 := zm (blk_below (g := gb321) (o := .cells #[.slice Ao42 t317.length co42, .int .i64 t320] 32 (0, 0)) zk hb); replace HB := zm (below_step zb hb); replace HO_11 := n0_; replace BK301 := n4_; replace BK302 := n5_; clear n0_ n4_ n5_; (try clear hb); (try clear hb2); (try clear hk); (try clear hi); (try clear ho0); obtain ⟨Ao64, co64, eo64⟩ := Kd.R_slice HO337.out; subst eo64) | ((with_reducible refine gate_callee (f := 13) rfl ?_); refine goesA_ (some 62) Tryd.func13 #[.slice Ao49 t322.length co49, .slice Ao64 t335.length co64] rfl ?_; (with_reducible refine (laws_eqHoleS.calls kj25 _ _ t322 _ _ t335 true _ ?side1 ?side2 ?side3 ?side4 A57.out).mono ?_); (case side1 => repeat (first | exact (Kd.R_reads' HO_11.out).2.2 | (with_reducible refine Kd.C_alloc ?_ _) | (with_reducible refine Kd.C_drewN ?_ _) | (with_reducible refine Kd.C_drew ?_))); (case side2 => exact (Kd.R_reads' HO_11.out).2.1); (case side3 => repeat (first | exact (Kd.R_reads' HO337.out).2.2 | (with_reducible refine Kd.C_alloc ?_ _) | (with_reducible refine Kd.C_drewN ?_ _) | (with_reducible refine Kd.C_drew ?_))); (case side4 => exact (Kd.R_reads' HO337.out).2.1); rintro e w65 ⟨rfl, hb⟩; refine ⟨_, rfl, ?_⟩; replace HO_11 := zm (Kd.R_below (zP HO_11.out) hb); replace HO_322000 := zm (Kd.R_below (zP HO_322000.out) hb); replace HO332 := zm (Kd.R_below (zP HO332.out) hb); replace HO337 := zm (Kd.R_below (zP HO337.out) hb); have n4_ := zm (blk_below (g := gb301) (o := .cells #[.slice A0_0 l0_0.length c0_0, .int .i64 a0_1] 24 (0, 0)) zk hb); have n5_ := zm (blk_below (g := gb302) (o := .cells #[.int .i64 a2_0, .int .i64 a2_1, .int .i64 a2_2] 27 (0, 0)) zk hb); replace BK321 := zm (blk_below (g := gb321) (o := .cells #[.slice Ao42 t317.length co42, .int .i64 t320] 32 (0, 0)) zk hb); replace HB := zm (below_step zb hb); replace BK301 := n4_; replace BK302 := n5_; clear n4_ n5_; (try clear hb); (try clear hb2); (try clear hk); (try clear hi)))
   go_ret
   exact ⟨zr, zb⟩
end Go.Proofs.YtjdkdbeenggfaaaDoor.PPt
