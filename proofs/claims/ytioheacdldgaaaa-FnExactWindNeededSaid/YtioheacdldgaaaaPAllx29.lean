-- Written for this claim by a program of this session (wip/tpl/patchprint.py), not by print.sh.
import Derived.Test.YtioheacdldgaaaaPAllx0
import Derived.Test.YtioheacdldgaaaaPAllx1
import Derived.Test.YtioheacdldgaaaaPAllx2
import Derived.Test.YtioheacdldgaaaaPAllx28
namespace Go.Proofs.Ytioheacdldgaaaa.PAll
open Go.RowKit Go.Proofs.YtioheacdldgaaaaW.PrintWords Go.Proofs.YtioheacdldgaaaaW.PrintLast Go.Proofs.YtioheacdldgaaaaW.PrintMore
attribute [local go_sem] max2_int min2_int max_two min_two max_three min_three max_four min_four   -- for this text's walks alone
set_option linter.unusedVariables false
set_option linter.unusedSimpArgs false

/-! ### laws_FnExactWindNeeded: function 9 -/
def laws_FnExactWindNeeded.j0 : Nat → List (S75) → List (S73) → Bool → List Int → Int → List Int → Int → Option (Bool)
  | 0, _, _, _, _, _, _, _ => none
  | k + 1, x1, x11, x53, x925000, x925001, x945000, x945001 => if x53 = true then (some false) else ((laws_toInstrument.f k x925000 x925001).bind fun bt953 => ((laws_eqInstrument.f k x945000 x945001 bt953.1 bt953.2).bind fun t957 => (if t957 = true then ((laws_toHoleS.f k x1).bind fun t958 => ((laws_eqHoleS.f k x11 t958).bind fun t961 => (if t961 = true then (some true) else (some false)))) else (some false))))
def laws_FnExactWindNeeded.f (k : Nat) (l0_0 : List Int) (a0_1 : Int) (l1 : List (S75)) (a2_0 : Int) (a2_1 : Int) (a2_2 : Int) : Option (Bool) := (laws_szInstrument.f l0_0 a0_1 1048576).bind fun t926 => (if t926 < 0 then (some true) else ((laws_szHoleS.f l1 t926).bind fun t927 => (if t927 < 0 then (some true) else ((laws_toInstrument.f k l0_0 a0_1).bind fun bt928 => ((laws_toHoleS.f k l1).bind fun t932 => ((laws_toAction.f a2_0 a2_1 a2_2).bind fun bt935 => ((spec_WindNeeded.f k bt928.1 bt928.2 t932 bt935.1 bt935.2.1 bt935.2.2).bind fun bt938 => ((laws_toInstrument.f k l0_0 a0_1).bind fun bt940 => ((laws_toHoleS.f k l1).bind fun t945 => ((laws_toAction.f a2_0 a2_1 a2_2).bind fun bt948 => ((impl_WindNeeded.f k bt940.1 bt940.2 t945 bt948.1 bt948.2.1 bt948.2.2).bind fun bt951 => (if bt951.1 = bt938.1 then (laws_FnExactWindNeeded.j0 k l1 t945 (bt951.2 != bt938.2) l0_0 a0_1 bt940.1 bt940.2) else (laws_FnExactWindNeeded.j0 k l1 t945 true l0_0 a0_1 bt940.1 bt940.2)))))))))))))
theorem laws_FnExactWindNeeded.mono_l : ∀ k, (∀ y0 y1 y2 y3 y4 y5 y6, LeO (laws_FnExactWindNeeded.j0 k y0 y1 y2 y3 y4 y5 y6) (laws_FnExactWindNeeded.j0 (k + 1) y0 y1 y2 y3 y4 y5 y6))
  | 0 => fun _ _ _ _ _ _ _ r h => by simp [laws_FnExactWindNeeded.j0] at h
  | k + 1 => by
    have ih0 := laws_FnExactWindNeeded.mono_l k
    · intro y0 y1 y2 y3 y4 y5 y6
      unfold laws_FnExactWindNeeded.j0
      repeat' first
      | (with_reducible exact ih0 _ _ _ _ _ _ _)
      | (with_reducible exact impl_WindNeeded.mono _ _ _ _ _ _ _)
      | (with_reducible exact laws_eqHoleS.mono _ _ _)
      | (with_reducible exact laws_eqInstrument.mono _ _ _ _ _)
      | (with_reducible exact laws_toHoleS.mono _ _)
      | (with_reducible exact laws_toInstrument.mono _ _ _)
      | (with_reducible exact spec_WindNeeded.mono _ _ _ _ _ _ _)
      | (with_reducible exact LeO.refl _)
      | (with_reducible exact LeO.none _)
      | (with_reducible refine LeO.ite ?_ ?_)
      | (with_reducible refine LeO.bind ?_ (fun _ => ?_))
      | exact ih0 _ _ _ _ _ _ _
      | exact impl_WindNeeded.mono _ _ _ _ _ _ _
      | exact laws_eqHoleS.mono _ _ _
      | exact laws_eqInstrument.mono _ _ _ _ _
      | exact laws_toHoleS.mono _ _
      | exact laws_toInstrument.mono _ _ _
      | exact spec_WindNeeded.mono _ _ _ _ _ _ _
      | exact LeO.none _
      | refine LeO.ite ?_ ?_
      | refine LeO.bind ?_ (fun _ => ?_)
theorem laws_FnExactWindNeeded.mono : ∀ a0 a1 a2 a3 a4 a5 k, LeO (laws_FnExactWindNeeded.f k a0 a1 a2 a3 a4 a5) (laws_FnExactWindNeeded.f (k + 1) a0 a1 a2 a3 a4 a5) := by
  intro a0 a1 a2 a3 a4 a5 k
  have ih0 := laws_FnExactWindNeeded.mono_l k
  unfold laws_FnExactWindNeeded.f
  repeat' first
      | (with_reducible exact ih0 _ _ _ _ _ _ _)
      | (with_reducible exact impl_WindNeeded.mono _ _ _ _ _ _ _)
      | (with_reducible exact laws_eqHoleS.mono _ _ _)
      | (with_reducible exact laws_eqInstrument.mono _ _ _ _ _)
      | (with_reducible exact laws_toHoleS.mono _ _)
      | (with_reducible exact laws_toInstrument.mono _ _ _)
      | (with_reducible exact spec_WindNeeded.mono _ _ _ _ _ _ _)
      | (with_reducible exact LeO.refl _)
      | (with_reducible exact LeO.none _)
      | (with_reducible refine LeO.ite ?_ ?_)
      | (with_reducible refine LeO.bind ?_ (fun _ => ?_))
      | exact ih0 _ _ _ _ _ _ _
      | exact impl_WindNeeded.mono _ _ _ _ _ _ _
      | exact laws_eqHoleS.mono _ _ _
      | exact laws_eqInstrument.mono _ _ _ _ _
      | exact laws_toHoleS.mono _ _
      | exact laws_toInstrument.mono _ _ _
      | exact spec_WindNeeded.mono _ _ _ _ _ _ _
      | exact LeO.none _
      | refine LeO.ite ?_ ?_
      | refine LeO.bind ?_ (fun _ => ?_)
def laws_FnExactWindNeeded.T8 : Bool × List (List Nat × List Nat) := (true, [([], []), ([0], [0]), ([], []), ([2, 1], [2]), ([], []), ([4, 3], [4]), ([1, 3, 5, 5], [1, 3, 5]), ([6], [6]), ([7], [7]), ([7], [7]), ([8, 6, 0, 1, 2, 3, 4, 5, 6, 7, 8], [8]), ([9, 10, 0, 1, 2, 3, 4, 5, 6, 7, 8, 9, 10], [9])])
def laws_FnExactWindNeeded.B8 : List Nat := [0, 1, 0, 7, 0, 31, 63, 127, 255, 255, 511, 2047]
theorem laws_FnExactWindNeeded.tab8 : rtab .any (opsOf Try.f9 8) = laws_FnExactWindNeeded.T8 := by kernel_rfl
theorem laws_FnExactWindNeeded.bits8 : waitsOk laws_FnExactWindNeeded.T8.2 laws_FnExactWindNeeded.B8 = true := by kernel_rfl
def laws_FnExactWindNeeded.T11 : Bool × List (List Nat × List Nat) := (true, [([], []), ([], []), ([], []), ([2], [2]), ([0, 1, 3, 3], [0, 1, 3]), ([4], [4]), ([5], [5]), ([5], [5]), ([6, 4, 0, 1, 2, 3, 4, 5, 6], [6]), ([7, 8, 0, 1, 2, 3, 4, 5, 6, 7, 8], [7])])
def laws_FnExactWindNeeded.B11 : List Nat := [0, 0, 0, 4, 15, 31, 63, 63, 127, 511]
theorem laws_FnExactWindNeeded.tab11 : rtab .any (opsOf Try.f9 11) = laws_FnExactWindNeeded.T11 := by kernel_rfl
theorem laws_FnExactWindNeeded.bits11 : waitsOk laws_FnExactWindNeeded.T11.2 laws_FnExactWindNeeded.B11 = true := by kernel_rfl
theorem laws_FnExactWindNeeded.j0_t {k : Nat} : ∀ {a0_ a1_ a3_ a4_ a5_ a6_}, laws_FnExactWindNeeded.j0 k a0_ a1_ true a3_ a4_ a5_ a6_ = some true → False := by
  intros; rename_i h; revert h; cases k <;> simp [laws_FnExactWindNeeded.j0]
set_option maxHeartbeats 8000000 in
set_option maxRecDepth 100000 in
theorem laws_FnExactWindNeeded.calls (k : Nat) (A0_0 : Option Addr) (c0_0 : Nat) (l0_0 : List Int) (a0_1 : Int) (A1 : Option Addr) (c1 : Nat) (l1 : List (S75)) (a2_0 : Int) (a2_1 : Int) (a2_2 : Int) (r : Bool) (w : World) (hr0_0 : Kd.C (Kd.int .i64) w A0_0 l0_0.length l0_0) (hc0_0 : l0_0.length ≤ c0_0) (hr1 : Kd.C k75 w A1 l1.length l1) (hc1 : l1.length ≤ c1) (h : laws_FnExactWindNeeded.f k l0_0 a0_1 l1 a2_0 a2_1 a2_2 = some r) (hr_ : r = true) :
  Calls Try.prog 9 #[.agg #[.slice A0_0 l0_0.length c0_0, .int .i64 a0_1], .slice A1 l1.length c1, .agg #[.int .i64 a2_0, .int .i64 a2_1, .int .i64 a2_2]] w fun e w' => e = .returned (.bool r) ∧ Below w.heap.size w w' := by
 have hu24 := Try.underlying24
 have hu27 := Try.underlying27
 have hu32 := Try.underlying32
 have HR0_0 := zm hr0_0
 have HC0_0 := zm hc0_0
 clear hr0_0 hc0_0
 have HR1 := zm hr1
 have HC1 := zm hc1
 clear hr1 hc1
 have HB := zm (Below.refl w.heap.size w)
 have H : ((laws_szInstrument.f l0_0 a0_1 1048576).bind fun t926 => (if t926 < 0 then (some true) else ((laws_szHoleS.f l1 t926).bind fun t927 => (if t927 < 0 then (some true) else ((laws_toInstrument.f k l0_0 a0_1).bind fun bt928 => ((laws_toHoleS.f k l1).bind fun t932 => ((laws_toAction.f a2_0 a2_1 a2_2).bind fun bt935 => ((spec_WindNeeded.f k bt928.1 bt928.2 t932 bt935.1 bt935.2.1 bt935.2.2).bind fun bt938 => ((laws_toInstrument.f k l0_0 a0_1).bind fun bt940 => ((laws_toHoleS.f k l1).bind fun t945 => ((laws_toAction.f a2_0 a2_1 a2_2).bind fun bt948 => ((impl_WindNeeded.f k bt940.1 bt940.2 t945 bt948.1 bt948.2.1 bt948.2.2).bind fun bt951 => (if bt951.1 = bt938.1 then (laws_FnExactWindNeeded.j0 k l1 t945 (bt951.2 != bt938.2) l0_0 a0_1 bt940.1 bt940.2) else (laws_FnExactWindNeeded.j0 k l1 t945 true l0_0 a0_1 bt940.1 bt940.2)))))))))))))) = some r := h
 clear h
 replace H := Option.bind_eq_some_iff.mp H
 obtain ⟨t926, A40, H⟩ := H
 replace H : (if t926 < 0 then (some true) else ((laws_szHoleS.f l1 t926).bind fun t927 => (if t927 < 0 then (some true) else ((laws_toInstrument.f k l0_0 a0_1).bind fun bt928 => ((laws_toHoleS.f k l1).bind fun t932 => ((laws_toAction.f a2_0 a2_1 a2_2).bind fun bt935 => ((spec_WindNeeded.f k bt928.1 bt928.2 t932 bt935.1 bt935.2.1 bt935.2.2).bind fun bt938 => ((laws_toInstrument.f k l0_0 a0_1).bind fun bt940 => ((laws_toHoleS.f k l1).bind fun t945 => ((laws_toAction.f a2_0 a2_1 a2_2).bind fun bt948 => ((impl_WindNeeded.f k bt940.1 bt940.2 t945 bt948.1 bt948.2.1 bt948.2.2).bind fun bt951 => (if bt951.1 = bt938.1 then (laws_FnExactWindNeeded.j0 k l1 t945 (bt951.2 != bt938.2) l0_0 a0_1 bt940.1 bt940.2) else (laws_FnExactWindNeeded.j0 k l1 t945 true l0_0 a0_1 bt940.1 bt940.2))))))))))))) = some r := H
 have A4 := zm A40
 clear A40
 by_cases c5 : t926 < 0
 ·
  rw [if_pos c5] at H
  have c5b0 : decide (t926 < 0) = true := decide_eq_true c5
  clear c5
  obtain rfl := Option.some.inj H
  go_enter Try.func9, Try.ntmps9
  go_wp2_with (first | ((with_reducible refine gate_dst (N := 3) rfl ?_); refine box_event ?hg (N := 3) ?hd (cs := #[.slice A0_0 l0_0.length c0_0, .int .i64 a0_1]) (t := 24) ?hr ?_; (case hd => rfl); (case hg => rfl); (case hr => first | (go_simp; done) | (go_simp; rfl)); intro gb924 hg w6 hbox hb; have n0_ := zm (below_step zb hb); have n1_ := zm (hbox); have n2_ := zm (zs hg zb : w.heap.size ≤ gb924); have n3_ := zm (zs hg zb : w.heap.size ≤ gb924); clear HB; have HB := n0_; have BK924 := n1_; have GW924 := n2_; have GE924 := n3_; clear n0_ n1_ n2_ n3_; clear hb hbox hg) | ((with_reducible refine gate_dst (N := 5) rfl ?_); refine box_event ?hg (N := 5) ?hd (cs := #[.int .i64 a2_0, .int .i64 a2_1, .int .i64 a2_2]) (t := 27) ?hr ?_; (case hd => rfl); (case hg => rfl); (case hr => first | (go_simp; done) | (go_simp; rfl)); intro gb925 hg w7 hbox hb; have n0_ := zm (blk_below (g := gb924) zk hb); have n1_ := zm (below_step zb hb); have n2_ := zm (hbox); have n3_ := zm (zs hg zb : w.heap.size ≤ gb925); have n4_ := zm (zs hg zb : w.heap.size ≤ gb925); have n5_ := zm (zl hg zk : gb924 ≠ gb925); have n6_ := zm (zg hg zk : gb925 ≠ gb924); clear BK924; clear HB; have BK924 := n0_; have HB := n1_; have BK925 := n2_; have GW925 := n3_; have GE925 := n4_; have NB924_925 := n5_; have NB925_924 := n6_; clear n0_ n1_ n2_ n3_ n4_ n5_ n6_; clear hb hbox hg; have hnb8 := NB924_925.out; have hnc8 := NB925_924.out; obtain ⟨hcz9_0, hcz9_1, hfz9_0, hfz9_1⟩ := zc2 BK924.out) | ((with_reducible refine gate_callee (f := 11) rfl ?_); refine goesL_ (some 16) rfl rfl Try.func11 (by kernel_rfl) rfl #[.agg #[.slice A0_0 l0_0.length c0_0, .int .i64 a0_1], .int .i64 1048576] rfl (by (try simp only [List.map_toArray, List.map_cons, List.map_nil]); first | done | rfl | (simp only [List.length_drop, List.length_take]; rfl)) ?_; (with_reducible refine (laws_szInstrument.calls _ _ l0_0 a0_1 1048576 t926 _ ?side1 ?side2 A4.out).mono ?_); (case side1 => repeat (first | exact (Kd.C_below HR0_0.out HB.out) | (with_reducible refine Kd.C_alloc ?_ _) | (with_reducible refine Kd.C_drewN ?_ _) | (with_reducible refine Kd.C_drew ?_))); (case side2 => exact HC0_0.out); rintro e w10 ⟨rfl, hb⟩; refine ⟨_, rfl, ?_⟩; have n0_ := zm (blk_below (g := gb924) zk hb); have n1_ := zm (blk_below (g := gb925) zk hb); have n2_ := zm (below_step zb hb); clear BK924; clear BK925; clear HB; have BK924 := n0_; have BK925 := n1_; have HB := n2_; clear n0_ n1_ n2_; (try clear hb); (try clear hb2); (try clear hk); (try clear hi)))
  go_ret
  exact ⟨zr, zb⟩
 ·
  rw [if_neg c5] at H
  have c5b0 : decide (t926 < 0) = false := decide_eq_false c5
  clear c5
  replace H := Option.bind_eq_some_iff.mp H
  obtain ⟨t927, A110, H⟩ := H
  replace H : (if t927 < 0 then (some true) else ((laws_toInstrument.f k l0_0 a0_1).bind fun bt928 => ((laws_toHoleS.f k l1).bind fun t932 => ((laws_toAction.f a2_0 a2_1 a2_2).bind fun bt935 => ((spec_WindNeeded.f k bt928.1 bt928.2 t932 bt935.1 bt935.2.1 bt935.2.2).bind fun bt938 => ((laws_toInstrument.f k l0_0 a0_1).bind fun bt940 => ((laws_toHoleS.f k l1).bind fun t945 => ((laws_toAction.f a2_0 a2_1 a2_2).bind fun bt948 => ((impl_WindNeeded.f k bt940.1 bt940.2 t945 bt948.1 bt948.2.1 bt948.2.2).bind fun bt951 => (if bt951.1 = bt938.1 then (laws_FnExactWindNeeded.j0 k l1 t945 (bt951.2 != bt938.2) l0_0 a0_1 bt940.1 bt940.2) else (laws_FnExactWindNeeded.j0 k l1 t945 true l0_0 a0_1 bt940.1 bt940.2))))))))))) = some r := H
  have A11 := zm A110
  clear A110
  by_cases c12 : t927 < 0
  ·
   rw [if_pos c12] at H
   have c12b0 : decide (t927 < 0) = true := decide_eq_true c12
   clear c12
   obtain rfl := Option.some.inj H
   go_enter Try.func9, Try.ntmps9
   go_wp2_with (first | ((with_reducible refine gate_dst (N := 3) rfl ?_); refine box_event ?hg (N := 3) ?hd (cs := #[.slice A0_0 l0_0.length c0_0, .int .i64 a0_1]) (t := 24) ?hr ?_; (case hd => rfl); (case hg => rfl); (case hr => first | (go_simp; done) | (go_simp; rfl)); intro gb924 hg w13 hbox hb; have n0_ := zm (below_step zb hb); have n1_ := zm (hbox); have n2_ := zm (zs hg zb : w.heap.size ≤ gb924); have n3_ := zm (zs hg zb : w.heap.size ≤ gb924); clear HB; have HB := n0_; have BK924 := n1_; have GW924 := n2_; have GE924 := n3_; clear n0_ n1_ n2_ n3_; clear hb hbox hg) | ((with_reducible refine gate_dst (N := 5) rfl ?_); refine box_event ?hg (N := 5) ?hd (cs := #[.int .i64 a2_0, .int .i64 a2_1, .int .i64 a2_2]) (t := 27) ?hr ?_; (case hd => rfl); (case hg => rfl); (case hr => first | (go_simp; done) | (go_simp; rfl)); intro gb925 hg w14 hbox hb; have n0_ := zm (blk_below (g := gb924) zk hb); have n1_ := zm (below_step zb hb); have n2_ := zm (hbox); have n3_ := zm (zs hg zb : w.heap.size ≤ gb925); have n4_ := zm (zs hg zb : w.heap.size ≤ gb925); have n5_ := zm (zl hg zk : gb924 ≠ gb925); have n6_ := zm (zg hg zk : gb925 ≠ gb924); clear BK924; clear HB; have BK924 := n0_; have HB := n1_; have BK925 := n2_; have GW925 := n3_; have GE925 := n4_; have NB924_925 := n5_; have NB925_924 := n6_; clear n0_ n1_ n2_ n3_ n4_ n5_ n6_; clear hb hbox hg; have hnb15 := NB924_925.out; have hnc15 := NB925_924.out; obtain ⟨hcz16_0, hcz16_1, hfz16_0, hfz16_1⟩ := zc2 BK924.out) | ((with_reducible refine gate_callee (f := 11) rfl ?_); refine goesL_ (some 16) rfl rfl Try.func11 (by kernel_rfl) rfl #[.agg #[.slice A0_0 l0_0.length c0_0, .int .i64 a0_1], .int .i64 1048576] rfl (by (try simp only [List.map_toArray, List.map_cons, List.map_nil]); first | done | rfl | (simp only [List.length_drop, List.length_take]; rfl)) ?_; (with_reducible refine (laws_szInstrument.calls _ _ l0_0 a0_1 1048576 t926 _ ?side1 ?side2 A4.out).mono ?_); (case side1 => repeat (first | exact (Kd.C_below HR0_0.out HB.out) | (with_reducible refine Kd.C_alloc ?_ _) | (with_reducible refine Kd.C_drewN ?_ _) | (with_reducible refine Kd.C_drew ?_))); (case side2 => exact HC0_0.out); rintro e w17 ⟨rfl, hb⟩; refine ⟨_, rfl, ?_⟩; have n0_ := zm (blk_below (g := gb924) zk hb); have n1_ := zm (blk_below (g := gb925) zk hb); have n2_ := zm (below_step zb hb); clear BK924; clear BK925; clear HB; have BK924 := n0_; have BK925 := n1_; have HB := n2_; clear n0_ n1_ n2_; (try clear hb); (try clear hb2); (try clear hk); (try clear hi)) | ((with_reducible refine gate_callee (f := 12) rfl ?_); refine goesL_ (some 21) rfl rfl Try.func12 (by kernel_rfl) rfl #[.slice A1 l1.length c1, .int .i64 t926] rfl (by (try simp only [List.map_toArray, List.map_cons, List.map_nil]); first | done | rfl | (simp only [List.length_drop, List.length_take]; rfl)) ?_; (with_reducible refine (laws_szHoleS.calls _ _ l1 t926 t927 _ ?side1 ?side2 A11.out).mono ?_); (case side1 => repeat (first | exact (Kd.C_below HR1.out HB.out) | (with_reducible refine Kd.C_alloc ?_ _) | (with_reducible refine Kd.C_drewN ?_ _) | (with_reducible refine Kd.C_drew ?_))); (case side2 => exact HC1.out); rintro e w' ⟨rfl, ⟨nd, rfl⟩⟩; refine ⟨_, rfl, ?_⟩))
   go_ret
   exact ⟨zr, zb⟩
  ·
   rw [if_neg c12] at H
   have c12b0 : decide (t927 < 0) = false := decide_eq_false c12
   clear c12
   replace H := Option.bind_eq_some_iff.mp H
   obtain ⟨⟨t928, t931⟩, A180, H⟩ := H
   replace H : ((laws_toHoleS.f k l1).bind fun t932 => ((laws_toAction.f a2_0 a2_1 a2_2).bind fun bt935 => ((spec_WindNeeded.f k t928 t931 t932 bt935.1 bt935.2.1 bt935.2.2).bind fun bt938 => ((laws_toInstrument.f k l0_0 a0_1).bind fun bt940 => ((laws_toHoleS.f k l1).bind fun t945 => ((laws_toAction.f a2_0 a2_1 a2_2).bind fun bt948 => ((impl_WindNeeded.f k bt940.1 bt940.2 t945 bt948.1 bt948.2.1 bt948.2.2).bind fun bt951 => (if bt951.1 = bt938.1 then (laws_FnExactWindNeeded.j0 k l1 t945 (bt951.2 != bt938.2) l0_0 a0_1 bt940.1 bt940.2) else (laws_FnExactWindNeeded.j0 k l1 t945 true l0_0 a0_1 bt940.1 bt940.2))))))))) = some r := H
   have A18 := zm A180
   clear A180
   replace H := Option.bind_eq_some_iff.mp H
   obtain ⟨t932, A190, H⟩ := H
   replace H : ((laws_toAction.f a2_0 a2_1 a2_2).bind fun bt935 => ((spec_WindNeeded.f k t928 t931 t932 bt935.1 bt935.2.1 bt935.2.2).bind fun bt938 => ((laws_toInstrument.f k l0_0 a0_1).bind fun bt940 => ((laws_toHoleS.f k l1).bind fun t945 => ((laws_toAction.f a2_0 a2_1 a2_2).bind fun bt948 => ((impl_WindNeeded.f k bt940.1 bt940.2 t945 bt948.1 bt948.2.1 bt948.2.2).bind fun bt951 => (if bt951.1 = bt938.1 then (laws_FnExactWindNeeded.j0 k l1 t945 (bt951.2 != bt938.2) l0_0 a0_1 bt940.1 bt940.2) else (laws_FnExactWindNeeded.j0 k l1 t945 true l0_0 a0_1 bt940.1 bt940.2)))))))) = some r := H
   have A19 := zm A190
   clear A190
   replace H := Option.bind_eq_some_iff.mp H
   obtain ⟨⟨t935, t936, t937⟩, A200, H⟩ := H
   replace H : ((spec_WindNeeded.f k t928 t931 t932 t935 t936 t937).bind fun bt938 => ((laws_toInstrument.f k l0_0 a0_1).bind fun bt940 => ((laws_toHoleS.f k l1).bind fun t945 => ((laws_toAction.f a2_0 a2_1 a2_2).bind fun bt948 => ((impl_WindNeeded.f k bt940.1 bt940.2 t945 bt948.1 bt948.2.1 bt948.2.2).bind fun bt951 => (if bt951.1 = bt938.1 then (laws_FnExactWindNeeded.j0 k l1 t945 (bt951.2 != bt938.2) l0_0 a0_1 bt940.1 bt940.2) else (laws_FnExactWindNeeded.j0 k l1 t945 true l0_0 a0_1 bt940.1 bt940.2))))))) = some r := H
   have A20 := zm A200
   clear A200
   replace H := Option.bind_eq_some_iff.mp H
   obtain ⟨⟨t938, t939⟩, A210, H⟩ := H
   replace H : ((laws_toInstrument.f k l0_0 a0_1).bind fun bt940 => ((laws_toHoleS.f k l1).bind fun t945 => ((laws_toAction.f a2_0 a2_1 a2_2).bind fun bt948 => ((impl_WindNeeded.f k bt940.1 bt940.2 t945 bt948.1 bt948.2.1 bt948.2.2).bind fun bt951 => (if bt951.1 = t938 then (laws_FnExactWindNeeded.j0 k l1 t945 (bt951.2 != t939) l0_0 a0_1 bt940.1 bt940.2) else (laws_FnExactWindNeeded.j0 k l1 t945 true l0_0 a0_1 bt940.1 bt940.2)))))) = some r := H
   have A21 := zm A210
   clear A210
   replace H := Option.bind_eq_some_iff.mp H
   obtain ⟨⟨t940, t943⟩, A220, H⟩ := H
   replace H : ((laws_toHoleS.f k l1).bind fun t945 => ((laws_toAction.f a2_0 a2_1 a2_2).bind fun bt948 => ((impl_WindNeeded.f k t940 t943 t945 bt948.1 bt948.2.1 bt948.2.2).bind fun bt951 => (if bt951.1 = t938 then (laws_FnExactWindNeeded.j0 k l1 t945 (bt951.2 != t939) l0_0 a0_1 t940 t943) else (laws_FnExactWindNeeded.j0 k l1 t945 true l0_0 a0_1 t940 t943))))) = some r := H
   have A22 := zm A220
   clear A220
   replace H := Option.bind_eq_some_iff.mp H
   obtain ⟨t945, A230, H⟩ := H
   replace H : ((laws_toAction.f a2_0 a2_1 a2_2).bind fun bt948 => ((impl_WindNeeded.f k t940 t943 t945 bt948.1 bt948.2.1 bt948.2.2).bind fun bt951 => (if bt951.1 = t938 then (laws_FnExactWindNeeded.j0 k l1 t945 (bt951.2 != t939) l0_0 a0_1 t940 t943) else (laws_FnExactWindNeeded.j0 k l1 t945 true l0_0 a0_1 t940 t943)))) = some r := H
   have A23 := zm A230
   clear A230
   replace H := Option.bind_eq_some_iff.mp H
   obtain ⟨⟨t948, t949, t950⟩, A240, H⟩ := H
   replace H : ((impl_WindNeeded.f k t940 t943 t945 t948 t949 t950).bind fun bt951 => (if bt951.1 = t938 then (laws_FnExactWindNeeded.j0 k l1 t945 (bt951.2 != t939) l0_0 a0_1 t940 t943) else (laws_FnExactWindNeeded.j0 k l1 t945 true l0_0 a0_1 t940 t943))) = some r := H
   have A24 := zm A240
   clear A240
   replace H := Option.bind_eq_some_iff.mp H
   obtain ⟨⟨t951, t952⟩, A250, H⟩ := H
   replace H : (if t951 = t938 then (laws_FnExactWindNeeded.j0 k l1 t945 (t952 != t939) l0_0 a0_1 t940 t943) else (laws_FnExactWindNeeded.j0 k l1 t945 true l0_0 a0_1 t940 t943)) = some r := H
   have A25 := zm A250
   clear A250
   have HC26 := zm H
   clear H
   go_enter Try.func9, Try.ntmps9
   try go_wp2_with (first | ((with_reducible refine gate_dst (N := 3) rfl ?_); refine box_event ?hg (N := 3) ?hd (cs := #[.slice A0_0 l0_0.length c0_0, .int .i64 a0_1]) (t := 24) ?hr ?_; (case hd => rfl); (case hg => rfl); (case hr => first | (go_simp; done) | (go_simp; rfl)); intro gb924 hg w27 hbox hb; have n0_ := zm (below_step zb hb); have n1_ := zm (hbox); have n2_ := zm (zs hg zb : w.heap.size ≤ gb924); have n3_ := zm (zs hg zb : w.heap.size ≤ gb924); clear HB; have HB := n0_; have BK924 := n1_; have GW924 := n2_; have GE924 := n3_; clear n0_ n1_ n2_ n3_; clear hb hbox hg) | ((with_reducible refine gate_dst (N := 5) rfl ?_); refine box_event ?hg (N := 5) ?hd (cs := #[.int .i64 a2_0, .int .i64 a2_1, .int .i64 a2_2]) (t := 27) ?hr ?_; (case hd => rfl); (case hg => rfl); (case hr => first | (go_simp; done) | (go_simp; rfl)); intro gb925 hg w28 hbox hb; have n0_ := zm (blk_below (g := gb924) zk hb); have n1_ := zm (below_step zb hb); have n2_ := zm (hbox); have n3_ := zm (zs hg zb : w.heap.size ≤ gb925); have n4_ := zm (zs hg zb : w.heap.size ≤ gb925); have n5_ := zm (zl hg zk : gb924 ≠ gb925); have n6_ := zm (zg hg zk : gb925 ≠ gb924); clear BK924; clear HB; have BK924 := n0_; have HB := n1_; have BK925 := n2_; have GW925 := n3_; have GE925 := n4_; have NB924_925 := n5_; have NB925_924 := n6_; clear n0_ n1_ n2_ n3_ n4_ n5_ n6_; clear hb hbox hg; have hnb29 := NB924_925.out; have hnc29 := NB925_924.out; obtain ⟨hcz30_0, hcz30_1, hfz30_0, hfz30_1⟩ := zc2 BK924.out) | ((with_reducible refine gate_callee (f := 11) rfl ?_); refine goesL_ (some 16) rfl rfl Try.func11 (by kernel_rfl) rfl #[.agg #[.slice A0_0 l0_0.length c0_0, .int .i64 a0_1], .int .i64 1048576] rfl (by (try simp only [List.map_toArray, List.map_cons, List.map_nil]); first | done | rfl | (simp only [List.length_drop, List.length_take]; rfl)) ?_; (with_reducible refine (laws_szInstrument.calls _ _ l0_0 a0_1 1048576 t926 _ ?side1 ?side2 A4.out).mono ?_); (case side1 => repeat (first | exact (Kd.C_below HR0_0.out HB.out) | (with_reducible refine Kd.C_alloc ?_ _) | (with_reducible refine Kd.C_drewN ?_ _) | (with_reducible refine Kd.C_drew ?_))); (case side2 => exact HC0_0.out); rintro e w31 ⟨rfl, hb⟩; refine ⟨_, rfl, ?_⟩; have n0_ := zm (blk_below (g := gb924) zk hb); have n1_ := zm (blk_below (g := gb925) zk hb); have n2_ := zm (below_step zb hb); clear BK924; clear BK925; clear HB; have BK924 := n0_; have BK925 := n1_; have HB := n2_; clear n0_ n1_ n2_; (try clear hb); (try clear hb2); (try clear hk); (try clear hi)) | ((with_reducible refine gate_callee (f := 12) rfl ?_); refine goesL_ (some 21) rfl rfl Try.func12 (by kernel_rfl) rfl #[.slice A1 l1.length c1, .int .i64 t926] rfl (by (try simp only [List.map_toArray, List.map_cons, List.map_nil]); first | done | rfl | (simp only [List.length_drop, List.length_take]; rfl)) ?_; (with_reducible refine (laws_szHoleS.calls _ _ l1 t926 t927 _ ?side1 ?side2 A11.out).mono ?_); (case side1 => repeat (first | exact (Kd.C_below HR1.out HB.out) | (with_reducible refine Kd.C_alloc ?_ _) | (with_reducible refine Kd.C_drewN ?_ _) | (with_reducible refine Kd.C_drew ?_))); (case side2 => exact HC1.out); rintro e w' ⟨rfl, ⟨nd, rfl⟩⟩; refine ⟨_, rfl, ?_⟩; (try (rw [drewN_self w31]; generalize hq_ : World.drewN w31 _ = w31; have n0_ : Aside0 (w31.heap[gb924]? = some (.cells #[.slice A0_0 l0_0.length c0_0, .int .i64 a0_1] 24 (0, 0))) := ⟨by rw [← hq_]; exact zk⟩; have n1_ : Aside0 (w31.heap[gb925]? = some (.cells #[.int .i64 a2_0, .int .i64 a2_1, .int .i64 a2_2] 27 (0, 0))) := ⟨by rw [← hq_]; exact zk⟩; have n2_ : Aside0 (Below w.heap.size w w31) := ⟨by rw [← hq_]; exact zb⟩; clear BK924 BK925 HB hq_; have BK924 := n0_; have BK925 := n1_; have HB := n2_; clear n0_ n1_ n2_))))
   have n0_ := zm (blk_drew BK924.out)
   have n1_ := zm (blk_drew BK925.out)
   have n2_ := zm (below_drew1 HB.out)
   clear BK924
   clear BK925
   clear HB
   have BK924 := n0_
   have BK925 := n1_
   have HB := n2_
   clear n0_ n1_ n2_
   refine start_ (n := 12) (S := fun w' => w'.cell? ⟨gb924, 0, none⟩ = some (.slice A0_0 l0_0.length c0_0) ∧ w'.cell? ⟨gb924, 1, none⟩ = some (.int .i64 a0_1) ∧ w'.cell? ⟨gb925, 0, none⟩ = some (.int .i64 a2_0) ∧ w'.cell? ⟨gb925, 1, none⟩ = some (.int .i64 a2_1) ∧ w'.cell? ⟨gb925, 2, none⟩ = some (.int .i64 a2_2)) (ds := []) #[false, false, false, false, false, false, false, false, false, false, false, false] (by kernel_rfl) rfl rfl ⟨(blk_cell BK924.out 0).trans rfl, (blk_cell BK924.out 1).trans rfl, (blk_cell BK925.out 0).trans rfl, (blk_cell BK925.out 1).trans rfl, (blk_cell BK925.out 2).trans rfl⟩ (fun hHeld => ?_); refine with_tabW laws_FnExactWindNeeded.tab8 laws_FnExactWindNeeded.bits8 (fun HT_ HW_ => ?_)
   generalize w31.drew = w32 at BK924 BK925 HB hHeld ⊢
   refine pure_ (i := 2) (N := some 27) (v := ?_) (a' := ?_) #[false, false, true, false, false, false, false, false, false, false, false, false] rfl rfl (any_of HT_.out (by kernel_rfl)) (fun _ _ _ h => h) (Or.inl ⟨by rfl, ?_⟩) ?_ ?_
   rotate_left
   ·
    intro w'
    go_simp
    with_reducible rfl
   rotate_left
   ·
    simp only [Act.put, zA, zB, zD, i64_w, i32_w]
    rfl
   refine take_ (i := 0) (N := some 25) (v := ?_) (a' := ?_) #[true, false, true, false, false, false, false, false, false, false, false, false] rfl rfl (take_ofW HT_.out HW_.out (by kernel_rfl)) (fun _ _ _ h => h) (Or.inl ⟨by rfl, ?_⟩) hHeld ?_ ?_
   rotate_left
   ·
    rintro w' ⟨s0, s1, s2, s3, s4⟩
    go_simp
    with_reducible rfl
   rotate_left
   ·
    simp only [Act.put, zA, zB, zD, i64_w, i32_w]
    rfl
   refine take_ (i := 4) (N := some 29) (v := ?_) (a' := ?_) #[true, false, true, false, true, false, false, false, false, false, false, false] rfl rfl (take_ofW HT_.out HW_.out (by kernel_rfl)) (fun _ _ _ h => h) (Or.inl ⟨by rfl, ?_⟩) hHeld ?_ ?_
   rotate_left
   ·
    rintro w' ⟨s0, s1, s2, s3, s4⟩
    go_simp
    with_reducible rfl
   rotate_left
   ·
    simp only [Act.put, zA, zB, zD, i64_w, i32_w]
    rfl
   refine one_ (i := 1) (N := some 26) #[true, true, true, false, true, false, false, false, false, false, false, false] rfl rfl (one_of HT_.out (by kernel_rfl)) (by decide) (fun K hK => ?_)
   refine goes_ Try.func14 (by kernel_rfl) rfl #[.agg #[.slice A0_0 l0_0.length c0_0, .int .i64 a0_1]] (by rfl) rfl rfl (by (try simp only [List.map_toArray, List.map_cons, List.map_nil]); first | done | rfl | (simp only [List.length_drop, List.length_take]; rfl)) ?_
   with_reducible refine (laws_toInstrument.calls k _ _ l0_0 a0_1 t928 t931 _ ?side1 ?side2 A18.out).mono ?_
   (case side1 => repeat (first | exact (Kd.C_below HR0_0.out HB.out) | (with_reducible refine Kd.C_alloc ?_ _) | (with_reducible refine Kd.C_drewN ?_ _) | (with_reducible refine Kd.C_drew ?_)))
   (case side2 => exact HC0_0.out)
   rintro e w33 ⟨v929, rfl, ho0, hb⟩
   refine ⟨_, rfl, ?_⟩
   have n0_ := zm (Kd.R_lower ho0 (below_size zb))
   have n1_ := zm (blk_below (g := gb924) zk hb)
   have n2_ := zm (blk_below (g := gb925) zk hb)
   have n3_ := zm (below_step zb hb)
   clear BK924
   clear BK925
   clear HB
   have HO930 := n0_
   have BK924 := n1_
   have BK925 := n2_
   have HB := n3_
   clear n0_ n1_ n2_ n3_
   (try clear hb)
   (try clear hb2)
   (try clear hk)
   (try clear hi)
   (try clear ho0)
   refine hK.out _ _ ⟨(blk_cell BK924.out 0).trans rfl, (blk_cell BK924.out 1).trans rfl, (blk_cell BK925.out 0).trans rfl, (blk_cell BK925.out 1).trans rfl, (blk_cell BK925.out 2).trans rfl⟩ (fun hHeld => ?_)
   clear hK K
   refine norm_ (a' := ?_) ?_ ?_
   rotate_left
   ·
    show Act.put _ (some 26) _ = _
    simp only [Act.put, zA, zB, zD, i64_w, i32_w]
    rfl
   refine one_ (i := 3) (N := some 28) #[true, true, true, true, true, false, false, false, false, false, false, false] rfl rfl (one_of HT_.out (by kernel_rfl)) (by decide) (fun K hK => ?_)
   refine goes_ Try.func15 (by kernel_rfl) rfl #[.slice A1 l1.length c1] (by rfl) rfl rfl (by (try simp only [List.map_toArray, List.map_cons, List.map_nil]); first | done | rfl | (simp only [List.length_drop, List.length_take]; rfl)) ?_
   with_reducible refine (laws_toHoleS.calls k _ _ l1 t932 _ ?side1 ?side2 A19.out).mono ?_
   (case side1 => repeat (first | exact (Kd.C_below HR1.out HB.out) | (with_reducible refine Kd.C_alloc ?_ _) | (with_reducible refine Kd.C_drewN ?_ _) | (with_reducible refine Kd.C_drew ?_)))
   (case side2 => exact HC1.out)
   rintro e w34 ⟨v933, rfl, ho0, hb⟩
   refine ⟨_, rfl, ?_⟩
   have n0_ := zm (Kd.R_below (by (with_reducible repeat (first | apply Kd.R_alloc | apply Kd.R_drewN | apply Kd.R_drew)); exact HO930.out) hb)
   have n1_ := zm (Kd.R_lower ho0 (below_size zb))
   have n2_ := zm (blk_below (g := gb924) zk hb)
   have n3_ := zm (blk_below (g := gb925) zk hb)
   have n4_ := zm (below_step zb hb)
   clear HO930
   clear BK924
   clear BK925
   clear HB
   have HO930 := n0_
   have HO934 := n1_
   have BK924 := n2_
   have BK925 := n3_
   have HB := n4_
   clear n0_ n1_ n2_ n3_ n4_
   (try clear hb)
   (try clear hb2)
   (try clear hk)
   (try clear hi)
   (try clear ho0)
   refine hK.out _ _ ⟨(blk_cell BK924.out 0).trans rfl, (blk_cell BK924.out 1).trans rfl, (blk_cell BK925.out 0).trans rfl, (blk_cell BK925.out 1).trans rfl, (blk_cell BK925.out 2).trans rfl⟩ (fun hHeld => ?_)
   clear hK K
   refine norm_ (a' := ?_) ?_ ?_
   rotate_left
   ·
    show Act.put _ (some 28) _ = _
    simp only [Act.put, zA, zB, zD, i64_w, i32_w]
    rfl
   refine one_ (i := 5) (N := some 30) #[true, true, true, true, true, true, false, false, false, false, false, false] rfl rfl (one_of HT_.out (by kernel_rfl)) (by decide) (fun K hK => ?_)
   refine goes_ Try.func16 (by kernel_rfl) rfl #[.agg #[.int .i64 a2_0, .int .i64 a2_1, .int .i64 a2_2]] (by rfl) rfl rfl (by (try simp only [List.map_toArray, List.map_cons, List.map_nil]); first | done | rfl | (simp only [List.length_drop, List.length_take]; rfl)) ?_
   with_reducible refine (laws_toAction.calls a2_0 a2_1 a2_2 t935 t936 t937 _ A20.out).mono ?_
   rintro e w35 ⟨rfl, hb⟩
   refine ⟨_, rfl, ?_⟩
   have n0_ := zm (Kd.R_below (by (with_reducible repeat (first | apply Kd.R_alloc | apply Kd.R_drewN | apply Kd.R_drew)); exact HO930.out) hb)
   have n1_ := zm (Kd.R_below (by (with_reducible repeat (first | apply Kd.R_alloc | apply Kd.R_drewN | apply Kd.R_drew)); exact HO934.out) hb)
   have n2_ := zm (blk_below (g := gb924) zk hb)
   have n3_ := zm (blk_below (g := gb925) zk hb)
   have n4_ := zm (below_step zb hb)
   clear HO930
   clear HO934
   clear BK924
   clear BK925
   clear HB
   have HO930 := n0_
   have HO934 := n1_
   have BK924 := n2_
   have BK925 := n3_
   have HB := n4_
   clear n0_ n1_ n2_ n3_ n4_
   (try clear hb)
   (try clear hb2)
   (try clear hk)
   (try clear hi)
   obtain ⟨Ao36, co36, eo36⟩ := Kd.R_slice HO930.out
   (first | subst eo36 | (injection eo36 with f1_ f2_ f3_; have f4_ := f1_.symm; have f5_ := f3_.symm; clear f1_ f2_ f3_; subst f4_; subst f5_))
   obtain ⟨Ao37, co37, eo37⟩ := Kd.R_slice HO934.out
   (first | subst eo37 | (injection eo37 with f1_ f2_ f3_; have f4_ := f1_.symm; have f5_ := f3_.symm; clear f1_ f2_ f3_; subst f4_; subst f5_))
   refine hK.out _ _ ⟨(blk_cell BK924.out 0).trans rfl, (blk_cell BK924.out 1).trans rfl, (blk_cell BK925.out 0).trans rfl, (blk_cell BK925.out 1).trans rfl, (blk_cell BK925.out 2).trans rfl⟩ (fun hHeld => ?_)
   clear hK K
   refine norm_ (a' := ?_) ?_ ?_
   rotate_left
   ·
    show Act.put _ (some 30) _ = _
    simp only [Act.put, zA, zB, zD, i64_w, i32_w]
    rfl
   refine one_ (i := 6) (N := some 31) #[true, true, true, true, true, true, true, false, false, false, false, false] rfl rfl (one_of HT_.out (by kernel_rfl)) (by decide) (fun K hK => ?_)
   refine goes_ Try.func44 (by kernel_rfl) rfl #[.agg #[.slice Ao36 t928.length co36, .int .i64 t931], .slice Ao37 t932.length co37, .agg #[.int .i64 t935, .int .i64 t936, .int .i64 t937]] (by rfl) rfl rfl (by (try simp only [List.map_toArray, List.map_cons, List.map_nil]); first | done | rfl | (simp only [List.length_drop, List.length_take]; rfl)) ?_
   with_reducible refine (spec_WindNeeded.calls k _ _ t928 t931 _ _ t932 t935 t936 t937 t938 t939 _ ?side1 ?side2 ?side3 ?side4 A21.out).mono ?_
   (case side1 => repeat (first | exact (Kd.R_reads' HO930.out).2.2 | (with_reducible refine Kd.C_alloc ?_ _) | (with_reducible refine Kd.C_drewN ?_ _) | (with_reducible refine Kd.C_drew ?_)))
   (case side2 => exact (Kd.R_reads' HO930.out).2.1)
   (case side3 => repeat (first | exact (Kd.R_reads' HO934.out).2.2 | (with_reducible refine Kd.C_alloc ?_ _) | (with_reducible refine Kd.C_drewN ?_ _) | (with_reducible refine Kd.C_drew ?_)))
   (case side4 => exact (Kd.R_reads' HO934.out).2.1)
   rintro e w38 ⟨rfl, hb⟩
   refine ⟨_, rfl, ?_⟩
   have n0_ := zm (Kd.R_below (by (with_reducible repeat (first | apply Kd.R_alloc | apply Kd.R_drewN | apply Kd.R_drew)); exact HO930.out) hb)
   have n1_ := zm (Kd.R_below (by (with_reducible repeat (first | apply Kd.R_alloc | apply Kd.R_drewN | apply Kd.R_drew)); exact HO934.out) hb)
   have n2_ := zm (blk_below (g := gb924) zk hb)
   have n3_ := zm (blk_below (g := gb925) zk hb)
   have n4_ := zm (below_step zb hb)
   clear HO930
   clear HO934
   clear BK924
   clear BK925
   clear HB
   have HO930 := n0_
   have HO934 := n1_
   have BK924 := n2_
   have BK925 := n3_
   have HB := n4_
   clear n0_ n1_ n2_ n3_ n4_
   (try clear hb)
   (try clear hb2)
   (try clear hk)
   (try clear hi)
   refine hK.out _ _ ⟨(blk_cell BK924.out 0).trans rfl, (blk_cell BK924.out 1).trans rfl, (blk_cell BK925.out 0).trans rfl, (blk_cell BK925.out 1).trans rfl, (blk_cell BK925.out 2).trans rfl⟩ (fun hHeld => ?_)
   clear hK K
   refine norm_ (a' := ?_) ?_ ?_
   rotate_left
   ·
    show Act.put _ (some 31) _ = _
    simp only [Act.put, zA, zB, zD, i64_w, i32_w]
    rfl
   refine pure_ (i := 7) (N := some 24) (v := ?_) (a' := ?_) #[true, true, true, true, true, true, true, true, false, false, false, false] rfl rfl (any_of HT_.out (by kernel_rfl)) (fun _ _ _ h => h) (Or.inl ⟨by rfl, ?_⟩) ?_ ?_
   rotate_left
   ·
    intro w'
    go_simp
    with_reducible rfl
   rotate_left
   ·
    simp only [Act.put, zA, zB, zD, i64_w, i32_w]
    rfl
   refine pure_ (i := 8) (N := some 32) (v := ?_) (a' := ?_) #[true, true, true, true, true, true, true, true, true, false, false, false] rfl rfl (any_of HT_.out (by kernel_rfl)) (fun _ _ _ h => h) (Or.inl ⟨by rfl, ?_⟩) ?_ ?_
   rotate_left
   ·
    intro w'
    go_simp
    with_reducible rfl
   rotate_left
   ·
    simp only [Act.put, zA, zB, zD, i64_w, i32_w]
    rfl
   refine pure_ (i := 9) (N := some 33) (v := ?_) (a' := ?_) #[true, true, true, true, true, true, true, true, true, true, false, false] rfl rfl (any_of HT_.out (by kernel_rfl)) (fun _ _ _ h => h) (Or.inl ⟨by rfl, ?_⟩) ?_ ?_
   rotate_left
   ·
    intro w'
    go_simp
    with_reducible rfl
   rotate_left
   ·
    simp only [Act.put, zA, zB, zD, i64_w, i32_w]
    rfl
   refine pure_ (i := 10) (N := some 8) (v := ?_) (a' := ?_) #[true, true, true, true, true, true, true, true, true, true, true, false] rfl rfl (any_of HT_.out (by kernel_rfl)) (fun _ _ _ h => h) (Or.inl ⟨by rfl, ?_⟩) ?_ ?_
   rotate_left
   ·
    intro w'
    go_simp
    with_reducible rfl
   rotate_left
   ·
    simp only [Act.put, zA, zB, zD, i64_w, i32_w]
    rfl
   refine pure_ (i := 11) (N := some 9) (v := ?_) (a' := ?_) #[true, true, true, true, true, true, true, true, true, true, true, true] rfl rfl (any_of HT_.out (by kernel_rfl)) (fun _ _ _ h => h) (Or.inl ⟨by rfl, ?_⟩) ?_ ?_
   rotate_left
   ·
    intro w'
    go_simp
    with_reducible rfl
   rotate_left
   ·
    simp only [Act.put, zA, zB, zD, i64_w, i32_w]
    rfl
   refine done_ (done_of HT_.out (by kernel_rfl)) ?_
   obtain ⟨hcz39_0, hcz39_1, hfz39_0, hfz39_1⟩ := zc2 BK924.out
   try go_wp2_with (first | ((with_reducible refine gate_callee (f := 14) rfl ?_); refine goesL_ (some 35) rfl rfl Try.func14 (by kernel_rfl) rfl #[.agg #[.slice A0_0 l0_0.length c0_0, .int .i64 a0_1]] rfl (by (try simp only [List.map_toArray, List.map_cons, List.map_nil]); first | done | rfl | (simp only [List.length_drop, List.length_take]; rfl)) ?_; (with_reducible refine (laws_toInstrument.calls k _ _ l0_0 a0_1 t940 t943 _ ?side1 ?side2 A22.out).mono ?_); (case side1 => repeat (first | exact (Kd.C_below HR0_0.out HB.out) | (with_reducible refine Kd.C_alloc ?_ _) | (with_reducible refine Kd.C_drewN ?_ _) | (with_reducible refine Kd.C_drew ?_))); (case side2 => exact HC0_0.out); rintro e w40 ⟨v941, rfl, ho0, hb⟩; refine ⟨_, rfl, ?_⟩; have n0_ := zm (Kd.R_elder' (by (with_reducible repeat (first | apply Kd.R_alloc | apply Kd.R_drewN | apply Kd.R_drew)); exact HO930.out) (Kd.R_base ho0) hb); have n1_ := zm (Kd.R_below (by (with_reducible repeat (first | apply Kd.R_alloc | apply Kd.R_drewN | apply Kd.R_drew)); exact HO934.out) hb); have n2_ := zm (Kd.R_lower (Kd.R_new' ho0 (Kd.R_lt (by (with_reducible repeat (first | apply Kd.R_alloc | apply Kd.R_drewN | apply Kd.R_drew)); exact HO930.out))) (below_size zb)); have n3_ := zm (blk_below (g := gb924) zk hb); have n4_ := zm (blk_below (g := gb925) zk hb); have n5_ := zm (below_step zb hb); clear HO930; clear HO934; clear BK924; clear BK925; clear HB; have HO930 := n0_; have HO934 := n1_; have HO942 := n2_; have BK924 := n3_; have BK925 := n4_; have HB := n5_; clear n0_ n1_ n2_ n3_ n4_ n5_; (try clear hb); (try clear hb2); (try clear hk); (try clear hi); (try clear ho0)) | ((with_reducible refine gate_dst (N := 10) rfl ?_); refine box_event ?hg (N := 10) ?hd (cs := #[.slice none 0 0, .int .i64 0]) (t := 32) ?hr ?_; (case hd => rfl); (case hg => rfl); (case hr => first | (go_simp; done) | (go_simp; rfl)); intro gb944 hg w41 hbox hb; have n0_ := zm (Kd.R_below (by (with_reducible repeat (first | apply Kd.R_alloc | apply Kd.R_drewN | apply Kd.R_drew)); exact HO930.out) hb); have n1_ := zm (Kd.R_below (by (with_reducible repeat (first | apply Kd.R_alloc | apply Kd.R_drewN | apply Kd.R_drew)); exact HO934.out) hb); have n2_ := zm (Kd.R_below (by (with_reducible repeat (first | apply Kd.R_alloc | apply Kd.R_drewN | apply Kd.R_drew)); exact HO942.out) hb); have n3_ := zm (blk_below (g := gb924) zk hb); have n4_ := zm (blk_below (g := gb925) zk hb); have n5_ := zm (below_step zb hb); have n6_ := zm (hbox); have n7_ := zm (zs hg zb : w.heap.size ≤ gb944); have n8_ := zm (zs hg zb : w.heap.size ≤ gb944); have n9_ := zm (zl hg zk : gb924 ≠ gb944); have n10_ := zm (zg hg zk : gb944 ≠ gb924); have n11_ := zm (zl hg zk : gb925 ≠ gb944); have n12_ := zm (zg hg zk : gb944 ≠ gb925); clear HO930; clear HO934; clear HO942; clear BK924; clear BK925; clear HB; have HO930 := n0_; have HO934 := n1_; have HO942 := n2_; have BK924 := n3_; have BK925 := n4_; have HB := n5_; have BK944 := n6_; have GW944 := n7_; have GE944 := n8_; have NB924_944 := n9_; have NB944_924 := n10_; have NB925_944 := n11_; have NB944_925 := n12_; clear n0_ n1_ n2_ n3_ n4_ n5_ n6_ n7_ n8_ n9_ n10_ n11_ n12_; clear hb hbox hg; obtain ⟨Ao42, co42, eo42⟩ := Kd.R_slice HO942.out; subst eo42; have hnb43 := NB944_924.out; have hnc43 := NB924_944.out; have hnb44 := NB944_925.out; have hnc44 := NB925_944.out; obtain ⟨hcz45_0, hcz45_1, hfz45_0, hfz45_1⟩ := zc2 BK944.out) | ((with_reducible refine gate_callee (f := 15) rfl ?_); refine goesL_ (some 37) rfl rfl Try.func15 (by kernel_rfl) rfl #[.slice A1 l1.length c1] rfl (by (try simp only [List.map_toArray, List.map_cons, List.map_nil]); first | done | rfl | (simp only [List.length_drop, List.length_take]; rfl)) ?_; (with_reducible refine (laws_toHoleS.calls k _ _ l1 t945 _ ?side1 ?side2 A23.out).mono ?_); (case side1 => exact Kd.C_below HR1.out zb); (case side2 => exact HC1.out); rintro e w46 ⟨v946, rfl, ho0, hb⟩; refine ⟨_, rfl, ?_⟩; have n0_ := zm (Kd.R_below (by (with_reducible repeat (first | apply Kd.R_alloc | apply Kd.R_drewN | apply Kd.R_drew)); exact (Kd.R_mono (Kd.R_far (p := ⟨gb944, 1, none⟩) (Kd.R_far (p := ⟨gb944, 0, none⟩) (Kd.R_types HO930.out BK944.out (by decide)) (fun _ hk => hk.2) (.slice Ao42 t940.length co42)) (fun _ hk => hk.2) (.int .i64 t943)) (fun _ h_ => h_.1))) hb); have n1_ := zm (Kd.R_elder' (by (with_reducible repeat (first | apply Kd.R_alloc | apply Kd.R_drewN | apply Kd.R_drew)); exact (Kd.R_mono (Kd.R_far (p := ⟨gb944, 1, none⟩) (Kd.R_far (p := ⟨gb944, 0, none⟩) (Kd.R_types HO934.out BK944.out (by decide)) (fun _ hk => hk.2) (.slice Ao42 t940.length co42)) (fun _ hk => hk.2) (.int .i64 t943)) (fun _ h_ => h_.1))) (Kd.R_base ho0) hb); have n2_ := zm (Kd.R_below (by (with_reducible repeat (first | apply Kd.R_alloc | apply Kd.R_drewN | apply Kd.R_drew)); exact (Kd.R_mono (Kd.R_far (p := ⟨gb944, 1, none⟩) (Kd.R_far (p := ⟨gb944, 0, none⟩) (Kd.R_types HO942.out BK944.out (by decide)) (fun _ hk => hk.2) (.slice Ao42 t940.length co42)) (fun _ hk => hk.2) (.int .i64 t943)) (fun _ h_ => h_.1))) hb); have n3_ := zm (Kd.R_lower (Kd.R_new' ho0 (Kd.R_lt (by (with_reducible repeat (first | apply Kd.R_alloc | apply Kd.R_drewN | apply Kd.R_drew)); exact (Kd.R_mono (Kd.R_far (p := ⟨gb944, 1, none⟩) (Kd.R_far (p := ⟨gb944, 0, none⟩) (Kd.R_types HO934.out BK944.out (by decide)) (fun _ hk => hk.2) (.slice Ao42 t940.length co42)) (fun _ hk => hk.2) (.int .i64 t943)) (fun _ h_ => h_.1))))) (below_size zb)); have n4_ := zm (blk_below (g := gb924) (o := .cells #[.slice A0_0 l0_0.length c0_0, .int .i64 a0_1] 24 (0, 0)) zK hb); have n5_ := zm (blk_below (g := gb925) (o := .cells #[.int .i64 a2_0, .int .i64 a2_1, .int .i64 a2_2] 27 (0, 0)) zK hb); have n6_ := zm (blk_below (g := gb944) (o := .cells #[.slice Ao42 t940.length co42, .int .i64 t943] 32 (0, 0)) (by (with_reducible repeat (first | refine blk_drewN ?_ _ | refine blk_drew ?_ | refine blk_alloc ?_ _)); refine blk_put (cs := #[.slice Ao42 t940.length co42, .int .i64 0]) ?_ 1 _ rfl; (with_reducible repeat (first | refine blk_drewN ?_ _ | refine blk_drew ?_ | refine blk_alloc ?_ _)); refine blk_put (cs := #[.slice none 0 0, .int .i64 0]) ?_ 0 _ rfl; (with_reducible repeat (first | refine blk_drewN ?_ _ | refine blk_drew ?_ | refine blk_alloc ?_ _)); exact BK944.out) hb); have n7_ := zm (below_step zb hb); clear HO930; clear HO934; clear HO942; clear BK924; clear BK925; clear BK944; clear HB; have HO930 := n0_; have HO934 := n1_; have HO942 := n2_; have HO947 := n3_; have BK924 := n4_; have BK925 := n5_; have BK944 := n6_; have HB := n7_; clear n0_ n1_ n2_ n3_ n4_ n5_ n6_ n7_; (try clear hb); (try clear hb2); (try clear hk); (try clear hi); (try clear ho0)))
   have n0_ := zm (Kd.R_drew HO930.out)
   have n1_ := zm (Kd.R_drew HO934.out)
   have n2_ := zm (Kd.R_drew HO942.out)
   have n3_ := zm (Kd.R_drew HO947.out)
   have n4_ := zm (blk_drew BK924.out)
   have n5_ := zm (blk_drew BK925.out)
   have n6_ := zm (blk_drew BK944.out)
   have n7_ := zm (below_drew1 HB.out)
   clear HO930
   clear HO934
   clear HO942
   clear HO947
   clear BK924
   clear BK925
   clear BK944
   clear HB
   have HO930 := n0_
   have HO934 := n1_
   have HO942 := n2_
   have HO947 := n3_
   have BK924 := n4_
   have BK925 := n5_
   have BK944 := n6_
   have HB := n7_
   clear n0_ n1_ n2_ n3_ n4_ n5_ n6_ n7_
   refine start_ (n := 10) (S := fun w' => w'.cell? ⟨gb944, 0, none⟩ = some (.slice Ao42 t940.length co42) ∧ w'.cell? ⟨gb944, 1, none⟩ = some (.int .i64 t943) ∧ w'.cell? ⟨gb925, 0, none⟩ = some (.int .i64 a2_0) ∧ w'.cell? ⟨gb925, 1, none⟩ = some (.int .i64 a2_1) ∧ w'.cell? ⟨gb925, 2, none⟩ = some (.int .i64 a2_2)) (ds := []) #[false, false, false, false, false, false, false, false, false, false] (by kernel_rfl) rfl rfl ⟨(blk_cell BK944.out 0).trans rfl, (blk_cell BK944.out 1).trans rfl, (blk_cell BK925.out 0).trans rfl, (blk_cell BK925.out 1).trans rfl, (blk_cell BK925.out 2).trans rfl⟩ (fun hHeld => ?_); refine with_tabW laws_FnExactWindNeeded.tab11 laws_FnExactWindNeeded.bits11 (fun HT_ HW_ => ?_)
   generalize w46.drew = w47 at HO930 HO934 HO942 HO947 BK924 BK925 BK944 HB hHeld ⊢
   refine pure_ (i := 1) (N := some 40) (v := ?_) (a' := ?_) #[false, true, false, false, false, false, false, false, false, false] rfl rfl (any_of HT_.out (by kernel_rfl)) (fun _ _ _ h => h) (Or.inl ⟨by rfl, ?_⟩) ?_ ?_
   rotate_left
   ·
    intro w'
    go_simp
    with_reducible rfl
   rotate_left
   ·
    simp only [Act.put, zA, zB, zD, i64_w, i32_w]
    rfl
   refine take_ (i := 0) (N := some 39) (v := ?_) (a' := ?_) #[true, true, false, false, false, false, false, false, false, false] rfl rfl (take_ofW HT_.out HW_.out (by kernel_rfl)) (fun _ _ _ h => h) (Or.inl ⟨by rfl, ?_⟩) hHeld ?_ ?_
   rotate_left
   ·
    rintro w' ⟨s0, s1, s2, s3, s4⟩
    go_simp
    with_reducible rfl
   rotate_left
   ·
    simp only [Act.put, zA, zB, zD, i64_w, i32_w]
    rfl
   refine take_ (i := 2) (N := some 41) (v := ?_) (a' := ?_) #[true, true, true, false, false, false, false, false, false, false] rfl rfl (take_ofW HT_.out HW_.out (by kernel_rfl)) (fun _ _ _ h => h) (Or.inl ⟨by rfl, ?_⟩) hHeld ?_ ?_
   rotate_left
   ·
    rintro w' ⟨s0, s1, s2, s3, s4⟩
    go_simp
    with_reducible rfl
   rotate_left
   ·
    simp only [Act.put, zA, zB, zD, i64_w, i32_w]
    rfl
   refine one_ (i := 3) (N := some 42) #[true, true, true, true, false, false, false, false, false, false] rfl rfl (one_of HT_.out (by kernel_rfl)) (by decide) (fun K hK => ?_)
   refine goes_ Try.func16 (by kernel_rfl) rfl #[.agg #[.int .i64 a2_0, .int .i64 a2_1, .int .i64 a2_2]] (by rfl) rfl rfl (by (try simp only [List.map_toArray, List.map_cons, List.map_nil]); first | done | rfl | (simp only [List.length_drop, List.length_take]; rfl)) ?_
   with_reducible refine (laws_toAction.calls a2_0 a2_1 a2_2 t948 t949 t950 _ A24.out).mono ?_
   rintro e w48 ⟨rfl, hb⟩
   refine ⟨_, rfl, ?_⟩
   have n0_ := zm (Kd.R_below (by (with_reducible repeat (first | apply Kd.R_alloc | apply Kd.R_drewN | apply Kd.R_drew)); exact HO930.out) hb)
   have n1_ := zm (Kd.R_below (by (with_reducible repeat (first | apply Kd.R_alloc | apply Kd.R_drewN | apply Kd.R_drew)); exact HO934.out) hb)
   have n2_ := zm (Kd.R_below (by (with_reducible repeat (first | apply Kd.R_alloc | apply Kd.R_drewN | apply Kd.R_drew)); exact HO942.out) hb)
   have n3_ := zm (Kd.R_below (by (with_reducible repeat (first | apply Kd.R_alloc | apply Kd.R_drewN | apply Kd.R_drew)); exact HO947.out) hb)
   have n4_ := zm (blk_below (g := gb924) zk hb)
   have n5_ := zm (blk_below (g := gb925) zk hb)
   have n6_ := zm (blk_below (g := gb944) zk hb)
   have n7_ := zm (below_step zb hb)
   clear HO930
   clear HO934
   clear HO942
   clear HO947
   clear BK924
   clear BK925
   clear BK944
   clear HB
   have HO930 := n0_
   have HO934 := n1_
   have HO942 := n2_
   have HO947 := n3_
   have BK924 := n4_
   have BK925 := n5_
   have BK944 := n6_
   have HB := n7_
   clear n0_ n1_ n2_ n3_ n4_ n5_ n6_ n7_
   (try clear hb)
   (try clear hb2)
   (try clear hk)
   (try clear hi)
   obtain ⟨Ao49, co49, eo49⟩ := Kd.R_slice HO947.out
   (first | subst eo49 | (injection eo49 with f1_ f2_ f3_; have f4_ := f1_.symm; have f5_ := f3_.symm; clear f1_ f2_ f3_; subst f4_; subst f5_))
   refine hK.out _ _ ⟨(blk_cell BK944.out 0).trans rfl, (blk_cell BK944.out 1).trans rfl, (blk_cell BK925.out 0).trans rfl, (blk_cell BK925.out 1).trans rfl, (blk_cell BK925.out 2).trans rfl⟩ (fun hHeld => ?_)
   clear hK K
   refine norm_ (a' := ?_) ?_ ?_
   rotate_left
   ·
    show Act.put _ (some 42) _ = _
    simp only [Act.put, zA, zB, zD, i64_w, i32_w]
    rfl
   refine one_ (i := 4) (N := some 43) #[true, true, true, true, true, false, false, false, false, false] rfl rfl (one_of HT_.out (by kernel_rfl)) (by decide) (fun K hK => ?_)
   refine goes_ Try.func45 (by kernel_rfl) rfl #[.agg #[.slice Ao42 t940.length co42, .int .i64 t943], .slice Ao49 t945.length co49, .agg #[.int .i64 t948, .int .i64 t949, .int .i64 t950]] (by rfl) rfl rfl (by (try simp only [List.map_toArray, List.map_cons, List.map_nil]); first | done | rfl | (simp only [List.length_drop, List.length_take]; rfl)) ?_
   with_reducible refine (impl_WindNeeded.calls k _ _ t940 t943 _ _ t945 t948 t949 t950 t951 t952 _ ?side1 ?side2 ?side3 ?side4 A25.out).mono ?_
   (case side1 => repeat (first | exact (Kd.R_reads' HO942.out).2.2 | (with_reducible refine Kd.C_alloc ?_ _) | (with_reducible refine Kd.C_drewN ?_ _) | (with_reducible refine Kd.C_drew ?_)))
   (case side2 => exact (Kd.R_reads' HO942.out).2.1)
   (case side3 => repeat (first | exact (Kd.R_reads' HO947.out).2.2 | (with_reducible refine Kd.C_alloc ?_ _) | (with_reducible refine Kd.C_drewN ?_ _) | (with_reducible refine Kd.C_drew ?_)))
   (case side4 => exact (Kd.R_reads' HO947.out).2.1)
   rintro e w50 ⟨rfl, hb⟩
   refine ⟨_, rfl, ?_⟩
   have n0_ := zm (Kd.R_below (by (with_reducible repeat (first | apply Kd.R_alloc | apply Kd.R_drewN | apply Kd.R_drew)); exact HO930.out) hb)
   have n1_ := zm (Kd.R_below (by (with_reducible repeat (first | apply Kd.R_alloc | apply Kd.R_drewN | apply Kd.R_drew)); exact HO934.out) hb)
   have n2_ := zm (Kd.R_below (by (with_reducible repeat (first | apply Kd.R_alloc | apply Kd.R_drewN | apply Kd.R_drew)); exact HO942.out) hb)
   have n3_ := zm (Kd.R_below (by (with_reducible repeat (first | apply Kd.R_alloc | apply Kd.R_drewN | apply Kd.R_drew)); exact HO947.out) hb)
   have n4_ := zm (blk_below (g := gb924) zk hb)
   have n5_ := zm (blk_below (g := gb925) zk hb)
   have n6_ := zm (blk_below (g := gb944) zk hb)
   have n7_ := zm (below_step zb hb)
   clear HO930
   clear HO934
   clear HO942
   clear HO947
   clear BK924
   clear BK925
   clear BK944
   clear HB
   have HO930 := n0_
   have HO934 := n1_
   have HO942 := n2_
   have HO947 := n3_
   have BK924 := n4_
   have BK925 := n5_
   have BK944 := n6_
   have HB := n7_
   clear n0_ n1_ n2_ n3_ n4_ n5_ n6_ n7_
   (try clear hb)
   (try clear hb2)
   (try clear hk)
   (try clear hi)
   refine hK.out _ _ ⟨(blk_cell BK944.out 0).trans rfl, (blk_cell BK944.out 1).trans rfl, (blk_cell BK925.out 0).trans rfl, (blk_cell BK925.out 1).trans rfl, (blk_cell BK925.out 2).trans rfl⟩ (fun hHeld => ?_)
   clear hK K
   refine norm_ (a' := ?_) ?_ ?_
   rotate_left
   ·
    show Act.put _ (some 43) _ = _
    simp only [Act.put, zA, zB, zD, i64_w, i32_w]
    rfl
   refine pure_ (i := 5) (N := some 38) (v := ?_) (a' := ?_) #[true, true, true, true, true, true, false, false, false, false] rfl rfl (any_of HT_.out (by kernel_rfl)) (fun _ _ _ h => h) (Or.inl ⟨by rfl, ?_⟩) ?_ ?_
   rotate_left
   ·
    intro w'
    go_simp
    with_reducible rfl
   rotate_left
   ·
    simp only [Act.put, zA, zB, zD, i64_w, i32_w]
    rfl
   refine pure_ (i := 6) (N := some 44) (v := ?_) (a' := ?_) #[true, true, true, true, true, true, true, false, false, false] rfl rfl (any_of HT_.out (by kernel_rfl)) (fun _ _ _ h => h) (Or.inl ⟨by rfl, ?_⟩) ?_ ?_
   rotate_left
   ·
    intro w'
    go_simp
    with_reducible rfl
   rotate_left
   ·
    simp only [Act.put, zA, zB, zD, i64_w, i32_w]
    rfl
   refine pure_ (i := 7) (N := some 45) (v := ?_) (a' := ?_) #[true, true, true, true, true, true, true, true, false, false] rfl rfl (any_of HT_.out (by kernel_rfl)) (fun _ _ _ h => h) (Or.inl ⟨by rfl, ?_⟩) ?_ ?_
   rotate_left
   ·
    intro w'
    go_simp
    with_reducible rfl
   rotate_left
   ·
    simp only [Act.put, zA, zB, zD, i64_w, i32_w]
    rfl
   refine pure_ (i := 8) (N := some 12) (v := ?_) (a' := ?_) #[true, true, true, true, true, true, true, true, true, false] rfl rfl (any_of HT_.out (by kernel_rfl)) (fun _ _ _ h => h) (Or.inl ⟨by rfl, ?_⟩) ?_ ?_
   rotate_left
   ·
    intro w'
    go_simp
    with_reducible rfl
   rotate_left
   ·
    simp only [Act.put, zA, zB, zD, i64_w, i32_w]
    rfl
   refine pure_ (i := 9) (N := some 13) (v := ?_) (a' := ?_) #[true, true, true, true, true, true, true, true, true, true] rfl rfl (any_of HT_.out (by kernel_rfl)) (fun _ _ _ h => h) (Or.inl ⟨by rfl, ?_⟩) ?_ ?_
   rotate_left
   ·
    intro w'
    go_simp
    with_reducible rfl
   rotate_left
   ·
    simp only [Act.put, zA, zB, zD, i64_w, i32_w]
    rfl
   refine done_ (done_of HT_.out (by kernel_rfl)) ?_
   go_upto_region 12 with (fail)
   go_cut [53] (fun v53 wc => ∃ (kq : Nat) (x53_25 : Bool), v53 = .bool x53_25 ∧ Aside0 (laws_FnExactWindNeeded.j0 kq l1 t945 x53_25 l0_0 a0_1 t940 t943 = some r) ∧ Aside0 (kq ≤ k) ∧ Aside0 (Kd.R k73 73 wc w.heap.size (fun _ => True) (.slice Ao49 t945.length co49) t945) ∧ Aside0 (Kd.R (Kd.int .i64) 3 wc w.heap.size (fun _ => True) (.slice Ao42 t940.length co42) t940) ∧ Aside0 (wc.heap[gb924]? = some (.cells #[(.slice A0_0 l0_0.length c0_0), .int .i64 a0_1] 24 (0, 0))) ∧ Aside0 (wc.heap[gb925]? = some (.cells #[.int .i64 a2_0, .int .i64 a2_1, .int .i64 a2_2] 27 (0, 0))) ∧ Aside0 (wc.heap[gb944]? = some (.cells #[(.slice Ao42 t940.length co42), .int .i64 t943] 32 (0, 0))) ∧ Aside0 (Below w.heap.size w wc))
   case first =>
    have H := HC26.out
    clear HC26
    by_cases c51 : t951 = t938
    ·
     rw [if_pos c51] at H
     have c51b0 : (t951 == t938) = true := beq_iff_eq.mpr c51
     have c51b1 : (t951 != t938) = false := bne_eq_false_iff_eq.mpr c51
     clear c51
     (first | rw [c51b0] | (simp only [i64_w, i32_w]; rw [c51b0]) | skip)
     have H' := zm H
     clear H
     go_wp2
     go_meet
     case rel => exact ⟨_, ((t952 != t939)), (by first | rfl | (simp; done) | (simp [*]; done)), H', ⟨by first | omega | exact Nat.le_refl _⟩, ⟨by (with_reducible repeat (first | apply Kd.R_alloc | apply Kd.R_drewN | apply Kd.R_drew)); exact Kd.R_mono HO947.out (fun _ hk => trivial)⟩, ⟨by (with_reducible repeat (first | apply Kd.R_alloc | apply Kd.R_drewN | apply Kd.R_drew)); exact Kd.R_mono HO942.out (fun _ hk => trivial)⟩, ⟨zk⟩, ⟨zk⟩, ⟨zk⟩, ⟨zb⟩⟩
    ·
     rw [if_neg c51] at H
     have c51b0 : (t951 == t938) = false := beq_eq_false_iff_ne.mpr c51
     have c51b1 : (t951 != t938) = true := bne_iff_ne.mpr c51
     (first | rw [c51b0] | (simp only [i64_w, i32_w]; rw [c51b0]) | skip)
     exact (laws_FnExactWindNeeded.j0_t (H.trans (congrArg some hr_))).elim
   case rest =>
    clear HC26
    try clear c1
    try clear c2
    try clear p2
    try clear c4
    try clear c5
    try clear c5b0
    try clear c8
    try clear c9
    try clear c11
    try clear c12
    try clear c12b0
    try clear c14
    try clear c15
    try clear c16
    try clear c29
    try clear c43
    try clear c44
    try clear c45
    try clear c51
    try clear c51b0
    try clear c51b1
    try clear hcz16_0
    try clear hcz16_1
    try clear hcz30_0
    try clear hcz30_1
    try clear hcz39_0
    try clear hcz39_1
    try clear hcz45_0
    try clear hcz45_1
    try clear hcz9_0
    try clear hcz9_1
    try clear hfz16_0
    try clear hfz16_1
    try clear hfz30_0
    try clear hfz30_1
    try clear hfz39_0
    try clear hfz39_1
    try clear hfz45_0
    try clear hfz45_1
    try clear hfz9_0
    try clear hfz9_1
    obtain ⟨kq, x53_25, rfl, HA, HJ25, HO_11, HO_945000, BK924, BK925, BK944, HB⟩ := hcut
    cases kq with
    | zero => exact absurd HA.out (by simp [laws_FnExactWindNeeded.j0])
    | succ kj25 =>
     have H := HA.out
     clear HA
     simp only [laws_FnExactWindNeeded.j0] at H
     by_cases c52 : x53_25 = true
     ·
      subst c52
      have H1 : (some false) = some r := by rw [if_pos rfl] at H; exact H
      clear H
      have H := H1
      clear H1
      exact absurd ((Option.some.inj H).trans hr_) (by decide)
     ·
      replace c52 := Bool.eq_false_iff.mpr c52
      subst c52
      have H1 : ((laws_toInstrument.f kj25 l0_0 a0_1).bind fun bt953 => ((laws_eqInstrument.f kj25 t940 t943 bt953.1 bt953.2).bind fun t957 => (if t957 = true then ((laws_toHoleS.f kj25 l1).bind fun t958 => ((laws_eqHoleS.f kj25 t945 t958).bind fun t961 => (if t961 = true then (some true) else (some false)))) else (some false)))) = some r := by rw [if_neg (show ¬ (false = true) by decide)] at H; exact H
      clear H
      have H := H1
      clear H1
      replace H := Option.bind_eq_some_iff.mp H
      obtain ⟨⟨t953, t956⟩, A530, H⟩ := H
      replace H : ((laws_eqInstrument.f kj25 t940 t943 t953 t956).bind fun t957 => (if t957 = true then ((laws_toHoleS.f kj25 l1).bind fun t958 => ((laws_eqHoleS.f kj25 t945 t958).bind fun t961 => (if t961 = true then (some true) else (some false)))) else (some false))) = some r := H
      have A53 := zm A530
      clear A530
      replace H := Option.bind_eq_some_iff.mp H
      obtain ⟨t957, A540, H⟩ := H
      replace H : (if t957 = true then ((laws_toHoleS.f kj25 l1).bind fun t958 => ((laws_eqHoleS.f kj25 t945 t958).bind fun t961 => (if t961 = true then (some true) else (some false)))) else (some false)) = some r := H
      have A54 := zm A540
      clear A540
      by_cases c55 : t957 = true
      ·
       subst c55
       have H1 : ((laws_toHoleS.f kj25 l1).bind fun t958 => ((laws_eqHoleS.f kj25 t945 t958).bind fun t961 => (if t961 = true then (some true) else (some false)))) = some r := by rw [if_pos rfl] at H; exact H
       clear H
       have H := H1
       clear H1
       replace H := Option.bind_eq_some_iff.mp H
       obtain ⟨t958, A560, H⟩ := H
       replace H : ((laws_eqHoleS.f kj25 t945 t958).bind fun t961 => (if t961 = true then (some true) else (some false))) = some r := H
       have A56 := zm A560
       clear A560
       replace H := Option.bind_eq_some_iff.mp H
       obtain ⟨t961, A570, H⟩ := H
       replace H : (if t961 = true then (some true) else (some false)) = some r := H
       have A57 := zm A570
       clear A570
       by_cases c58 : t961 = true
       ·
        subst c58
        have H1 : (some true) = some r := by rw [if_pos rfl] at H; exact H
        clear H
        have H := H1
        clear H1
        obtain rfl := Option.some.inj H
        try go_wp2
        have n0_ := zm (Kd.R_drew HO_11.out)
        have n1_ := zm (Kd.R_drew HO_945000.out)
        have n2_ := zm (blk_drew BK924.out)
        have n3_ := zm (blk_drew BK925.out)
        have n4_ := zm (blk_drew BK944.out)
        have n5_ := zm (below_drew1 HB.out)
        clear HO_11
        clear HO_945000
        clear BK924
        clear BK925
        clear BK944
        clear HB
        have HO_11 := n0_
        have HO_945000 := n1_
        have BK924 := n2_
        have BK925 := n3_
        have BK944 := n4_
        have HB := n5_
        clear n0_ n1_ n2_ n3_ n4_ n5_
        refine start_ (n := 5) (S := fun w' => w'.cell? ⟨gb944, 0, none⟩ = some (.slice Ao42 t940.length co42) ∧ w'.cell? ⟨gb944, 1, none⟩ = some (.int .i64 t943) ∧ w'.cell? ⟨gb924, 0, none⟩ = some (.slice A0_0 l0_0.length c0_0) ∧ w'.cell? ⟨gb924, 1, none⟩ = some (.int .i64 a0_1)) (ds := []) #[false, false, false, false, false] (by kernel_rfl) rfl rfl ⟨(blk_cell BK944.out 0).trans rfl, (blk_cell BK944.out 1).trans rfl, (blk_cell BK924.out 0).trans rfl, (blk_cell BK924.out 1).trans rfl⟩ (fun hHeld => ?_)
        generalize wc.drew = w59 at HO_11 HO_945000 BK924 BK925 BK944 HB hHeld ⊢
        refine take_ (i := 0) (N := some 54) (v := ?_) (a' := ?_) #[true, false, false, false, false] rfl rfl (by kernel_rfl) (fun _ _ _ h => h) (Or.inl ⟨by rfl, ?_⟩) hHeld ?_ ?_
        rotate_left
        ·
         rintro w' ⟨s0, s1, s2, s3⟩
         go_simp
         with_reducible rfl
        rotate_left
        ·
         simp only [Act.put, zA, zB, zD, i64_w, i32_w]
         rfl
        refine take_ (i := 1) (N := some 55) (v := ?_) (a' := ?_) #[true, true, false, false, false] rfl rfl (by kernel_rfl) (fun _ _ _ h => h) (Or.inl ⟨by rfl, ?_⟩) hHeld ?_ ?_
        rotate_left
        ·
         rintro w' ⟨s0, s1, s2, s3⟩
         go_simp
         with_reducible rfl
        rotate_left
        ·
         simp only [Act.put, zA, zB, zD, i64_w, i32_w]
         rfl
        refine one_ (i := 2) (N := some 56) #[true, true, true, false, false] rfl rfl (by kernel_rfl) (by decide) (fun K hK => ?_)
        refine goes_ Try.func14 (by kernel_rfl) rfl #[.agg #[.slice A0_0 l0_0.length c0_0, .int .i64 a0_1]] (by rfl) rfl rfl (by (try simp only [List.map_toArray, List.map_cons, List.map_nil]); first | done | rfl | (simp only [List.length_drop, List.length_take]; rfl)) ?_
        with_reducible refine (laws_toInstrument.calls kj25 _ _ l0_0 a0_1 t953 t956 _ ?side1 ?side2 A53.out).mono ?_
        (case side1 => repeat (first | exact (Kd.C_below HR0_0.out HB.out) | (with_reducible refine Kd.C_alloc ?_ _) | (with_reducible refine Kd.C_drewN ?_ _) | (with_reducible refine Kd.C_drew ?_)))
        (case side2 => exact HC0_0.out)
        rintro e w60 ⟨v954, rfl, ho0, hb⟩
        refine ⟨_, rfl, ?_⟩
        have n0_ := zm (Kd.R_below (by (with_reducible repeat (first | apply Kd.R_alloc | apply Kd.R_drewN | apply Kd.R_drew)); exact HO_11.out) hb)
        have n1_ := zm (Kd.R_elder' (by (with_reducible repeat (first | apply Kd.R_alloc | apply Kd.R_drewN | apply Kd.R_drew)); exact HO_945000.out) (Kd.R_base ho0) hb)
        have n2_ := zm (Kd.R_lower (Kd.R_new' ho0 (Kd.R_lt (by (with_reducible repeat (first | apply Kd.R_alloc | apply Kd.R_drewN | apply Kd.R_drew)); exact HO_945000.out))) (below_size zb))
        have n3_ := zm (blk_below (g := gb924) zk hb)
        have n4_ := zm (blk_below (g := gb925) zk hb)
        have n5_ := zm (blk_below (g := gb944) zk hb)
        have n6_ := zm (below_step zb hb)
        clear HO_11
        clear HO_945000
        clear BK924
        clear BK925
        clear BK944
        clear HB
        have HO_11 := n0_
        have HO_945000 := n1_
        have HO955 := n2_
        have BK924 := n3_
        have BK925 := n4_
        have BK944 := n5_
        have HB := n6_
        clear n0_ n1_ n2_ n3_ n4_ n5_ n6_
        (try clear hb)
        (try clear hb2)
        (try clear hk)
        (try clear hi)
        (try clear ho0)
        obtain ⟨Ao61, co61, eo61⟩ := Kd.R_slice HO955.out
        (first | subst eo61 | (injection eo61 with f1_ f2_ f3_; have f4_ := f1_.symm; have f5_ := f3_.symm; clear f1_ f2_ f3_; subst f4_; subst f5_))
        refine hK.out _ _ ⟨(blk_cell BK944.out 0).trans rfl, (blk_cell BK944.out 1).trans rfl, (blk_cell BK924.out 0).trans rfl, (blk_cell BK924.out 1).trans rfl⟩ (fun hHeld => ?_)
        clear hK K
        refine norm_ (a' := ?_) ?_ ?_
        rotate_left
        ·
         show Act.put _ (some 56) _ = _
         simp only [Act.put, zA, zB, zD, i64_w, i32_w]
         rfl
        refine one_ (i := 3) (N := some 57) #[true, true, true, true, false] rfl rfl (by kernel_rfl) (by decide) (fun K hK => ?_)
        refine goes_ Try.func18 (by kernel_rfl) rfl #[.agg #[.slice Ao42 t940.length co42, .int .i64 t943], .agg #[.slice Ao61 t953.length co61, .int .i64 t956]] (by rfl) rfl rfl (by (try simp only [List.map_toArray, List.map_cons, List.map_nil]); first | done | rfl | (simp only [List.length_drop, List.length_take]; rfl)) ?_
        with_reducible refine (laws_eqInstrument.calls kj25 _ _ t940 t943 _ _ t953 t956 true _ ?side1 ?side2 ?side3 ?side4 A54.out).mono ?_
        (case side1 => repeat (first | exact (Kd.R_reads' HO_945000.out).2.2 | (with_reducible refine Kd.C_alloc ?_ _) | (with_reducible refine Kd.C_drewN ?_ _) | (with_reducible refine Kd.C_drew ?_)))
        (case side2 => exact (Kd.R_reads' HO_945000.out).2.1)
        (case side3 => repeat (first | exact (Kd.R_reads' HO955.out).2.2 | (with_reducible refine Kd.C_alloc ?_ _) | (with_reducible refine Kd.C_drewN ?_ _) | (with_reducible refine Kd.C_drew ?_)))
        (case side4 => exact (Kd.R_reads' HO955.out).2.1)
        rintro e w62 ⟨rfl, hb⟩
        refine ⟨_, rfl, ?_⟩
        have n0_ := zm (Kd.R_below (by (with_reducible repeat (first | apply Kd.R_alloc | apply Kd.R_drewN | apply Kd.R_drew)); exact HO_11.out) hb)
        have n1_ := zm (Kd.R_below (by (with_reducible repeat (first | apply Kd.R_alloc | apply Kd.R_drewN | apply Kd.R_drew)); exact HO_945000.out) hb)
        have n2_ := zm (Kd.R_below (by (with_reducible repeat (first | apply Kd.R_alloc | apply Kd.R_drewN | apply Kd.R_drew)); exact HO955.out) hb)
        have n3_ := zm (blk_below (g := gb924) zk hb)
        have n4_ := zm (blk_below (g := gb925) zk hb)
        have n5_ := zm (blk_below (g := gb944) zk hb)
        have n6_ := zm (below_step zb hb)
        clear HO_11
        clear HO_945000
        clear HO955
        clear BK924
        clear BK925
        clear BK944
        clear HB
        have HO_11 := n0_
        have HO_945000 := n1_
        have HO955 := n2_
        have BK924 := n3_
        have BK925 := n4_
        have BK944 := n5_
        have HB := n6_
        clear n0_ n1_ n2_ n3_ n4_ n5_ n6_
        (try clear hb)
        (try clear hb2)
        (try clear hk)
        (try clear hi)
        refine hK.out _ _ ⟨(blk_cell BK944.out 0).trans rfl, (blk_cell BK944.out 1).trans rfl, (blk_cell BK924.out 0).trans rfl, (blk_cell BK924.out 1).trans rfl⟩ (fun hHeld => ?_)
        clear hK K
        refine norm_ (a' := ?_) ?_ ?_
        rotate_left
        ·
         show Act.put _ (some 57) _ = _
         simp only [Act.put, zA, zB, zD, i64_w, i32_w]
         rfl
        refine pure_ (i := 4) (N := some 58) (v := ?_) (a' := ?_) #[true, true, true, true, true] rfl rfl (by kernel_rfl) (fun _ _ _ h => h) (Or.inl ⟨by rfl, ?_⟩) ?_ ?_
        rotate_left
        ·
         intro w'
         go_simp
         with_reducible rfl
        rotate_left
        ·
         simp only [Act.put, zA, zB, zD, i64_w, i32_w]
         rfl
        refine done_ (by kernel_rfl) ?_
        try go_wp2_with (first | ((with_reducible refine gate_callee (f := 15) rfl ?_); refine goesL_ (some 61) rfl rfl Try.func15 (by kernel_rfl) rfl #[.slice A1 l1.length c1] rfl (by (try simp only [List.map_toArray, List.map_cons, List.map_nil]); first | done | rfl | (simp only [List.length_drop, List.length_take]; rfl)) ?_; (with_reducible refine (laws_toHoleS.calls kj25 _ _ l1 t958 _ ?side1 ?side2 A56.out).mono ?_); (case side1 => repeat (first | exact (Kd.C_below HR1.out HB.out) | (with_reducible refine Kd.C_alloc ?_ _) | (with_reducible refine Kd.C_drewN ?_ _) | (with_reducible refine Kd.C_drew ?_))); (case side2 => exact HC1.out); rintro e w63 ⟨v959, rfl, ho0, hb⟩; refine ⟨_, rfl, ?_⟩; have n0_ := zm (Kd.R_elder' (by (with_reducible repeat (first | apply Kd.R_alloc | apply Kd.R_drewN | apply Kd.R_drew)); exact HO_11.out) (Kd.R_base ho0) hb); have n1_ := zm (Kd.R_below (by (with_reducible repeat (first | apply Kd.R_alloc | apply Kd.R_drewN | apply Kd.R_drew)); exact HO_945000.out) hb); have n2_ := zm (Kd.R_below (by (with_reducible repeat (first | apply Kd.R_alloc | apply Kd.R_drewN | apply Kd.R_drew)); exact HO955.out) hb); have n3_ := zm (Kd.R_lower (Kd.R_new' ho0 (Kd.R_lt (by (with_reducible repeat (first | apply Kd.R_alloc | apply Kd.R_drewN | apply Kd.R_drew)); exact HO_11.out))) (below_size zb)); have n4_ := zm (blk_below (g := gb924) zk hb); have n5_ := zm (blk_below (g := gb925) zk hb); have n6_ := zm (blk_below (g := gb944) zk hb); have n7_ := zm (below_step zb hb); clear HO_11; clear HO_945000; clear HO955; clear BK924; clear BK925; clear BK944; clear HB; have HO_11 := n0_; have HO_945000 := n1_; have HO955 := n2_; have HO960 := n3_; have BK924 := n4_; have BK925 := n5_; have BK944 := n6_; have HB := n7_; clear n0_ n1_ n2_ n3_ n4_ n5_ n6_ n7_; (try clear hb); (try clear hb2); (try clear hk); (try clear hi); (try clear ho0); obtain ⟨Ao64, co64, eo64⟩ := Kd.R_slice HO960.out; subst eo64) | ((with_reducible refine gate_callee (f := 19) rfl ?_); refine goesL_ (some 62) rfl rfl Try.func19 (by kernel_rfl) rfl #[.slice Ao49 t945.length co49, .slice Ao64 t958.length co64] rfl (by (try simp only [List.map_toArray, List.map_cons, List.map_nil]); first | done | rfl | (simp only [List.length_drop, List.length_take]; rfl)) ?_; (with_reducible refine (laws_eqHoleS.calls kj25 _ _ t945 _ _ t958 true _ ?side1 ?side2 ?side3 ?side4 A57.out).mono ?_); (case side1 => repeat (first | exact (Kd.R_reads' HO_11.out).2.2 | (with_reducible refine Kd.C_alloc ?_ _) | (with_reducible refine Kd.C_drewN ?_ _) | (with_reducible refine Kd.C_drew ?_))); (case side2 => exact (Kd.R_reads' HO_11.out).2.1); (case side3 => repeat (first | exact (Kd.R_reads' HO960.out).2.2 | (with_reducible refine Kd.C_alloc ?_ _) | (with_reducible refine Kd.C_drewN ?_ _) | (with_reducible refine Kd.C_drew ?_))); (case side4 => exact (Kd.R_reads' HO960.out).2.1); rintro e w65 ⟨rfl, hb⟩; refine ⟨_, rfl, ?_⟩; have n0_ := zm (Kd.R_below (by (with_reducible repeat (first | apply Kd.R_alloc | apply Kd.R_drewN | apply Kd.R_drew)); exact HO_11.out) hb); have n1_ := zm (Kd.R_below (by (with_reducible repeat (first | apply Kd.R_alloc | apply Kd.R_drewN | apply Kd.R_drew)); exact HO_945000.out) hb); have n2_ := zm (Kd.R_below (by (with_reducible repeat (first | apply Kd.R_alloc | apply Kd.R_drewN | apply Kd.R_drew)); exact HO955.out) hb); have n3_ := zm (Kd.R_below (by (with_reducible repeat (first | apply Kd.R_alloc | apply Kd.R_drewN | apply Kd.R_drew)); exact HO960.out) hb); have n4_ := zm (blk_below (g := gb924) zk hb); have n5_ := zm (blk_below (g := gb925) zk hb); have n6_ := zm (blk_below (g := gb944) zk hb); have n7_ := zm (below_step zb hb); clear HO_11; clear HO_945000; clear HO955; clear HO960; clear BK924; clear BK925; clear BK944; clear HB; have HO_11 := n0_; have HO_945000 := n1_; have HO955 := n2_; have HO960 := n3_; have BK924 := n4_; have BK925 := n5_; have BK944 := n6_; have HB := n7_; clear n0_ n1_ n2_ n3_ n4_ n5_ n6_ n7_; (try clear hb); (try clear hb2); (try clear hk); (try clear hi)))
        go_ret
        exact ⟨zr, zb⟩
       ·
        replace c58 := Bool.eq_false_iff.mpr c58
        subst c58
        have H1 : (some false) = some r := by rw [if_neg (show ¬ (false = true) by decide)] at H; exact H
        clear H
        have H := H1
        clear H1
        exact absurd ((Option.some.inj H).trans hr_) (by decide)
      ·
       replace c55 := Bool.eq_false_iff.mpr c55
       subst c55
       have H1 : (some false) = some r := by rw [if_neg (show ¬ (false = true) by decide)] at H; exact H
       clear H
       have H := H1
       clear H1
       exact absurd ((Option.some.inj H).trans hr_) (by decide)

end Go.Proofs.Ytioheacdldgaaaa.PAll
