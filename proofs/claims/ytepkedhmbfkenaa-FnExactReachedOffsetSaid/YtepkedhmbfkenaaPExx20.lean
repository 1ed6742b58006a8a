-- Written for this claim by a program of this session (wip/tpl/patchprint.py), not by print.sh.
import Derived.Test.YtepkedhmbfkenaaPExx0
import Derived.Test.YtepkedhmbfkenaaPExx18
import Derived.Test.YtepkedhmbfkenaaPExx19
namespace Go.Proofs.Ytepkedhmbfkenaa.PEx
open Go.RowKit Go.Proofs.YtepkedhmbfkenaaW.PrintWords Go.Proofs.YtepkedhmbfkenaaW.PrintLast Go.Proofs.YtepkedhmbfkenaaW.PrintMore
attribute [local go_sem] max2_int min2_int max_two min_two max_three min_three max_four min_four   -- for this text's walks alone
set_option linter.unusedVariables false
set_option linter.unusedSimpArgs false

/-! ### laws_FnExactReachedOffset: function 6 -/
def laws_FnExactReachedOffset.f (k : Nat) (a0_0 : Int) (a0_1 : Int) (a1 : Int) : Option (Bool) := (laws_toController.f a0_0 a0_1).bind fun bt679 => ((spec_ReachedOffset.f k bt679.1 bt679.2 a1).bind fun bt681 => ((laws_toController.f a0_0 a0_1).bind fun bt683 => ((impl_ReachedOffset.f k bt683.1 bt683.2 a1).bind fun bt685 => (if bt685.1 = bt681.1 then (if (bt685.2 != bt681.2) = true then (some false) else (some true)) else (some false)))))
theorem laws_FnExactReachedOffset.mono : ∀ a0 a1 a2 k, LeO (laws_FnExactReachedOffset.f k a0 a1 a2) (laws_FnExactReachedOffset.f (k + 1) a0 a1 a2) := by
  intro a0 a1 a2 k
  unfold laws_FnExactReachedOffset.f
  repeat' first
      | (with_reducible exact impl_ReachedOffset.mono _ _ _ _)
      | (with_reducible exact spec_ReachedOffset.mono _ _ _ _)
      | (with_reducible exact LeO.refl _)
      | (with_reducible exact LeO.none _)
      | (with_reducible refine LeO.ite ?_ ?_)
      | (with_reducible refine LeO.bind ?_ (fun _ => ?_))
      | exact impl_ReachedOffset.mono _ _ _ _
      | exact spec_ReachedOffset.mono _ _ _ _
      | exact LeO.none _
      | refine LeO.ite ?_ ?_
      | refine LeO.bind ?_ (fun _ => ?_)
set_option maxHeartbeats 8000000 in
set_option maxRecDepth 100000 in
theorem laws_FnExactReachedOffset.calls (k : Nat) (a0_0 : Int) (a0_1 : Int) (a1 : Int) (r : Bool) (w : World) (h : laws_FnExactReachedOffset.f k a0_0 a0_1 a1 = some r) (hr_ : r = true) :
  Calls Try.prog 6 #[.agg #[.int .i64 a0_0, .int .i64 a0_1], .int .i64 a1] w fun e w' => e = .returned (.bool r) ∧ Below w.heap.size w w' := by
 have hu44 := Try.underlying44
 have HB := zm (Below.refl w.heap.size w)
 have H : ((laws_toController.f a0_0 a0_1).bind fun bt679 => ((spec_ReachedOffset.f k bt679.1 bt679.2 a1).bind fun bt681 => ((laws_toController.f a0_0 a0_1).bind fun bt683 => ((impl_ReachedOffset.f k bt683.1 bt683.2 a1).bind fun bt685 => (if bt685.1 = bt681.1 then (if (bt685.2 != bt681.2) = true then (some false) else (some true)) else (some false)))))) = some r := h
 clear h
 replace H := Option.bind_eq_some_iff.mp H
 obtain ⟨⟨t679, t680⟩, A30, H⟩ := H
 replace H : ((spec_ReachedOffset.f k t679 t680 a1).bind fun bt681 => ((laws_toController.f a0_0 a0_1).bind fun bt683 => ((impl_ReachedOffset.f k bt683.1 bt683.2 a1).bind fun bt685 => (if bt685.1 = bt681.1 then (if (bt685.2 != bt681.2) = true then (some false) else (some true)) else (some false))))) = some r := H
 have A3 := zm A30
 clear A30
 replace H := Option.bind_eq_some_iff.mp H
 obtain ⟨⟨t681, t682⟩, A40, H⟩ := H
 replace H : ((laws_toController.f a0_0 a0_1).bind fun bt683 => ((impl_ReachedOffset.f k bt683.1 bt683.2 a1).bind fun bt685 => (if bt685.1 = t681 then (if (bt685.2 != t682) = true then (some false) else (some true)) else (some false)))) = some r := H
 have A4 := zm A40
 clear A40
 replace H := Option.bind_eq_some_iff.mp H
 obtain ⟨⟨t683, t684⟩, A50, H⟩ := H
 replace H : ((impl_ReachedOffset.f k t683 t684 a1).bind fun bt685 => (if bt685.1 = t681 then (if (bt685.2 != t682) = true then (some false) else (some true)) else (some false))) = some r := H
 have A5 := zm A50
 clear A50
 replace H := Option.bind_eq_some_iff.mp H
 obtain ⟨⟨t685, t686⟩, A60, H⟩ := H
 replace H : (if t685 = t681 then (if (t686 != t682) = true then (some false) else (some true)) else (some false)) = some r := H
 have A6 := zm A60
 clear A60
 by_cases c7 : t685 = t681
 ·
  rw [if_pos c7] at H
  have c7b0 : (t685 == t681) = true := beq_iff_eq.mpr c7
  have c7b1 : (t685 != t681) = false := bne_eq_false_iff_eq.mpr c7
  clear c7
  by_cases c8 : (t686 != t682) = true
  ·
   rw [if_pos c8] at H
   have c8b0 : (t686 != t682) = true := c8
   (try (have c8b1 : decide (t686 = t682) = false := by simpa using c8))
   (try (have c8b2 : (t686 == t682) = false := by simpa using c8))
   (try (have c8b3 : ¬ (t686 = t682) := by simpa using c8))
   clear c8
   exact absurd ((Option.some.inj H).trans hr_) (by decide)
  ·
   rw [if_neg c8] at H
   have c8b0 : (t686 != t682) = false := by simpa using c8
   (try (have c8b1 : decide (t686 = t682) = true := by simpa using c8))
   (try (have c8b2 : (t686 == t682) = true := by simpa using c8))
   clear c8
   obtain rfl := Option.some.inj H
   go_enter Try.func6, Try.ntmps6
   go_wp2_with (first | ((with_reducible refine gate_dst (N := 2) rfl ?_); refine box_event ?hg (N := 2) ?hd (cs := #[.int .i64 a0_0, .int .i64 a0_1]) (t := 44) ?hr ?_; (case hd => rfl); (case hg => rfl); (case hr => first | (go_simp; done) | (go_simp; rfl)); intro gb678 hg w9 hbox hb; have n0_ := zm (below_step zb hb); have n1_ := zm (hbox); have n2_ := zm (zs hg zb : w.heap.size ≤ gb678); have n3_ := zm (zs hg zb : w.heap.size ≤ gb678); clear HB; have HB := n0_; have BK678 := n1_; have GW678 := n2_; have GE678 := n3_; clear n0_ n1_ n2_ n3_; clear hb hbox hg; obtain ⟨hcz10_0, hcz10_1, hfz10_0, hfz10_1⟩ := zc2 BK678.out) | ((with_reducible refine gate_callee (f := 27) rfl ?_); refine goesL_ (some 11) rfl rfl Try.func27 (by kernel_rfl) rfl #[.agg #[.int .i64 a0_0, .int .i64 a0_1]] rfl (by (try simp only [List.map_toArray, List.map_cons, List.map_nil]); first | done | rfl | (simp only [List.length_drop, List.length_take]; rfl)) ?_; (with_reducible refine (laws_toController.calls a0_0 a0_1 t679 t680 _ A3.out).mono ?_); rintro e w11 ⟨rfl, hb⟩; refine ⟨_, rfl, ?_⟩; have n0_ := zm (blk_below (g := gb678) zk hb); have n1_ := zm (below_step zb hb); clear BK678; clear HB; have BK678 := n0_; have HB := n1_; clear n0_ n1_; (try clear hb); (try clear hb2); (try clear hk); (try clear hi)) | ((with_reducible refine gate_callee (f := 26) rfl ?_); refine goesL_ (some 13) rfl rfl Try.func26 (by kernel_rfl) rfl #[.agg #[.int .i64 t679, .int .i64 t680], .int .i64 a1] rfl (by (try simp only [List.map_toArray, List.map_cons, List.map_nil]); first | done | rfl | (simp only [List.length_drop, List.length_take]; rfl)) ?_; (with_reducible refine (spec_ReachedOffset.calls k t679 t680 a1 t681 t682 _ A4.out).mono ?_); rintro e w12 ⟨rfl, hb⟩; refine ⟨_, rfl, ?_⟩; have n0_ := zm (blk_below (g := gb678) zk hb); have n1_ := zm (below_step zb hb); clear BK678; clear HB; have BK678 := n0_; have HB := n1_; clear n0_ n1_; (try clear hb); (try clear hb2); (try clear hk); (try clear hi); obtain ⟨hcz13_0, hcz13_1, hfz13_0, hfz13_1⟩ := zc2 BK678.out) | ((with_reducible refine gate_callee (f := 27) rfl ?_); refine goesL_ (some 18) rfl rfl Try.func27 (by kernel_rfl) rfl #[.agg #[.int .i64 a0_0, .int .i64 a0_1]] rfl (by (try simp only [List.map_toArray, List.map_cons, List.map_nil]); first | done | rfl | (simp only [List.length_drop, List.length_take]; rfl)) ?_; (with_reducible refine (laws_toController.calls a0_0 a0_1 t683 t684 _ A5.out).mono ?_); rintro e w14 ⟨rfl, hb⟩; refine ⟨_, rfl, ?_⟩; have n0_ := zm (blk_below (g := gb678) zk hb); have n1_ := zm (below_step zb hb); clear BK678; clear HB; have BK678 := n0_; have HB := n1_; clear n0_ n1_; (try clear hb); (try clear hb2); (try clear hk); (try clear hi)) | ((with_reducible refine gate_callee (f := 28) rfl ?_); refine goesL_ (some 20) rfl rfl Try.func28 (by kernel_rfl) rfl #[.agg #[.int .i64 t683, .int .i64 t684], .int .i64 a1] rfl (by (try simp only [List.map_toArray, List.map_cons, List.map_nil]); first | done | rfl | (simp only [List.length_drop, List.length_take]; rfl)) ?_; (with_reducible refine (impl_ReachedOffset.calls k t683 t684 a1 t685 t686 _ A6.out).mono ?_); rintro e w15 ⟨rfl, hb⟩; refine ⟨_, rfl, ?_⟩; have n0_ := zm (blk_below (g := gb678) zk hb); have n1_ := zm (below_step zb hb); clear BK678; clear HB; have BK678 := n0_; have HB := n1_; clear n0_ n1_; (try clear hb); (try clear hb2); (try clear hk); (try clear hi)))
   go_ret
   exact ⟨zr, zb⟩
 ·
  rw [if_neg c7] at H
  have c7b0 : (t685 == t681) = false := beq_eq_false_iff_ne.mpr c7
  have c7b1 : (t685 != t681) = true := bne_iff_ne.mpr c7
  exact absurd ((Option.some.inj H).trans hr_) (by decide)

/-! ### spec_l1Own: function 102 -/
def spec_l1Own.f (l0 : List Int) : Option (List Int) := (some (([] : List Int) : List Int)).bind fun y687 => (if y687.length + l0.length < 17592186044416 then (some (y687 ++ l0)) else (none))
set_option maxHeartbeats 8000000 in
set_option maxRecDepth 100000 in
theorem spec_l1Own.calls (A0 : Option Addr) (c0 : Nat) (l0 : List Int) (r : List Int) (w : World) (hr0 : Kd.C (Kd.int .i64) w A0 l0.length l0) (hc0 : l0.length ≤ c0) (h : spec_l1Own.f l0 = some r) :
  Calls Try.prog 102 #[.slice A0 l0.length c0] w fun e w' => ∃ v0_ : Value, e = .returned (v0_) ∧ Kd.R (Kd.int .i64) 3 w' w.heap.size (fun _ => True) v0_ r ∧ Below w.heap.size w w' := by
 have HR0 := zm hr0
 have HC0 := zm hc0
 clear hr0 hc0
 have HB := zm (Below.refl w.heap.size w)
 have H : ((some (([] : List Int) : List Int)).bind fun y687 => (if y687.length + l0.length < 17592186044416 then (some (y687 ++ l0)) else (none))) = some r := h
 clear h
 obtain ⟨y687, hy687⟩ : ∃ y_ : List Int, y_ = (([] : List Int)) := ⟨_, rfl⟩
 replace H : (if y687.length + l0.length < 17592186044416 then (some (y687 ++ l0)) else (none)) = some r := by first | (rw [hy687]; with_reducible exact H) | (have H2_ := (Option.bind_some _ _).symm.trans H; rw [hy687]; with_reducible exact H2_) | (have H2_ := (Option.bind_some _ _).symm.trans H; with_reducible exact H2_) | with_reducible exact H | (rw [hy687]; exact H) | exact H
 have Ny687 := zm hy687
 clear hy687
 by_cases c2 : y687.length + l0.length < 17592186044416
 ·
  rw [if_pos c2] at H
  have LMc2 := zm c2
  clear c2
  obtain ⟨y690, hy690⟩ : ∃ y_ : List Int, y_ = (y687 ++ l0) := ⟨_, rfl⟩
  replace H : (some y690) = some r := by first | (rw [hy690]; with_reducible exact H) | (have H2_ := (Option.bind_some _ _).symm.trans H; rw [hy690]; with_reducible exact H2_) | (have H2_ := (Option.bind_some _ _).symm.trans H; with_reducible exact H2_) | with_reducible exact H | (rw [hy690]; exact H) | exact H
  have Ny690 := zm hy690
  clear hy690
  obtain rfl := Option.some.inj H
  go_enter Try.func102, Try.ntmps102
  go_wp2_with (first | ((with_reducible refine gate_dst (N := 3) rfl ?_); refine Kd.R_lit (Kd.int .i64) _ 3 ?hg (N := 3) ?hd (xs := ([] : List Int)) (inner := []) (ok := fun _ => True) (okp := fun _ => True) ?hr ?hp (fun _ hk => hk) trivial (Below.refl _ _) (Nat.le_refl _) (by simp) ?_; (case hd => rfl); (case hg => rfl); (case hr => first | (go_simp; done) | (go_simp; rfl)); (case hp => exact (Reps.none _ _)); intro v688 w3 ho4 hb hg_ hnew_; clear hg_ hnew_; (first | rw [← Ny687.out] at ho4 | (simp only [Int.reduceToNat] at ho4; rw [← Ny687.out] at ho4)); have n0_ := zm (Kd.R_lower ho4 (below_size zb)); have n1_ := zm (below_step zb hb); clear HB; have HO689 := n0_; have HB := n1_; clear n0_ n1_; clear hb ho4) | ((with_reducible refine gate_builtin (b := .append) (xs := #[.tmp 3, .tmp 4]) rfl ?_); at_builtin; refine Kd.R_append_rows (Kd.int .i64) (w0 := w) w.heap.size rfl (.tmp 3) (.tmp 4) 23 3 (.int .i64 0) 8 rfl Try.underlying23 info3 rfl (by decide) (by omega) v688 y687 l0 _ _ _ (fun _ => True) (fun _ => False) rfl rfl ?aO ?aR (fun _ _ h => h) (fun _ h => h.elim) ?aF ?aB ?aS ?aL ?_; (case aR => repeat (first | exact (Kd.C_below HR0.out HB.out) | (with_reducible refine Kd.C_alloc ?_ _) | (with_reducible refine Kd.C_drewN ?_ _) | (with_reducible refine Kd.C_drew ?_))); (case aB => exact zb); (case aF => exact (fun _ _ => trivial)); (case aO => exact (by (with_reducible repeat (first | apply Kd.R_alloc | apply Kd.R_drewN | apply Kd.R_drew)); exact HO689.out)); (case aS => exact (below_size zb)); (case aL => have := LMc2.out; omega); intro v691 w5 ho hb hg hat; rw [← Ny690.out] at ho; have n0_ := zm (hb); have n1_ := zm (ho); clear HB; clear HO689; have HB := n0_; have HO692 := n1_; clear n0_ n1_; clear ho hb hg hat))
  go_ret
  exact ⟨_, zr, by (with_reducible repeat (first | apply Kd.R_alloc | apply Kd.R_drewN | apply Kd.R_drew)); exact HO692.out, zb⟩
 ·
  rw [if_neg c2] at H
  exact absurd H (by simp)

end Go.Proofs.Ytepkedhmbfkenaa.PEx
