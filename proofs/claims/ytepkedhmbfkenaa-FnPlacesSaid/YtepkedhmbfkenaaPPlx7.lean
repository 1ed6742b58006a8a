-- Written for this claim by a program of this session (wip/tpl/patchprint.py), not by print.sh.
import Derived.Test.YtepkedhmbfkenaaPPlx0
import Derived.Test.YtepkedhmbfkenaaPPlx1
import Derived.Test.YtepkedhmbfkenaaPPlx2
import Derived.Test.YtepkedhmbfkenaaPPlx3
import Derived.Test.YtepkedhmbfkenaaPPlx4
import Derived.Test.YtepkedhmbfkenaaPPlx5
import Derived.Test.YtepkedhmbfkenaaPPlx6
namespace Go.Proofs.Ytepkedhmbfkenaa.PPl
open Go.RowKit Go.Proofs.YtepkedhmbfkenaaW.PrintWords Go.Proofs.YtepkedhmbfkenaaW.PrintLast Go.Proofs.YtepkedhmbfkenaaW.PrintMore
attribute [local go_sem] max2_int min2_int max_two min_two max_three min_three max_four min_four   -- for this text's walks alone
set_option linter.unusedVariables false
set_option linter.unusedSimpArgs false

/-! ### spec_DrawIsWithin: function 64 -/
def spec_DrawIsWithin.j0 : Nat → List (S133) → Bool → List Int → Int → Int → Option ((List (S133)) × Int)
  | 0, _, _, _, _, _ => none
  | k + 1, x5, x19, x299000, x299001, x299002 => if x19 = true then ((spec_WorstError.f k x5).bind fun bt308 => ((spec_l1Abs.f bt308.2.1).bind fun t311 => ((spec_l1Cur_pick.f x299000 x299001 x299002 2).bind fun bt312 => ((spec_l1Most.f 0 (wrap64 (t311 - bt312.1))).bind fun t315 => (some (x5, t315)))))) else ((spec_l1Cur_among.f x299000 x299001 x299002 (([200001, (-1)] : List Int))).bind fun bt319 => ((spec_l1Cur_among.f x299000 bt319.2.1 bt319.2.2 (([0, 100, 1000, 5000, 200000, bt319.1] : List Int))).bind fun bt325 => (some (x5, bt325.1))))
def spec_DrawIsWithin.f (k : Nat) (l0 : List Int) : Option ((List (S133)) × Int) := (spec_l1Cur_segments.f k l0 0 0).bind fun bt299 => ((spec_stGood.f k bt299.1).bind fun t304 => (if t304 = true then ((spec_l1Cur_one.f l0 bt299.2.1 bt299.2.2 2).bind fun bt305 => (spec_DrawIsWithin.j0 k bt299.1 bt305.1 l0 bt305.2.1 bt305.2.2)) else (spec_DrawIsWithin.j0 k bt299.1 false l0 bt299.2.1 bt299.2.2)))
theorem spec_DrawIsWithin.mono_l : ∀ k, (∀ y0 y1 y2 y3 y4, LeO (spec_DrawIsWithin.j0 k y0 y1 y2 y3 y4) (spec_DrawIsWithin.j0 (k + 1) y0 y1 y2 y3 y4))
  | 0 => fun _ _ _ _ _ r h => by simp [spec_DrawIsWithin.j0] at h
  | k + 1 => by
    have ih0 := spec_DrawIsWithin.mono_l k
    · intro y0 y1 y2 y3 y4
      unfold spec_DrawIsWithin.j0
      repeat' first
      | (with_reducible exact ih0 _ _ _ _ _)
      | (with_reducible exact spec_WorstError.mono _ _)
      | (with_reducible exact spec_l1Cur_segments.mono _ _ _ _)
      | (with_reducible exact spec_stGood.mono _ _)
      | (with_reducible exact LeO.refl _)
      | (with_reducible exact LeO.none _)
      | (with_reducible refine LeO.ite ?_ ?_)
      | (with_reducible refine LeO.bind ?_ (fun _ => ?_))
      | exact ih0 _ _ _ _ _
      | exact spec_WorstError.mono _ _
      | exact spec_l1Cur_segments.mono _ _ _ _
      | exact spec_stGood.mono _ _
      | exact LeO.none _
      | refine LeO.ite ?_ ?_
      | refine LeO.bind ?_ (fun _ => ?_)
theorem spec_DrawIsWithin.mono : ∀ a0 k, LeO (spec_DrawIsWithin.f k a0) (spec_DrawIsWithin.f (k + 1) a0) := by
  intro a0 k
  have ih0 := spec_DrawIsWithin.mono_l k
  unfold spec_DrawIsWithin.f
  repeat' first
      | (with_reducible exact ih0 _ _ _ _ _)
      | (with_reducible exact spec_WorstError.mono _ _)
      | (with_reducible exact spec_l1Cur_segments.mono _ _ _ _)
      | (with_reducible exact spec_stGood.mono _ _)
      | (with_reducible exact LeO.refl _)
      | (with_reducible exact LeO.none _)
      | (with_reducible refine LeO.ite ?_ ?_)
      | (with_reducible refine LeO.bind ?_ (fun _ => ?_))
      | exact ih0 _ _ _ _ _
      | exact spec_WorstError.mono _ _
      | exact spec_l1Cur_segments.mono _ _ _ _
      | exact spec_stGood.mono _ _
      | exact LeO.none _
      | refine LeO.ite ?_ ?_
      | refine LeO.bind ?_ (fun _ => ?_)
set_option maxHeartbeats 8000000 in
set_option maxRecDepth 100000 in
theorem spec_DrawIsWithin.calls (k : Nat) (A0 : Option Addr) (c0 : Nat) (l0 : List Int) (r1 : List (S133)) (r2 : Int) (w : World) (hr0 : Kd.C (Kd.int .u8) w A0 l0.length l0) (hc0 : l0.length ≤ c0) (h : spec_DrawIsWithin.f k l0 = some (r1, r2)) :
  Calls Try.prog 64 #[.slice A0 l0.length c0] w fun e w' => ∃ v0_ : Value, e = .returned (.tuple #[v0_, .int .i64 r2]) ∧ Kd.R k133 133 w' w.heap.size (fun _ => True) v0_ r1 ∧ Below w.heap.size w w' := by
 have hu115 := Try.underlying115
 have HR0 := zm hr0
 have HC0 := zm hc0
 clear hr0 hc0
 have HB := zm (Below.refl w.heap.size w)
 have H : ((spec_l1Cur_segments.f k l0 0 0).bind fun bt299 => ((spec_stGood.f k bt299.1).bind fun t304 => (if t304 = true then ((spec_l1Cur_one.f l0 bt299.2.1 bt299.2.2 2).bind fun bt305 => (spec_DrawIsWithin.j0 k bt299.1 bt305.1 l0 bt305.2.1 bt305.2.2)) else (spec_DrawIsWithin.j0 k bt299.1 false l0 bt299.2.1 bt299.2.2)))) = some (r1, r2) := h
 clear h
 replace H := Option.bind_eq_some_iff.mp H
 obtain ⟨⟨t299, t302, t303⟩, A20, H⟩ := H
 (try dsimp only at H)
 have A2 := zm A20
 clear A20
 have HC3 := zm H
 clear H
 go_enter Try.func64, Try.ntmps64
 go_upto_region 3 with (first | ((with_reducible refine gate_dst (N := 11) rfl ?_); refine box_event ?hg (N := 11) ?hd (cs := #[.slice A0 l0.length c0, .int .i64 0, .int .u64 0]) (t := 115) ?hr ?_; (case hd => rfl); (case hg => rfl); (case hr => first | (go_simp; done) | (go_simp; rfl)); intro gb298 hg w4 hbox hb; have n0_ := zm (below_step zb hb); have n1_ := zm ((show IsS115 w _ gb298 l0 0 0 from ⟨_, _, hbox, (by rw [hg]; exact (below_size zb) : w.heap.size ≤ gb298), HR0.out⟩)); have n2_ := zm (zs hg zb : w.heap.size ≤ gb298); have n3_ := zm (zs hg zb : w.heap.size ≤ gb298); clear HB; have HB := n0_; have HI298 := n1_; have GW298 := n2_; have GE298 := n3_; clear n0_ n1_ n2_ n3_; clear hb hbox hg) | ((with_reducible refine gate_callee (f := 125) rfl ?_); refine goesA_ (some 13) Try.func125 #[.pointer (some ⟨gb298, 0, none⟩)] rfl ?_; (with_reducible refine (spec_l1Cur_segments.calls k gb298 l0 0 0 t299 t302 t303 w _ ?side1 ?side2 A2.out).mono ?_); (case side1 => repeat (first | (with_reducible first | exact HI298.out | apply IsS115.alloc | apply IsS115.drewN | apply IsS115.drew | apply IsS115.set_1 | apply IsS115.set_2) | exact HI298.out)); (case side2 => repeat (first | (with_reducible first | exact HB.out | apply below_alloc | apply pw_below_drewN | apply below_drew1 | refine below_set ?_ (IsS115.ge HI298.out)) | exact HB.out)); rintro e w5 ⟨v300, rfl, ho0, hi, hb, hk⟩; refine ⟨_, rfl, ?_⟩; have n0_ := zm (Kd.R_lower ho0 (below_size zb)); have n1_ := zm (hb); have n2_ := zm (hi); clear HB; clear HI298; have HO301 := n0_; have HB := n1_; have HI298 := n2_; clear n0_ n1_ n2_; (try clear hb); (try clear hb2); (try clear hk); (try clear hi); (try clear ho0)))
 (try simp only [Act.put, List.setIfInBounds_toArray, List.set_cons_zero, List.set_cons_succ])
 go_cut [19] (fun v19 wc => ∃ (kq : Nat) (x19_2 : Bool) (x299001_2 : Int) (x299002_2 : Int), v19 = .bool x19_2 ∧ Aside0 (spec_DrawIsWithin.j0 kq t299 x19_2 l0 x299001_2 x299002_2 = some (r1, r2)) ∧ Aside0 (kq ≤ k) ∧ Aside0 (Kd.R k133 133 wc w.heap.size (fun _ => True) v300 t299) ∧ Aside0 (IsS115 w wc gb298 l0 x299001_2 x299002_2) ∧ Aside0 (Below w.heap.size w wc))
 case first =>
  have H := HC3.out
  clear HC3
  replace H := Option.bind_eq_some_iff.mp H
  obtain ⟨t304, A60, H⟩ := H
  (try dsimp only at H)
  have A6 := zm A60
  clear A60
  by_cases c7 : t304 = true
  ·
   subst c7
   have H1 : ((spec_l1Cur_one.f l0 t302 t303 2).bind fun bt305 => (spec_DrawIsWithin.j0 k t299 bt305.1 l0 bt305.2.1 bt305.2.2)) = some (r1, r2) := by rw [if_pos rfl] at H; exact H
   clear H
   have H := H1
   clear H1
   replace H := Option.bind_eq_some_iff.mp H
   obtain ⟨⟨t305, t306, t307⟩, A80, H⟩ := H
   (try dsimp only at H)
   have A8 := zm A80
   clear A80
   have H' := zm H
   clear H
   obtain ⟨Ao9, co9, eo9⟩ := Kd.R_slice HO301.out
   subst eo9
   go_wp2_with (first | ((with_reducible refine gate_callee (f := 136) rfl ?_); refine goesA_ (some 15) Try.func136 #[.slice Ao9 t299.length co9] rfl ?_; (with_reducible refine (spec_stGood.calls k _ _ t299 true _ ?side1 ?side2 A6.out).mono ?_); (case side1 => repeat (first | exact (Kd.R_reads' HO301.out).2.2 | (with_reducible refine Kd.C_alloc ?_ _) | (with_reducible refine Kd.C_drewN ?_ _) | (with_reducible refine Kd.C_drew ?_))); (case side2 => exact (Kd.R_reads' HO301.out).2.1); rintro e w10 ⟨rfl, hb⟩; refine ⟨_, rfl, ?_⟩; have n0_ := zm (Kd.R_below (by (with_reducible repeat (first | apply Kd.R_alloc | apply Kd.R_drewN | apply Kd.R_drew)); exact HO301.out) hb); have n1_ := zm (IsS115.below z115i hb); have n2_ := zm (below_step zb hb); clear HO301; clear HI298; clear HB; have HO301 := n0_; have HI298 := n1_; have HB := n2_; clear n0_ n1_ n2_; (try clear hb); (try clear hb2); (try clear hk); (try clear hi)) | (go_at_call 139; (with_reducible refine (spec_l1Cur_one.calls gb298 l0 t302 t303 2 t305 t306 t307 w _ ?side1 ?side2 A8.out).mono ?_); (case side1 => repeat (first | (with_reducible first | exact HI298.out | apply IsS115.alloc | apply IsS115.drewN | apply IsS115.drew | apply IsS115.set_1 | apply IsS115.set_2) | exact HI298.out)); (case side2 => repeat (first | (with_reducible first | exact HB.out | apply below_alloc | apply pw_below_drewN | apply below_drew1 | refine below_set ?_ (IsS115.ge HI298.out)) | exact HB.out)); rintro e w11 ⟨rfl, hi, hb, hk⟩; have n0_ := zm (Kd.R_mono (Kd.R_keep (IsS115.apart (show IsS115 w _ gb298 l0 t302 t303 from z115i) (by (with_reducible repeat (first | apply Kd.R_alloc | apply Kd.R_drewN | apply Kd.R_drew)); exact HO301.out) (by decide)) hk (fun _ h => h.2)) (fun _ h => h.1)); have n1_ := zm (hb); have n2_ := zm (hi); clear HO301; clear HB; clear HI298; have HO301 := n0_; have HB := n1_; have HI298 := n2_; clear n0_ n1_ n2_; (try clear hb); (try clear hb2); (try clear hk); (try clear hi)))
   go_meet
   case rel => exact ⟨_, (t305), (t306), (t307), (by first | rfl | (simp; done) | (simp [*]; done)), H', ⟨by first | omega | exact Nat.le_refl _⟩, ⟨by (with_reducible repeat (first | apply Kd.R_alloc | apply Kd.R_drewN | apply Kd.R_drew)); exact HO301.out⟩, ⟨z115i⟩, ⟨zb⟩⟩
  ·
   replace c7 := Bool.eq_false_iff.mpr c7
   subst c7
   have H1 : (spec_DrawIsWithin.j0 k t299 false l0 t302 t303) = some (r1, r2) := by rw [if_neg (show ¬ (false = true) by decide)] at H; exact H
   clear H
   have H := H1
   clear H1
   have H' := zm H
   clear H
   obtain ⟨Ao12, co12, eo12⟩ := Kd.R_slice HO301.out
   subst eo12
   go_wp2_with (first | ((with_reducible refine gate_callee (f := 136) rfl ?_); refine goesA_ (some 15) Try.func136 #[.slice Ao12 t299.length co12] rfl ?_; (with_reducible refine (spec_stGood.calls k _ _ t299 false _ ?side1 ?side2 A6.out).mono ?_); (case side1 => repeat (first | exact (Kd.R_reads' HO301.out).2.2 | (with_reducible refine Kd.C_alloc ?_ _) | (with_reducible refine Kd.C_drewN ?_ _) | (with_reducible refine Kd.C_drew ?_))); (case side2 => exact (Kd.R_reads' HO301.out).2.1); rintro e w13 ⟨rfl, hb⟩; refine ⟨_, rfl, ?_⟩; have n0_ := zm (Kd.R_below (by (with_reducible repeat (first | apply Kd.R_alloc | apply Kd.R_drewN | apply Kd.R_drew)); exact HO301.out) hb); have n1_ := zm (IsS115.below z115i hb); have n2_ := zm (below_step zb hb); clear HO301; clear HI298; clear HB; have HO301 := n0_; have HI298 := n1_; have HB := n2_; clear n0_ n1_ n2_; (try clear hb); (try clear hb2); (try clear hk); (try clear hi)))
   go_meet
   case rel => exact ⟨_, (false), (t302), (t303), (by first | rfl | (simp; done) | (simp [*]; done)), H', ⟨by first | omega | exact Nat.le_refl _⟩, ⟨by (with_reducible repeat (first | apply Kd.R_alloc | apply Kd.R_drewN | apply Kd.R_drew)); exact HO301.out⟩, ⟨z115i⟩, ⟨zb⟩⟩
 case rest =>
  clear HC3
  (try clear c1); (try clear p2); (try clear c6); (try clear c7); (try clear c12); (try clear c13)
  obtain ⟨kq, x19_2, x299001_2, x299002_2, rfl, HA, HJ2, HO_5, HI298, HB⟩ := hcut
  cases kq with
  | zero => exact absurd HA.out (by simp [spec_DrawIsWithin.j0])
  | succ kj2 =>
   have H := HA.out
   clear HA
   simp only [spec_DrawIsWithin.j0] at H
   by_cases c14 : x19_2 = true
   ·
    subst c14
    have H1 : ((spec_WorstError.f kj2 t299).bind fun bt308 => ((spec_l1Abs.f bt308.2.1).bind fun t311 => ((spec_l1Cur_pick.f l0 x299001_2 x299002_2 2).bind fun bt312 => ((spec_l1Most.f 0 (wrap64 (t311 - bt312.1))).bind fun t315 => (some (t299, t315)))))) = some (r1, r2) := by rw [if_pos rfl] at H; exact H
    clear H
    have H := H1
    clear H1
    replace H := Option.bind_eq_some_iff.mp H
    obtain ⟨⟨t308, t309, t310⟩, A150, H⟩ := H
    (try dsimp only at H)
    have A15 := zm A150
    clear A150
    replace H := Option.bind_eq_some_iff.mp H
    obtain ⟨t311, A160, H⟩ := H
    (try dsimp only at H)
    have A16 := zm A160
    clear A160
    replace H := Option.bind_eq_some_iff.mp H
    obtain ⟨⟨t312, t313, t314⟩, A170, H⟩ := H
    (try dsimp only at H)
    have A17 := zm A170
    clear A170
    replace H := Option.bind_eq_some_iff.mp H
    obtain ⟨t315, A180, H⟩ := H
    (try dsimp only at H)
    have A18 := zm A180
    clear A180
    simp only [Option.some.injEq, Prod.mk.injEq] at H
    obtain ⟨rfl, rfl⟩ := H
    obtain ⟨Ao19, co19, eo19⟩ := Kd.R_slice HO_5.out
    subst eo19
    go_wp2_with (first | ((with_reducible refine gate_callee (f := 59) rfl ?_); refine goesA_ (some 22) Try.func59 #[.slice Ao19 t299.length co19] rfl ?_; (with_reducible refine (spec_WorstError.calls kj2 _ _ t299 t308 t309 t310 _ ?side1 ?side2 A15.out).mono ?_); (case side1 => repeat (first | exact (Kd.R_reads' HO_5.out).2.2 | (with_reducible refine Kd.C_alloc ?_ _) | (with_reducible refine Kd.C_drewN ?_ _) | (with_reducible refine Kd.C_drew ?_))); (case side2 => exact (Kd.R_reads' HO_5.out).2.1); rintro e w20 ⟨rfl, hb⟩; refine ⟨_, rfl, ?_⟩; have n0_ := zm (Kd.R_below (by (with_reducible repeat (first | apply Kd.R_alloc | apply Kd.R_drewN | apply Kd.R_drew)); exact HO_5.out) hb); have n1_ := zm (IsS115.below z115i hb); have n2_ := zm (below_step zb hb); clear HO_5; clear HI298; clear HB; have HO_5 := n0_; have HI298 := n1_; have HB := n2_; clear n0_ n1_ n2_; (try clear hb); (try clear hb2); (try clear hk); (try clear hi)) | ((with_reducible refine gate_callee (f := 97) rfl ?_); refine goesA_ (some 28) Try.func97 #[.int .i64 t309] rfl ?_; (with_reducible refine (spec_l1Abs.calls t309 t311 _ A16.out).mono ?_); rintro e w' ⟨rfl, ⟨nd, rfl⟩⟩; refine ⟨_, rfl, ?_⟩) | ((with_reducible refine gate_callee (f := 121) rfl ?_); refine goesA_ (some 30) Try.func121 #[.pointer (some ⟨gb298, 0, none⟩), .int .i64 2] rfl ?_; (with_reducible refine (spec_l1Cur_pick.calls gb298 l0 x299001_2 x299002_2 2 t312 t313 t314 w _ ?side1 ?side2 A17.out).mono ?_); (case side1 => repeat (first | (with_reducible first | exact HI298.out | apply IsS115.alloc | apply IsS115.drewN | apply IsS115.drew | apply IsS115.set_1 | apply IsS115.set_2) | exact HI298.out)); (case side2 => repeat (first | (with_reducible first | exact HB.out | apply below_alloc | apply pw_below_drewN | apply below_drew1 | refine below_set ?_ (IsS115.ge HI298.out)) | exact HB.out)); rintro e w21 ⟨rfl, hi, hb, hk⟩; refine ⟨_, rfl, ?_⟩; have n0_ := zm (Kd.R_mono (Kd.R_keep (IsS115.apart (show IsS115 w _ gb298 l0 x299001_2 x299002_2 from z115i) (by (with_reducible repeat (first | apply Kd.R_alloc | apply Kd.R_drewN | apply Kd.R_drew)); exact HO_5.out) (by decide)) hk (fun _ h => h.2)) (fun _ h => h.1)); have n1_ := zm (hb); have n2_ := zm (hi); clear HO_5; clear HB; clear HI298; have HO_5 := n0_; have HB := n1_; have HI298 := n2_; clear n0_ n1_ n2_; (try clear hb); (try clear hb2); (try clear hk); (try clear hi)) | ((with_reducible refine gate_callee (f := 96) rfl ?_); refine goesA_ (some 32) Try.func96 #[.int .i64 0, .int .i64 (wrap64 (t311 - t312))] rfl ?_; (with_reducible refine (spec_l1Most.calls 0 (wrap64 (t311 - t312)) t315 _ A18.out).mono ?_); rintro e w' ⟨rfl, ⟨nd, rfl⟩⟩; refine ⟨_, rfl, ?_⟩))
    go_ret2
    exact ⟨_, zr, by (with_reducible repeat (first | apply Kd.R_alloc | apply Kd.R_drewN | apply Kd.R_drew)); exact HO_5.out, zb⟩
   ·
    replace c14 := Bool.eq_false_iff.mpr c14
    subst c14
    have H1 : ((spec_l1Cur_among.f l0 x299001_2 x299002_2 (([200001, (-1)] : List Int))).bind fun bt319 => ((spec_l1Cur_among.f l0 bt319.2.1 bt319.2.2 (([0, 100, 1000, 5000, 200000, bt319.1] : List Int))).bind fun bt325 => (some (t299, bt325.1)))) = some (r1, r2) := by rw [if_neg (show ¬ (false = true) by decide)] at H; exact H
    clear H
    have H := H1
    clear H1
    obtain ⟨y316, hy316⟩ : ∃ y_ : List Int, y_ = (([200001, (-1)] : List Int)) := ⟨_, rfl⟩
    replace H : ((spec_l1Cur_among.f l0 x299001_2 x299002_2 y316).bind fun bt319 => ((spec_l1Cur_among.f l0 bt319.2.1 bt319.2.2 (([0, 100, 1000, 5000, 200000, bt319.1] : List Int))).bind fun bt325 => (some (t299, bt325.1)))) = some (r1, r2) := by first | (rw [hy316]; with_reducible exact H) | (have H2_ := (Option.bind_some _ _).symm.trans H; rw [hy316]; with_reducible exact H2_) | (have H2_ := (Option.bind_some _ _).symm.trans H; with_reducible exact H2_) | with_reducible exact H | (rw [hy316]; exact H) | exact H
    have Ny316 := zm hy316
    clear hy316
    replace H := Option.bind_eq_some_iff.mp H
    obtain ⟨⟨t319, t320, t321⟩, A220, H⟩ := H
    (try dsimp only at H)
    have A22 := zm A220
    clear A220
    obtain ⟨y322, hy322⟩ : ∃ y_ : List Int, y_ = (([0, 100, 1000, 5000, 200000, t319] : List Int)) := ⟨_, rfl⟩
    replace H : ((spec_l1Cur_among.f l0 t320 t321 y322).bind fun bt325 => (some (t299, bt325.1))) = some (r1, r2) := by first | (rw [hy322]; with_reducible exact H) | (have H2_ := (Option.bind_some _ _).symm.trans H; rw [hy322]; with_reducible exact H2_) | (have H2_ := (Option.bind_some _ _).symm.trans H; with_reducible exact H2_) | with_reducible exact H | (rw [hy322]; exact H) | exact H
    have Ny322 := zm hy322
    clear hy322
    replace H := Option.bind_eq_some_iff.mp H
    obtain ⟨⟨t325, t326, t327⟩, A230, H⟩ := H
    (try dsimp only at H)
    have A23 := zm A230
    clear A230
    simp only [Option.some.injEq, Prod.mk.injEq] at H
    obtain ⟨rfl, rfl⟩ := H
    go_wp2_with (first | ((with_reducible refine gate_dst (N := 36) rfl ?_); refine Kd.R_lit (Kd.int .i64) _ 3 ?hg (N := 36) ?hd (xs := ([200001, (-1)] : List Int)) (inner := [.int .i64 200001, .int .i64 (-1)]) (ok := fun _ => True) (okp := fun _ => True) ?hr ?hp (fun _ hk => hk) trivial (Below.refl _ _) (Nat.le_refl _) (by simp) ?_; (case hd => rfl); (case hg => rfl); (case hr => first | (go_simp; done) | (go_simp; rfl)); (case hp => exact (Reps.one (show Kd.M (Kd.int .i64) _ _ _ 200001 [.int .i64 200001] from rfl) (Reps.one (show Kd.M (Kd.int .i64) _ _ _ (-1) [.int .i64 (-1)] from rfl) (Reps.none _ _)))); intro v317 w24 ho25 hb hg_ hnew_; clear hg_ hnew_; (first | rw [← Ny316.out] at ho25 | (simp only [Int.reduceToNat] at ho25; rw [← Ny316.out] at ho25)); have n0_ := zm (Kd.R_below (by (with_reducible repeat (first | apply Kd.R_alloc | apply Kd.R_drewN | apply Kd.R_drew)); exact HO_5.out) hb); have n1_ := zm (Kd.R_lower ho25 (below_size zb)); have n2_ := zm (IsS115.below z115i hb); have n3_ := zm (below_step zb hb); clear HO_5; clear HI298; clear HB; have HO_5 := n0_; have HO318 := n1_; have HI298 := n2_; have HB := n3_; clear n0_ n1_ n2_ n3_; clear hb ho25; obtain ⟨Ao26, co26, eo26⟩ := Kd.R_slice HO318.out; subst eo26) | ((with_reducible refine gate_callee (f := 120) rfl ?_); refine goesA_ (some 37) Try.func120 #[.pointer (some ⟨gb298, 0, none⟩), .slice Ao26 y316.length co26] rfl ?_; (with_reducible refine (spec_l1Cur_among.calls gb298 l0 x299001_2 x299002_2 _ _ y316 t319 t320 t321 w _ ?side1 ?side2 ?side3 ?side4 ?side5 A22.out).mono ?_); (case side1 => repeat (first | (with_reducible first | exact HI298.out | apply IsS115.alloc | apply IsS115.drewN | apply IsS115.drew | apply IsS115.set_1 | apply IsS115.set_2) | exact HI298.out)); (case side2 => repeat (first | (with_reducible first | exact HB.out | apply below_alloc | apply pw_below_drewN | apply below_drew1 | refine below_set ?_ (IsS115.ge HI298.out)) | exact HB.out)); (case side3 => repeat (first | exact (Kd.R_reads' HO318.out).2.2 | (with_reducible refine Kd.C_alloc ?_ _) | (with_reducible refine Kd.C_drewN ?_ _) | (with_reducible refine Kd.C_drew ?_))); (case side4 => exact (Kd.R_reads' HO318.out).2.1); (case side5 => exact far_slice (IsS115.own_ne HI298.out HO318.out (by decide))); rintro e w27 ⟨rfl, hi, hb, hk⟩; refine ⟨_, rfl, ?_⟩; have n0_ := zm (Kd.R_mono (Kd.R_keep (IsS115.apart (show IsS115 w _ gb298 l0 x299001_2 x299002_2 from z115i) (by (with_reducible repeat (first | apply Kd.R_alloc | apply Kd.R_drewN | apply Kd.R_drew)); exact HO_5.out) (by decide)) hk (fun _ h => h.2)) (fun _ h => h.1)); have n1_ := zm (Kd.R_mono (Kd.R_keep (IsS115.apart (show IsS115 w _ gb298 l0 x299001_2 x299002_2 from z115i) (by (with_reducible repeat (first | apply Kd.R_alloc | apply Kd.R_drewN | apply Kd.R_drew)); exact HO318.out) (by decide)) hk (fun _ h => h.2)) (fun _ h => h.1)); have n2_ := zm (hb); have n3_ := zm (hi); clear HO_5; clear HO318; clear HB; clear HI298; have HO_5 := n0_; have HO318 := n1_; have HB := n2_; have HI298 := n3_; clear n0_ n1_ n2_ n3_; (try clear hb); (try clear hb2); (try clear hk); (try clear hi)) | ((with_reducible refine gate_dst (N := 38) rfl ?_); refine Kd.R_lit (Kd.int .i64) _ 3 ?hg (N := 38) ?hd (xs := ([0, 100, 1000, 5000, 200000, t319] : List Int)) (inner := [.int .i64 0, .int .i64 100, .int .i64 1000, .int .i64 5000, .int .i64 200000, .int .i64 t319]) (ok := fun _ => True) (okp := fun _ => True) ?hr ?hp (fun _ hk => hk) trivial (Below.refl _ _) (Nat.le_refl _) (by simp) ?_; (case hd => rfl); (case hg => rfl); (case hr => first | (go_simp; done) | (go_simp; rfl)); (case hp => exact (Reps.one (show Kd.M (Kd.int .i64) _ _ _ 0 [.int .i64 0] from rfl) (Reps.one (show Kd.M (Kd.int .i64) _ _ _ 100 [.int .i64 100] from rfl) (Reps.one (show Kd.M (Kd.int .i64) _ _ _ 1000 [.int .i64 1000] from rfl) (Reps.one (show Kd.M (Kd.int .i64) _ _ _ 5000 [.int .i64 5000] from rfl) (Reps.one (show Kd.M (Kd.int .i64) _ _ _ 200000 [.int .i64 200000] from rfl) (Reps.one (show Kd.M (Kd.int .i64) _ _ _ t319 [.int .i64 t319] from rfl) (Reps.none _ _)))))))); intro v323 w28 ho29 hb hg_ hnew_; clear hg_ hnew_; (first | rw [← Ny322.out] at ho29 | (simp only [Int.reduceToNat] at ho29; rw [← Ny322.out] at ho29)); have n0_ := zm (Kd.R_below (by (with_reducible repeat (first | apply Kd.R_alloc | apply Kd.R_drewN | apply Kd.R_drew)); exact HO_5.out) hb); have n1_ := zm (Kd.R_elder' (by (with_reducible repeat (first | apply Kd.R_alloc | apply Kd.R_drewN | apply Kd.R_drew)); exact HO318.out) (Kd.R_base ho29) hb); have n2_ := zm (Kd.R_lower (Kd.R_new' ho29 (Kd.R_lt (by (with_reducible repeat (first | apply Kd.R_alloc | apply Kd.R_drewN | apply Kd.R_drew)); exact HO318.out))) (below_size zb)); have n3_ := zm (IsS115.below z115i hb); have n4_ := zm (below_step zb hb); clear HO_5; clear HO318; clear HI298; clear HB; have HO_5 := n0_; have HO318 := n1_; have HO324 := n2_; have HI298 := n3_; have HB := n4_; clear n0_ n1_ n2_ n3_ n4_; clear hb ho29; obtain ⟨Ao30, co30, eo30⟩ := Kd.R_slice HO324.out; subst eo30) | ((with_reducible refine gate_callee (f := 120) rfl ?_); refine goesA_ (some 39) Try.func120 #[.pointer (some ⟨gb298, 0, none⟩), .slice Ao30 y322.length co30] rfl ?_; (with_reducible refine (spec_l1Cur_among.calls gb298 l0 t320 t321 _ _ y322 t325 t326 t327 w _ ?side1 ?side2 ?side3 ?side4 ?side5 A23.out).mono ?_); (case side1 => repeat (first | (with_reducible first | exact HI298.out | apply IsS115.alloc | apply IsS115.drewN | apply IsS115.drew | apply IsS115.set_1 | apply IsS115.set_2) | exact HI298.out)); (case side2 => repeat (first | (with_reducible first | exact HB.out | apply below_alloc | apply pw_below_drewN | apply below_drew1 | refine below_set ?_ (IsS115.ge HI298.out)) | exact HB.out)); (case side3 => repeat (first | exact (Kd.R_reads' HO324.out).2.2 | (with_reducible refine Kd.C_alloc ?_ _) | (with_reducible refine Kd.C_drewN ?_ _) | (with_reducible refine Kd.C_drew ?_))); (case side4 => exact (Kd.R_reads' HO324.out).2.1); (case side5 => exact far_slice (IsS115.own_ne HI298.out HO324.out (by decide))); rintro e w31 ⟨rfl, hi, hb, hk⟩; refine ⟨_, rfl, ?_⟩; have n0_ := zm (Kd.R_mono (Kd.R_keep (IsS115.apart (show IsS115 w _ gb298 l0 t320 t321 from z115i) (by (with_reducible repeat (first | apply Kd.R_alloc | apply Kd.R_drewN | apply Kd.R_drew)); exact HO_5.out) (by decide)) hk (fun _ h => h.2)) (fun _ h => h.1)); have n1_ := zm (Kd.R_mono (Kd.R_keep (IsS115.apart (show IsS115 w _ gb298 l0 t320 t321 from z115i) (by (with_reducible repeat (first | apply Kd.R_alloc | apply Kd.R_drewN | apply Kd.R_drew)); exact HO318.out) (by decide)) hk (fun _ h => h.2)) (fun _ h => h.1)); have n2_ := zm (Kd.R_mono (Kd.R_keep (IsS115.apart (show IsS115 w _ gb298 l0 t320 t321 from z115i) (by (with_reducible repeat (first | apply Kd.R_alloc | apply Kd.R_drewN | apply Kd.R_drew)); exact HO324.out) (by decide)) hk (fun _ h => h.2)) (fun _ h => h.1)); have n3_ := zm (hb); have n4_ := zm (hi); clear HO_5; clear HO318; clear HO324; clear HB; clear HI298; have HO_5 := n0_; have HO318 := n1_; have HO324 := n2_; have HB := n3_; have HI298 := n4_; clear n0_ n1_ n2_ n3_ n4_; (try clear hb); (try clear hb2); (try clear hk); (try clear hi)))
    go_ret2
    exact ⟨_, zr, by (with_reducible repeat (first | apply Kd.R_alloc | apply Kd.R_drewN | apply Kd.R_drew)); exact HO_5.out, zb⟩

/-! ### spec_IsWithin: function 65 -/
mutual
def spec_IsWithin.j0 : Nat → List (S133) → Int → Bool → Option (Bool × Bool)
  | 0, _, _, _ => none
  | k + 1, x0, x1, x15 => if x15 = true then (some (false, false)) else ((spec_stEnds.f k x0).bind fun t330 => (spec_IsWithin.l0 k x0 x1 t330 (t330.length : Int) 0))
def spec_IsWithin.l0 : Nat → List (S133) → Int → List Int → Int → Int → Option (Bool × Bool)
  | 0, _, _, _, _, _ => none
  | k + 1, x0, x1, x17, x18, x19 => if x19 < x18 then (if 0 ≤ x19 then (if x19 < (x17.length : Int) then ((spec_stError.f k x0 (rd x17 x19)).bind fun t334 => ((spec_l1Abs.f t334).bind fun t335 => (if t335 > x1 then (some (false, true)) else (spec_IsWithin.l0 k x0 x1 x17 x18 (wrap64 (x19 + 1)))))) else (none)) else (none)) else (some (true, true))
end
def spec_IsWithin.f (k : Nat) (l0 : List (S133)) (a1 : Int) : Option (Bool × Bool) := (spec_stGood.f k l0).bind fun t328 => (if t328 = true then ((spec_l1In.f a1 0 200000).bind fun t329 => (spec_IsWithin.j0 k l0 a1 (!t329))) else (spec_IsWithin.j0 k l0 a1 true))
theorem spec_IsWithin.mono_l : ∀ k, (∀ y0 y1 y2, LeO (spec_IsWithin.j0 k y0 y1 y2) (spec_IsWithin.j0 (k + 1) y0 y1 y2)) ∧ (∀ y0 y1 y2 y3 y4, LeO (spec_IsWithin.l0 k y0 y1 y2 y3 y4) (spec_IsWithin.l0 (k + 1) y0 y1 y2 y3 y4))
  | 0 => ⟨fun _ _ _ r h => by simp [spec_IsWithin.j0] at h, fun _ _ _ _ _ r h => by simp [spec_IsWithin.l0] at h⟩
  | k + 1 => by
    obtain ⟨ih0, ih1⟩ := spec_IsWithin.mono_l k
    refine ⟨?_, ?_⟩
    · intro y0 y1 y2
      unfold spec_IsWithin.j0
      repeat' first
      | (with_reducible exact ih0 _ _ _)
      | (with_reducible exact ih1 _ _ _ _ _)
      | (with_reducible exact spec_stEnds.mono _ _)
      | (with_reducible exact spec_stError.mono _ _ _)
      | (with_reducible exact spec_stGood.mono _ _)
      | (with_reducible exact LeO.refl _)
      | (with_reducible exact LeO.none _)
      | (with_reducible refine LeO.ite ?_ ?_)
      | (with_reducible refine LeO.bind ?_ (fun _ => ?_))
      | exact ih0 _ _ _
      | exact ih1 _ _ _ _ _
      | exact spec_stEnds.mono _ _
      | exact spec_stError.mono _ _ _
      | exact spec_stGood.mono _ _
      | exact LeO.none _
      | refine LeO.ite ?_ ?_
      | refine LeO.bind ?_ (fun _ => ?_)
    · intro y0 y1 y2 y3 y4
      unfold spec_IsWithin.l0
      repeat' first
      | (with_reducible exact ih0 _ _ _)
      | (with_reducible exact ih1 _ _ _ _ _)
      | (with_reducible exact spec_stEnds.mono _ _)
      | (with_reducible exact spec_stError.mono _ _ _)
      | (with_reducible exact spec_stGood.mono _ _)
      | (with_reducible exact LeO.refl _)
      | (with_reducible exact LeO.none _)
      | (with_reducible refine LeO.ite ?_ ?_)
      | (with_reducible refine LeO.bind ?_ (fun _ => ?_))
      | exact ih0 _ _ _
      | exact ih1 _ _ _ _ _
      | exact spec_stEnds.mono _ _
      | exact spec_stError.mono _ _ _
      | exact spec_stGood.mono _ _
      | exact LeO.none _
      | refine LeO.ite ?_ ?_
      | refine LeO.bind ?_ (fun _ => ?_)
theorem spec_IsWithin.mono : ∀ a0 a1 k, LeO (spec_IsWithin.f k a0 a1) (spec_IsWithin.f (k + 1) a0 a1) := by
  intro a0 a1 k
  obtain ⟨ih0, ih1⟩ := spec_IsWithin.mono_l k
  unfold spec_IsWithin.f
  repeat' first
      | (with_reducible exact ih0 _ _ _)
      | (with_reducible exact ih1 _ _ _ _ _)
      | (with_reducible exact spec_stEnds.mono _ _)
      | (with_reducible exact spec_stError.mono _ _ _)
      | (with_reducible exact spec_stGood.mono _ _)
      | (with_reducible exact LeO.refl _)
      | (with_reducible exact LeO.none _)
      | (with_reducible refine LeO.ite ?_ ?_)
      | (with_reducible refine LeO.bind ?_ (fun _ => ?_))
      | exact ih0 _ _ _
      | exact ih1 _ _ _ _ _
      | exact spec_stEnds.mono _ _
      | exact spec_stError.mono _ _ _
      | exact spec_stGood.mono _ _
      | exact LeO.none _
      | refine LeO.ite ?_ ?_
      | refine LeO.bind ?_ (fun _ => ?_)
set_option maxHeartbeats 8000000 in
set_option maxRecDepth 100000 in
theorem spec_IsWithin.calls (k : Nat) (A0 : Option Addr) (c0 : Nat) (l0 : List (S133)) (a1 : Int) (r1 : Bool) (r2 : Bool) (w : World) (hr0 : Kd.C k133 w A0 l0.length l0) (hc0 : l0.length ≤ c0) (h : spec_IsWithin.f k l0 a1 = some (r1, r2)) :
  Calls Try.prog 65 #[.slice A0 l0.length c0, .int .i64 a1] w fun e w' => e = .returned (.tuple #[.bool r1, .bool r2]) ∧ Below w.heap.size w w' := by
 have HR0 := zm hr0
 have HC0 := zm hc0
 clear hr0 hc0
 have HB := zm (Below.refl w.heap.size w)
 have H : ((spec_stGood.f k l0).bind fun t328 => (if t328 = true then ((spec_l1In.f a1 0 200000).bind fun t329 => (spec_IsWithin.j0 k l0 a1 (!t329))) else (spec_IsWithin.j0 k l0 a1 true))) = some (r1, r2) := h
 clear h
 have HC3 := zm H
 clear H
 go_enter Try.func65, Try.ntmps65
 go_upto_region 1 with (fail)
 go_cut [15] (fun v15 wc => ∃ (kq : Nat) (x15_2 : Bool), v15 = .bool x15_2 ∧ Aside0 (spec_IsWithin.j0 kq l0 a1 x15_2 = some (r1, r2)) ∧ Aside0 (kq ≤ k) ∧ Aside0 (Below w.heap.size w wc))
 case first =>
  have H := HC3.out
  clear HC3
  replace H := Option.bind_eq_some_iff.mp H
  obtain ⟨t328, A40, H⟩ := H
  (try dsimp only at H)
  have A4 := zm A40
  clear A40
  by_cases c5 : t328 = true
  ·
   subst c5
   have H1 : ((spec_l1In.f a1 0 200000).bind fun t329 => (spec_IsWithin.j0 k l0 a1 (!t329))) = some (r1, r2) := by rw [if_pos rfl] at H; exact H
   clear H
   have H := H1
   clear H1
   replace H := Option.bind_eq_some_iff.mp H
   obtain ⟨t329, A60, H⟩ := H
   (try dsimp only at H)
   have A6 := zm A60
   clear A60
   have H' := zm H
   clear H
   go_wp2_with (first | ((with_reducible refine gate_callee (f := 136) rfl ?_); refine goesA_ (some 9) Try.func136 #[.slice A0 l0.length c0] rfl ?_; (with_reducible refine (spec_stGood.calls k _ _ l0 true _ ?side1 ?side2 A4.out).mono ?_); (case side1 => repeat (first | exact (Kd.C_below HR0.out HB.out) | (with_reducible refine Kd.C_alloc ?_ _) | (with_reducible refine Kd.C_drewN ?_ _) | (with_reducible refine Kd.C_drew ?_))); (case side2 => exact HC0.out); rintro e w7 ⟨rfl, hb⟩; refine ⟨_, rfl, ?_⟩; have n0_ := zm (below_step zb hb); clear HB; have HB := n0_; clear n0_; (try clear hb); (try clear hb2); (try clear hk); (try clear hi)) | (go_at_call 101; (with_reducible refine (spec_l1In.calls a1 0 200000 t329 _ A6.out).mono ?_); rintro e w' ⟨rfl, ⟨nd, rfl⟩⟩))
   go_meet
   case rel => exact ⟨_, (!t329), (by first | rfl | (simp; done) | (simp [*]; done)), H', ⟨by first | omega | exact Nat.le_refl _⟩, ⟨zb⟩⟩
  ·
   replace c5 := Bool.eq_false_iff.mpr c5
   subst c5
   have H1 : (spec_IsWithin.j0 k l0 a1 true) = some (r1, r2) := by rw [if_neg (show ¬ (false = true) by decide)] at H; exact H
   clear H
   have H := H1
   clear H1
   have H' := zm H
   clear H
   go_wp2_with (first | ((with_reducible refine gate_callee (f := 136) rfl ?_); refine goesA_ (some 9) Try.func136 #[.slice A0 l0.length c0] rfl ?_; (with_reducible refine (spec_stGood.calls k _ _ l0 false _ ?side1 ?side2 A4.out).mono ?_); (case side1 => repeat (first | exact (Kd.C_below HR0.out HB.out) | (with_reducible refine Kd.C_alloc ?_ _) | (with_reducible refine Kd.C_drewN ?_ _) | (with_reducible refine Kd.C_drew ?_))); (case side2 => exact HC0.out); rintro e w8 ⟨rfl, hb⟩; refine ⟨_, rfl, ?_⟩; have n0_ := zm (below_step zb hb); clear HB; have HB := n0_; clear n0_; (try clear hb); (try clear hb2); (try clear hk); (try clear hi)))
   go_meet
   case rel => exact ⟨_, (true), (by first | rfl | (simp; done) | (simp [*]; done)), H', ⟨by first | omega | exact Nat.le_refl _⟩, ⟨zb⟩⟩
 case rest =>
  clear HC3
  (try clear c1); (try clear p2); (try clear c5); (try clear c6)
  obtain ⟨kq, x15_2, rfl, HA, HJ2, HB⟩ := hcut
  cases kq with
  | zero => exact absurd HA.out (by simp [spec_IsWithin.j0])
  | succ kj2 =>
   have H := HA.out
   clear HA
   simp only [spec_IsWithin.j0] at H
   by_cases c9 : x15_2 = true
   ·
    subst c9
    have H1 : (some (false, false)) = some (r1, r2) := by rw [if_pos rfl] at H; exact H
    clear H
    have H := H1
    clear H1
    simp only [Option.some.injEq, Prod.mk.injEq] at H
    obtain ⟨rfl, rfl⟩ := H
    go_wp2
    go_ret2
    exact ⟨zr, zb⟩
   ·
    replace c9 := Bool.eq_false_iff.mpr c9
    subst c9
    have H1 : ((spec_stEnds.f kj2 l0).bind fun t330 => (spec_IsWithin.l0 kj2 l0 a1 t330 (t330.length : Int) 0)) = some (r1, r2) := by rw [if_neg (show ¬ (false = true) by decide)] at H; exact H
    clear H
    have H := H1
    clear H1
    replace H := Option.bind_eq_some_iff.mp H
    obtain ⟨t330, A100, H⟩ := H
    (try dsimp only at H)
    have A10 := zm A100
    clear A100
    have H' := zm H
    clear H
    go_wp2_with (first | ((with_reducible refine gate_callee (f := 137) rfl ?_); refine goesA_ (some 17) Try.func137 #[.slice A0 l0.length c0] rfl ?_; (with_reducible refine (spec_stEnds.calls kj2 _ _ l0 t330 _ ?side1 ?side2 A10.out).mono ?_); (case side1 => repeat (first | exact (Kd.C_below HR0.out HB.out) | (with_reducible refine Kd.C_alloc ?_ _) | (with_reducible refine Kd.C_drewN ?_ _) | (with_reducible refine Kd.C_drew ?_))); (case side2 => exact HC0.out); rintro e w11 ⟨v331, rfl, ho0, hb⟩; refine ⟨_, rfl, ?_⟩; have n0_ := zm (Kd.R_lower ho0 (below_size zb)); have n1_ := zm (below_step zb hb); clear HB; have HO332 := n0_; have HB := n1_; clear n0_ n1_; (try clear hb); (try clear hb2); (try clear hk); (try clear hi); (try clear ho0); obtain ⟨Ao12, co12, eo12⟩ := Kd.R_slice HO332.out; subst eo12))
    go_loopg [19] kj2 (fun kq v19 w' => ∃ (x19_2 : Int), v19 = .int .i64 x19_2 ∧ Aside0 (spec_IsWithin.l0 kq l0 a1 t330 (t330.length : Int) x19_2 = some (r1, r2)) ∧ Aside0 (kq ≤ kj2) ∧ Aside0 (Kd.R (Kd.int .i64) 3 w' w.heap.size (fun _ => True) (.slice Ao12 t330.length co12) t330) ∧ Aside0 (Below w.heap.size w w'))
    case atStart => exact ⟨(0), (by first | rfl | (simp; done) | (simp [*]; done)), H', ⟨Nat.le_refl _⟩, ⟨by (with_reducible repeat (first | apply Kd.R_alloc | apply Kd.R_drewN | apply Kd.R_drew)); exact HO332.out⟩, ⟨zb⟩⟩
    case round =>
     clear H'
     (try clear c1); (try clear p2); (try clear c5); (try clear c6); (try clear c9); (try clear p2)
     obtain ⟨x19_2, rfl, HA, HK2, HO_17, HB⟩ := hrel
     cases gk with
     | zero => exact absurd HA.out (by simp [spec_IsWithin.l0])
     | succ k2 =>
      have H := HA.out
      clear HA
      simp only [spec_IsWithin.l0] at H
      by_cases c13 : x19_2 < (t330.length : Int)
      ·
       rw [if_pos c13] at H
       have c13b0 : decide (x19_2 < (t330.length : Int)) = true := decide_eq_true c13
       clear c13
       by_cases c14 : 0 ≤ x19_2
       ·
        rw [if_pos c14] at H
        have c14b0 : decide (0 ≤ x19_2) = true := decide_eq_true c14
        clear c14
        by_cases c15 : x19_2 < (t330.length : Int)
        ·
         rw [if_pos c15] at H
         have c15b0 : decide (x19_2 < (t330.length : Int)) = true := decide_eq_true c15
         clear c15
         replace H := Option.bind_eq_some_iff.mp H
         obtain ⟨t334, A160, H⟩ := H
         (try dsimp only at H)
         have A16 := zm A160
         clear A160
         replace H := Option.bind_eq_some_iff.mp H
         obtain ⟨t335, A170, H⟩ := H
         (try dsimp only at H)
         have A17 := zm A170
         clear A170
         by_cases c18 : t335 > a1
         ·
          rw [if_pos c18] at H
          have c18b0 : decide (a1 < t335) = true := decide_eq_true c18
          clear c18
          simp only [Option.some.injEq, Prod.mk.injEq] at H
          obtain ⟨rfl, rfl⟩ := H
          have p333 : 0 ≤ (x19_2 : Int) := zd
          have q333 : x19_2 < (t330.length : Int) := zd
          obtain ⟨ad333, e333, hx333_0⟩ := Kd.at_int (Kd.R_reads' HO_17.out).2.2 x19_2 p333 q333
          cases e333
          replace p333 := eq_true p333
          replace q333 := eq_true q333
          go_wp2_with (first | ((with_reducible refine gate_callee (f := 133) rfl ?_); refine goesA_ (some 25) Try.func133 #[.slice A0 l0.length c0, .int .i64 (rd t330 x19_2)] rfl ?_; (with_reducible refine (spec_stError.calls k2 _ _ l0 (rd t330 x19_2) t334 _ ?side1 ?side2 A16.out).mono ?_); (case side1 => repeat (first | exact (Kd.C_below HR0.out HB.out) | (with_reducible refine Kd.C_alloc ?_ _) | (with_reducible refine Kd.C_drewN ?_ _) | (with_reducible refine Kd.C_drew ?_))); (case side2 => exact HC0.out); rintro e w19 ⟨rfl, hb⟩; refine ⟨_, rfl, ?_⟩; have n0_ := zm (Kd.R_below (by (with_reducible repeat (first | apply Kd.R_alloc | apply Kd.R_drewN | apply Kd.R_drew)); exact HO_17.out) hb); have n1_ := zm (below_step zb hb); clear HO_17; clear HB; have HO_17 := n0_; have HB := n1_; clear n0_ n1_; (try clear hb); (try clear hb2); (try clear hk); (try clear hi)) | ((with_reducible refine gate_callee (f := 97) rfl ?_); refine goesA_ (some 26) Try.func97 #[.int .i64 t334] rfl ?_; (with_reducible refine (spec_l1Abs.calls t334 t335 _ A17.out).mono ?_); rintro e w' ⟨rfl, ⟨nd, rfl⟩⟩; refine ⟨_, rfl, ?_⟩))
          go_ret2
          exact ⟨zr, zb⟩
         ·
          rw [if_neg c18] at H
          have c18b0 : decide (a1 < t335) = false := decide_eq_false c18
          clear c18
          have H' := zm H
          clear H
          have p333 : 0 ≤ (x19_2 : Int) := zd
          have q333 : x19_2 < (t330.length : Int) := zd
          obtain ⟨ad333, e333, hx333_0⟩ := Kd.at_int (Kd.R_reads' HO_17.out).2.2 x19_2 p333 q333
          cases e333
          replace p333 := eq_true p333
          replace q333 := eq_true q333
          go_wp2_with (first | ((with_reducible refine gate_callee (f := 133) rfl ?_); refine goesA_ (some 25) Try.func133 #[.slice A0 l0.length c0, .int .i64 (rd t330 x19_2)] rfl ?_; (with_reducible refine (spec_stError.calls k2 _ _ l0 (rd t330 x19_2) t334 _ ?side1 ?side2 A16.out).mono ?_); (case side1 => repeat (first | exact (Kd.C_below HR0.out HB.out) | (with_reducible refine Kd.C_alloc ?_ _) | (with_reducible refine Kd.C_drewN ?_ _) | (with_reducible refine Kd.C_drew ?_))); (case side2 => exact HC0.out); rintro e w20 ⟨rfl, hb⟩; refine ⟨_, rfl, ?_⟩; have n0_ := zm (Kd.R_below (by (with_reducible repeat (first | apply Kd.R_alloc | apply Kd.R_drewN | apply Kd.R_drew)); exact HO_17.out) hb); have n1_ := zm (below_step zb hb); clear HO_17; clear HB; have HO_17 := n0_; have HB := n1_; clear n0_ n1_; (try clear hb); (try clear hb2); (try clear hk); (try clear hi)) | ((with_reducible refine gate_callee (f := 97) rfl ?_); refine goesA_ (some 26) Try.func97 #[.int .i64 t334] rfl ?_; (with_reducible refine (spec_l1Abs.calls t334 t335 _ A17.out).mono ?_); rintro e w' ⟨rfl, ⟨nd, rfl⟩⟩; refine ⟨_, rfl, ?_⟩))
          go_roundg k2
          case measure => have := HJ2.out; have := HK2.out; omega
          case rel => exact ⟨(wrap64 (x19_2 + 1)), (by first | rfl | (simp; done) | (simp [*]; done)), H', ⟨by have := HJ2.out; have := HK2.out; omega⟩, ⟨by (with_reducible repeat (first | apply Kd.R_alloc | apply Kd.R_drewN | apply Kd.R_drew)); exact HO_17.out⟩, ⟨zb⟩⟩
        ·
         rw [if_neg c15] at H
         exact absurd H (by simp)
       ·
        rw [if_neg c14] at H
        exact absurd H (by simp)
      ·
       rw [if_neg c13] at H
       have c13b0 : decide (x19_2 < (t330.length : Int)) = false := decide_eq_false c13
       clear c13
       simp only [Option.some.injEq, Prod.mk.injEq] at H
       obtain ⟨rfl, rfl⟩ := H
       go_wp2
       go_ret2
       exact ⟨zr, zb⟩

/-! ### spec_DrawStepAtPlace: function 66 -/
def spec_DrawStepAtPlace.j0 : Nat → List (S133) → Bool → List Int → Int → Int → Option ((List (S133)) × Int)
  | 0, _, _, _, _, _ => none
  | k + 1, x5, x16, x337000, x337001, x337002 => if x16 = true then ((spec_stSteps.f k x5).bind fun t346 => ((spec_l1Cur_pick.f x337000 x337001 x337002 (wrap64 (t346 + 1))).bind fun bt347 => ((spec_stPlace.f k x5 bt347.1).bind fun t350 => ((spec_l1Cur_pick.f x337000 bt347.2.1 bt347.2.2 3).bind fun bt351 => ((spec_l1Most.f 0 (wrap64 ((wrap64 (t350 + bt351.1)) - 1))).bind fun t354 => (some (x5, t354))))))) else ((spec_l1Cur_pick.f x337000 x337001 x337002 60000).bind fun bt355 => ((spec_l1Cur_among.f x337000 bt355.2.1 bt355.2.2 (([2200001, (-1)] : List Int))).bind fun bt361 => ((spec_l1Cur_among.f x337000 bt361.2.1 bt361.2.2 (([0, 999, 1000, bt355.1, 2200000, bt361.1] : List Int))).bind fun bt367 => (some (x5, bt367.1)))))
def spec_DrawStepAtPlace.f (k : Nat) (l0 : List Int) : Option ((List (S133)) × Int) := (spec_l1Cur_segments.f k l0 0 0).bind fun bt337 => ((spec_stGood.f k bt337.1).bind fun t342 => (if t342 = true then ((spec_l1Cur_one.f l0 bt337.2.1 bt337.2.2 2).bind fun bt343 => (spec_DrawStepAtPlace.j0 k bt337.1 bt343.1 l0 bt343.2.1 bt343.2.2)) else (spec_DrawStepAtPlace.j0 k bt337.1 false l0 bt337.2.1 bt337.2.2)))
theorem spec_DrawStepAtPlace.mono_l : ∀ k, (∀ y0 y1 y2 y3 y4, LeO (spec_DrawStepAtPlace.j0 k y0 y1 y2 y3 y4) (spec_DrawStepAtPlace.j0 (k + 1) y0 y1 y2 y3 y4))
  | 0 => fun _ _ _ _ _ r h => by simp [spec_DrawStepAtPlace.j0] at h
  | k + 1 => by
    have ih0 := spec_DrawStepAtPlace.mono_l k
    · intro y0 y1 y2 y3 y4
      unfold spec_DrawStepAtPlace.j0
      repeat' first
      | (with_reducible exact ih0 _ _ _ _ _)
      | (with_reducible exact spec_l1Cur_segments.mono _ _ _ _)
      | (with_reducible exact spec_stGood.mono _ _)
      | (with_reducible exact spec_stPlace.mono _ _ _)
      | (with_reducible exact spec_stSteps.mono _ _)
      | (with_reducible exact LeO.refl _)
      | (with_reducible exact LeO.none _)
      | (with_reducible refine LeO.ite ?_ ?_)
      | (with_reducible refine LeO.bind ?_ (fun _ => ?_))
      | exact ih0 _ _ _ _ _
      | exact spec_l1Cur_segments.mono _ _ _ _
      | exact spec_stGood.mono _ _
      | exact spec_stPlace.mono _ _ _
      | exact spec_stSteps.mono _ _
      | exact LeO.none _
      | refine LeO.ite ?_ ?_
      | refine LeO.bind ?_ (fun _ => ?_)
theorem spec_DrawStepAtPlace.mono : ∀ a0 k, LeO (spec_DrawStepAtPlace.f k a0) (spec_DrawStepAtPlace.f (k + 1) a0) := by
  intro a0 k
  have ih0 := spec_DrawStepAtPlace.mono_l k
  unfold spec_DrawStepAtPlace.f
  repeat' first
      | (with_reducible exact ih0 _ _ _ _ _)
      | (with_reducible exact spec_l1Cur_segments.mono _ _ _ _)
      | (with_reducible exact spec_stGood.mono _ _)
      | (with_reducible exact spec_stPlace.mono _ _ _)
      | (with_reducible exact spec_stSteps.mono _ _)
      | (with_reducible exact LeO.refl _)
      | (with_reducible exact LeO.none _)
      | (with_reducible refine LeO.ite ?_ ?_)
      | (with_reducible refine LeO.bind ?_ (fun _ => ?_))
      | exact ih0 _ _ _ _ _
      | exact spec_l1Cur_segments.mono _ _ _ _
      | exact spec_stGood.mono _ _
      | exact spec_stPlace.mono _ _ _
      | exact spec_stSteps.mono _ _
      | exact LeO.none _
      | refine LeO.ite ?_ ?_
      | refine LeO.bind ?_ (fun _ => ?_)
set_option maxHeartbeats 8000000 in
set_option maxRecDepth 100000 in
theorem spec_DrawStepAtPlace.calls (k : Nat) (A0 : Option Addr) (c0 : Nat) (l0 : List Int) (r1 : List (S133)) (r2 : Int) (w : World) (hr0 : Kd.C (Kd.int .u8) w A0 l0.length l0) (hc0 : l0.length ≤ c0) (h : spec_DrawStepAtPlace.f k l0 = some (r1, r2)) :
  Calls Try.prog 66 #[.slice A0 l0.length c0] w fun e w' => ∃ v0_ : Value, e = .returned (.tuple #[v0_, .int .i64 r2]) ∧ Kd.R k133 133 w' w.heap.size (fun _ => True) v0_ r1 ∧ Below w.heap.size w w' := by
 have hu115 := Try.underlying115
 have HR0 := zm hr0
 have HC0 := zm hc0
 clear hr0 hc0
 have HB := zm (Below.refl w.heap.size w)
 have H : ((spec_l1Cur_segments.f k l0 0 0).bind fun bt337 => ((spec_stGood.f k bt337.1).bind fun t342 => (if t342 = true then ((spec_l1Cur_one.f l0 bt337.2.1 bt337.2.2 2).bind fun bt343 => (spec_DrawStepAtPlace.j0 k bt337.1 bt343.1 l0 bt343.2.1 bt343.2.2)) else (spec_DrawStepAtPlace.j0 k bt337.1 false l0 bt337.2.1 bt337.2.2)))) = some (r1, r2) := h
 clear h
 replace H := Option.bind_eq_some_iff.mp H
 obtain ⟨⟨t337, t340, t341⟩, A20, H⟩ := H
 (try dsimp only at H)
 have A2 := zm A20
 clear A20
 have HC3 := zm H
 clear H
 go_enter Try.func66, Try.ntmps66
 go_upto_region 3 with (first | ((with_reducible refine gate_dst (N := 8) rfl ?_); refine box_event ?hg (N := 8) ?hd (cs := #[.slice A0 l0.length c0, .int .i64 0, .int .u64 0]) (t := 115) ?hr ?_; (case hd => rfl); (case hg => rfl); (case hr => first | (go_simp; done) | (go_simp; rfl)); intro gb336 hg w4 hbox hb; have n0_ := zm (below_step zb hb); have n1_ := zm ((show IsS115 w _ gb336 l0 0 0 from ⟨_, _, hbox, (by rw [hg]; exact (below_size zb) : w.heap.size ≤ gb336), HR0.out⟩)); have n2_ := zm (zs hg zb : w.heap.size ≤ gb336); have n3_ := zm (zs hg zb : w.heap.size ≤ gb336); clear HB; have HB := n0_; have HI336 := n1_; have GW336 := n2_; have GE336 := n3_; clear n0_ n1_ n2_ n3_; clear hb hbox hg) | ((with_reducible refine gate_callee (f := 125) rfl ?_); refine goesA_ (some 10) Try.func125 #[.pointer (some ⟨gb336, 0, none⟩)] rfl ?_; (with_reducible refine (spec_l1Cur_segments.calls k gb336 l0 0 0 t337 t340 t341 w _ ?side1 ?side2 A2.out).mono ?_); (case side1 => repeat (first | (with_reducible first | exact HI336.out | apply IsS115.alloc | apply IsS115.drewN | apply IsS115.drew | apply IsS115.set_1 | apply IsS115.set_2) | exact HI336.out)); (case side2 => repeat (first | (with_reducible first | exact HB.out | apply below_alloc | apply pw_below_drewN | apply below_drew1 | refine below_set ?_ (IsS115.ge HI336.out)) | exact HB.out)); rintro e w5 ⟨v338, rfl, ho0, hi, hb, hk⟩; refine ⟨_, rfl, ?_⟩; have n0_ := zm (Kd.R_lower ho0 (below_size zb)); have n1_ := zm (hb); have n2_ := zm (hi); clear HB; clear HI336; have HO339 := n0_; have HB := n1_; have HI336 := n2_; clear n0_ n1_ n2_; (try clear hb); (try clear hb2); (try clear hk); (try clear hi); (try clear ho0)))
 (try simp only [Act.put, List.setIfInBounds_toArray, List.set_cons_zero, List.set_cons_succ])
 go_cut [16] (fun v16 wc => ∃ (kq : Nat) (x16_2 : Bool) (x337001_2 : Int) (x337002_2 : Int), v16 = .bool x16_2 ∧ Aside0 (spec_DrawStepAtPlace.j0 kq t337 x16_2 l0 x337001_2 x337002_2 = some (r1, r2)) ∧ Aside0 (kq ≤ k) ∧ Aside0 (Kd.R k133 133 wc w.heap.size (fun _ => True) v338 t337) ∧ Aside0 (IsS115 w wc gb336 l0 x337001_2 x337002_2) ∧ Aside0 (Below w.heap.size w wc))
 case first =>
  have H := HC3.out
  clear HC3
  replace H := Option.bind_eq_some_iff.mp H
  obtain ⟨t342, A60, H⟩ := H
  (try dsimp only at H)
  have A6 := zm A60
  clear A60
  by_cases c7 : t342 = true
  ·
   subst c7
   have H1 : ((spec_l1Cur_one.f l0 t340 t341 2).bind fun bt343 => (spec_DrawStepAtPlace.j0 k t337 bt343.1 l0 bt343.2.1 bt343.2.2)) = some (r1, r2) := by rw [if_pos rfl] at H; exact H
   clear H
   have H := H1
   clear H1
   replace H := Option.bind_eq_some_iff.mp H
   obtain ⟨⟨t343, t344, t345⟩, A80, H⟩ := H
   (try dsimp only at H)
   have A8 := zm A80
   clear A80
   have H' := zm H
   clear H
   obtain ⟨Ao9, co9, eo9⟩ := Kd.R_slice HO339.out
   subst eo9
   go_wp2_with (first | ((with_reducible refine gate_callee (f := 136) rfl ?_); refine goesA_ (some 12) Try.func136 #[.slice Ao9 t337.length co9] rfl ?_; (with_reducible refine (spec_stGood.calls k _ _ t337 true _ ?side1 ?side2 A6.out).mono ?_); (case side1 => repeat (first | exact (Kd.R_reads' HO339.out).2.2 | (with_reducible refine Kd.C_alloc ?_ _) | (with_reducible refine Kd.C_drewN ?_ _) | (with_reducible refine Kd.C_drew ?_))); (case side2 => exact (Kd.R_reads' HO339.out).2.1); rintro e w10 ⟨rfl, hb⟩; refine ⟨_, rfl, ?_⟩; have n0_ := zm (Kd.R_below (by (with_reducible repeat (first | apply Kd.R_alloc | apply Kd.R_drewN | apply Kd.R_drew)); exact HO339.out) hb); have n1_ := zm (IsS115.below z115i hb); have n2_ := zm (below_step zb hb); clear HO339; clear HI336; clear HB; have HO339 := n0_; have HI336 := n1_; have HB := n2_; clear n0_ n1_ n2_; (try clear hb); (try clear hb2); (try clear hk); (try clear hi)) | (go_at_call 139; (with_reducible refine (spec_l1Cur_one.calls gb336 l0 t340 t341 2 t343 t344 t345 w _ ?side1 ?side2 A8.out).mono ?_); (case side1 => repeat (first | (with_reducible first | exact HI336.out | apply IsS115.alloc | apply IsS115.drewN | apply IsS115.drew | apply IsS115.set_1 | apply IsS115.set_2) | exact HI336.out)); (case side2 => repeat (first | (with_reducible first | exact HB.out | apply below_alloc | apply pw_below_drewN | apply below_drew1 | refine below_set ?_ (IsS115.ge HI336.out)) | exact HB.out)); rintro e w11 ⟨rfl, hi, hb, hk⟩; have n0_ := zm (Kd.R_mono (Kd.R_keep (IsS115.apart (show IsS115 w _ gb336 l0 t340 t341 from z115i) (by (with_reducible repeat (first | apply Kd.R_alloc | apply Kd.R_drewN | apply Kd.R_drew)); exact HO339.out) (by decide)) hk (fun _ h => h.2)) (fun _ h => h.1)); have n1_ := zm (hb); have n2_ := zm (hi); clear HO339; clear HB; clear HI336; have HO339 := n0_; have HB := n1_; have HI336 := n2_; clear n0_ n1_ n2_; (try clear hb); (try clear hb2); (try clear hk); (try clear hi)))
   go_meet
   case rel => exact ⟨_, (t343), (t344), (t345), (by first | rfl | (simp; done) | (simp [*]; done)), H', ⟨by first | omega | exact Nat.le_refl _⟩, ⟨by (with_reducible repeat (first | apply Kd.R_alloc | apply Kd.R_drewN | apply Kd.R_drew)); exact HO339.out⟩, ⟨z115i⟩, ⟨zb⟩⟩
  ·
   replace c7 := Bool.eq_false_iff.mpr c7
   subst c7
   have H1 : (spec_DrawStepAtPlace.j0 k t337 false l0 t340 t341) = some (r1, r2) := by rw [if_neg (show ¬ (false = true) by decide)] at H; exact H
   clear H
   have H := H1
   clear H1
   have H' := zm H
   clear H
   obtain ⟨Ao12, co12, eo12⟩ := Kd.R_slice HO339.out
   subst eo12
   go_wp2_with (first | ((with_reducible refine gate_callee (f := 136) rfl ?_); refine goesA_ (some 12) Try.func136 #[.slice Ao12 t337.length co12] rfl ?_; (with_reducible refine (spec_stGood.calls k _ _ t337 false _ ?side1 ?side2 A6.out).mono ?_); (case side1 => repeat (first | exact (Kd.R_reads' HO339.out).2.2 | (with_reducible refine Kd.C_alloc ?_ _) | (with_reducible refine Kd.C_drewN ?_ _) | (with_reducible refine Kd.C_drew ?_))); (case side2 => exact (Kd.R_reads' HO339.out).2.1); rintro e w13 ⟨rfl, hb⟩; refine ⟨_, rfl, ?_⟩; have n0_ := zm (Kd.R_below (by (with_reducible repeat (first | apply Kd.R_alloc | apply Kd.R_drewN | apply Kd.R_drew)); exact HO339.out) hb); have n1_ := zm (IsS115.below z115i hb); have n2_ := zm (below_step zb hb); clear HO339; clear HI336; clear HB; have HO339 := n0_; have HI336 := n1_; have HB := n2_; clear n0_ n1_ n2_; (try clear hb); (try clear hb2); (try clear hk); (try clear hi)))
   go_meet
   case rel => exact ⟨_, (false), (t340), (t341), (by first | rfl | (simp; done) | (simp [*]; done)), H', ⟨by first | omega | exact Nat.le_refl _⟩, ⟨by (with_reducible repeat (first | apply Kd.R_alloc | apply Kd.R_drewN | apply Kd.R_drew)); exact HO339.out⟩, ⟨z115i⟩, ⟨zb⟩⟩
 case rest =>
  clear HC3
  (try clear c1); (try clear p2); (try clear c6); (try clear c7); (try clear c12); (try clear c13)
  obtain ⟨kq, x16_2, x337001_2, x337002_2, rfl, HA, HJ2, HO_5, HI336, HB⟩ := hcut
  cases kq with
  | zero => exact absurd HA.out (by simp [spec_DrawStepAtPlace.j0])
  | succ kj2 =>
   have H := HA.out
   clear HA
   simp only [spec_DrawStepAtPlace.j0] at H
   by_cases c14 : x16_2 = true
   ·
    subst c14
    have H1 : ((spec_stSteps.f kj2 t337).bind fun t346 => ((spec_l1Cur_pick.f l0 x337001_2 x337002_2 (wrap64 (t346 + 1))).bind fun bt347 => ((spec_stPlace.f kj2 t337 bt347.1).bind fun t350 => ((spec_l1Cur_pick.f l0 bt347.2.1 bt347.2.2 3).bind fun bt351 => ((spec_l1Most.f 0 (wrap64 ((wrap64 (t350 + bt351.1)) - 1))).bind fun t354 => (some (t337, t354))))))) = some (r1, r2) := by rw [if_pos rfl] at H; exact H
    clear H
    have H := H1
    clear H1
    replace H := Option.bind_eq_some_iff.mp H
    obtain ⟨t346, A150, H⟩ := H
    (try dsimp only at H)
    have A15 := zm A150
    clear A150
    replace H := Option.bind_eq_some_iff.mp H
    obtain ⟨⟨t347, t348, t349⟩, A160, H⟩ := H
    (try dsimp only at H)
    have A16 := zm A160
    clear A160
    replace H := Option.bind_eq_some_iff.mp H
    obtain ⟨t350, A170, H⟩ := H
    (try dsimp only at H)
    have A17 := zm A170
    clear A170
    replace H := Option.bind_eq_some_iff.mp H
    obtain ⟨⟨t351, t352, t353⟩, A180, H⟩ := H
    (try dsimp only at H)
    have A18 := zm A180
    clear A180
    replace H := Option.bind_eq_some_iff.mp H
    obtain ⟨t354, A190, H⟩ := H
    (try dsimp only at H)
    have A19 := zm A190
    clear A190
    simp only [Option.some.injEq, Prod.mk.injEq] at H
    obtain ⟨rfl, rfl⟩ := H
    obtain ⟨Ao20, co20, eo20⟩ := Kd.R_slice HO_5.out
    subst eo20
    go_wp2_with (first | ((with_reducible refine gate_callee (f := 138) rfl ?_); refine goesA_ (some 21) Try.func138 #[.slice Ao20 t337.length co20] rfl ?_; (with_reducible refine (spec_stSteps.calls kj2 _ _ t337 t346 _ ?side1 ?side2 A15.out).mono ?_); (case side1 => repeat (first | exact (Kd.R_reads' HO_5.out).2.2 | (with_reducible refine Kd.C_alloc ?_ _) | (with_reducible refine Kd.C_drewN ?_ _) | (with_reducible refine Kd.C_drew ?_))); (case side2 => exact (Kd.R_reads' HO_5.out).2.1); rintro e w21 ⟨rfl, hb⟩; refine ⟨_, rfl, ?_⟩; have n0_ := zm (Kd.R_below (by (with_reducible repeat (first | apply Kd.R_alloc | apply Kd.R_drewN | apply Kd.R_drew)); exact HO_5.out) hb); have n1_ := zm (IsS115.below z115i hb); have n2_ := zm (below_step zb hb); clear HO_5; clear HI336; clear HB; have HO_5 := n0_; have HI336 := n1_; have HB := n2_; clear n0_ n1_ n2_; (try clear hb); (try clear hb2); (try clear hk); (try clear hi)) | ((with_reducible refine gate_callee (f := 121) rfl ?_); refine goesA_ (some 23) Try.func121 #[.pointer (some ⟨gb336, 0, none⟩), .int .i64 (wrap64 (t346 + 1))] rfl ?_; (with_reducible refine (spec_l1Cur_pick.calls gb336 l0 x337001_2 x337002_2 (wrap64 (t346 + 1)) t347 t348 t349 w _ ?side1 ?side2 A16.out).mono ?_); (case side1 => repeat (first | (with_reducible first | exact HI336.out | apply IsS115.alloc | apply IsS115.drewN | apply IsS115.drew | apply IsS115.set_1 | apply IsS115.set_2) | exact HI336.out)); (case side2 => repeat (first | (with_reducible first | exact HB.out | apply below_alloc | apply pw_below_drewN | apply below_drew1 | refine below_set ?_ (IsS115.ge HI336.out)) | exact HB.out)); rintro e w22 ⟨rfl, hi, hb, hk⟩; refine ⟨_, rfl, ?_⟩; have n0_ := zm (Kd.R_mono (Kd.R_keep (IsS115.apart (show IsS115 w _ gb336 l0 x337001_2 x337002_2 from z115i) (by (with_reducible repeat (first | apply Kd.R_alloc | apply Kd.R_drewN | apply Kd.R_drew)); exact HO_5.out) (by decide)) hk (fun _ h => h.2)) (fun _ h => h.1)); have n1_ := zm (hb); have n2_ := zm (hi); clear HO_5; clear HB; clear HI336; have HO_5 := n0_; have HB := n1_; have HI336 := n2_; clear n0_ n1_ n2_; (try clear hb); (try clear hb2); (try clear hk); (try clear hi)) | ((with_reducible refine gate_callee (f := 131) rfl ?_); refine goesA_ (some 24) Try.func131 #[.slice Ao20 t337.length co20, .int .i64 t347] rfl ?_; (with_reducible refine (spec_stPlace.calls kj2 _ _ t337 t347 t350 _ ?side1 ?side2 A17.out).mono ?_); (case side1 => repeat (first | exact (Kd.R_reads' HO_5.out).2.2 | (with_reducible refine Kd.C_alloc ?_ _) | (with_reducible refine Kd.C_drewN ?_ _) | (with_reducible refine Kd.C_drew ?_))); (case side2 => exact (Kd.R_reads' HO_5.out).2.1); rintro e w23 ⟨rfl, hb⟩; refine ⟨_, rfl, ?_⟩; have n0_ := zm (Kd.R_below (by (with_reducible repeat (first | apply Kd.R_alloc | apply Kd.R_drewN | apply Kd.R_drew)); exact HO_5.out) hb); have n1_ := zm (IsS115.below z115i hb); have n2_ := zm (below_step zb hb); clear HO_5; clear HI336; clear HB; have HO_5 := n0_; have HI336 := n1_; have HB := n2_; clear n0_ n1_ n2_; (try clear hb); (try clear hb2); (try clear hk); (try clear hi)) | ((with_reducible refine gate_callee (f := 121) rfl ?_); refine goesA_ (some 26) Try.func121 #[.pointer (some ⟨gb336, 0, none⟩), .int .i64 3] rfl ?_; (with_reducible refine (spec_l1Cur_pick.calls gb336 l0 t348 t349 3 t351 t352 t353 w _ ?side1 ?side2 A18.out).mono ?_); (case side1 => repeat (first | (with_reducible first | exact HI336.out | apply IsS115.alloc | apply IsS115.drewN | apply IsS115.drew | apply IsS115.set_1 | apply IsS115.set_2) | exact HI336.out)); (case side2 => repeat (first | (with_reducible first | exact HB.out | apply below_alloc | apply pw_below_drewN | apply below_drew1 | refine below_set ?_ (IsS115.ge HI336.out)) | exact HB.out)); rintro e w24 ⟨rfl, hi, hb, hk⟩; refine ⟨_, rfl, ?_⟩; have n0_ := zm (Kd.R_mono (Kd.R_keep (IsS115.apart (show IsS115 w _ gb336 l0 t348 t349 from z115i) (by (with_reducible repeat (first | apply Kd.R_alloc | apply Kd.R_drewN | apply Kd.R_drew)); exact HO_5.out) (by decide)) hk (fun _ h => h.2)) (fun _ h => h.1)); have n1_ := zm (hb); have n2_ := zm (hi); clear HO_5; clear HB; clear HI336; have HO_5 := n0_; have HB := n1_; have HI336 := n2_; clear n0_ n1_ n2_; (try clear hb); (try clear hb2); (try clear hk); (try clear hi)) | ((with_reducible refine gate_callee (f := 96) rfl ?_); refine goesA_ (some 29) Try.func96 #[.int .i64 0, .int .i64 (wrap64 ((wrap64 (t350 + t351)) - 1))] rfl ?_; (with_reducible refine (spec_l1Most.calls 0 (wrap64 ((wrap64 (t350 + t351)) - 1)) t354 _ A19.out).mono ?_); rintro e w' ⟨rfl, ⟨nd, rfl⟩⟩; refine ⟨_, rfl, ?_⟩))
    go_ret2
    exact ⟨_, zr, by (with_reducible repeat (first | apply Kd.R_alloc | apply Kd.R_drewN | apply Kd.R_drew)); exact HO_5.out, zb⟩
   ·
    replace c14 := Bool.eq_false_iff.mpr c14
    subst c14
    have H1 : ((spec_l1Cur_pick.f l0 x337001_2 x337002_2 60000).bind fun bt355 => ((spec_l1Cur_among.f l0 bt355.2.1 bt355.2.2 (([2200001, (-1)] : List Int))).bind fun bt361 => ((spec_l1Cur_among.f l0 bt361.2.1 bt361.2.2 (([0, 999, 1000, bt355.1, 2200000, bt361.1] : List Int))).bind fun bt367 => (some (t337, bt367.1))))) = some (r1, r2) := by rw [if_neg (show ¬ (false = true) by decide)] at H; exact H
    clear H
    have H := H1
    clear H1
    replace H := Option.bind_eq_some_iff.mp H
    obtain ⟨⟨t355, t356, t357⟩, A250, H⟩ := H
    (try dsimp only at H)
    have A25 := zm A250
    clear A250
    obtain ⟨y358, hy358⟩ : ∃ y_ : List Int, y_ = (([2200001, (-1)] : List Int)) := ⟨_, rfl⟩
    replace H : ((spec_l1Cur_among.f l0 t356 t357 y358).bind fun bt361 => ((spec_l1Cur_among.f l0 bt361.2.1 bt361.2.2 (([0, 999, 1000, t355, 2200000, bt361.1] : List Int))).bind fun bt367 => (some (t337, bt367.1)))) = some (r1, r2) := by first | (rw [hy358]; with_reducible exact H) | (have H2_ := (Option.bind_some _ _).symm.trans H; rw [hy358]; with_reducible exact H2_) | (have H2_ := (Option.bind_some _ _).symm.trans H; with_reducible exact H2_) | with_reducible exact H | (rw [hy358]; exact H) | exact H
    have Ny358 := zm hy358
    clear hy358
    replace H := Option.bind_eq_some_iff.mp H
    obtain ⟨⟨t361, t362, t363⟩, A260, H⟩ := H
    (try dsimp only at H)
    have A26 := zm A260
    clear A260
    obtain ⟨y364, hy364⟩ : ∃ y_ : List Int, y_ = (([0, 999, 1000, t355, 2200000, t361] : List Int)) := ⟨_, rfl⟩
    replace H : ((spec_l1Cur_among.f l0 t362 t363 y364).bind fun bt367 => (some (t337, bt367.1))) = some (r1, r2) := by first | (rw [hy364]; with_reducible exact H) | (have H2_ := (Option.bind_some _ _).symm.trans H; rw [hy364]; with_reducible exact H2_) | (have H2_ := (Option.bind_some _ _).symm.trans H; with_reducible exact H2_) | with_reducible exact H | (rw [hy364]; exact H) | exact H
    have Ny364 := zm hy364
    clear hy364
    replace H := Option.bind_eq_some_iff.mp H
    obtain ⟨⟨t367, t368, t369⟩, A270, H⟩ := H
    (try dsimp only at H)
    have A27 := zm A270
    clear A270
    simp only [Option.some.injEq, Prod.mk.injEq] at H
    obtain ⟨rfl, rfl⟩ := H
    go_wp2_with (first | ((with_reducible refine gate_callee (f := 121) rfl ?_); refine goesA_ (some 33) Try.func121 #[.pointer (some ⟨gb336, 0, none⟩), .int .i64 60000] rfl ?_; (with_reducible refine (spec_l1Cur_pick.calls gb336 l0 x337001_2 x337002_2 60000 t355 t356 t357 w _ ?side1 ?side2 A25.out).mono ?_); (case side1 => repeat (first | (with_reducible first | exact HI336.out | apply IsS115.alloc | apply IsS115.drewN | apply IsS115.drew | apply IsS115.set_1 | apply IsS115.set_2) | exact HI336.out)); (case side2 => repeat (first | (with_reducible first | exact HB.out | apply below_alloc | apply pw_below_drewN | apply below_drew1 | refine below_set ?_ (IsS115.ge HI336.out)) | exact HB.out)); rintro e w28 ⟨rfl, hi, hb, hk⟩; refine ⟨_, rfl, ?_⟩; have n0_ := zm (Kd.R_mono (Kd.R_keep (IsS115.apart (show IsS115 w _ gb336 l0 x337001_2 x337002_2 from z115i) (by (with_reducible repeat (first | apply Kd.R_alloc | apply Kd.R_drewN | apply Kd.R_drew)); exact HO_5.out) (by decide)) hk (fun _ h => h.2)) (fun _ h => h.1)); have n1_ := zm (hb); have n2_ := zm (hi); clear HO_5; clear HB; clear HI336; have HO_5 := n0_; have HB := n1_; have HI336 := n2_; clear n0_ n1_ n2_; (try clear hb); (try clear hb2); (try clear hk); (try clear hi)) | ((with_reducible refine gate_dst (N := 35) rfl ?_); refine Kd.R_lit (Kd.int .i64) _ 3 ?hg (N := 35) ?hd (xs := ([2200001, (-1)] : List Int)) (inner := [.int .i64 2200001, .int .i64 (-1)]) (ok := fun _ => True) (okp := fun _ => True) ?hr ?hp (fun _ hk => hk) trivial (Below.refl _ _) (Nat.le_refl _) (by simp) ?_; (case hd => rfl); (case hg => rfl); (case hr => first | (go_simp; done) | (go_simp; rfl)); (case hp => exact (Reps.one (show Kd.M (Kd.int .i64) _ _ _ 2200001 [.int .i64 2200001] from rfl) (Reps.one (show Kd.M (Kd.int .i64) _ _ _ (-1) [.int .i64 (-1)] from rfl) (Reps.none _ _)))); intro v359 w29 ho30 hb hg_ hnew_; clear hg_ hnew_; (first | rw [← Ny358.out] at ho30 | (simp only [Int.reduceToNat] at ho30; rw [← Ny358.out] at ho30)); have n0_ := zm (Kd.R_below (by (with_reducible repeat (first | apply Kd.R_alloc | apply Kd.R_drewN | apply Kd.R_drew)); exact HO_5.out) hb); have n1_ := zm (Kd.R_lower ho30 (below_size zb)); have n2_ := zm (IsS115.below z115i hb); have n3_ := zm (below_step zb hb); clear HO_5; clear HI336; clear HB; have HO_5 := n0_; have HO360 := n1_; have HI336 := n2_; have HB := n3_; clear n0_ n1_ n2_ n3_; clear hb ho30; obtain ⟨Ao31, co31, eo31⟩ := Kd.R_slice HO360.out; subst eo31) | ((with_reducible refine gate_callee (f := 120) rfl ?_); refine goesA_ (some 36) Try.func120 #[.pointer (some ⟨gb336, 0, none⟩), .slice Ao31 y358.length co31] rfl ?_; (with_reducible refine (spec_l1Cur_among.calls gb336 l0 t356 t357 _ _ y358 t361 t362 t363 w _ ?side1 ?side2 ?side3 ?side4 ?side5 A26.out).mono ?_); (case side1 => repeat (first | (with_reducible first | exact HI336.out | apply IsS115.alloc | apply IsS115.drewN | apply IsS115.drew | apply IsS115.set_1 | apply IsS115.set_2) | exact HI336.out)); (case side2 => repeat (first | (with_reducible first | exact HB.out | apply below_alloc | apply pw_below_drewN | apply below_drew1 | refine below_set ?_ (IsS115.ge HI336.out)) | exact HB.out)); (case side3 => repeat (first | exact (Kd.R_reads' HO360.out).2.2 | (with_reducible refine Kd.C_alloc ?_ _) | (with_reducible refine Kd.C_drewN ?_ _) | (with_reducible refine Kd.C_drew ?_))); (case side4 => exact (Kd.R_reads' HO360.out).2.1); (case side5 => exact far_slice (IsS115.own_ne HI336.out HO360.out (by decide))); rintro e w32 ⟨rfl, hi, hb, hk⟩; refine ⟨_, rfl, ?_⟩; have n0_ := zm (Kd.R_mono (Kd.R_keep (IsS115.apart (show IsS115 w _ gb336 l0 t356 t357 from z115i) (by (with_reducible repeat (first | apply Kd.R_alloc | apply Kd.R_drewN | apply Kd.R_drew)); exact HO_5.out) (by decide)) hk (fun _ h => h.2)) (fun _ h => h.1)); have n1_ := zm (Kd.R_mono (Kd.R_keep (IsS115.apart (show IsS115 w _ gb336 l0 t356 t357 from z115i) (by (with_reducible repeat (first | apply Kd.R_alloc | apply Kd.R_drewN | apply Kd.R_drew)); exact HO360.out) (by decide)) hk (fun _ h => h.2)) (fun _ h => h.1)); have n2_ := zm (hb); have n3_ := zm (hi); clear HO_5; clear HO360; clear HB; clear HI336; have HO_5 := n0_; have HO360 := n1_; have HB := n2_; have HI336 := n3_; clear n0_ n1_ n2_ n3_; (try clear hb); (try clear hb2); (try clear hk); (try clear hi)) | ((with_reducible refine gate_dst (N := 37) rfl ?_); refine Kd.R_lit (Kd.int .i64) _ 3 ?hg (N := 37) ?hd (xs := ([0, 999, 1000, t355, 2200000, t361] : List Int)) (inner := [.int .i64 0, .int .i64 999, .int .i64 1000, .int .i64 t355, .int .i64 2200000, .int .i64 t361]) (ok := fun _ => True) (okp := fun _ => True) ?hr ?hp (fun _ hk => hk) trivial (Below.refl _ _) (Nat.le_refl _) (by simp) ?_; (case hd => rfl); (case hg => rfl); (case hr => first | (go_simp; done) | (go_simp; rfl)); (case hp => exact (Reps.one (show Kd.M (Kd.int .i64) _ _ _ 0 [.int .i64 0] from rfl) (Reps.one (show Kd.M (Kd.int .i64) _ _ _ 999 [.int .i64 999] from rfl) (Reps.one (show Kd.M (Kd.int .i64) _ _ _ 1000 [.int .i64 1000] from rfl) (Reps.one (show Kd.M (Kd.int .i64) _ _ _ t355 [.int .i64 t355] from rfl) (Reps.one (show Kd.M (Kd.int .i64) _ _ _ 2200000 [.int .i64 2200000] from rfl) (Reps.one (show Kd.M (Kd.int .i64) _ _ _ t361 [.int .i64 t361] from rfl) (Reps.none _ _)))))))); intro v365 w33 ho34 hb hg_ hnew_; clear hg_ hnew_; (first | rw [← Ny364.out] at ho34 | (simp only [Int.reduceToNat] at ho34; rw [← Ny364.out] at ho34)); have n0_ := zm (Kd.R_below (by (with_reducible repeat (first | apply Kd.R_alloc | apply Kd.R_drewN | apply Kd.R_drew)); exact HO_5.out) hb); have n1_ := zm (Kd.R_elder' (by (with_reducible repeat (first | apply Kd.R_alloc | apply Kd.R_drewN | apply Kd.R_drew)); exact HO360.out) (Kd.R_base ho34) hb); have n2_ := zm (Kd.R_lower (Kd.R_new' ho34 (Kd.R_lt (by (with_reducible repeat (first | apply Kd.R_alloc | apply Kd.R_drewN | apply Kd.R_drew)); exact HO360.out))) (below_size zb)); have n3_ := zm (IsS115.below z115i hb); have n4_ := zm (below_step zb hb); clear HO_5; clear HO360; clear HI336; clear HB; have HO_5 := n0_; have HO360 := n1_; have HO366 := n2_; have HI336 := n3_; have HB := n4_; clear n0_ n1_ n2_ n3_ n4_; clear hb ho34; obtain ⟨Ao35, co35, eo35⟩ := Kd.R_slice HO366.out; subst eo35) | ((with_reducible refine gate_callee (f := 120) rfl ?_); refine goesA_ (some 38) Try.func120 #[.pointer (some ⟨gb336, 0, none⟩), .slice Ao35 y364.length co35] rfl ?_; (with_reducible refine (spec_l1Cur_among.calls gb336 l0 t362 t363 _ _ y364 t367 t368 t369 w _ ?side1 ?side2 ?side3 ?side4 ?side5 A27.out).mono ?_); (case side1 => repeat (first | (with_reducible first | exact HI336.out | apply IsS115.alloc | apply IsS115.drewN | apply IsS115.drew | apply IsS115.set_1 | apply IsS115.set_2) | exact HI336.out)); (case side2 => repeat (first | (with_reducible first | exact HB.out | apply below_alloc | apply pw_below_drewN | apply below_drew1 | refine below_set ?_ (IsS115.ge HI336.out)) | exact HB.out)); (case side3 => repeat (first | exact (Kd.R_reads' HO366.out).2.2 | (with_reducible refine Kd.C_alloc ?_ _) | (with_reducible refine Kd.C_drewN ?_ _) | (with_reducible refine Kd.C_drew ?_))); (case side4 => exact (Kd.R_reads' HO366.out).2.1); (case side5 => exact far_slice (IsS115.own_ne HI336.out HO366.out (by decide))); rintro e w36 ⟨rfl, hi, hb, hk⟩; refine ⟨_, rfl, ?_⟩; have n0_ := zm (Kd.R_mono (Kd.R_keep (IsS115.apart (show IsS115 w _ gb336 l0 t362 t363 from z115i) (by (with_reducible repeat (first | apply Kd.R_alloc | apply Kd.R_drewN | apply Kd.R_drew)); exact HO_5.out) (by decide)) hk (fun _ h => h.2)) (fun _ h => h.1)); have n1_ := zm (Kd.R_mono (Kd.R_keep (IsS115.apart (show IsS115 w _ gb336 l0 t362 t363 from z115i) (by (with_reducible repeat (first | apply Kd.R_alloc | apply Kd.R_drewN | apply Kd.R_drew)); exact HO360.out) (by decide)) hk (fun _ h => h.2)) (fun _ h => h.1)); have n2_ := zm (Kd.R_mono (Kd.R_keep (IsS115.apart (show IsS115 w _ gb336 l0 t362 t363 from z115i) (by (with_reducible repeat (first | apply Kd.R_alloc | apply Kd.R_drewN | apply Kd.R_drew)); exact HO366.out) (by decide)) hk (fun _ h => h.2)) (fun _ h => h.1)); have n3_ := zm (hb); have n4_ := zm (hi); clear HO_5; clear HO360; clear HO366; clear HB; clear HI336; have HO_5 := n0_; have HO360 := n1_; have HO366 := n2_; have HB := n3_; have HI336 := n4_; clear n0_ n1_ n2_ n3_ n4_; (try clear hb); (try clear hb2); (try clear hk); (try clear hi)))
    go_ret2
    exact ⟨_, zr, by (with_reducible repeat (first | apply Kd.R_alloc | apply Kd.R_drewN | apply Kd.R_drew)); exact HO_5.out, zb⟩

end Go.Proofs.Ytepkedhmbfkenaa.PPl
