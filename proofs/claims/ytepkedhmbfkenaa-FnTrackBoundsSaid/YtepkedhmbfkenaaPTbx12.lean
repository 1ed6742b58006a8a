-- Written for this claim by a program of this session (wip/tpl/patchprint.py), not by print.sh.
import Derived.Test.YtepkedhmbfkenaaPTbx0
import Derived.Test.YtepkedhmbfkenaaPTbx11
namespace Go.Proofs.Ytepkedhmbfkenaa.PTb
open Go.RowKit Go.Proofs.YtepkedhmbfkenaaW.PrintWords Go.Proofs.YtepkedhmbfkenaaW.PrintLast Go.Proofs.YtepkedhmbfkenaaW.PrintMore
attribute [local go_sem] max2_int min2_int max_two min_two max_three min_three max_four min_four   -- for this text's walks alone
set_option linter.unusedVariables false
set_option linter.unusedSimpArgs false

/-! ### spec_l1Cur_drifts: function 114 -/
mutual
def spec_l1Cur_drifts.j0 : Nat → List Int → Int → List Int → Int → Int → Option (List Int × Int × Int)
  | 0, _, _, _, _, _ => none
  | k + 1, x3, x4, x1000, x1001, x1002 => (spec_l1Cur_among.f x1000 x1001 x1002 (([3, 10, (-10), 50] : List Int))).bind fun bt497 => (spec_l1Cur_drifts.l0 k x3 x4 bt497.1 x1000 bt497.2.1 bt497.2.2)
def spec_l1Cur_drifts.l0 : Nat → List Int → Int → Int → List Int → Int → Int → Option (List Int × Int × Int)
  | 0, _, _, _, _, _, _ => none
  | k + 1, x3, x4, x5, x1000, x1001, x1002 => if (x3.length : Int) < x4 then ((spec_l1Cur_pick.f x1000 x1001 x1002 101).bind fun bt500 => ((spec_l1Cur_among.f x1000 bt500.2.1 bt500.2.2 (([x5, x5, 0, wrap64 (-x5), wrap64 (bt500.1 - 50)] : List Int))).bind fun bt506 => (if x3.length < 17592186044416 then (spec_l1Cur_drifts.l0 k (x3 ++ [bt506.1]) x4 x5 x1000 bt506.2.1 bt506.2.2) else (none)))) else (if x4 > 0 then ((spec_l1Cur_one.f x1000 x1001 x1002 24).bind fun bt512 => (spec_l1Cur_drifts.j2 k x3 x4 bt512.1 x1000 bt512.2.1 bt512.2.2)) else (spec_l1Cur_drifts.j2 k x3 x4 false x1000 x1001 x1002))
def spec_l1Cur_drifts.j2 : Nat → List Int → Int → Bool → List Int → Int → Int → Option (List Int × Int × Int)
  | 0, _, _, _, _, _, _ => none
  | k + 1, x3, x4, x38, x1000, x1001, x1002 => if x38 = true then ((spec_l1Cur_pick.f x1000 x1001 x1002 x4).bind fun bt515 => ((spec_l1Cur_among.f x1000 bt515.2.1 bt515.2.2 (([51, (-51)] : List Int))).bind fun bt521 => (if 0 ≤ bt515.1 then (if bt515.1 < (x3.length : Int) then (some ((x3.set (bt515.1 : Int).toNat bt521.1), bt521.2.1, bt521.2.2)) else (none)) else (none)))) else (some (x3, x1001, x1002))
end
def spec_l1Cur_drifts.f (k : Nat) (s0_0 : List Int) (s0_1 : Int) (s0_2 : Int) : Option (List Int × Int × Int) := (spec_l1Cur_pick.f s0_0 s0_1 s0_2 12).bind fun bt485 => ((spec_l1Cur_one.f s0_0 bt485.2.1 bt485.2.2 20).bind fun bt488 => (if bt488.1 = true then ((spec_l1Cur_pick.f s0_0 bt488.2.1 bt488.2.2 2).bind fun bt491 => (spec_l1Cur_drifts.j0 k ([] : List Int) (wrap64 (100 + bt491.1)) s0_0 bt491.2.1 bt491.2.2)) else (spec_l1Cur_drifts.j0 k ([] : List Int) bt485.1 s0_0 bt488.2.1 bt488.2.2)))
theorem spec_l1Cur_drifts.mono_l : ∀ k, (∀ y0 y1 y2 y3 y4, LeO (spec_l1Cur_drifts.j0 k y0 y1 y2 y3 y4) (spec_l1Cur_drifts.j0 (k + 1) y0 y1 y2 y3 y4)) ∧ (∀ y0 y1 y2 y3 y4 y5, LeO (spec_l1Cur_drifts.l0 k y0 y1 y2 y3 y4 y5) (spec_l1Cur_drifts.l0 (k + 1) y0 y1 y2 y3 y4 y5)) ∧ (∀ y0 y1 y2 y3 y4 y5, LeO (spec_l1Cur_drifts.j2 k y0 y1 y2 y3 y4 y5) (spec_l1Cur_drifts.j2 (k + 1) y0 y1 y2 y3 y4 y5))
  | 0 => ⟨fun _ _ _ _ _ r h => by simp [spec_l1Cur_drifts.j0] at h, fun _ _ _ _ _ _ r h => by simp [spec_l1Cur_drifts.l0] at h, fun _ _ _ _ _ _ r h => by simp [spec_l1Cur_drifts.j2] at h⟩
  | k + 1 => by
    obtain ⟨ih0, ih1, ih2⟩ := spec_l1Cur_drifts.mono_l k
    refine ⟨?_, ?_, ?_⟩
    · intro y0 y1 y2 y3 y4
      unfold spec_l1Cur_drifts.j0
      repeat' first
      | (with_reducible exact ih0 _ _ _ _ _)
      | (with_reducible exact ih1 _ _ _ _ _ _)
      | (with_reducible exact ih2 _ _ _ _ _ _)
      | (with_reducible exact LeO.refl _)
      | (with_reducible exact LeO.none _)
      | (with_reducible refine LeO.ite ?_ ?_)
      | (with_reducible refine LeO.bind ?_ (fun _ => ?_))
      | exact ih0 _ _ _ _ _
      | exact ih1 _ _ _ _ _ _
      | exact ih2 _ _ _ _ _ _
      | exact LeO.none _
      | refine LeO.ite ?_ ?_
      | refine LeO.bind ?_ (fun _ => ?_)
    · intro y0 y1 y2 y3 y4 y5
      unfold spec_l1Cur_drifts.l0
      repeat' first
      | (with_reducible exact ih0 _ _ _ _ _)
      | (with_reducible exact ih1 _ _ _ _ _ _)
      | (with_reducible exact ih2 _ _ _ _ _ _)
      | (with_reducible exact LeO.refl _)
      | (with_reducible exact LeO.none _)
      | (with_reducible refine LeO.ite ?_ ?_)
      | (with_reducible refine LeO.bind ?_ (fun _ => ?_))
      | exact ih0 _ _ _ _ _
      | exact ih1 _ _ _ _ _ _
      | exact ih2 _ _ _ _ _ _
      | exact LeO.none _
      | refine LeO.ite ?_ ?_
      | refine LeO.bind ?_ (fun _ => ?_)
    · intro y0 y1 y2 y3 y4 y5
      unfold spec_l1Cur_drifts.j2
      repeat' first
      | (with_reducible exact ih0 _ _ _ _ _)
      | (with_reducible exact ih1 _ _ _ _ _ _)
      | (with_reducible exact ih2 _ _ _ _ _ _)
      | (with_reducible exact LeO.refl _)
      | (with_reducible exact LeO.none _)
      | (with_reducible refine LeO.ite ?_ ?_)
      | (with_reducible refine LeO.bind ?_ (fun _ => ?_))
      | exact ih0 _ _ _ _ _
      | exact ih1 _ _ _ _ _ _
      | exact ih2 _ _ _ _ _ _
      | exact LeO.none _
      | refine LeO.ite ?_ ?_
      | refine LeO.bind ?_ (fun _ => ?_)
theorem spec_l1Cur_drifts.mono : ∀ a0 a1 a2 k, LeO (spec_l1Cur_drifts.f k a0 a1 a2) (spec_l1Cur_drifts.f (k + 1) a0 a1 a2) := by
  intro a0 a1 a2 k
  obtain ⟨ih0, ih1, ih2⟩ := spec_l1Cur_drifts.mono_l k
  unfold spec_l1Cur_drifts.f
  repeat' first
      | (with_reducible exact ih0 _ _ _ _ _)
      | (with_reducible exact ih1 _ _ _ _ _ _)
      | (with_reducible exact ih2 _ _ _ _ _ _)
      | (with_reducible exact LeO.refl _)
      | (with_reducible exact LeO.none _)
      | (with_reducible refine LeO.ite ?_ ?_)
      | (with_reducible refine LeO.bind ?_ (fun _ => ?_))
      | exact ih0 _ _ _ _ _
      | exact ih1 _ _ _ _ _ _
      | exact ih2 _ _ _ _ _ _
      | exact LeO.none _
      | refine LeO.ite ?_ ?_
      | refine LeO.bind ?_ (fun _ => ?_)
set_option maxHeartbeats 8000000 in
set_option maxRecDepth 100000 in
theorem spec_l1Cur_drifts.calls (k : Nat) (g : Nat) (s0_0 : List Int) (s0_1 : Int) (s0_2 : Int) (r1 : List Int) (r2 : Int) (r3 : Int) (w0 w : World) (hI : IsS115 w0 w g s0_0 s0_1 s0_2) (hB : Below w0.heap.size w0 w) (h : spec_l1Cur_drifts.f k s0_0 s0_1 s0_2 = some (r1, r2, r3)) :
  Calls Try.prog 114 #[.pointer (some ⟨g, 0, none⟩)] w fun e w' => ∃ v0_ : Value, e = .returned (v0_) ∧ Kd.R (Kd.int .i64) 3 w' w.heap.size (fun _ => True) v0_ r1 ∧ IsS115 w0 w' g s0_0 r2 r3 ∧ Below w0.heap.size w0 w' ∧ KeepBut w w' g none := by
 have HI0 := zm hI
 have GHI0 := zm (IsS115.ge HI0.out)
 have HK := zm (KeepBut.refl w g none)
 have HL := zm hB.size
 clear hI
 have HW0 := zm hB.size
 have HB := zm hB
 clear hB
 have H : ((spec_l1Cur_pick.f s0_0 s0_1 s0_2 12).bind fun bt485 => ((spec_l1Cur_one.f s0_0 bt485.2.1 bt485.2.2 20).bind fun bt488 => (if bt488.1 = true then ((spec_l1Cur_pick.f s0_0 bt488.2.1 bt488.2.2 2).bind fun bt491 => (spec_l1Cur_drifts.j0 k ([] : List Int) (wrap64 (100 + bt491.1)) s0_0 bt491.2.1 bt491.2.2)) else (spec_l1Cur_drifts.j0 k ([] : List Int) bt485.1 s0_0 bt488.2.1 bt488.2.2)))) = some (r1, r2, r3) := h
 clear h
 replace H := Option.bind_eq_some_iff.mp H
 obtain ⟨⟨t485, t486, t487⟩, A20, H⟩ := H
 (try dsimp only at H)
 have A2 := zm A20
 clear A20
 replace H := Option.bind_eq_some_iff.mp H
 obtain ⟨⟨t488, t489, t490⟩, A30, H⟩ := H
 (try dsimp only at H)
 have A3 := zm A30
 clear A30
 have HC4 := zm H
 clear H
 go_enter Try.func114, Try.ntmps114
 go_upto_if 9 with (first | ((with_reducible refine gate_callee (f := 121) rfl ?_); refine goesA_ (some 7) Try.func121 #[.pointer (some ⟨g, 0, none⟩), .int .i64 12] rfl ?_; (with_reducible refine (spec_l1Cur_pick.calls g s0_0 s0_1 s0_2 12 t485 t486 t487 w0 _ ?side1 ?side2 A2.out).mono ?_); (case side1 => repeat (first | (with_reducible first | exact HI0.out | apply IsS115.alloc | apply IsS115.drewN | apply IsS115.drew | apply IsS115.set_1 | apply IsS115.set_2) | exact HI0.out)); (case side2 => repeat (first | (with_reducible first | exact HB.out | apply below_alloc | apply pw_below_drewN | apply below_drew1 | refine below_set ?_ (IsS115.ge HI0.out)) | exact HB.out)); rintro e w5 ⟨rfl, hi, hb, hk⟩; refine ⟨_, rfl, ?_⟩; have n0_ := zm (KeepBut.trans zh hk (.inl rfl)); have n1_ := zm (hb); have n2_ := zm (hi); clear HK; clear HB; clear HI0; have HK := n0_; have HB := n1_; have HI0 := n2_; clear n0_ n1_ n2_; (try clear hb); (try clear hb2); (try clear hk); (try clear hi)) | ((with_reducible refine gate_callee (f := 139) rfl ?_); refine goesA_ (some 9) Try.func139 #[.pointer (some ⟨g, 0, none⟩), .int .i64 20] rfl ?_; (with_reducible refine (spec_l1Cur_one.calls g s0_0 t486 t487 20 t488 t489 t490 w0 _ ?side1 ?side2 A3.out).mono ?_); (case side1 => repeat (first | (with_reducible first | exact HI0.out | apply IsS115.alloc | apply IsS115.drewN | apply IsS115.drew | apply IsS115.set_1 | apply IsS115.set_2) | exact HI0.out)); (case side2 => repeat (first | (with_reducible first | exact HB.out | apply below_alloc | apply pw_below_drewN | apply below_drew1 | refine below_set ?_ (IsS115.ge HI0.out)) | exact HB.out)); rintro e w6 ⟨rfl, hi, hb, hk⟩; refine ⟨_, rfl, ?_⟩; have n0_ := zm (KeepBut.trans zh hk (.inl rfl)); have n1_ := zm (hb); have n2_ := zm (hi); clear HK; clear HB; clear HI0; have HK := n0_; have HB := n1_; have HI0 := n2_; clear n0_ n1_ n2_; (try clear hb); (try clear hb2); (try clear hk); (try clear hi)))
 (try simp only [Act.put, List.setIfInBounds_toArray, List.set_cons_zero, List.set_cons_succ])
 go_cut [4] (fun v4 wc => ∃ (kq : Nat) (x4_3 : Int) (x1001_3 : Int) (x1002_3 : Int), v4 = .int .i64 x4_3 ∧ Aside0 (spec_l1Cur_drifts.j0 kq ([] : List Int) x4_3 s0_0 x1001_3 x1002_3 = some (r1, r2, r3)) ∧ Aside0 (kq ≤ k) ∧ Aside0 (Kd.R (Kd.int .i64) 3 wc w.heap.size (fun _ => True) (.slice none 0 0) ([] : List Int)) ∧ Aside0 (IsS115 w0 wc g s0_0 x1001_3 x1002_3) ∧ Aside0 (KeepBut w wc g none) ∧ Aside0 (Below w0.heap.size w0 wc))
 case first =>
  have H := HC4.out
  clear HC4
  by_cases c7 : t488 = true
  ·
   subst c7
   have H1 : ((spec_l1Cur_pick.f s0_0 t489 t490 2).bind fun bt491 => (spec_l1Cur_drifts.j0 k ([] : List Int) (wrap64 (100 + bt491.1)) s0_0 bt491.2.1 bt491.2.2)) = some (r1, r2, r3) := by rw [if_pos rfl] at H; exact H
   clear H
   have H := H1
   clear H1
   replace H := Option.bind_eq_some_iff.mp H
   obtain ⟨⟨t491, t492, t493⟩, A80, H⟩ := H
   (try dsimp only at H)
   have A8 := zm A80
   clear A80
   have H' := zm H
   clear H
   go_wp2_with (first | ((with_reducible refine gate_callee (f := 121) rfl ?_); refine goesA_ (some 11) Try.func121 #[.pointer (some ⟨g, 0, none⟩), .int .i64 2] rfl ?_; (with_reducible refine (spec_l1Cur_pick.calls g s0_0 t489 t490 2 t491 t492 t493 w0 _ ?side1 ?side2 A8.out).mono ?_); (case side1 => repeat (first | (with_reducible first | exact HI0.out | apply IsS115.alloc | apply IsS115.drewN | apply IsS115.drew | apply IsS115.set_1 | apply IsS115.set_2) | exact HI0.out)); (case side2 => repeat (first | (with_reducible first | exact HB.out | apply below_alloc | apply pw_below_drewN | apply below_drew1 | refine below_set ?_ (IsS115.ge HI0.out)) | exact HB.out)); rintro e w9 ⟨rfl, hi, hb, hk⟩; refine ⟨_, rfl, ?_⟩; have n0_ := zm (KeepBut.trans zh hk (.inl rfl)); have n1_ := zm (hb); have n2_ := zm (hi); clear HK; clear HB; clear HI0; have HK := n0_; have HB := n1_; have HI0 := n2_; clear n0_ n1_ n2_; (try clear hb); (try clear hb2); (try clear hk); (try clear hi)))
   go_meet
   case rel => exact ⟨_, (wrap64 (100 + t491)), (t492), (t493), (by first | rfl | (simp; done) | (simp [*]; done)), H', ⟨by first | omega | exact Nat.le_refl _⟩, ⟨by first | exact Kd.R_nil _ _ _ _ _ | exact Kd.N_nil _ _ _ _ _ | exact Kd.V_nil _ _ _ _ _ | exact Kd.Q_nil _ _ _ _ _ | exact Kd.S_nil _ _ _ _ _⟩, ⟨z115i⟩, ⟨zh⟩, ⟨zb⟩⟩
  ·
   replace c7 := Bool.eq_false_iff.mpr c7
   subst c7
   have H1 : (spec_l1Cur_drifts.j0 k ([] : List Int) t485 s0_0 t489 t490) = some (r1, r2, r3) := by rw [if_neg (show ¬ (false = true) by decide)] at H; exact H
   clear H
   have H := H1
   clear H1
   have H' := zm H
   clear H
   go_wp2
   go_meet
   case rel => exact ⟨_, (t485), (t489), (t490), (by first | rfl | (simp; done) | (simp [*]; done)), H', ⟨by first | omega | exact Nat.le_refl _⟩, ⟨by first | exact Kd.R_nil _ _ _ _ _ | exact Kd.N_nil _ _ _ _ _ | exact Kd.V_nil _ _ _ _ _ | exact Kd.Q_nil _ _ _ _ _ | exact Kd.S_nil _ _ _ _ _⟩, ⟨z115i⟩, ⟨zh⟩, ⟨zb⟩⟩
 case rest =>
  clear HC4
  (try clear c1); (try clear p2); (try clear p6); (try clear c7)
  obtain ⟨kq, x4_3, x1001_3, x1002_3, rfl, HA, HJ3, HO_3, HI0, HK, HB⟩ := hcut
  cases kq with
  | zero => exact absurd HA.out (by simp [spec_l1Cur_drifts.j0])
  | succ kj3 =>
   have H := HA.out
   clear HA
   simp only [spec_l1Cur_drifts.j0] at H
   obtain ⟨y494, hy494⟩ : ∃ y_ : List Int, y_ = (([3, 10, (-10), 50] : List Int)) := ⟨_, rfl⟩
   replace H : ((spec_l1Cur_among.f s0_0 x1001_3 x1002_3 y494).bind fun bt497 => (spec_l1Cur_drifts.l0 kj3 ([] : List Int) x4_3 bt497.1 s0_0 bt497.2.1 bt497.2.2)) = some (r1, r2, r3) := by first | (rw [hy494]; with_reducible exact H) | (have H2_ := (Option.bind_some _ _).symm.trans H; rw [hy494]; with_reducible exact H2_) | (have H2_ := (Option.bind_some _ _).symm.trans H; with_reducible exact H2_) | with_reducible exact H | (rw [hy494]; exact H) | exact H
   have Ny494 := zm hy494
   clear hy494
   replace H := Option.bind_eq_some_iff.mp H
   obtain ⟨⟨t497, t498, t499⟩, A100, H⟩ := H
   (try dsimp only at H)
   have A10 := zm A100
   clear A100
   have H' := zm H
   clear H
   go_wp2_with (first | ((with_reducible refine gate_dst (N := 14) rfl ?_); refine Kd.R_lit (Kd.int .i64) _ 3 ?hg (N := 14) ?hd (xs := ([3, 10, (-10), 50] : List Int)) (inner := [.int .i64 3, .int .i64 10, .int .i64 (-10), .int .i64 50]) (ok := fun _ => True) (okp := fun _ => True) ?hr ?hp (fun _ hk => hk) trivial (Below.refl _ _) (Nat.le_refl _) (by simp) ?_; (case hd => rfl); (case hg => rfl); (case hr => first | (go_simp; done) | (go_simp; rfl)); (case hp => exact (Reps.one (show Kd.M (Kd.int .i64) _ _ _ 3 [.int .i64 3] from rfl) (Reps.one (show Kd.M (Kd.int .i64) _ _ _ 10 [.int .i64 10] from rfl) (Reps.one (show Kd.M (Kd.int .i64) _ _ _ (-10) [.int .i64 (-10)] from rfl) (Reps.one (show Kd.M (Kd.int .i64) _ _ _ 50 [.int .i64 50] from rfl) (Reps.none _ _)))))); intro v495 w11 ho12 hb hg_ hnew_; clear hg_ hnew_; (first | rw [← Ny494.out] at ho12 | (simp only [Int.reduceToNat] at ho12; rw [← Ny494.out] at ho12)); have n0_ := zm (Kd.R_elder' (by (with_reducible repeat (first | apply Kd.R_alloc | apply Kd.R_drewN | apply Kd.R_drew)); exact HO_3.out) (Kd.R_base ho12) hb); have n1_ := zm (Kd.R_lower (Kd.R_new' ho12 (Kd.R_lt (by (with_reducible repeat (first | apply Kd.R_alloc | apply Kd.R_drewN | apply Kd.R_drew)); exact HO_3.out))) (keep_size (w := w) (g := g) (row := none) zh)); have n2_ := zm (IsS115.below z115i hb); have n3_ := zm (KeepBut.trans zh (KeepBut.of_below hb g none) (.inl rfl)); have n4_ := zm (below_step zb hb); clear HO_3; clear HI0; clear HK; clear HB; have HO_3 := n0_; have HO496 := n1_; have HI0 := n2_; have HK := n3_; have HB := n4_; clear n0_ n1_ n2_ n3_ n4_; clear hb ho12; obtain ⟨Ao13, co13, eo13⟩ := Kd.R_slice HO496.out; subst eo13) | ((with_reducible refine gate_callee (f := 120) rfl ?_); refine goesA_ (some 15) Try.func120 #[.pointer (some ⟨g, 0, none⟩), .slice Ao13 y494.length co13] rfl ?_; (with_reducible refine (spec_l1Cur_among.calls g s0_0 x1001_3 x1002_3 _ _ y494 t497 t498 t499 w0 _ ?side1 ?side2 ?side3 ?side4 ?side5 A10.out).mono ?_); (case side1 => repeat (first | (with_reducible first | exact HI0.out | apply IsS115.alloc | apply IsS115.drewN | apply IsS115.drew | apply IsS115.set_1 | apply IsS115.set_2) | exact HI0.out)); (case side2 => repeat (first | (with_reducible first | exact HB.out | apply below_alloc | apply pw_below_drewN | apply below_drew1 | refine below_set ?_ (IsS115.ge HI0.out)) | exact HB.out)); (case side3 => repeat (first | exact (Kd.R_reads' HO496.out).2.2 | (with_reducible refine Kd.C_alloc ?_ _) | (with_reducible refine Kd.C_drewN ?_ _) | (with_reducible refine Kd.C_drew ?_))); (case side4 => exact (Kd.R_reads' HO496.out).2.1); (case side5 => exact far_slice (IsS115.own_ne HI0.out HO496.out (by decide))); rintro e w14 ⟨rfl, hi, hb, hk⟩; refine ⟨_, rfl, ?_⟩; have n0_ := zm (Kd.R_mono (Kd.R_keep (IsS115.apart (show IsS115 w0 _ g s0_0 x1001_3 x1002_3 from z115i) (by (with_reducible repeat (first | apply Kd.R_alloc | apply Kd.R_drewN | apply Kd.R_drew)); exact HO_3.out) (by decide)) hk (fun _ h => h.2)) (fun _ h => h.1)); have n1_ := zm (Kd.R_mono (Kd.R_keep (IsS115.apart (show IsS115 w0 _ g s0_0 x1001_3 x1002_3 from z115i) (by (with_reducible repeat (first | apply Kd.R_alloc | apply Kd.R_drewN | apply Kd.R_drew)); exact HO496.out) (by decide)) hk (fun _ h => h.2)) (fun _ h => h.1)); have n2_ := zm (KeepBut.trans zh hk (.inl rfl)); have n3_ := zm (hb); have n4_ := zm (hi); clear HO_3; clear HO496; clear HK; clear HB; clear HI0; have HO_3 := n0_; have HO496 := n1_; have HK := n2_; have HB := n3_; have HI0 := n4_; clear n0_ n1_ n2_ n3_ n4_; (try clear hb); (try clear hb2); (try clear hk); (try clear hi)))
   go_loopg [3] kj3 (fun kq v3 w' => ∃ (x3_2 : List Int) (x1001_2 : Int) (x1002_2 : Int), Aside0 (spec_l1Cur_drifts.l0 kq x3_2 x4_3 t497 s0_0 x1001_2 x1002_2 = some (r1, r2, r3)) ∧ Aside0 (kq ≤ kj3) ∧ Aside0 (Kd.R (Kd.int .i64) 3 w' w.heap.size (fun _ => True) v3 x3_2) ∧ Aside0 (IsS115 w0 w' g s0_0 x1001_2 x1002_2) ∧ Aside0 (KeepBut w w' g none) ∧ Aside0 (Below w0.heap.size w0 w'))
   case atStart => exact ⟨(([] : List Int)), (t498), (t499), H', ⟨Nat.le_refl _⟩, ⟨by (with_reducible repeat (first | apply Kd.R_alloc | apply Kd.R_drewN | apply Kd.R_drew)); exact Kd.R_mono HO_3.out (fun _ hk => trivial)⟩, ⟨z115i⟩, ⟨zh⟩, ⟨zb⟩⟩
   case round =>
    clear H'
    (try clear c1); (try clear p2); (try clear p6); (try clear c7); (try clear c11); (try clear c12); (try clear c13); (try clear p2); (try clear p6)
    obtain ⟨x3_2, x1001_2, x1002_2, HA, HK2, HO_3, HI0, HK, HB⟩ := hrel
    cases gk with
    | zero => exact absurd HA.out (by simp [spec_l1Cur_drifts.l0])
    | succ k2 =>
     have H := HA.out
     clear HA
     simp only [spec_l1Cur_drifts.l0] at H
     by_cases c15 : (x3_2.length : Int) < x4_3
     ·
      rw [if_pos c15] at H
      have c15b0 : decide ((x3_2.length : Int) < x4_3) = true := decide_eq_true c15
      clear c15
      replace H := Option.bind_eq_some_iff.mp H
      obtain ⟨⟨t500, t501, t502⟩, A160, H⟩ := H
      (try dsimp only at H)
      have A16 := zm A160
      clear A160
      obtain ⟨y503, hy503⟩ : ∃ y_ : List Int, y_ = (([t497, t497, 0, wrap64 (-t497), wrap64 (t500 - 50)] : List Int)) := ⟨_, rfl⟩
      replace H : ((spec_l1Cur_among.f s0_0 t501 t502 y503).bind fun bt506 => (if x3_2.length < 17592186044416 then (spec_l1Cur_drifts.l0 k2 (x3_2 ++ [bt506.1]) x4_3 t497 s0_0 bt506.2.1 bt506.2.2) else (none))) = some (r1, r2, r3) := by first | (rw [hy503]; with_reducible exact H) | (have H2_ := (Option.bind_some _ _).symm.trans H; rw [hy503]; with_reducible exact H2_) | (have H2_ := (Option.bind_some _ _).symm.trans H; with_reducible exact H2_) | with_reducible exact H | (rw [hy503]; exact H) | exact H
      have Ny503 := zm hy503
      clear hy503
      replace H := Option.bind_eq_some_iff.mp H
      obtain ⟨⟨t506, t507, t508⟩, A170, H⟩ := H
      (try dsimp only at H)
      have A17 := zm A170
      clear A170
      by_cases c18 : x3_2.length < 17592186044416
      ·
       rw [if_pos c18] at H
       have LMc18 := zm c18
       clear c18
       obtain ⟨y509, hy509⟩ : ∃ y_ : List Int, y_ = (x3_2 ++ [t506]) := ⟨_, rfl⟩
       replace H : (spec_l1Cur_drifts.l0 k2 y509 x4_3 t497 s0_0 t507 t508) = some (r1, r2, r3) := by first | (rw [hy509]; with_reducible exact H) | (have H2_ := (Option.bind_some _ _).symm.trans H; rw [hy509]; with_reducible exact H2_) | (have H2_ := (Option.bind_some _ _).symm.trans H; with_reducible exact H2_) | with_reducible exact H | (rw [hy509]; exact H) | exact H
       have Ny509 := zm hy509
       clear hy509
       have H' := zm H
       clear H
       obtain ⟨Ao19, co19, eo19⟩ := Kd.R_slice HO_3.out
       subst eo19
       go_wp2_with (first | ((with_reducible refine gate_callee (f := 121) rfl ?_); refine goesA_ (some 27) Try.func121 #[.pointer (some ⟨g, 0, none⟩), .int .i64 101] rfl ?_; (with_reducible refine (spec_l1Cur_pick.calls g s0_0 x1001_2 x1002_2 101 t500 t501 t502 w0 _ ?side1 ?side2 A16.out).mono ?_); (case side1 => repeat (first | (with_reducible first | exact HI0.out | apply IsS115.alloc | apply IsS115.drewN | apply IsS115.drew | apply IsS115.set_1 | apply IsS115.set_2) | exact HI0.out)); (case side2 => repeat (first | (with_reducible first | exact HB.out | apply below_alloc | apply pw_below_drewN | apply below_drew1 | refine below_set ?_ (IsS115.ge HI0.out)) | exact HB.out)); rintro e w20 ⟨rfl, hi, hb, hk⟩; refine ⟨_, rfl, ?_⟩; have n0_ := zm (Kd.R_mono (Kd.R_keep (IsS115.apart (show IsS115 w0 _ g s0_0 x1001_2 x1002_2 from z115i) (by (with_reducible repeat (first | apply Kd.R_alloc | apply Kd.R_drewN | apply Kd.R_drew)); exact HO_3.out) (by decide)) hk (fun _ h => h.2)) (fun _ h => h.1)); have n1_ := zm (KeepBut.trans zh hk (.inl rfl)); have n2_ := zm (hb); have n3_ := zm (hi); clear HO_3; clear HK; clear HB; clear HI0; have HO_3 := n0_; have HK := n1_; have HB := n2_; have HI0 := n3_; clear n0_ n1_ n2_ n3_; (try clear hb); (try clear hb2); (try clear hk); (try clear hi)) | ((with_reducible refine gate_dst (N := 29) rfl ?_); refine Kd.R_lit (Kd.int .i64) _ 3 ?hg (N := 29) ?hd (xs := ([t497, t497, 0, wrap64 (-t497), wrap64 (t500 - 50)] : List Int)) (inner := [.int .i64 t497, .int .i64 t497, .int .i64 0, .int .i64 (wrap64 (-t497)), .int .i64 (wrap64 (t500 - 50))]) (ok := fun _ => True) (okp := fun _ => True) ?hr ?hp (fun _ hk => hk) trivial (Below.refl _ _) (Nat.le_refl _) (by simp) ?_; (case hd => rfl); (case hg => rfl); (case hr => first | (go_simp; done) | (go_simp; rfl)); (case hp => exact (Reps.one (show Kd.M (Kd.int .i64) _ _ _ t497 [.int .i64 t497] from rfl) (Reps.one (show Kd.M (Kd.int .i64) _ _ _ t497 [.int .i64 t497] from rfl) (Reps.one (show Kd.M (Kd.int .i64) _ _ _ 0 [.int .i64 0] from rfl) (Reps.one (show Kd.M (Kd.int .i64) _ _ _ (wrap64 (-t497)) [.int .i64 (wrap64 (-t497))] from rfl) (Reps.one (show Kd.M (Kd.int .i64) _ _ _ (wrap64 (t500 - 50)) [.int .i64 (wrap64 (t500 - 50))] from rfl) (Reps.none _ _))))))); intro v504 w21 ho22 hb hg_ hnew_; clear hg_ hnew_; (first | rw [← Ny503.out] at ho22 | (simp only [Int.reduceToNat] at ho22; rw [← Ny503.out] at ho22)); have n0_ := zm (Kd.R_elder' (by (with_reducible repeat (first | apply Kd.R_alloc | apply Kd.R_drewN | apply Kd.R_drew)); exact HO_3.out) (Kd.R_base ho22) hb); have n1_ := zm (Kd.R_lower (Kd.R_new' ho22 (Kd.R_lt (by (with_reducible repeat (first | apply Kd.R_alloc | apply Kd.R_drewN | apply Kd.R_drew)); exact HO_3.out))) (keep_size (w := w) (g := g) (row := none) zh)); have n2_ := zm (IsS115.below z115i hb); have n3_ := zm (KeepBut.trans zh (KeepBut.of_below hb g none) (.inl rfl)); have n4_ := zm (below_step zb hb); clear HO_3; clear HI0; clear HK; clear HB; have HO_3 := n0_; have HO505 := n1_; have HI0 := n2_; have HK := n3_; have HB := n4_; clear n0_ n1_ n2_ n3_ n4_; clear hb ho22; obtain ⟨Ao23, co23, eo23⟩ := Kd.R_slice HO505.out; subst eo23) | ((with_reducible refine gate_callee (f := 120) rfl ?_); refine goesA_ (some 30) Try.func120 #[.pointer (some ⟨g, 0, none⟩), .slice Ao23 y503.length co23] rfl ?_; (with_reducible refine (spec_l1Cur_among.calls g s0_0 t501 t502 _ _ y503 t506 t507 t508 w0 _ ?side1 ?side2 ?side3 ?side4 ?side5 A17.out).mono ?_); (case side1 => repeat (first | (with_reducible first | exact HI0.out | apply IsS115.alloc | apply IsS115.drewN | apply IsS115.drew | apply IsS115.set_1 | apply IsS115.set_2) | exact HI0.out)); (case side2 => repeat (first | (with_reducible first | exact HB.out | apply below_alloc | apply pw_below_drewN | apply below_drew1 | refine below_set ?_ (IsS115.ge HI0.out)) | exact HB.out)); (case side3 => repeat (first | exact (Kd.R_reads' HO505.out).2.2 | (with_reducible refine Kd.C_alloc ?_ _) | (with_reducible refine Kd.C_drewN ?_ _) | (with_reducible refine Kd.C_drew ?_))); (case side4 => exact (Kd.R_reads' HO505.out).2.1); (case side5 => exact far_slice (IsS115.own_ne HI0.out HO505.out (by decide))); rintro e w24 ⟨rfl, hi, hb, hk⟩; refine ⟨_, rfl, ?_⟩; have n0_ := zm (Kd.R_mono (Kd.R_keep (IsS115.apart (show IsS115 w0 _ g s0_0 t501 t502 from z115i) (by (with_reducible repeat (first | apply Kd.R_alloc | apply Kd.R_drewN | apply Kd.R_drew)); exact HO_3.out) (by decide)) hk (fun _ h => h.2)) (fun _ h => h.1)); have n1_ := zm (Kd.R_mono (Kd.R_keep (IsS115.apart (show IsS115 w0 _ g s0_0 t501 t502 from z115i) (by (with_reducible repeat (first | apply Kd.R_alloc | apply Kd.R_drewN | apply Kd.R_drew)); exact HO505.out) (by decide)) hk (fun _ h => h.2)) (fun _ h => h.1)); have n2_ := zm (KeepBut.trans zh hk (.inl rfl)); have n3_ := zm (hb); have n4_ := zm (hi); clear HO_3; clear HO505; clear HK; clear HB; clear HI0; have HO_3 := n0_; have HO505 := n1_; have HK := n2_; have HB := n3_; have HI0 := n4_; clear n0_ n1_ n2_ n3_ n4_; (try clear hb); (try clear hb2); (try clear hk); (try clear hi)) | ((with_reducible refine gate_builtin (b := .append) (xs := #[.tmp 20, .tmp 31]) rfl ?_); at_builtin; refine Kd.R_append (Kd.int .i64) w.heap.size rfl (.tmp 20) (.tmp 31) 23 3 (.int .i64 0) 8 rfl Try.underlying23 info3 rfl (by decide) (by omega) (.slice Ao19 x3_2.length co19) x3_2 t506 [.int .i64 t506] (fun k_ => some k_ ≠ (.slice Ao23 y503.length co23 : Value).ownBlock) (fun _ => False) rfl rfl ?aP (fun _ hk => hk.elim) ?aF ?aO (Below.refl _ _) ?aS ?aL ?_; (case aP => exact rfl); (case aF => exact (fun k_ hk => Kd.fresh' (Kd.R_lt (by (with_reducible repeat (first | apply Kd.R_alloc | apply Kd.R_drewN | apply Kd.R_drew)); exact HO505.out)) k_ hk)); (case aO => exact (by (with_reducible repeat (first | apply Kd.R_alloc | apply Kd.R_drewN | apply Kd.R_drew)); exact zM HO_3.out)); (case aS => exact (keep_size (w := w) (g := g) (row := none) zh)); (case aL => have := LMc18.out; omega); intro v510 w25 ho hb hg hat; rw [← Ny509.out] at ho; have n0_ := zm (IsS115.grown (show IsS115 w0 _ g s0_0 t507 t508 from z115i) hg (IsS115.own_ne HI0.out HO_3.out (by decide))); have n1_ := zm (Kd.R_after (ok := (fun _ => True)) (by (with_reducible repeat (first | apply Kd.R_alloc | apply Kd.R_drewN | apply Kd.R_drew)); exact HO505.out) hg hat); have n2_ := zm (below_weaken zb HL.out hb); have n3_ := zm (KeepBut.trans zh (KeepBut.of_grown hg g) (Kd.R_base2 HO_3.out)); have n4_ := zm (ho); clear HI0; clear HO505; clear HB; clear HK; clear HO_3; have HI0 := n0_; have HO505 := n1_; have HB := n2_; have HK := n3_; have HO511 := n4_; clear n0_ n1_ n2_ n3_ n4_; clear ho hb hg hat))
       go_roundg k2
       case measure => have := HJ3.out; have := HK2.out; omega
       case rel => exact ⟨(y509), (t507), (t508), H', ⟨by have := HJ3.out; have := HK2.out; omega⟩, ⟨by (with_reducible repeat (first | apply Kd.R_alloc | apply Kd.R_drewN | apply Kd.R_drew)); exact Kd.R_mono HO511.out (fun _ hk => trivial)⟩, ⟨z115i⟩, ⟨zh⟩, ⟨zb⟩⟩
      ·
       rw [if_neg c18] at H
       exact absurd H (by simp)
     ·
      rw [if_neg c15] at H
      have c15b0 : decide ((x3_2.length : Int) < x4_3) = false := decide_eq_false c15
      clear c15
      have HC26 := zm H
      clear H
      obtain ⟨Ao27, co27, eo27⟩ := Kd.R_slice HO_3.out
      subst eo27
      go_upto_region 8 with (fail)
      go_cut [38] (fun v38 wc => ∃ (kq : Nat) (x38_25 : Bool) (x1001_25 : Int) (x1002_25 : Int), v38 = .bool x38_25 ∧ Aside0 (spec_l1Cur_drifts.j2 kq x3_2 x4_3 x38_25 s0_0 x1001_25 x1002_25 = some (r1, r2, r3)) ∧ Aside0 (kq ≤ k2) ∧ Aside0 (Kd.R (Kd.int .i64) 3 wc w.heap.size (fun _ => True) (.slice Ao27 x3_2.length co27) x3_2) ∧ Aside0 (IsS115 w0 wc g s0_0 x1001_25 x1002_25) ∧ Aside0 (KeepBut w wc g none) ∧ Aside0 (Below w0.heap.size w0 wc))
      case first =>
       have H := HC26.out
       clear HC26
       by_cases c28 : x4_3 > 0
       ·
        rw [if_pos c28] at H
        have c28b0 : decide (0 < x4_3) = true := decide_eq_true c28
        clear c28
        (first | rw [c28b0] | (simp only [i64_w, i32_w]; rw [c28b0]) | skip)
        replace H := Option.bind_eq_some_iff.mp H
        obtain ⟨⟨t512, t513, t514⟩, A290, H⟩ := H
        (try dsimp only at H)
        have A29 := zm A290
        clear A290
        have H' := zm H
        clear H
        go_wp2_with (first | (go_at_call 139; (with_reducible refine (spec_l1Cur_one.calls g s0_0 x1001_2 x1002_2 24 t512 t513 t514 w0 _ ?side1 ?side2 A29.out).mono ?_); (case side1 => repeat (first | (with_reducible first | exact HI0.out | apply IsS115.alloc | apply IsS115.drewN | apply IsS115.drew | apply IsS115.set_1 | apply IsS115.set_2) | exact HI0.out)); (case side2 => repeat (first | (with_reducible first | exact HB.out | apply below_alloc | apply pw_below_drewN | apply below_drew1 | refine below_set ?_ (IsS115.ge HI0.out)) | exact HB.out)); rintro e w30 ⟨rfl, hi, hb, hk⟩; have n0_ := zm (Kd.R_mono (Kd.R_keep (IsS115.apart (show IsS115 w0 _ g s0_0 x1001_2 x1002_2 from z115i) (by (with_reducible repeat (first | apply Kd.R_alloc | apply Kd.R_drewN | apply Kd.R_drew)); exact HO_3.out) (by decide)) hk (fun _ h => h.2)) (fun _ h => h.1)); have n1_ := zm (KeepBut.trans zh hk (.inl rfl)); have n2_ := zm (hb); have n3_ := zm (hi); clear HO_3; clear HK; clear HB; clear HI0; have HO_3 := n0_; have HK := n1_; have HB := n2_; have HI0 := n3_; clear n0_ n1_ n2_ n3_; (try clear hb); (try clear hb2); (try clear hk); (try clear hi)))
        go_meet
        case rel => exact ⟨_, (t512), (t513), (t514), (by first | rfl | (simp; done) | (simp [*]; done)), H', ⟨by have := HJ3.out; have := HK2.out; first | omega | exact Nat.le_refl _⟩, ⟨by (with_reducible repeat (first | apply Kd.R_alloc | apply Kd.R_drewN | apply Kd.R_drew)); exact HO_3.out⟩, ⟨z115i⟩, ⟨zh⟩, ⟨zb⟩⟩
       ·
        rw [if_neg c28] at H
        have c28b0 : decide (0 < x4_3) = false := decide_eq_false c28
        clear c28
        (first | rw [c28b0] | (simp only [i64_w, i32_w]; rw [c28b0]) | skip)
        have H' := zm H
        clear H
        go_wp2
        go_meet
        case rel => exact ⟨_, (false), (x1001_2), (x1002_2), (by first | rfl | (simp; done) | (simp [*]; done)), H', ⟨by have := HJ3.out; have := HK2.out; first | omega | exact Nat.le_refl _⟩, ⟨by (with_reducible repeat (first | apply Kd.R_alloc | apply Kd.R_drewN | apply Kd.R_drew)); exact HO_3.out⟩, ⟨z115i⟩, ⟨zh⟩, ⟨zb⟩⟩
      case rest =>
       clear HC26
       (try clear c1); (try clear c2); (try clear p2); (try clear p6); (try clear c7); (try clear c11); (try clear c12); (try clear c13); (try clear c15); (try clear c15b0); (try clear c18); (try clear c28); (try clear c28b0); (try clear p2); (try clear p6)
       obtain ⟨kq, x38_25, x1001_25, x1002_25, rfl, HA, HJ25, HO_3, HI0, HK, HB⟩ := hcut
       cases kq with
       | zero => exact absurd HA.out (by simp [spec_l1Cur_drifts.j2])
       | succ kj25 =>
        have H := HA.out
        clear HA
        simp only [spec_l1Cur_drifts.j2] at H
        by_cases c31 : x38_25 = true
        ·
         subst c31
         have H1 : ((spec_l1Cur_pick.f s0_0 x1001_25 x1002_25 x4_3).bind fun bt515 => ((spec_l1Cur_among.f s0_0 bt515.2.1 bt515.2.2 (([51, (-51)] : List Int))).bind fun bt521 => (if 0 ≤ bt515.1 then (if bt515.1 < (x3_2.length : Int) then (some ((x3_2.set (bt515.1 : Int).toNat bt521.1), bt521.2.1, bt521.2.2)) else (none)) else (none)))) = some (r1, r2, r3) := by rw [if_pos rfl] at H; exact H
         clear H
         have H := H1
         clear H1
         replace H := Option.bind_eq_some_iff.mp H
         obtain ⟨⟨t515, t516, t517⟩, A320, H⟩ := H
         (try dsimp only at H)
         have A32 := zm A320
         clear A320
         obtain ⟨y518, hy518⟩ : ∃ y_ : List Int, y_ = (([51, (-51)] : List Int)) := ⟨_, rfl⟩
         replace H : ((spec_l1Cur_among.f s0_0 t516 t517 y518).bind fun bt521 => (if 0 ≤ t515 then (if t515 < (x3_2.length : Int) then (some ((x3_2.set (t515 : Int).toNat bt521.1), bt521.2.1, bt521.2.2)) else (none)) else (none))) = some (r1, r2, r3) := by first | (rw [hy518]; with_reducible exact H) | (have H2_ := (Option.bind_some _ _).symm.trans H; rw [hy518]; with_reducible exact H2_) | (have H2_ := (Option.bind_some _ _).symm.trans H; with_reducible exact H2_) | with_reducible exact H | (rw [hy518]; exact H) | exact H
         have Ny518 := zm hy518
         clear hy518
         replace H := Option.bind_eq_some_iff.mp H
         obtain ⟨⟨t521, t522, t523⟩, A330, H⟩ := H
         (try dsimp only at H)
         have A33 := zm A330
         clear A330
         by_cases c34 : 0 ≤ t515
         ·
          rw [if_pos c34] at H
          have c34b0 : decide (0 ≤ t515) = true := decide_eq_true c34
          clear c34
          by_cases c35 : t515 < (x3_2.length : Int)
          ·
           rw [if_pos c35] at H
           have c35b0 : decide (t515 < (x3_2.length : Int)) = true := decide_eq_true c35
           clear c35
           obtain ⟨y524, hy524⟩ : ∃ y_ : List Int, y_ = (x3_2.set (t515 : Int).toNat t521) := ⟨_, rfl⟩
           replace H : (some (y524, t522, t523)) = some (r1, r2, r3) := by first | (rw [hy524]; with_reducible exact H) | (have H2_ := (Option.bind_some _ _).symm.trans H; rw [hy524]; with_reducible exact H2_) | (have H2_ := (Option.bind_some _ _).symm.trans H; with_reducible exact H2_) | with_reducible exact H | (rw [hy524]; exact H) | exact H
           have Ny524 := zm hy524
           clear hy524
           simp only [Option.some.injEq, Prod.mk.injEq] at H
           obtain ⟨rfl, rfl, rfl⟩ := H
           go_wp2_with (first | ((with_reducible refine gate_callee (f := 121) rfl ?_); refine goesA_ (some 42) Try.func121 #[.pointer (some ⟨g, 0, none⟩), .int .i64 x4_3] rfl ?_; (with_reducible refine (spec_l1Cur_pick.calls g s0_0 x1001_25 x1002_25 x4_3 t515 t516 t517 w0 _ ?side1 ?side2 A32.out).mono ?_); (case side1 => repeat (first | (with_reducible first | exact HI0.out | apply IsS115.alloc | apply IsS115.drewN | apply IsS115.drew | apply IsS115.set_1 | apply IsS115.set_2) | exact HI0.out)); (case side2 => repeat (first | (with_reducible first | exact HB.out | apply below_alloc | apply pw_below_drewN | apply below_drew1 | refine below_set ?_ (IsS115.ge HI0.out)) | exact HB.out)); rintro e w37 ⟨rfl, hi, hb, hk⟩; refine ⟨_, rfl, ?_⟩; have n0_ := zm (Kd.R_mono (Kd.R_keep (IsS115.apart (show IsS115 w0 _ g s0_0 x1001_25 x1002_25 from z115i) (by (with_reducible repeat (first | apply Kd.R_alloc | apply Kd.R_drewN | apply Kd.R_drew)); exact HO_3.out) (by decide)) hk (fun _ h => h.2)) (fun _ h => h.1)); have n1_ := zm (KeepBut.trans zh hk (.inl rfl)); have n2_ := zm (hb); have n3_ := zm (hi); clear HO_3; clear HK; clear HB; clear HI0; have HO_3 := n0_; have HK := n1_; have HB := n2_; have HI0 := n3_; clear n0_ n1_ n2_ n3_; (try clear hb); (try clear hb2); (try clear hk); (try clear hi)) | ((with_reducible refine gate_dst (N := 44) rfl ?_); refine Kd.R_lit (Kd.int .i64) _ 3 ?hg (N := 44) ?hd (xs := ([51, (-51)] : List Int)) (inner := [.int .i64 51, .int .i64 (-51)]) (ok := fun _ => True) (okp := fun _ => True) ?hr ?hp (fun _ hk => hk) trivial (Below.refl _ _) (Nat.le_refl _) (by simp) ?_; (case hd => rfl); (case hg => rfl); (case hr => first | (go_simp; done) | (go_simp; rfl)); (case hp => exact (Reps.one (show Kd.M (Kd.int .i64) _ _ _ 51 [.int .i64 51] from rfl) (Reps.one (show Kd.M (Kd.int .i64) _ _ _ (-51) [.int .i64 (-51)] from rfl) (Reps.none _ _)))); intro v519 w38 ho39 hb hg_ hnew_; clear hg_ hnew_; (first | rw [← Ny518.out] at ho39 | (simp only [Int.reduceToNat] at ho39; rw [← Ny518.out] at ho39)); have n0_ := zm (Kd.R_elder' (by (with_reducible repeat (first | apply Kd.R_alloc | apply Kd.R_drewN | apply Kd.R_drew)); exact HO_3.out) (Kd.R_base ho39) hb); have n1_ := zm (Kd.R_lower (Kd.R_new' ho39 (Kd.R_lt (by (with_reducible repeat (first | apply Kd.R_alloc | apply Kd.R_drewN | apply Kd.R_drew)); exact HO_3.out))) (keep_size (w := w) (g := g) (row := none) zh)); have n2_ := zm (IsS115.below z115i hb); have n3_ := zm (KeepBut.trans zh (KeepBut.of_below hb g none) (.inl rfl)); have n4_ := zm (below_step zb hb); clear HO_3; clear HI0; clear HK; clear HB; have HO_3 := n0_; have HO520 := n1_; have HI0 := n2_; have HK := n3_; have HB := n4_; clear n0_ n1_ n2_ n3_ n4_; clear hb ho39; obtain ⟨Ao40, co40, eo40⟩ := Kd.R_slice HO520.out; subst eo40) | ((with_reducible refine gate_callee (f := 120) rfl ?_); refine goesA_ (some 45) Try.func120 #[.pointer (some ⟨g, 0, none⟩), .slice Ao40 y518.length co40] rfl ?_; (with_reducible refine (spec_l1Cur_among.calls g s0_0 t516 t517 _ _ y518 t521 t522 t523 w0 _ ?side1 ?side2 ?side3 ?side4 ?side5 A33.out).mono ?_); (case side1 => repeat (first | (with_reducible first | exact HI0.out | apply IsS115.alloc | apply IsS115.drewN | apply IsS115.drew | apply IsS115.set_1 | apply IsS115.set_2) | exact HI0.out)); (case side2 => repeat (first | (with_reducible first | exact HB.out | apply below_alloc | apply pw_below_drewN | apply below_drew1 | refine below_set ?_ (IsS115.ge HI0.out)) | exact HB.out)); (case side3 => repeat (first | exact (Kd.R_reads' HO520.out).2.2 | (with_reducible refine Kd.C_alloc ?_ _) | (with_reducible refine Kd.C_drewN ?_ _) | (with_reducible refine Kd.C_drew ?_))); (case side4 => exact (Kd.R_reads' HO520.out).2.1); (case side5 => exact far_slice (IsS115.own_ne HI0.out HO520.out (by decide))); rintro e w41 ⟨rfl, hi, hb, hk⟩; refine ⟨_, rfl, ?_⟩; have n0_ := zm (Kd.R_mono (Kd.R_keep (IsS115.apart (show IsS115 w0 _ g s0_0 t516 t517 from z115i) (by (with_reducible repeat (first | apply Kd.R_alloc | apply Kd.R_drewN | apply Kd.R_drew)); exact HO_3.out) (by decide)) hk (fun _ h => h.2)) (fun _ h => h.1)); have n1_ := zm (Kd.R_mono (Kd.R_keep (IsS115.apart (show IsS115 w0 _ g s0_0 t516 t517 from z115i) (by (with_reducible repeat (first | apply Kd.R_alloc | apply Kd.R_drewN | apply Kd.R_drew)); exact HO520.out) (by decide)) hk (fun _ h => h.2)) (fun _ h => h.1)); have n2_ := zm (KeepBut.trans zh hk (.inl rfl)); have n3_ := zm (hb); have n4_ := zm (hi); clear HO_3; clear HO520; clear HK; clear HB; clear HI0; have HO_3 := n0_; have HO520 := n1_; have HK := n2_; have HB := n3_; have HI0 := n4_; clear n0_ n1_ n2_ n3_ n4_; (try clear hb); (try clear hb2); (try clear hk); (try clear hi); have p36 : 0 ≤ (t515 : Int) := zd; have q36 : (t515 : Int) < ((x3_2.length : Int) : Int) := zd; obtain ⟨go36, co36, eo36, gb36, gl36, cl36, HG36⟩ := Kd.R_form HO_3.out (by omega); (first | cases eo36 | (injection eo36 with ea_ en_ ec_; (first | subst ea_ | (injection ea_ with ea_; subst ea_)); subst ec_; clear en_)); have GB36 := zm gb36; have GG36 := zm HG36; clear gb36 gl36 HG36; obtain ⟨hx36_0, hf36_0⟩ := Kd.R_celln 0 HO_3.out (t515 : Int) p36 q36; replace p36 := eq_true p36; replace q36 := eq_true q36; have n_ := zm (Kd.R_mono (ok' := (fun k_ => some k_ ≠ (.slice Ao40 y518.length co40 : Value).ownBlock)) HO_3.out (fun k_ hk => hk.2)); clear HO_3; have HO_3 := n_; clear n_; obtain ⟨hy42_, hz42_⟩ := Kd.R_celln 0 HO_3.out (t515 : Int) (of_decide_eq_true (by first | (with_reducible assumption) | assumption)) (of_decide_eq_true (by first | (with_reducible assumption) | assumption)); have HP42 := Kd.R_putg HO_3.out (t515 : Int) t521) | ((with_reducible refine gate_store (t := 3) (p := 46) rfl ?_); refine store_event (t := 3) (p := 46) (v := ?vo_w43) (w1 := (w41.setCell ⟨go36, (t515 : Int).toNat, none⟩ (.int .i64 t521))) ?hg ?ho ?hn ?hr ?_; (case ho => rfl); (case hg => rfl); (case hn => rfl); (case hr => first | (go_simp; done) | (go_simp; rfl)); intro w43 hw; have hg : w41.grownBy w43 (some go36) := (by rw [hw]; exact HP42.2); have hp_ : Kd.R (Kd.int .i64) 3 w43 w.heap.size (fun k_ => some k_ ≠ (.slice Ao40 y518.length co40 : Value).ownBlock) (.slice (some ⟨go36, 0, none⟩) x3_2.length co27) y524 := (by rw [hw, Ny524.out]; exact HP42.1); clear HP42; have n0_ := zm (hp_); have n1_ := zm (IsS115.grown (show IsS115 w0 _ g s0_0 t522 t523 from z115i) hg (IsS115.own_ne HI0.out HO_3.out (by decide))); have n2_ := zm (Kd.R_after (v := (.slice (some ⟨go36, 0, none⟩) x3_2.length co27)) (v1 := (.slice (some ⟨go36, 0, none⟩) x3_2.length co27)) (ok := (fun _ => True)) (by (with_reducible repeat (first | apply Kd.R_alloc | apply Kd.R_drewN | apply Kd.R_drew)); exact HO520.out) hg (.inl rfl)); have n3_ := zm ((by rw [hw]; exact below_set (HB.out) (Nat.le_trans HL.out GB36.out) : Below w0.heap.size w0 w43)); have n4_ := zm (KeepBut.trans zh (KeepBut.of_grown hg g) (Kd.R_base2 HO_3.out)); clear HO_3; clear HI0; clear HO520; clear HB; clear HK; have HO_3 := n0_; have HI0 := n1_; have HO520 := n2_; have HB := n3_; have HK := n4_; clear n0_ n1_ n2_ n3_ n4_; clear hg hw hp_))
           go_ret
           exact ⟨_, zr, by (with_reducible repeat (first | apply Kd.R_alloc | apply Kd.R_drewN | apply Kd.R_drew)); exact Kd.R_mono HO_3.out (fun _ hk => trivial), z115i, zb, zh⟩
          ·
           rw [if_neg c35] at H
           exact absurd H (by simp)
         ·
          rw [if_neg c34] at H
          exact absurd H (by simp)
        ·
         replace c31 := Bool.eq_false_iff.mpr c31
         subst c31
         have H1 : (some (x3_2, x1001_25, x1002_25)) = some (r1, r2, r3) := by rw [if_neg (show ¬ (false = true) by decide)] at H; exact H
         clear H
         have H := H1
         clear H1
         simp only [Option.some.injEq, Prod.mk.injEq] at H
         obtain ⟨rfl, rfl, rfl⟩ := H
         go_wp2
         go_ret
         exact ⟨_, zr, by (with_reducible repeat (first | apply Kd.R_alloc | apply Kd.R_drewN | apply Kd.R_drew)); exact HO_3.out, z115i, zb, zh⟩

/-! ### spec_DrawLeastGain: function 71 -/
def spec_DrawLeastGain.f (k : Nat) (l0 : List Int) : Option (Int × Int × List Int × Int) := (spec_l1Cur_controller.f l0 0 0).bind fun bt526 => ((spec_l1Cur_offset.f l0 bt526.2.2.1 bt526.2.2.2).bind fun bt531 => ((spec_l1Cur_drifts.f k l0 bt531.2.1 bt531.2.2).bind fun bt534 => ((spec_l1Cur_pick.f l0 bt534.2.1 bt534.2.2 200).bind fun bt539 => ((spec_l1Cur_among.f l0 bt539.2.1 bt539.2.2 (([2001, (-1)] : List Int))).bind fun bt545 => ((spec_l1Cur_among.f l0 bt545.2.1 bt545.2.2 (([0, 10, 30, bt539.1, 1000, 2000, bt545.1] : List Int))).bind fun bt551 => (some (bt526.1, bt531.1, bt534.1, bt551.1)))))))
theorem spec_DrawLeastGain.mono : ∀ a0 k, LeO (spec_DrawLeastGain.f k a0) (spec_DrawLeastGain.f (k + 1) a0) := by
  intro a0 k
  unfold spec_DrawLeastGain.f
  repeat' first
      | (with_reducible exact spec_l1Cur_drifts.mono _ _ _ _)
      | (with_reducible exact LeO.refl _)
      | (with_reducible exact LeO.none _)
      | (with_reducible refine LeO.ite ?_ ?_)
      | (with_reducible refine LeO.bind ?_ (fun _ => ?_))
      | exact spec_l1Cur_drifts.mono _ _ _ _
      | exact LeO.none _
      | refine LeO.ite ?_ ?_
      | refine LeO.bind ?_ (fun _ => ?_)
def spec_DrawLeastGain.T3 : Bool × List (List Nat × List Nat) := (true, [([], []), ([0], [0]), ([], []), ([2], [2]), ([], []), ([4, 3], [4]), ([], []), ([], []), ([7, 5], [7]), ([], []), ([], []), ([9, 10, 8], [9, 10]), ([8, 11], [8, 11]), ([6, 12, 11], [6, 12]), ([1, 13, 0, 1], [1]), ([3, 14, 0, 1, 2, 3, 14], [3]), ([5, 15, 0, 1, 2, 3, 4, 5, 14, 15], [5]), ([13, 16, 0, 1, 2, 3, 4, 5, 6, 7, 8, 9, 10, 11, 12, 13, 14, 15, 16], [13])])
def spec_DrawLeastGain.B3 : List Nat := [0, 1, 0, 4, 0, 28, 0, 0, 188, 0, 0, 1980, 4028, 8188, 16383, 32767, 65535, 131071]
theorem spec_DrawLeastGain.tab3 : rtab .any (opsOf Try.f71 3) = spec_DrawLeastGain.T3 := by kernel_rfl
theorem spec_DrawLeastGain.bits3 : waitsOk spec_DrawLeastGain.T3.2 spec_DrawLeastGain.B3 = true := by kernel_rfl
set_option maxHeartbeats 8000000 in
set_option maxRecDepth 100000 in
theorem spec_DrawLeastGain.calls (k : Nat) (A0 : Option Addr) (c0 : Nat) (l0 : List Int) (r1 : Int) (r2 : Int) (r3 : List Int) (r4 : Int) (w : World) (hr0 : Kd.C (Kd.int .u8) w A0 l0.length l0) (hc0 : l0.length ≤ c0) (h : spec_DrawLeastGain.f k l0 = some (r1, r2, r3, r4)) :
  Calls Try.prog 71 #[.slice A0 l0.length c0] w fun e w' => ∃ v2_ : Value, e = .returned (.tuple #[.int .i64 r1, .int .i64 r2, v2_, .int .i64 r4]) ∧ Kd.R (Kd.int .i64) 3 w' w.heap.size (fun _ => True) v2_ r3 ∧ Below w.heap.size w w' := by
 have hu115 := Try.underlying115
 have hu47 := Try.underlying47
 have HR0 := zm hr0
 have HC0 := zm hc0
 clear hr0 hc0
 have HB := zm (Below.refl w.heap.size w)
 have H : ((spec_l1Cur_controller.f l0 0 0).bind fun bt526 => ((spec_l1Cur_offset.f l0 bt526.2.2.1 bt526.2.2.2).bind fun bt531 => ((spec_l1Cur_drifts.f k l0 bt531.2.1 bt531.2.2).bind fun bt534 => ((spec_l1Cur_pick.f l0 bt534.2.1 bt534.2.2 200).bind fun bt539 => ((spec_l1Cur_among.f l0 bt539.2.1 bt539.2.2 (([2001, (-1)] : List Int))).bind fun bt545 => ((spec_l1Cur_among.f l0 bt545.2.1 bt545.2.2 (([0, 10, 30, bt539.1, 1000, 2000, bt545.1] : List Int))).bind fun bt551 => (some (bt526.1, bt531.1, bt534.1, bt551.1)))))))) = some (r1, r2, r3, r4) := h
 clear h
 replace H := Option.bind_eq_some_iff.mp H
 obtain ⟨⟨t526, t527, t528, t529⟩, A20, H⟩ := H
 (try dsimp only at H)
 have A2 := zm A20
 clear A20
 replace H := Option.bind_eq_some_iff.mp H
 obtain ⟨⟨t531, t532, t533⟩, A30, H⟩ := H
 (try dsimp only at H)
 have A3 := zm A30
 clear A30
 replace H := Option.bind_eq_some_iff.mp H
 obtain ⟨⟨t534, t537, t538⟩, A40, H⟩ := H
 (try dsimp only at H)
 have A4 := zm A40
 clear A40
 replace H := Option.bind_eq_some_iff.mp H
 obtain ⟨⟨t539, t540, t541⟩, A50, H⟩ := H
 (try dsimp only at H)
 have A5 := zm A50
 clear A50
 obtain ⟨y542, hy542⟩ : ∃ y_ : List Int, y_ = (([2001, (-1)] : List Int)) := ⟨_, rfl⟩
 replace H : ((spec_l1Cur_among.f l0 t540 t541 y542).bind fun bt545 => ((spec_l1Cur_among.f l0 bt545.2.1 bt545.2.2 (([0, 10, 30, t539, 1000, 2000, bt545.1] : List Int))).bind fun bt551 => (some (t526, t531, t534, bt551.1)))) = some (r1, r2, r3, r4) := by first | (rw [hy542]; with_reducible exact H) | (have H2_ := (Option.bind_some _ _).symm.trans H; rw [hy542]; with_reducible exact H2_) | (have H2_ := (Option.bind_some _ _).symm.trans H; with_reducible exact H2_) | with_reducible exact H | (rw [hy542]; exact H) | exact H
 have Ny542 := zm hy542
 clear hy542
 replace H := Option.bind_eq_some_iff.mp H
 obtain ⟨⟨t545, t546, t547⟩, A60, H⟩ := H
 (try dsimp only at H)
 have A6 := zm A60
 clear A60
 obtain ⟨y548, hy548⟩ : ∃ y_ : List Int, y_ = (([0, 10, 30, t539, 1000, 2000, t545] : List Int)) := ⟨_, rfl⟩
 replace H : ((spec_l1Cur_among.f l0 t546 t547 y548).bind fun bt551 => (some (t526, t531, t534, bt551.1))) = some (r1, r2, r3, r4) := by first | (rw [hy548]; with_reducible exact H) | (have H2_ := (Option.bind_some _ _).symm.trans H; rw [hy548]; with_reducible exact H2_) | (have H2_ := (Option.bind_some _ _).symm.trans H; with_reducible exact H2_) | with_reducible exact H | (rw [hy548]; exact H) | exact H
 have Ny548 := zm hy548
 clear hy548
 replace H := Option.bind_eq_some_iff.mp H
 obtain ⟨⟨t551, t552, t553⟩, A70, H⟩ := H
 (try dsimp only at H)
 have A7 := zm A70
 clear A70
 simp only [Option.some.injEq, Prod.mk.injEq] at H
 obtain ⟨rfl, rfl, rfl, rfl⟩ := H
 go_enter Try.func71, Try.ntmps71
 try go_wp2_with (first | ((with_reducible refine gate_dst (N := 10) rfl ?_); refine box_event ?hg (N := 10) ?hd (cs := #[.slice A0 l0.length c0, .int .i64 0, .int .u64 0]) (t := 115) ?hr ?_; (case hd => rfl); (case hg => rfl); (case hr => first | (go_simp; done) | (go_simp; rfl)); intro gb525 hg w8 hbox hb; have n0_ := zm (below_step zb hb); have n1_ := zm ((show IsS115 w _ gb525 l0 0 0 from ⟨_, _, hbox, (by rw [hg]; exact (below_size zb) : w.heap.size ≤ gb525), HR0.out⟩)); have n2_ := zm (zs hg zb : w.heap.size ≤ gb525); have n3_ := zm (zs hg zb : w.heap.size ≤ gb525); clear HB; have HB := n0_; have HI525 := n1_; have GW525 := n2_; have GE525 := n3_; clear n0_ n1_ n2_ n3_; clear hb hbox hg) | ((with_reducible refine gate_callee (f := 112) rfl ?_); refine goesA_ (some 12) Try.func112 #[.pointer (some ⟨gb525, 0, none⟩)] rfl ?_; (with_reducible refine (spec_l1Cur_controller.calls gb525 l0 0 0 t526 t527 t528 t529 w _ ?side1 ?side2 A2.out).mono ?_); (case side1 => repeat (first | (with_reducible first | exact HI525.out | apply IsS115.alloc | apply IsS115.drewN | apply IsS115.drew | apply IsS115.set_1 | apply IsS115.set_2) | exact HI525.out)); (case side2 => repeat (first | (with_reducible first | exact HB.out | apply below_alloc | apply pw_below_drewN | apply below_drew1 | refine below_set ?_ (IsS115.ge HI525.out)) | exact HB.out)); rintro e w9 ⟨rfl, hi, hb, hk⟩; refine ⟨_, rfl, ?_⟩; have n0_ := zm (hb); have n1_ := zm (hi); clear HB; clear HI525; have HB := n0_; have HI525 := n1_; clear n0_ n1_; (try clear hb); (try clear hb2); (try clear hk); (try clear hi)) | ((with_reducible refine gate_dst (N := 7) rfl ?_); refine box_event ?hg (N := 7) ?hd (cs := #[.int .i64 0, .int .i64 0]) (t := 47) ?hr ?_; (case hd => rfl); (case hg => rfl); (case hr => first | (go_simp; done) | (go_simp; rfl)); intro gb530 hg w10 hbox hb; have n0_ := zm (IsS115.below z115i hb); have n1_ := zm (below_step zb hb); have n2_ := zm (hbox); have n3_ := zm ((by rw [hg]; exact (below_size zb) : w.heap.size ≤ gb530)); have n4_ := zm ((by rw [hg]; exact (below_size zb) : w.heap.size ≤ gb530)); have n5_ := zm ((by rw [hg]; exact Nat.ne_of_lt (IsS115.lt (show IsS115 w _ gb525 l0 t528 t529 from z115i)) : gb525 ≠ gb530)); have n6_ := zm ((by rw [hg]; exact Nat.ne_of_gt (IsS115.lt (show IsS115 w _ gb525 l0 t528 t529 from z115i)) : gb530 ≠ gb525)); clear HI525; clear HB; have HI525 := n0_; have HB := n1_; have BK530 := n2_; have GW530 := n3_; have GE530 := n4_; have NB525_530 := n5_; have NB530_525 := n6_; clear n0_ n1_ n2_ n3_ n4_ n5_ n6_; clear hb hbox hg; have hnb11 := NB530_525.out; have hnc11 := NB525_530.out; obtain ⟨hcz12_0, hcz12_1, hfz12_0, hfz12_1⟩ := zc2 BK530.out))
 have n0_ : Aside0 (((w10.setCell ⟨gb530, 0, none⟩ (.int .i64 t526)).setCell ⟨gb530, 1, none⟩ (.int .i64 t527)).heap[gb530]? = some (.cells #[.int .i64 t526, .int .i64 t527] 47 (0, 0))) := ⟨by (with_reducible repeat (first | refine blk_drewN ?_ _ | refine blk_drew ?_ | refine blk_alloc ?_ _)); refine blk_put (cs := #[.int .i64 t526, .int .i64 0]) ?_ 1 _ rfl; (with_reducible repeat (first | refine blk_drewN ?_ _ | refine blk_drew ?_ | refine blk_alloc ?_ _)); refine blk_put (cs := #[.int .i64 0, .int .i64 0]) ?_ 0 _ rfl; (with_reducible repeat (first | refine blk_drewN ?_ _ | refine blk_drew ?_ | refine blk_alloc ?_ _)); exact BK530.out⟩
 have n1_ : Aside0 (IsS115 w ((w10.setCell ⟨gb530, 0, none⟩ (.int .i64 t526)).setCell ⟨gb530, 1, none⟩ (.int .i64 t527)) gb525 l0 t528 t529) := ⟨z115i⟩
 have n2_ : Aside0 (Below w.heap.size w ((w10.setCell ⟨gb530, 0, none⟩ (.int .i64 t526)).setCell ⟨gb530, 1, none⟩ (.int .i64 t527))) := ⟨zb⟩
 (try clear BK530)
 (try clear HI525)
 (try clear HB)
 generalize ((w10.setCell ⟨gb530, 0, none⟩ (.int .i64 t526)).setCell ⟨gb530, 1, none⟩ (.int .i64 t527)) = w13 at n0_ n1_ n2_ ⊢
 have BK530 := n0_
 have HI525 := n1_
 have HB := n2_
 clear n0_ n1_ n2_
 have n0_ := zm (blk_drew BK530.out)
 have n1_ := zm (IsS115.drew HI525.out)
 have n2_ := zm (below_drew1 HB.out)
 clear BK530
 clear HI525
 clear HB
 have BK530 := n0_
 have HI525 := n1_
 have HB := n2_
 clear n0_ n1_ n2_
 refine start_ (n := 18) (S := fun w' => True) (ds := []) #[false, false, false, false, false, false, false, false, false, false, false, false, false, false, false, false, false, false] (by kernel_rfl) rfl rfl trivial (fun hHeld => ?_); refine with_tabW spec_DrawLeastGain.tab3 spec_DrawLeastGain.bits3 (fun HT_ HW_ => ?_)
 generalize w13.drew = w14 at BK530 HI525 HB hHeld ⊢
 refine pure_ (i := 0) (N := some 13) (v := ?_) (a' := ?_) #[true, false, false, false, false, false, false, false, false, false, false, false, false, false, false, false, false, false] rfl rfl (any_of HT_.out (by kernel_rfl)) (fun _ _ _ h => h) (Or.inl ⟨by rfl, ?_⟩) ?_ ?_
 rotate_left
 ·
  intro w'
  go_simp
  with_reducible rfl
 rotate_left
 ·
  simp only [Act.put, zA, zB, zD, i64_w, i32_w]
  rfl
 refine pure_ (i := 2) (N := some 15) (v := ?_) (a' := ?_) #[true, false, true, false, false, false, false, false, false, false, false, false, false, false, false, false, false, false] rfl rfl (any_of HT_.out (by kernel_rfl)) (fun _ _ _ h => h) (Or.inl ⟨by rfl, ?_⟩) ?_ ?_
 rotate_left
 ·
  intro w'
  go_simp
  with_reducible rfl
 rotate_left
 ·
  simp only [Act.put, zA, zB, zD, i64_w, i32_w]
  rfl
 refine pure_ (i := 4) (N := some 17) (v := ?_) (a' := ?_) #[true, false, true, false, true, false, false, false, false, false, false, false, false, false, false, false, false, false] rfl rfl (any_of HT_.out (by kernel_rfl)) (fun _ _ _ h => h) (Or.inl ⟨by rfl, ?_⟩) ?_ ?_
 rotate_left
 ·
  intro w'
  go_simp
  with_reducible rfl
 rotate_left
 ·
  simp only [Act.put, zA, zB, zD, i64_w, i32_w]
  rfl
 refine pure_ (i := 6) (N := some 19) (v := ?_) (a' := ?_) #[true, false, true, false, true, false, true, false, false, false, false, false, false, false, false, false, false, false] rfl rfl (any_of HT_.out (by kernel_rfl)) (fun _ _ _ h => h) (Or.inl ⟨by rfl, ?_⟩) ?_ ?_
 rotate_left
 ·
  intro w'
  go_simp
  with_reducible rfl
 rotate_left
 ·
  simp only [Act.put, zA, zB, zD, i64_w, i32_w]
  rfl
 refine pure_ (i := 7) (N := some 20) (v := ?_) (a' := ?_) #[true, false, true, false, true, false, true, true, false, false, false, false, false, false, false, false, false, false] rfl rfl (any_of HT_.out (by kernel_rfl)) (fun _ _ _ h => h) (Or.inl ⟨by rfl, ?_⟩) ?_ ?_
 rotate_left
 ·
  intro w'
  go_simp
  with_reducible rfl
 rotate_left
 ·
  simp only [Act.put, zA, zB, zD, i64_w, i32_w]
  rfl
 refine pure_ (i := 9) (N := some 22) (v := ?_) (a' := ?_) #[true, false, true, false, true, false, true, true, false, true, false, false, false, false, false, false, false, false] rfl rfl (any_of HT_.out (by kernel_rfl)) (fun _ _ _ h => h) (Or.inl ⟨by rfl, ?_⟩) ?_ ?_
 rotate_left
 ·
  intro w'
  go_simp
  with_reducible rfl
 rotate_left
 ·
  simp only [Act.put, zA, zB, zD, i64_w, i32_w]
  rfl
 refine inv_at [1, 3, 5, 8, 10, 11, 12, 13, 14, 15, 16, 17] (fun a0_ b a w' => ∃ (v535 : Value) (v543 : Value) (v549 : Value) (m16_ : Value), a = putSel a0_ b [(1, 14, .int .i64 t526), (3, 16, .int .i64 t531), (5, 18, v535), (8, 21, .int .i64 t539), (10, 23, v543), (11, 24, .int .i64 t545), (12, 25, v549), (13, 26, .int .i64 t551), (14, 2, .int .i64 t526), (15, 3, .int .i64 t531), (16, 4, m16_), (17, 5, .int .i64 t551)] ∧ (w'.heap[gb530]? = some (.cells #[.int .i64 t526, .int .i64 t527] 47 (0, 0))) ∧ (b 3 = false → IsS115 w w' gb525 l0 t528 t529) ∧ (Below w.heap.size w w') ∧ (b 3 = true → b 5 = false → IsS115 w w' gb525 l0 t532 t533) ∧ (b 5 = true → Kd.R (Kd.int .i64) 3 w' w.heap.size (fun _ => True) v535 t534) ∧ (b 5 = true → b 8 = false → IsS115 w w' gb525 l0 t537 t538) ∧ (b 8 = true → b 11 = false → IsS115 w w' gb525 l0 t540 t541) ∧ (b 10 = true → Kd.R (Kd.int .i64) 3 w' w.heap.size (fun _ => True) v543 y542) ∧ (b 11 = true → b 13 = false → IsS115 w w' gb525 l0 t546 t547) ∧ (b 12 = true → Kd.R (Kd.int .i64) 3 w' w.heap.size (fun _ => True) v549 y548) ∧ (b 13 = true → IsS115 w w' gb525 l0 t552 t553) ∧ (b 16 = true → (m16_ : Value) = v535)) HT_.out HW_.out (by kernel_rfl) (by kernel_rfl) ?_ ?_ ?_
 ·
  exact ⟨.bool false, .bool false, .bool false, .bool false, by simp only [putSel, Bool.false_eq_true, if_false], BK530.out, fun _ => HI525.out, HB.out, fun h_ => absurd h_ (by decide), fun h_ => absurd h_ (by decide), fun h_ => absurd h_ (by decide), fun h_ => absurd h_ (by decide), fun h_ => absurd h_ (by decide), fun h_ => absurd h_ (by decide), fun h_ => absurd h_ (by decide), fun h_ => absurd h_ (by decide), fun h_ => absurd h_ (by decide)⟩
 ·
  skip
  clear BK530 HB HI525
  refine steps_cons ?_ ?_
  ·
   rintro b a w' ⟨v535, v543, v549, m16_, ha, Q_BK530, Q_HI525, Q_HB, Q_HI525_e3, Q_HO536, Q_HI525_e5, Q_HI525_e8, Q_HO544, Q_HI525_e11, Q_HO550, Q_HI525_e13, Q_X16_⟩ hb_ hon hoff
   refine ⟨_, rfl, fun K hK => ?_⟩
   have e13 : a.tmps[13]? = some (.pointer (some ⟨gb530, 0, none⟩)) := by rw [ha]; exact (putSel_off rfl).trans rfl
   replace ha := zm ha
   have BK530 := zm Q_BK530
   have HB := zm Q_HB
   have hc0_ : w'.cell? ⟨gb530, 0, none⟩ = some (.int .i64 t526) := (blk_cell BK530.out 0).trans rfl
   have hc1_ : w'.cell? ⟨gb530, 1, none⟩ = some (.int .i64 t527) := (blk_cell BK530.out 1).trans rfl
   refine value_ (w1 := w') (v := .int .i64 t526) (by rfl) rfl ?_ ?_
   ·
    go_simp
    (try simp only [i64_w])
    try rfl
   refine hK.out _ _ ⟨v535, v543, v549, m16_, (by rw [ha.out]; exact putSel_upk 0 hb_ rfl rfl rfl), Q_BK530, Q_HI525, Q_HB, Q_HI525_e3, Q_HO536, Q_HI525_e5, Q_HI525_e8, Q_HO544, Q_HI525_e11, Q_HO550, Q_HI525_e13, fun h0_ => absurd ((hoff 16 (by kernel_rfl)).symm.trans h0_) (by decide)⟩
  refine steps_cons ?_ ?_
  ·
   rintro b a w' ⟨v535, v543, v549, m16_, ha, Q_BK530, Q_HI525, Q_HB, Q_HI525_e3, Q_HO536, Q_HI525_e5, Q_HI525_e8, Q_HO544, Q_HI525_e11, Q_HO550, Q_HI525_e13, Q_X16_⟩ hb_ hon hoff
   refine ⟨_, rfl, fun K hK => ?_⟩
   have e15 : a.tmps[15]? = some (.pointer (some ⟨gb525, 0, none⟩)) := by rw [ha]; exact (putSel_off rfl).trans rfl
   replace ha := zm ha
   have BK530 := zm Q_BK530
   have HI525 := zm (Q_HI525 hb_)
   have HB := zm Q_HB
   refine goes_ Try.func113 (by kernel_rfl) rfl #[.pointer (some ⟨gb525, 0, none⟩)] (by rfl) rfl rfl (by first | (simp only [List.map_toArray, List.map_cons, List.map_nil, Act.eval, Array.getD_eq_getD_getElem?, Option.getD_some, e15]; done) | (simp only [List.map_toArray, List.map_cons, List.map_nil, Act.eval, Array.getD_eq_getD_getElem?, Option.getD_some, e15]; rfl)) ?_
   with_reducible refine (spec_l1Cur_offset.calls gb525 l0 t528 t529 t531 t532 t533 w _ ?side1 ?side2 A3.out).mono ?_
   (case side1 => repeat (first | (with_reducible first | exact HI525.out | apply IsS115.alloc | apply IsS115.drewN | apply IsS115.drew | apply IsS115.set_1 | apply IsS115.set_2 | refine IsS115.far ?_ NB525_530.out _) | exact HI525.out))
   (case side2 => repeat (first | (with_reducible first | exact HB.out | apply below_alloc | apply pw_below_drewN | apply below_drew1 | refine below_set ?_ (IsS115.ge HI525.out) | refine below_set ?_ GE530.out) | exact HB.out))
   rintro e w15 ⟨rfl, hi, hb, hk⟩
   refine ⟨_, rfl, ?_⟩
   have n0_ := zm (KeepBut.blk hk (g' := gb530) (o := .cells #[.int .i64 t526, .int .i64 t527] 47 (0, 0)) zk NB530_525.out (by simp))
   have n1_ := zm (hb)
   have n2_ := zm (hi)
   have z_HO544 := fun (h0_ : b 10 = true) => (show Kd.R (Kd.int .i64) 3 w15 w.heap.size (fun _ => True) v543 y542 from by first | exact (Kd.R_mono (Kd.R_keep (IsS115.apart (show IsS115 w _ gb525 l0 t528 t529 from z115i) (by (with_reducible repeat (first | apply Kd.R_alloc | apply Kd.R_drewN | apply Kd.R_drew)); exact (Q_HO544 h0_)) (by decide)) hk (fun _ h => h.2)) (fun _ h => h.1)) | exact Kd.R_mono (Kd.R_mono (Kd.R_keep (IsS115.apart (show IsS115 w _ gb525 l0 t528 t529 from z115i) (by (with_reducible repeat (first | apply Kd.R_alloc | apply Kd.R_drewN | apply Kd.R_drew)); exact (Q_HO544 h0_)) (by decide)) hk (fun _ h => h.2)) (fun _ h => h.1)) (fun _ h_ => by first | trivial | exact h_ | exact h_.1))
   clear BK530
   clear HB
   clear HI525
   have BK530 := n0_
   have HB := n1_
   have HI525 := n2_
   clear n0_ n1_ n2_
   (try clear hb)
   (try clear hb2)
   (try clear hk)
   (try clear hi)
   refine hK.out _ _ ⟨v535, v543, v549, m16_, (by rw [ha.out]; exact putSel_upk 1 hb_ rfl rfl rfl), zk, fun h0_ => absurd ((up_self b 3).symm.trans h0_) (by decide), zb, fun _ _ => z115i, fun h0_ => absurd ((hoff 5 (by kernel_rfl)).symm.trans h0_) (by decide), fun h0_ _ => absurd ((hoff 5 (by kernel_rfl)).symm.trans h0_) (by decide), fun h0_ _ => absurd ((hoff 8 (by kernel_rfl)).symm.trans h0_) (by decide), z_HO544, fun h0_ _ => absurd ((hoff 11 (by kernel_rfl)).symm.trans h0_) (by decide), fun h0_ => absurd ((hoff 12 (by kernel_rfl)).symm.trans h0_) (by decide), fun h0_ => absurd ((hoff 13 (by kernel_rfl)).symm.trans h0_) (by decide), fun h0_ => absurd ((hoff 16 (by kernel_rfl)).symm.trans h0_) (by decide)⟩
  refine steps_cons ?_ ?_
  ·
   rintro b a w' ⟨v535, v543, v549, m16_, ha, Q_BK530, Q_HI525, Q_HB, Q_HI525_e3, Q_HO536, Q_HI525_e5, Q_HI525_e8, Q_HO544, Q_HI525_e11, Q_HO550, Q_HI525_e13, Q_X16_⟩ hb_ hon hoff
   refine ⟨_, rfl, fun K hK => ?_⟩
   have e17 : a.tmps[17]? = some (.pointer (some ⟨gb525, 0, none⟩)) := by rw [ha]; exact (putSel_off rfl).trans rfl
   replace ha := zm ha
   have BK530 := zm Q_BK530
   have HB := zm Q_HB
   have HI525 := zm (Q_HI525_e3 (hon 3 (by kernel_rfl)) hb_)
   refine goes_ Try.func114 (by kernel_rfl) rfl #[.pointer (some ⟨gb525, 0, none⟩)] (by rfl) rfl rfl (by first | (simp only [List.map_toArray, List.map_cons, List.map_nil, Act.eval, Array.getD_eq_getD_getElem?, Option.getD_some, e17]; done) | (simp only [List.map_toArray, List.map_cons, List.map_nil, Act.eval, Array.getD_eq_getD_getElem?, Option.getD_some, e17]; rfl)) ?_
   with_reducible refine (spec_l1Cur_drifts.calls k gb525 l0 t532 t533 t534 t537 t538 w _ ?side1 ?side2 A4.out).mono ?_
   (case side1 => repeat (first | (with_reducible first | exact HI525.out | apply IsS115.alloc | apply IsS115.drewN | apply IsS115.drew | apply IsS115.set_1 | apply IsS115.set_2 | refine IsS115.far ?_ NB525_530.out _) | exact HI525.out))
   (case side2 => repeat (first | (with_reducible first | exact HB.out | apply below_alloc | apply pw_below_drewN | apply below_drew1 | refine below_set ?_ (IsS115.ge HI525.out) | refine below_set ?_ GE530.out) | exact HB.out))
   rintro e w17 ⟨v535, rfl, ho0, hi, hb, hk⟩
   refine ⟨_, rfl, ?_⟩
   have n0_ := zm (KeepBut.blk hk (g' := gb530) (o := .cells #[.int .i64 t526, .int .i64 t527] 47 (0, 0)) zk NB530_525.out (by simp))
   have n1_ := zm (Kd.R_lower ho0 (below_size zb))
   have n2_ := zm (hb)
   have n3_ := zm (hi)
   have z_HO544 := fun (h0_ : b 10 = true) => (show Kd.R (Kd.int .i64) 3 w17 w.heap.size (fun _ => True) v543 y542 from by first | exact (Kd.R_mono (Kd.R_told (Kd.R_oldK (IsS115.apart (show IsS115 w _ gb525 l0 t532 t533 from z115i) (by (with_reducible repeat (first | apply Kd.R_alloc | apply Kd.R_drewN | apply Kd.R_drew)); exact (Q_HO544 h0_)) (by decide)) hk) (Kd.R_base ho0)) (fun _ h_ => h_.1)) | exact Kd.R_mono (Kd.R_mono (Kd.R_told (Kd.R_oldK (IsS115.apart (show IsS115 w _ gb525 l0 t532 t533 from z115i) (by (with_reducible repeat (first | apply Kd.R_alloc | apply Kd.R_drewN | apply Kd.R_drew)); exact (Q_HO544 h0_)) (by decide)) hk) (Kd.R_base ho0)) (fun _ h_ => h_.1)) (fun _ h_ => by first | trivial | exact h_ | exact h_.1))
   clear BK530
   clear HB
   clear HI525
   have BK530 := n0_
   have HO536 := n1_
   have HB := n2_
   have HI525 := n3_
   clear n0_ n1_ n2_ n3_
   (try clear hb)
   (try clear hb2)
   (try clear hk)
   (try clear hi)
   (try clear ho0)
   refine hK.out _ _ ⟨v535, v543, v549, m16_, (by rw [ha.out]; exact putSel_upk 2 hb_ rfl rfl rfl), zk, fun h0_ => absurd ((hon 3 (by kernel_rfl)).symm.trans h0_) (by decide), zb, fun _ h1_ => absurd ((up_self b 5).symm.trans h1_) (by decide), fun _ => (by (with_reducible repeat (first | apply Kd.R_alloc | apply Kd.R_drewN | apply Kd.R_drew)); first | exact HO536.out | exact Kd.R_mono HO536.out (fun _ _ => trivial)), fun _ _ => z115i, fun h0_ _ => absurd ((hoff 8 (by kernel_rfl)).symm.trans h0_) (by decide), z_HO544, fun h0_ _ => absurd ((hoff 11 (by kernel_rfl)).symm.trans h0_) (by decide), fun h0_ => absurd ((hoff 12 (by kernel_rfl)).symm.trans h0_) (by decide), fun h0_ => absurd ((hoff 13 (by kernel_rfl)).symm.trans h0_) (by decide), fun h0_ => absurd ((hoff 16 (by kernel_rfl)).symm.trans h0_) (by decide)⟩
  refine steps_cons ?_ ?_
  ·
   rintro b a w' ⟨v535, v543, v549, m16_, ha, Q_BK530, Q_HI525, Q_HB, Q_HI525_e3, Q_HO536, Q_HI525_e5, Q_HI525_e8, Q_HO544, Q_HI525_e11, Q_HO550, Q_HI525_e13, Q_X16_⟩ hb_ hon hoff
   refine ⟨_, rfl, fun K hK => ?_⟩
   have e20 : a.tmps[20]? = some (.pointer (some ⟨gb525, 0, none⟩)) := by rw [ha]; exact (putSel_off rfl).trans rfl
   replace ha := zm ha
   have BK530 := zm Q_BK530
   have HB := zm Q_HB
   have HO536 := zm (Q_HO536 (hon 5 (by kernel_rfl)))
   have HI525 := zm (Q_HI525_e5 (hon 5 (by kernel_rfl)) hb_)
   refine goes_ Try.func121 (by kernel_rfl) rfl #[.pointer (some ⟨gb525, 0, none⟩), .int .i64 200] (by rfl) rfl rfl (by first | (simp only [List.map_toArray, List.map_cons, List.map_nil, Act.eval, Array.getD_eq_getD_getElem?, Option.getD_some, e20]; done) | (simp only [List.map_toArray, List.map_cons, List.map_nil, Act.eval, Array.getD_eq_getD_getElem?, Option.getD_some, e20]; rfl)) ?_
   with_reducible refine (spec_l1Cur_pick.calls gb525 l0 t537 t538 200 t539 t540 t541 w _ ?side1 ?side2 A5.out).mono ?_
   (case side1 => repeat (first | (with_reducible first | exact HI525.out | apply IsS115.alloc | apply IsS115.drewN | apply IsS115.drew | apply IsS115.set_1 | apply IsS115.set_2 | refine IsS115.far ?_ NB525_530.out _) | exact HI525.out))
   (case side2 => repeat (first | (with_reducible first | exact HB.out | apply below_alloc | apply pw_below_drewN | apply below_drew1 | refine below_set ?_ (IsS115.ge HI525.out) | refine below_set ?_ GE530.out) | exact HB.out))
   rintro e w18 ⟨rfl, hi, hb, hk⟩
   refine ⟨_, rfl, ?_⟩
   have n0_ := zm (KeepBut.blk hk (g' := gb530) (o := .cells #[.int .i64 t526, .int .i64 t527] 47 (0, 0)) zk NB530_525.out (by simp))
   have n1_ := zm (Kd.R_mono (Kd.R_keep (IsS115.apart (show IsS115 w _ gb525 l0 t537 t538 from z115i) (by (with_reducible repeat (first | apply Kd.R_alloc | apply Kd.R_drewN | apply Kd.R_drew)); exact HO536.out) (by decide)) hk (fun _ h => h.2)) (fun _ h => h.1))
   have n2_ := zm (hb)
   have n3_ := zm (hi)
   have z_HO544 := fun (h0_ : b 10 = true) => (show Kd.R (Kd.int .i64) 3 w18 w.heap.size (fun _ => True) v543 y542 from by first | exact (Kd.R_mono (Kd.R_keep (IsS115.apart (show IsS115 w _ gb525 l0 t537 t538 from z115i) (by (with_reducible repeat (first | apply Kd.R_alloc | apply Kd.R_drewN | apply Kd.R_drew)); exact (Q_HO544 h0_)) (by decide)) hk (fun _ h => h.2)) (fun _ h => h.1)) | exact Kd.R_mono (Kd.R_mono (Kd.R_keep (IsS115.apart (show IsS115 w _ gb525 l0 t537 t538 from z115i) (by (with_reducible repeat (first | apply Kd.R_alloc | apply Kd.R_drewN | apply Kd.R_drew)); exact (Q_HO544 h0_)) (by decide)) hk (fun _ h => h.2)) (fun _ h => h.1)) (fun _ h_ => by first | trivial | exact h_ | exact h_.1))
   clear BK530
   clear HO536
   clear HB
   clear HI525
   have BK530 := n0_
   have HO536 := n1_
   have HB := n2_
   have HI525 := n3_
   clear n0_ n1_ n2_ n3_
   (try clear hb)
   (try clear hb2)
   (try clear hk)
   (try clear hi)
   refine hK.out _ _ ⟨v535, v543, v549, m16_, (by rw [ha.out]; exact putSel_upk 3 hb_ rfl rfl rfl), zk, fun h0_ => absurd ((hon 3 (by kernel_rfl)).symm.trans h0_) (by decide), zb, fun _ h1_ => absurd ((hon 5 (by kernel_rfl)).symm.trans h1_) (by decide), fun _ => (by (with_reducible repeat (first | apply Kd.R_alloc | apply Kd.R_drewN | apply Kd.R_drew)); first | exact HO536.out | exact Kd.R_mono HO536.out (fun _ _ => trivial)), fun _ h1_ => absurd ((up_self b 8).symm.trans h1_) (by decide), fun _ _ => z115i, z_HO544, fun h0_ _ => absurd ((hoff 11 (by kernel_rfl)).symm.trans h0_) (by decide), fun h0_ => absurd ((hoff 12 (by kernel_rfl)).symm.trans h0_) (by decide), fun h0_ => absurd ((hoff 13 (by kernel_rfl)).symm.trans h0_) (by decide), fun h0_ => absurd ((hoff 16 (by kernel_rfl)).symm.trans h0_) (by decide)⟩
  refine steps_cons ?_ ?_
  ·
   rintro b a w' ⟨v535, v543, v549, m16_, ha, Q_BK530, Q_HI525, Q_HB, Q_HI525_e3, Q_HO536, Q_HI525_e5, Q_HI525_e8, Q_HO544, Q_HI525_e11, Q_HO550, Q_HI525_e13, Q_X16_⟩ hb_ hon hoff
   refine ⟨_, rfl, fun K hK => ?_⟩
   replace ha := zm ha
   have BK530 := zm Q_BK530
   have HB := zm Q_HB
   refine Kd.R_lit_step (Kd.int .i64) _ 3 ?hg (N := 23) ?hd (xs := ([2001, (-1)] : List Int)) (inner := [.int .i64 2001, .int .i64 (-1)]) (ok := fun _ => True) (okp := fun _ => True) ?hr ?hp (fun _ hk => hk) trivial (Below.refl _ _) (Nat.le_refl _) (by simp) ?_; (case hd => rfl); (case hg => rfl); (case hr => first | (go_simp; done) | (go_simp; rfl)); (case hp => exact (Reps.one (show Kd.M (Kd.int .i64) _ _ _ 2001 [.int .i64 2001] from rfl) (Reps.one (show Kd.M (Kd.int .i64) _ _ _ (-1) [.int .i64 (-1)] from rfl) (Reps.none _ _))))
   intro v543 w15 ho16 hb hg_ hnew_
   clear hg_ hnew_
   (first | rw [← Ny542.out] at ho16 | (simp only [Int.reduceToNat] at ho16; rw [← Ny542.out] at ho16))
   have n0_ := zm (Kd.R_lower ho16 (below_size zb))
   have n2_ := zm (blk_below (g := gb530) zk hb)
   have n3_ := zm (below_step zb hb)
   have z_HI525 := fun (h0_ : b 3 = false) => (show IsS115 w w15 gb525 l0 t528 t529 from by first | exact (IsS115.below (by repeat (first | (with_reducible first | exact (Q_HI525 h0_) | apply IsS115.alloc | apply IsS115.drewN | apply IsS115.drew | apply IsS115.set_1 | apply IsS115.set_2 | refine IsS115.far ?_ NB525_530.out _) | exact (Q_HI525 h0_))) hb))
   have z_HI525_e3 := fun (h0_ : b 3 = true) (h1_ : b 5 = false) => (show IsS115 w w15 gb525 l0 t532 t533 from by first | exact (IsS115.below (by repeat (first | (with_reducible first | exact (Q_HI525_e3 h0_ h1_) | apply IsS115.alloc | apply IsS115.drewN | apply IsS115.drew | apply IsS115.set_1 | apply IsS115.set_2 | refine IsS115.far ?_ NB525_530.out _) | exact (Q_HI525_e3 h0_ h1_))) hb))
   have z_HO536 := fun (h0_ : b 5 = true) => (show Kd.R (Kd.int .i64) 3 w15 w.heap.size (fun _ => True) v535 t534 from by first | exact (Kd.R_elder' (by (with_reducible repeat (first | apply Kd.R_alloc | apply Kd.R_drewN | apply Kd.R_drew)); exact (Q_HO536 h0_)) (Kd.R_base ho16) hb) | exact Kd.R_mono (Kd.R_elder' (by (with_reducible repeat (first | apply Kd.R_alloc | apply Kd.R_drewN | apply Kd.R_drew)); exact (Q_HO536 h0_)) (Kd.R_base ho16) hb) (fun _ h_ => by first | trivial | exact h_ | exact h_.1))
   have z_HI525_e5 := fun (h0_ : b 5 = true) (h1_ : b 8 = false) => (show IsS115 w w15 gb525 l0 t537 t538 from by first | exact (IsS115.below (by repeat (first | (with_reducible first | exact (Q_HI525_e5 h0_ h1_) | apply IsS115.alloc | apply IsS115.drewN | apply IsS115.drew | apply IsS115.set_1 | apply IsS115.set_2 | refine IsS115.far ?_ NB525_530.out _) | exact (Q_HI525_e5 h0_ h1_))) hb))
   have z_HI525_e8 := fun (h0_ : b 8 = true) (h1_ : b 11 = false) => (show IsS115 w w15 gb525 l0 t540 t541 from by first | exact (IsS115.below (by repeat (first | (with_reducible first | exact (Q_HI525_e8 h0_ h1_) | apply IsS115.alloc | apply IsS115.drewN | apply IsS115.drew | apply IsS115.set_1 | apply IsS115.set_2 | refine IsS115.far ?_ NB525_530.out _) | exact (Q_HI525_e8 h0_ h1_))) hb))
   clear BK530
   clear HB
   have HO544 := n0_
   have BK530 := n2_
   have HB := n3_
   clear n0_ n2_ n3_
   clear hb ho16
   refine hK.out _ _ ⟨v535, v543, v549, m16_, (by rw [ha.out]; exact putSel_upk 4 hb_ rfl rfl rfl), zk, z_HI525, zb, z_HI525_e3, z_HO536, z_HI525_e5, z_HI525_e8, fun _ => (by (with_reducible repeat (first | apply Kd.R_alloc | apply Kd.R_drewN | apply Kd.R_drew)); first | exact HO544.out | exact Kd.R_mono HO544.out (fun _ _ => trivial)), fun h0_ _ => absurd ((hoff 11 (by kernel_rfl)).symm.trans h0_) (by decide), fun h0_ => absurd ((hoff 12 (by kernel_rfl)).symm.trans h0_) (by decide), fun h0_ => absurd ((hoff 13 (by kernel_rfl)).symm.trans h0_) (by decide), fun h0_ => absurd ((hoff 16 (by kernel_rfl)).symm.trans h0_) (by decide)⟩
  refine steps_cons ?_ ?_
  ·
   rintro b a w' ⟨v535, v543, v549, m16_, ha, Q_BK530, Q_HI525, Q_HB, Q_HI525_e3, Q_HO536, Q_HI525_e5, Q_HI525_e8, Q_HO544, Q_HI525_e11, Q_HO550, Q_HI525_e13, Q_X16_⟩ hb_ hon hoff
   refine ⟨_, rfl, fun K hK => ?_⟩
   have e22 : a.tmps[22]? = some (.pointer (some ⟨gb525, 0, none⟩)) := by rw [ha]; exact (putSel_off rfl).trans rfl
   have e23 : a.tmps[23]? = some (v543) := by rw [ha]; exact putSel_on (e := (10, 23, v543)) 4 rfl rfl (hon 10 (by kernel_rfl)) rfl
   replace ha := zm ha
   have BK530 := zm Q_BK530
   have HB := zm Q_HB
   have HO536 := zm (Q_HO536 (hon 5 (by kernel_rfl)))
   have HI525 := zm (Q_HI525_e8 (hon 8 (by kernel_rfl)) hb_)
   have HO544 := zm (Q_HO544 (hon 10 (by kernel_rfl)))
   obtain ⟨Ao21, co21, eo21⟩ := Kd.R_slice HO544.out
   (first | subst eo21 | (injection eo21 with f1_ f2_ f3_; have f4_ := f1_.symm; have f5_ := f3_.symm; clear f1_ f2_ f3_; subst f4_; subst f5_))
   refine goes_ Try.func120 (by kernel_rfl) rfl #[.pointer (some ⟨gb525, 0, none⟩), .slice Ao21 y542.length co21] (by rfl) rfl rfl (by first | (simp only [List.map_toArray, List.map_cons, List.map_nil, Act.eval, Array.getD_eq_getD_getElem?, Option.getD_some, e22, e23]; done) | (simp only [List.map_toArray, List.map_cons, List.map_nil, Act.eval, Array.getD_eq_getD_getElem?, Option.getD_some, e22, e23]; rfl)) ?_
   with_reducible refine (spec_l1Cur_among.calls gb525 l0 t540 t541 _ _ y542 t545 t546 t547 w _ ?side1 ?side2 ?side3 ?side4 ?side5 A6.out).mono ?_
   (case side1 => repeat (first | (with_reducible first | exact HI525.out | apply IsS115.alloc | apply IsS115.drewN | apply IsS115.drew | apply IsS115.set_1 | apply IsS115.set_2 | refine IsS115.far ?_ NB525_530.out _) | exact HI525.out))
   (case side2 => repeat (first | (with_reducible first | exact HB.out | apply below_alloc | apply pw_below_drewN | apply below_drew1 | refine below_set ?_ (IsS115.ge HI525.out) | refine below_set ?_ GE530.out) | exact HB.out))
   (case side3 => repeat (first | exact (Kd.R_reads' HO544.out).2.2 | (with_reducible refine Kd.C_alloc ?_ _) | (with_reducible refine Kd.C_drewN ?_ _) | (with_reducible refine Kd.C_drew ?_)))
   (case side4 => exact (Kd.R_reads' HO544.out).2.1)
   (case side5 => exact far_slice (IsS115.own_ne HI525.out HO544.out (by decide)))
   rintro e w22 ⟨rfl, hi, hb, hk⟩
   refine ⟨_, rfl, ?_⟩
   have n0_ := zm (KeepBut.blk hk (g' := gb530) (o := .cells #[.int .i64 t526, .int .i64 t527] 47 (0, 0)) zk NB530_525.out (by simp))
   have n1_ := zm (Kd.R_mono (Kd.R_keep (IsS115.apart (show IsS115 w _ gb525 l0 t540 t541 from z115i) (by (with_reducible repeat (first | apply Kd.R_alloc | apply Kd.R_drewN | apply Kd.R_drew)); exact HO536.out) (by decide)) hk (fun _ h => h.2)) (fun _ h => h.1))
   have n2_ := zm (Kd.R_mono (Kd.R_keep (IsS115.apart (show IsS115 w _ gb525 l0 t540 t541 from z115i) (by (with_reducible repeat (first | apply Kd.R_alloc | apply Kd.R_drewN | apply Kd.R_drew)); exact HO544.out) (by decide)) hk (fun _ h => h.2)) (fun _ h => h.1))
   have n3_ := zm (hb)
   have n4_ := zm (hi)
   clear BK530
   clear HO536
   clear HO544
   clear HB
   clear HI525
   have BK530 := n0_
   have HO536 := n1_
   have HO544 := n2_
   have HB := n3_
   have HI525 := n4_
   clear n0_ n1_ n2_ n3_ n4_
   (try clear hb)
   (try clear hb2)
   (try clear hk)
   (try clear hi)
   refine hK.out _ _ ⟨v535, .slice Ao21 y542.length co21, v549, m16_, (by rw [ha.out]; exact putSel_upk 5 hb_ rfl rfl rfl), zk, fun h0_ => absurd ((hon 3 (by kernel_rfl)).symm.trans h0_) (by decide), zb, fun _ h1_ => absurd ((hon 5 (by kernel_rfl)).symm.trans h1_) (by decide), fun _ => (by (with_reducible repeat (first | apply Kd.R_alloc | apply Kd.R_drewN | apply Kd.R_drew)); first | exact HO536.out | exact Kd.R_mono HO536.out (fun _ _ => trivial)), fun _ h1_ => absurd ((hon 8 (by kernel_rfl)).symm.trans h1_) (by decide), fun _ h1_ => absurd ((up_self b 11).symm.trans h1_) (by decide), fun _ => (by (with_reducible repeat (first | apply Kd.R_alloc | apply Kd.R_drewN | apply Kd.R_drew)); first | exact HO544.out | exact Kd.R_mono HO544.out (fun _ _ => trivial)), fun _ _ => z115i, fun h0_ => absurd ((hoff 12 (by kernel_rfl)).symm.trans h0_) (by decide), fun h0_ => absurd ((hoff 13 (by kernel_rfl)).symm.trans h0_) (by decide), fun h0_ => absurd ((hoff 16 (by kernel_rfl)).symm.trans h0_) (by decide)⟩
  refine steps_cons ?_ ?_
  ·
   rintro b a w' ⟨v535, v543, v549, m16_, ha, Q_BK530, Q_HI525, Q_HB, Q_HI525_e3, Q_HO536, Q_HI525_e5, Q_HI525_e8, Q_HO544, Q_HI525_e11, Q_HO550, Q_HI525_e13, Q_X16_⟩ hb_ hon hoff
   refine ⟨_, rfl, fun K hK => ?_⟩
   have e21 : a.tmps[21]? = some (.int .i64 t539) := by rw [ha]; exact putSel_on (e := (8, 21, .int .i64 t539)) 3 rfl rfl (hon 8 (by kernel_rfl)) rfl
   have e24 : a.tmps[24]? = some (.int .i64 t545) := by rw [ha]; exact putSel_on (e := (11, 24, .int .i64 t545)) 5 rfl rfl (hon 11 (by kernel_rfl)) rfl
   replace ha := zm ha
   have BK530 := zm Q_BK530
   have HB := zm Q_HB
   have HO536 := zm (Q_HO536 (hon 5 (by kernel_rfl)))
   have HO544 := zm (Q_HO544 (hon 10 (by kernel_rfl)))
   have HI525 := zm (Q_HI525_e11 (hon 11 (by kernel_rfl)) (hoff 13 (by kernel_rfl)))
   refine Kd.R_lit_step (Kd.int .i64) _ 3 ?hg (N := 25) ?hd (xs := ([0, 10, 30, t539, 1000, 2000, t545] : List Int)) (inner := [.int .i64 0, .int .i64 10, .int .i64 30, .int .i64 t539, .int .i64 1000, .int .i64 2000, .int .i64 t545]) (ok := fun _ => True) (okp := fun _ => True) ?hr ?hp (fun _ hk => hk) trivial (Below.refl _ _) (Nat.le_refl _) (by simp) ?_; (case hd => rfl); (case hg => rfl); (case hr => first | (go_simp; done) | (go_simp; rfl)); (case hp => exact (Reps.one (show Kd.M (Kd.int .i64) _ _ _ 0 [.int .i64 0] from rfl) (Reps.one (show Kd.M (Kd.int .i64) _ _ _ 10 [.int .i64 10] from rfl) (Reps.one (show Kd.M (Kd.int .i64) _ _ _ 30 [.int .i64 30] from rfl) (Reps.one (show Kd.M (Kd.int .i64) _ _ _ t539 [.int .i64 t539] from rfl) (Reps.one (show Kd.M (Kd.int .i64) _ _ _ 1000 [.int .i64 1000] from rfl) (Reps.one (show Kd.M (Kd.int .i64) _ _ _ 2000 [.int .i64 2000] from rfl) (Reps.one (show Kd.M (Kd.int .i64) _ _ _ t545 [.int .i64 t545] from rfl) (Reps.none _ _)))))))))
   intro v549 w23 ho24 hb hg_ hnew_
   clear hg_ hnew_
   (first | rw [← Ny548.out] at ho24 | (simp only [Int.reduceToNat] at ho24; rw [← Ny548.out] at ho24))
   have n0_ := zm (Kd.R_elder' (by (with_reducible repeat (first | apply Kd.R_alloc | apply Kd.R_drewN | apply Kd.R_drew)); exact HO536.out) (Kd.R_base ho24) hb)
   have n1_ := zm (Kd.R_elder' (by (with_reducible repeat (first | apply Kd.R_alloc | apply Kd.R_drewN | apply Kd.R_drew)); exact HO544.out) (Kd.R_base ho24) hb)
   have n2_ := zm (Kd.R_lower (Kd.R_new' (Kd.R_new' ho24 (Kd.R_lt (by (with_reducible repeat (first | apply Kd.R_alloc | apply Kd.R_drewN | apply Kd.R_drew)); exact HO536.out))) (Kd.R_lt (by (with_reducible repeat (first | apply Kd.R_alloc | apply Kd.R_drewN | apply Kd.R_drew)); exact HO544.out))) (below_size zb))
   have n3_ := zm (IsS115.below z115i hb)
   have n4_ := zm (blk_below (g := gb530) zk hb)
   have n5_ := zm (below_step zb hb)
   clear HO536
   clear HO544
   clear HI525
   clear BK530
   clear HB
   have HO536 := n0_
   have HO544 := n1_
   have HO550 := n2_
   have HI525 := n3_
   have BK530 := n4_
   have HB := n5_
   clear n0_ n1_ n2_ n3_ n4_ n5_
   clear hb ho24
   refine hK.out _ _ ⟨v535, v543, v549, m16_, (by rw [ha.out]; exact putSel_upk 6 hb_ rfl rfl rfl), zk, fun h0_ => absurd ((hon 3 (by kernel_rfl)).symm.trans h0_) (by decide), zb, fun _ h1_ => absurd ((hon 5 (by kernel_rfl)).symm.trans h1_) (by decide), fun _ => (by (with_reducible repeat (first | apply Kd.R_alloc | apply Kd.R_drewN | apply Kd.R_drew)); first | exact HO536.out | exact Kd.R_mono HO536.out (fun _ _ => trivial)), fun _ h1_ => absurd ((hon 8 (by kernel_rfl)).symm.trans h1_) (by decide), fun _ h1_ => absurd ((hon 11 (by kernel_rfl)).symm.trans h1_) (by decide), fun _ => (by (with_reducible repeat (first | apply Kd.R_alloc | apply Kd.R_drewN | apply Kd.R_drew)); first | exact HO544.out | exact Kd.R_mono HO544.out (fun _ _ => trivial)), fun _ _ => z115i, fun _ => (by (with_reducible repeat (first | apply Kd.R_alloc | apply Kd.R_drewN | apply Kd.R_drew)); first | exact Kd.R_mono HO550.out (fun _ hk => ⟨hk.1.2, hk.2⟩) | exact Kd.R_mono HO550.out (fun _ _ => trivial)), fun h0_ => absurd ((hoff 13 (by kernel_rfl)).symm.trans h0_) (by decide), fun h0_ => absurd ((hoff 16 (by kernel_rfl)).symm.trans h0_) (by decide)⟩
  refine steps_cons ?_ ?_
  ·
   rintro b a w' ⟨v535, v543, v549, m16_, ha, Q_BK530, Q_HI525, Q_HB, Q_HI525_e3, Q_HO536, Q_HI525_e5, Q_HI525_e8, Q_HO544, Q_HI525_e11, Q_HO550, Q_HI525_e13, Q_X16_⟩ hb_ hon hoff
   refine ⟨_, rfl, fun K hK => ?_⟩
   have e19 : a.tmps[19]? = some (.pointer (some ⟨gb525, 0, none⟩)) := by rw [ha]; exact (putSel_off rfl).trans rfl
   have e25 : a.tmps[25]? = some (v549) := by rw [ha]; exact putSel_on (e := (12, 25, v549)) 6 rfl rfl (hon 12 (by kernel_rfl)) rfl
   replace ha := zm ha
   have BK530 := zm Q_BK530
   have HB := zm Q_HB
   have HO536 := zm (Q_HO536 (hon 5 (by kernel_rfl)))
   have HO544 := zm (Q_HO544 (hon 10 (by kernel_rfl)))
   have HI525 := zm (Q_HI525_e11 (hon 11 (by kernel_rfl)) hb_)
   have HO550 := zm (Q_HO550 (hon 12 (by kernel_rfl)))
   obtain ⟨Ao25, co25, eo25⟩ := Kd.R_slice HO550.out
   (first | subst eo25 | (injection eo25 with f1_ f2_ f3_; have f4_ := f1_.symm; have f5_ := f3_.symm; clear f1_ f2_ f3_; subst f4_; subst f5_))
   refine goes_ Try.func120 (by kernel_rfl) rfl #[.pointer (some ⟨gb525, 0, none⟩), .slice Ao25 y548.length co25] (by rfl) rfl rfl (by first | (simp only [List.map_toArray, List.map_cons, List.map_nil, Act.eval, Array.getD_eq_getD_getElem?, Option.getD_some, e19, e25]; done) | (simp only [List.map_toArray, List.map_cons, List.map_nil, Act.eval, Array.getD_eq_getD_getElem?, Option.getD_some, e19, e25]; rfl)) ?_
   with_reducible refine (spec_l1Cur_among.calls gb525 l0 t546 t547 _ _ y548 t551 t552 t553 w _ ?side1 ?side2 ?side3 ?side4 ?side5 A7.out).mono ?_
   (case side1 => repeat (first | (with_reducible first | exact HI525.out | apply IsS115.alloc | apply IsS115.drewN | apply IsS115.drew | apply IsS115.set_1 | apply IsS115.set_2 | refine IsS115.far ?_ NB525_530.out _) | exact HI525.out))
   (case side2 => repeat (first | (with_reducible first | exact HB.out | apply below_alloc | apply pw_below_drewN | apply below_drew1 | refine below_set ?_ (IsS115.ge HI525.out) | refine below_set ?_ GE530.out) | exact HB.out))
   (case side3 => repeat (first | exact (Kd.R_reads' HO550.out).2.2 | (with_reducible refine Kd.C_alloc ?_ _) | (with_reducible refine Kd.C_drewN ?_ _) | (with_reducible refine Kd.C_drew ?_)))
   (case side4 => exact (Kd.R_reads' HO550.out).2.1)
   (case side5 => exact far_slice (IsS115.own_ne HI525.out HO550.out (by decide)))
   rintro e w26 ⟨rfl, hi, hb, hk⟩
   refine ⟨_, rfl, ?_⟩
   have n0_ := zm (KeepBut.blk hk (g' := gb530) (o := .cells #[.int .i64 t526, .int .i64 t527] 47 (0, 0)) zk NB530_525.out (by simp))
   have n1_ := zm (Kd.R_mono (Kd.R_keep (IsS115.apart (show IsS115 w _ gb525 l0 t546 t547 from z115i) (by (with_reducible repeat (first | apply Kd.R_alloc | apply Kd.R_drewN | apply Kd.R_drew)); exact HO536.out) (by decide)) hk (fun _ h => h.2)) (fun _ h => h.1))
   have n2_ := zm (Kd.R_mono (Kd.R_keep (IsS115.apart (show IsS115 w _ gb525 l0 t546 t547 from z115i) (by (with_reducible repeat (first | apply Kd.R_alloc | apply Kd.R_drewN | apply Kd.R_drew)); exact HO544.out) (by decide)) hk (fun _ h => h.2)) (fun _ h => h.1))
   have n3_ := zm (Kd.R_mono (Kd.R_keep (IsS115.apart (show IsS115 w _ gb525 l0 t546 t547 from z115i) (by (with_reducible repeat (first | apply Kd.R_alloc | apply Kd.R_drewN | apply Kd.R_drew)); exact HO550.out) (by decide)) hk (fun _ h => h.2)) (fun _ h => h.1))
   have n4_ := zm (hb)
   have n5_ := zm (hi)
   clear BK530
   clear HO536
   clear HO544
   clear HO550
   clear HB
   clear HI525
   have BK530 := n0_
   have HO536 := n1_
   have HO544 := n2_
   have HO550 := n3_
   have HB := n4_
   have HI525 := n5_
   clear n0_ n1_ n2_ n3_ n4_ n5_
   (try clear hb)
   (try clear hb2)
   (try clear hk)
   (try clear hi)
   refine hK.out _ _ ⟨v535, v543, .slice Ao25 y548.length co25, m16_, (by rw [ha.out]; exact putSel_upk 7 hb_ rfl rfl rfl), zk, fun h0_ => absurd ((hon 3 (by kernel_rfl)).symm.trans h0_) (by decide), zb, fun _ h1_ => absurd ((hon 5 (by kernel_rfl)).symm.trans h1_) (by decide), fun _ => (by (with_reducible repeat (first | apply Kd.R_alloc | apply Kd.R_drewN | apply Kd.R_drew)); first | exact HO536.out | exact Kd.R_mono HO536.out (fun _ _ => trivial)), fun _ h1_ => absurd ((hon 8 (by kernel_rfl)).symm.trans h1_) (by decide), fun _ h1_ => absurd ((hon 11 (by kernel_rfl)).symm.trans h1_) (by decide), fun _ => (by (with_reducible repeat (first | apply Kd.R_alloc | apply Kd.R_drewN | apply Kd.R_drew)); first | exact HO544.out | exact Kd.R_mono HO544.out (fun _ _ => trivial)), fun _ h1_ => absurd ((up_self b 13).symm.trans h1_) (by decide), fun _ => (by (with_reducible repeat (first | apply Kd.R_alloc | apply Kd.R_drewN | apply Kd.R_drew)); first | exact HO550.out | exact Kd.R_mono HO550.out (fun _ _ => trivial)), fun _ => z115i, fun h0_ => absurd ((hoff 16 (by kernel_rfl)).symm.trans h0_) (by decide)⟩
  refine steps_cons ?_ ?_
  ·
   rintro b a w' ⟨v535, v543, v549, m16_, ha, Q_BK530, Q_HI525, Q_HB, Q_HI525_e3, Q_HO536, Q_HI525_e5, Q_HI525_e8, Q_HO544, Q_HI525_e11, Q_HO550, Q_HI525_e13, Q_X16_⟩ hb_ hon hoff
   refine ⟨_, rfl, fun K hK => ?_⟩
   have e14 : a.tmps[14]? = some (.int .i64 t526) := by rw [ha]; exact putSel_on (e := (1, 14, .int .i64 t526)) 0 rfl rfl (hon 1 (by kernel_rfl)) rfl
   replace ha := zm ha
   have BK530 := zm Q_BK530
   have HB := zm Q_HB
   have HO536 := zm (Q_HO536 (hon 5 (by kernel_rfl)))
   have HO544 := zm (Q_HO544 (hon 10 (by kernel_rfl)))
   have HO550 := zm (Q_HO550 (hon 12 (by kernel_rfl)))
   have HI525 := zm (Q_HI525_e13 (hon 13 (by kernel_rfl)))
   refine value_ (w1 := w') (v := .int .i64 t526) (by rfl) rfl ?_ ?_
   ·
    go_simp
    (try simp only [i64_w])
    try rfl
   refine hK.out _ _ ⟨v535, v543, v549, m16_, (by rw [ha.out]; exact putSel_upk 8 hb_ rfl rfl rfl), Q_BK530, fun h0_ => absurd ((hon 3 (by kernel_rfl)).symm.trans h0_) (by decide), Q_HB, fun _ h1_ => absurd ((hon 5 (by kernel_rfl)).symm.trans h1_) (by decide), Q_HO536, fun _ h1_ => absurd ((hon 8 (by kernel_rfl)).symm.trans h1_) (by decide), fun _ h1_ => absurd ((hon 11 (by kernel_rfl)).symm.trans h1_) (by decide), Q_HO544, fun _ h1_ => absurd ((hon 13 (by kernel_rfl)).symm.trans h1_) (by decide), Q_HO550, Q_HI525_e13, fun h0_ => absurd ((hoff 16 (by kernel_rfl)).symm.trans h0_) (by decide)⟩
  refine steps_cons ?_ ?_
  ·
   rintro b a w' ⟨v535, v543, v549, m16_, ha, Q_BK530, Q_HI525, Q_HB, Q_HI525_e3, Q_HO536, Q_HI525_e5, Q_HI525_e8, Q_HO544, Q_HI525_e11, Q_HO550, Q_HI525_e13, Q_X16_⟩ hb_ hon hoff
   refine ⟨_, rfl, fun K hK => ?_⟩
   have e16 : a.tmps[16]? = some (.int .i64 t531) := by rw [ha]; exact putSel_on (e := (3, 16, .int .i64 t531)) 1 rfl rfl (hon 3 (by kernel_rfl)) rfl
   replace ha := zm ha
   have BK530 := zm Q_BK530
   have HB := zm Q_HB
   have HO536 := zm (Q_HO536 (hon 5 (by kernel_rfl)))
   have HO544 := zm (Q_HO544 (hon 10 (by kernel_rfl)))
   have HO550 := zm (Q_HO550 (hon 12 (by kernel_rfl)))
   have HI525 := zm (Q_HI525_e13 (hon 13 (by kernel_rfl)))
   refine value_ (w1 := w') (v := .int .i64 t531) (by rfl) rfl ?_ ?_
   ·
    go_simp
    (try simp only [i64_w])
    try rfl
   refine hK.out _ _ ⟨v535, v543, v549, m16_, (by rw [ha.out]; exact putSel_upk 9 hb_ rfl rfl rfl), Q_BK530, fun h0_ => absurd ((hon 3 (by kernel_rfl)).symm.trans h0_) (by decide), Q_HB, fun _ h1_ => absurd ((hon 5 (by kernel_rfl)).symm.trans h1_) (by decide), Q_HO536, fun _ h1_ => absurd ((hon 8 (by kernel_rfl)).symm.trans h1_) (by decide), fun _ h1_ => absurd ((hon 11 (by kernel_rfl)).symm.trans h1_) (by decide), Q_HO544, fun _ h1_ => absurd ((hon 13 (by kernel_rfl)).symm.trans h1_) (by decide), Q_HO550, Q_HI525_e13, fun h0_ => absurd ((hoff 16 (by kernel_rfl)).symm.trans h0_) (by decide)⟩
  refine steps_cons ?_ ?_
  ·
   rintro b a w' ⟨v535, v543, v549, m16_, ha, Q_BK530, Q_HI525, Q_HB, Q_HI525_e3, Q_HO536, Q_HI525_e5, Q_HI525_e8, Q_HO544, Q_HI525_e11, Q_HO550, Q_HI525_e13, Q_X16_⟩ hb_ hon hoff
   refine ⟨_, rfl, fun K hK => ?_⟩
   have e18 : a.tmps[18]? = some (v535) := by rw [ha]; exact putSel_on (e := (5, 18, v535)) 2 rfl rfl (hon 5 (by kernel_rfl)) rfl
   replace ha := zm ha
   have BK530 := zm Q_BK530
   have HB := zm Q_HB
   have HO536 := zm (Q_HO536 (hon 5 (by kernel_rfl)))
   have HO544 := zm (Q_HO544 (hon 10 (by kernel_rfl)))
   have HO550 := zm (Q_HO550 (hon 12 (by kernel_rfl)))
   have HI525 := zm (Q_HI525_e13 (hon 13 (by kernel_rfl)))
   refine value_ (w1 := w') (v := v535) (by rfl) rfl ?_ ?_
   ·
    go_simp
    (try simp only [i64_w])
    try rfl
   refine hK.out _ _ ⟨v535, v543, v549, (v535), (by rw [ha.out]; exact putSel_upk 10 hb_ rfl rfl rfl), Q_BK530, fun h0_ => absurd ((hon 3 (by kernel_rfl)).symm.trans h0_) (by decide), Q_HB, fun _ h1_ => absurd ((hon 5 (by kernel_rfl)).symm.trans h1_) (by decide), Q_HO536, fun _ h1_ => absurd ((hon 8 (by kernel_rfl)).symm.trans h1_) (by decide), fun _ h1_ => absurd ((hon 11 (by kernel_rfl)).symm.trans h1_) (by decide), Q_HO544, fun _ h1_ => absurd ((hon 13 (by kernel_rfl)).symm.trans h1_) (by decide), Q_HO550, Q_HI525_e13, fun _ => rfl⟩
  refine steps_cons ?_ ?_
  ·
   rintro b a w' ⟨v535, v543, v549, m16_, ha, Q_BK530, Q_HI525, Q_HB, Q_HI525_e3, Q_HO536, Q_HI525_e5, Q_HI525_e8, Q_HO544, Q_HI525_e11, Q_HO550, Q_HI525_e13, Q_X16_⟩ hb_ hon hoff
   refine ⟨_, rfl, fun K hK => ?_⟩
   have e26 : a.tmps[26]? = some (.int .i64 t551) := by rw [ha]; exact putSel_on (e := (13, 26, .int .i64 t551)) 7 rfl rfl (hon 13 (by kernel_rfl)) rfl
   replace ha := zm ha
   have BK530 := zm Q_BK530
   have HB := zm Q_HB
   have HO536 := zm (Q_HO536 (hon 5 (by kernel_rfl)))
   have HO544 := zm (Q_HO544 (hon 10 (by kernel_rfl)))
   have HO550 := zm (Q_HO550 (hon 12 (by kernel_rfl)))
   have HI525 := zm (Q_HI525_e13 (hon 13 (by kernel_rfl)))
   refine value_ (w1 := w') (v := .int .i64 t551) (by rfl) rfl ?_ ?_
   ·
    go_simp
    (try simp only [i64_w])
    try rfl
   refine hK.out _ _ ⟨v535, v543, v549, m16_, (by rw [ha.out]; exact putSel_upk 11 hb_ rfl rfl rfl), Q_BK530, fun h0_ => absurd ((hon 3 (by kernel_rfl)).symm.trans h0_) (by decide), Q_HB, fun _ h1_ => absurd ((hon 5 (by kernel_rfl)).symm.trans h1_) (by decide), Q_HO536, fun _ h1_ => absurd ((hon 8 (by kernel_rfl)).symm.trans h1_) (by decide), fun _ h1_ => absurd ((hon 11 (by kernel_rfl)).symm.trans h1_) (by decide), Q_HO544, fun _ h1_ => absurd ((hon 13 (by kernel_rfl)).symm.trans h1_) (by decide), Q_HO550, Q_HI525_e13, Q_X16_⟩
  exact steps_nil
 rintro b a w26 hall ⟨v535, v543, v549, m16_, ha, Q_BK530, Q_HI525, Q_HB, Q_HI525_e3, Q_HO536, Q_HI525_e5, Q_HI525_e8, Q_HO544, Q_HI525_e11, Q_HO550, Q_HI525_e13, Q_X16_⟩
 clear BK530 HB HI525
 have hb1_ := hall 1 (by kernel_rfl)
 have hb3_ := hall 3 (by kernel_rfl)
 have hb5_ := hall 5 (by kernel_rfl)
 have hb8_ := hall 8 (by kernel_rfl)
 have hb10_ := hall 10 (by kernel_rfl)
 have hb11_ := hall 11 (by kernel_rfl)
 have hb12_ := hall 12 (by kernel_rfl)
 have hb13_ := hall 13 (by kernel_rfl)
 have hb14_ := hall 14 (by kernel_rfl)
 have hb15_ := hall 15 (by kernel_rfl)
 have hb16_ := hall 16 (by kernel_rfl)
 have hb17_ := hall 17 (by kernel_rfl)
 subst ha
 obtain rfl := Q_X16_ hb16_
 simp only [putSel, hb1_, hb3_, hb5_, hb8_, hb10_, hb11_, hb12_, hb13_, hb14_, hb15_, hb16_, hb17_, if_true, Act.put, List.setIfInBounds_toArray, List.set_cons_zero, List.set_cons_succ]
 have BK530 := zm Q_BK530
 clear Q_BK530
 clear Q_HI525
 have HB := zm Q_HB
 clear Q_HB
 clear Q_HI525_e3
 have HO536 := zm (Q_HO536 hb5_)
 clear Q_HO536
 clear Q_HI525_e5
 clear Q_HI525_e8
 have HO544 := zm (Q_HO544 hb10_)
 clear Q_HO544
 clear Q_HI525_e11
 have HO550 := zm (Q_HO550 hb12_)
 clear Q_HO550
 have HI525 := zm (Q_HI525_e13 hb13_)
 clear Q_HI525_e13
 clear hall hb1_ hb3_ hb5_ hb8_ hb10_ hb11_ hb12_ hb13_ hb14_ hb15_ hb16_ hb17_
 try go_wp2
 refine bodyPost_ret (results_list (rs := [.tmp 2, .tmp 3, .tmp 4, .tmp 5]) rfl (by simp) (.tmp (.tmp (.tmp (.tmp .nil))))) rfl ?_
 exact ⟨_, zr, by (with_reducible repeat (first | apply Kd.R_alloc | apply Kd.R_drewN | apply Kd.R_drew)); exact Kd.R_mono HO536.out (fun _ hk => trivial), zb⟩

end Go.Proofs.Ytepkedhmbfkenaa.PTb
