-- Written for this claim by a program of this session (wip/tpl/patchprint.py), not by print.sh.
import Derived.Test.YtepkedhmbfkenaaPTkx0
import Derived.Test.YtepkedhmbfkenaaPTkx1
import Derived.Test.YtepkedhmbfkenaaPTkx2
import Derived.Test.YtepkedhmbfkenaaPTkx3
namespace Go.Proofs.Ytepkedhmbfkenaa.PTk
open Go.RowKit Go.Proofs.YtepkedhmbfkenaaW.PrintWords Go.Proofs.YtepkedhmbfkenaaW.PrintLast Go.Proofs.YtepkedhmbfkenaaW.PrintMore
attribute [local go_sem] max2_int min2_int max_two min_two max_three min_three max_four min_four   -- for this text's walks alone
set_option linter.unusedVariables false
set_option linter.unusedSimpArgs false

/-! ### spec_tkWorst: function 119 -/
def spec_tkWorst.l0 : Nat → Int → List Int → Int → Int → Option (Int × Bool)
  | 0, _, _, _, _ => none
  | k + 1, x11, x26, x27, x28 => if x28 < x27 then (if 0 ≤ x28 then (if x28 < (x26.length : Int) then ((spec_l1Abs.f (rd x26 x28)).bind fun t286 => ((spec_l1Most.f x11 t286).bind fun t287 => (spec_tkWorst.l0 k t287 x26 x27 (wrap64 (x28 + 1))))) else (none)) else (none)) else (some (x11, true))
def spec_tkWorst.f (k : Nat) (a0_0 : Int) (a0_1 : Int) (a1 : Int) (l2 : List Int) : Option (Int × Bool) := (spec_tkRun.f k a0_0 a0_1 a1 l2).bind fun bt277 => (if bt277.2.2 = true then ((spec_l1Abs.f a1).bind fun t284 => (spec_tkWorst.l0 k t284 bt277.1 (bt277.1.length : Int) 0)) else (some (0, false)))
theorem spec_tkWorst.mono_l : ∀ k, (∀ y0 y1 y2 y3, LeO (spec_tkWorst.l0 k y0 y1 y2 y3) (spec_tkWorst.l0 (k + 1) y0 y1 y2 y3))
  | 0 => fun _ _ _ _ r h => by simp [spec_tkWorst.l0] at h
  | k + 1 => by
    have ih0 := spec_tkWorst.mono_l k
    · intro y0 y1 y2 y3
      unfold spec_tkWorst.l0
      repeat' first
      | (with_reducible exact ih0 _ _ _ _)
      | (with_reducible exact spec_tkRun.mono _ _ _ _ _)
      | (with_reducible exact LeO.refl _)
      | (with_reducible exact LeO.none _)
      | (with_reducible refine LeO.ite ?_ ?_)
      | (with_reducible refine LeO.bind ?_ (fun _ => ?_))
      | exact ih0 _ _ _ _
      | exact spec_tkRun.mono _ _ _ _ _
      | exact LeO.none _
      | refine LeO.ite ?_ ?_
      | refine LeO.bind ?_ (fun _ => ?_)
theorem spec_tkWorst.mono : ∀ a0 a1 a2 a3 k, LeO (spec_tkWorst.f k a0 a1 a2 a3) (spec_tkWorst.f (k + 1) a0 a1 a2 a3) := by
  intro a0 a1 a2 a3 k
  have ih0 := spec_tkWorst.mono_l k
  unfold spec_tkWorst.f
  repeat' first
      | (with_reducible exact ih0 _ _ _ _)
      | (with_reducible exact spec_tkRun.mono _ _ _ _ _)
      | (with_reducible exact LeO.refl _)
      | (with_reducible exact LeO.none _)
      | (with_reducible refine LeO.ite ?_ ?_)
      | (with_reducible refine LeO.bind ?_ (fun _ => ?_))
      | exact ih0 _ _ _ _
      | exact spec_tkRun.mono _ _ _ _ _
      | exact LeO.none _
      | refine LeO.ite ?_ ?_
      | refine LeO.bind ?_ (fun _ => ?_)
set_option maxHeartbeats 8000000 in
set_option maxRecDepth 100000 in
theorem spec_tkWorst.calls (k : Nat) (a0_0 : Int) (a0_1 : Int) (a1 : Int) (A2 : Option Addr) (c2 : Nat) (l2 : List Int) (r1 : Int) (r2 : Bool) (w : World) (hr2 : Kd.C (Kd.int .i64) w A2 l2.length l2) (hc2 : l2.length ≤ c2) (h : spec_tkWorst.f k a0_0 a0_1 a1 l2 = some (r1, r2)) :
  Calls Try.prog 119 #[.agg #[.int .i64 a0_0, .int .i64 a0_1], .int .i64 a1, .slice A2 l2.length c2] w fun e w' => e = .returned (.tuple #[.int .i64 r1, .bool r2]) ∧ Below w.heap.size w w' := by
 have hu47 := Try.underlying47
 have HR2 := zm hr2
 have HC2 := zm hc2
 clear hr2 hc2
 have HB := zm (Below.refl w.heap.size w)
 have H : ((spec_tkRun.f k a0_0 a0_1 a1 l2).bind fun bt277 => (if bt277.2.2 = true then ((spec_l1Abs.f a1).bind fun t284 => (spec_tkWorst.l0 k t284 bt277.1 (bt277.1.length : Int) 0)) else (some (0, false)))) = some (r1, r2) := h
 clear h
 replace H := Option.bind_eq_some_iff.mp H
 obtain ⟨⟨t277, t280, t283⟩, A40, H⟩ := H
 replace H : (if t283 = true then ((spec_l1Abs.f a1).bind fun t284 => (spec_tkWorst.l0 k t284 t277 (t277.length : Int) 0)) else (some (0, false))) = some (r1, r2) := H
 have A4 := zm A40
 clear A40
 by_cases c5 : t283 = true
 ·
  subst c5
  have H1 : ((spec_l1Abs.f a1).bind fun t284 => (spec_tkWorst.l0 k t284 t277 (t277.length : Int) 0)) = some (r1, r2) := by rw [if_pos rfl] at H; exact H
  clear H
  have H := H1
  clear H1
  replace H := Option.bind_eq_some_iff.mp H
  obtain ⟨t284, A60, H⟩ := H
  replace H : (spec_tkWorst.l0 k t284 t277 (t277.length : Int) 0) = some (r1, r2) := H
  have A6 := zm A60
  clear A60
  have H' := zm H
  clear H
  go_enter Try.func119, Try.ntmps119
  go_wp2_with (first | ((with_reducible refine gate_dst (N := 3) rfl ?_); refine box_event ?hg (N := 3) ?hd (cs := #[.int .i64 a0_0, .int .i64 a0_1]) (t := 47) ?hr ?_; (case hd => rfl); (case hg => rfl); (case hr => first | (go_simp; done) | (go_simp; rfl)); intro gb276 hg w7 hbox hb; have n0_ := zm (below_step zb hb); have n1_ := zm (hbox); have n2_ := zm (zs hg zb : w.heap.size ≤ gb276); have n3_ := zm (zs hg zb : w.heap.size ≤ gb276); clear HB; have HB := n0_; have BK276 := n1_; have GW276 := n2_; have GE276 := n3_; clear n0_ n1_ n2_ n3_; clear hb hbox hg; obtain ⟨hcz8_0, hcz8_1, hfz8_0, hfz8_1⟩ := zc2 BK276.out) | ((with_reducible refine gate_callee (f := 118) rfl ?_); refine goesL_ (some 18) rfl rfl Try.func118 (by kernel_rfl) rfl #[.agg #[.int .i64 a0_0, .int .i64 a0_1], .int .i64 a1, .slice A2 l2.length c2] rfl (by (try simp only [List.map_toArray, List.map_cons, List.map_nil]); first | done | rfl | (simp only [List.length_drop, List.length_take]; rfl)) ?_; (with_reducible refine (spec_tkRun.calls k a0_0 a0_1 a1 _ _ l2 t277 t280 true _ ?side1 ?side2 A4.out).mono ?_); (case side1 => repeat (first | exact (Kd.C_below HR2.out HB.out) | (with_reducible refine Kd.C_alloc ?_ _) | (with_reducible refine Kd.C_drewN ?_ _) | (with_reducible refine Kd.C_drew ?_))); (case side2 => exact HC2.out); rintro e w9 ⟨v278, v281, rfl, ho0, ho1, hb⟩; refine ⟨_, rfl, ?_⟩; have n0_ := zm (Kd.R_lower ho0 (below_size zb)); have n1_ := zm (Kd.R_lower ho1 (below_size zb)); have n2_ := zm (blk_below (g := gb276) zk hb); have n3_ := zm (below_step zb hb); clear BK276; clear HB; have HO279 := n0_; have HO282 := n1_; have BK276 := n2_; have HB := n3_; clear n0_ n1_ n2_ n3_; (try clear hb); (try clear hb2); (try clear hk); (try clear hi); (try clear ho0); (try clear ho1)) | ((with_reducible refine gate_callee (f := 97) rfl ?_); refine goesL_ (some 25) rfl rfl Try.func97 (by kernel_rfl) rfl #[.int .i64 a1] rfl (by (try simp only [List.map_toArray, List.map_cons, List.map_nil]); first | done | rfl | (simp only [List.length_drop, List.length_take]; rfl)) ?_; (with_reducible refine (spec_l1Abs.calls a1 t284 _ A6.out).mono ?_); rintro e w' ⟨rfl, ⟨nd, rfl⟩⟩; refine ⟨_, rfl, ?_⟩; obtain ⟨Ao10, co10, eo10⟩ := Kd.R_slice HO279.out; subst eo10))
  go_loopg [11, 28] k (fun kq v11 v28 w' => ∃ (x11_1 : Int) (x28_1 : Int), v11 = .int .i64 x11_1 ∧ v28 = .int .i64 x28_1 ∧ Aside0 (spec_tkWorst.l0 kq x11_1 t277 (t277.length : Int) x28_1 = some (r1, r2)) ∧ Aside0 (kq ≤ k) ∧ Aside0 (Kd.R (Kd.int .i64) 3 w' w.heap.size (fun _ => True) (.slice Ao10 t277.length co10) t277) ∧ Aside0 (w'.heap[gb276]? = some (.cells #[.int .i64 a0_0, .int .i64 a0_1] 47 (0, 0))) ∧ Aside0 (Below w.heap.size w w'))
  case atStart => exact ⟨(t284), (0), (by first | rfl | (simp; done) | (simp [*]; done)), (by first | rfl | (simp; done) | (simp [*]; done)), H', ⟨Nat.le_refl _⟩, ⟨by (with_reducible repeat (first | apply Kd.R_alloc | apply Kd.R_drewN | apply Kd.R_drew)); exact Kd.R_mono HO279.out (fun _ hk => trivial)⟩, ⟨zk⟩, ⟨zb⟩⟩
  case round =>
   clear H'
   try clear c1
   try clear c2
   try clear p2
   try clear c5
   try clear c9
   try clear hcz8_0
   try clear hcz8_1
   try clear hfz8_0
   try clear hfz8_1
   obtain ⟨x11_1, x28_1, rfl, rfl, HA, HK1, HO_26, BK276, HB⟩ := hrel
   cases gk with
   | zero => exact absurd HA.out (by simp [spec_tkWorst.l0])
   | succ k1 =>
    have H := HA.out
    clear HA
    simp only [spec_tkWorst.l0] at H
    by_cases c11 : x28_1 < (t277.length : Int)
    ·
     rw [if_pos c11] at H
     have c11b0 : decide (x28_1 < (t277.length : Int)) = true := decide_eq_true c11
     clear c11
     by_cases c12 : 0 ≤ x28_1
     ·
      rw [if_pos c12] at H
      have c12b0 : decide (0 ≤ x28_1) = true := decide_eq_true c12
      clear c12
      by_cases c13 : x28_1 < (t277.length : Int)
      ·
       rw [if_pos c13] at H
       have c13b0 : decide (x28_1 < (t277.length : Int)) = true := decide_eq_true c13
       clear c13
       replace H := Option.bind_eq_some_iff.mp H
       obtain ⟨t286, A140, H⟩ := H
       replace H : ((spec_l1Most.f x11_1 t286).bind fun t287 => (spec_tkWorst.l0 k1 t287 t277 (t277.length : Int) (wrap64 (x28_1 + 1)))) = some (r1, r2) := H
       have A14 := zm A140
       clear A140
       replace H := Option.bind_eq_some_iff.mp H
       obtain ⟨t287, A150, H⟩ := H
       replace H : (spec_tkWorst.l0 k1 t287 t277 (t277.length : Int) (wrap64 (x28_1 + 1))) = some (r1, r2) := H
       have A15 := zm A150
       clear A150
       have H' := zm H
       clear H
       have p285 : 0 ≤ (x28_1 : Int) := zd
       have q285 : x28_1 < (t277.length : Int) := zd
       obtain ⟨ad285, e285, hx285_0⟩ := Kd.at_int (Kd.R_reads' HO_26.out).2.2 x28_1 p285 q285
       cases e285
       replace p285 := eq_true p285
       replace q285 := eq_true q285
       go_wp2_with (first | ((with_reducible refine gate_callee (f := 97) rfl ?_); refine goesL_ (some 34) rfl rfl Try.func97 (by kernel_rfl) rfl #[.int .i64 (rd t277 x28_1)] rfl (by (try simp only [List.map_toArray, List.map_cons, List.map_nil]); first | done | rfl | (simp only [List.length_drop, List.length_take]; rfl)) ?_; (with_reducible refine (spec_l1Abs.calls (rd t277 x28_1) t286 _ A14.out).mono ?_); rintro e w' ⟨rfl, ⟨nd, rfl⟩⟩; refine ⟨_, rfl, ?_⟩) | ((with_reducible refine gate_callee (f := 96) rfl ?_); refine goesL_ (some 35) rfl rfl Try.func96 (by kernel_rfl) rfl #[.int .i64 x11_1, .int .i64 t286] rfl (by (try simp only [List.map_toArray, List.map_cons, List.map_nil]); first | done | rfl | (simp only [List.length_drop, List.length_take]; rfl)) ?_; (with_reducible refine (spec_l1Most.calls x11_1 t286 t287 _ A15.out).mono ?_); rintro e w' ⟨rfl, ⟨nd, rfl⟩⟩; refine ⟨_, rfl, ?_⟩))
       go_roundg k1
       case measure => have := HK1.out; omega
       case rel => exact ⟨(t287), (wrap64 (x28_1 + 1)), (by first | rfl | (simp; done) | (simp [*]; done)), (by first | rfl | (simp; done) | (simp [*]; done)), H', ⟨by have := HK1.out; omega⟩, ⟨by (with_reducible repeat (first | apply Kd.R_alloc | apply Kd.R_drewN | apply Kd.R_drew)); exact HO_26.out⟩, ⟨zk⟩, ⟨zb⟩⟩
      ·
       rw [if_neg c13] at H
       exact absurd H (by simp)
     ·
      rw [if_neg c12] at H
      exact absurd H (by simp)
    ·
     rw [if_neg c11] at H
     have c11b0 : decide (x28_1 < (t277.length : Int)) = false := decide_eq_false c11
     clear c11
     simp only [Option.some.injEq, Prod.mk.injEq] at H
     obtain ⟨rfl, rfl⟩ := H
     go_wp2
     go_ret2
     exact ⟨zr, zb⟩
 ·
  replace c5 := Bool.eq_false_iff.mpr c5
  subst c5
  have H1 : (some (0, false)) = some (r1, r2) := by rw [if_neg (show ¬ (false = true) by decide)] at H; exact H
  clear H
  have H := H1
  clear H1
  simp only [Option.some.injEq, Prod.mk.injEq] at H
  obtain ⟨rfl, rfl⟩ := H
  go_enter Try.func119, Try.ntmps119
  go_wp2_with (first | ((with_reducible refine gate_dst (N := 3) rfl ?_); refine box_event ?hg (N := 3) ?hd (cs := #[.int .i64 a0_0, .int .i64 a0_1]) (t := 47) ?hr ?_; (case hd => rfl); (case hg => rfl); (case hr => first | (go_simp; done) | (go_simp; rfl)); intro gb276 hg w16 hbox hb; have n0_ := zm (below_step zb hb); have n1_ := zm (hbox); have n2_ := zm (zs hg zb : w.heap.size ≤ gb276); have n3_ := zm (zs hg zb : w.heap.size ≤ gb276); clear HB; have HB := n0_; have BK276 := n1_; have GW276 := n2_; have GE276 := n3_; clear n0_ n1_ n2_ n3_; clear hb hbox hg; obtain ⟨hcz17_0, hcz17_1, hfz17_0, hfz17_1⟩ := zc2 BK276.out) | ((with_reducible refine gate_callee (f := 118) rfl ?_); refine goesL_ (some 18) rfl rfl Try.func118 (by kernel_rfl) rfl #[.agg #[.int .i64 a0_0, .int .i64 a0_1], .int .i64 a1, .slice A2 l2.length c2] rfl (by (try simp only [List.map_toArray, List.map_cons, List.map_nil]); first | done | rfl | (simp only [List.length_drop, List.length_take]; rfl)) ?_; (with_reducible refine (spec_tkRun.calls k a0_0 a0_1 a1 _ _ l2 t277 t280 false _ ?side1 ?side2 A4.out).mono ?_); (case side1 => repeat (first | exact (Kd.C_below HR2.out HB.out) | (with_reducible refine Kd.C_alloc ?_ _) | (with_reducible refine Kd.C_drewN ?_ _) | (with_reducible refine Kd.C_drew ?_))); (case side2 => exact HC2.out); rintro e w18 ⟨v278, v281, rfl, ho0, ho1, hb⟩; refine ⟨_, rfl, ?_⟩; have n0_ := zm (Kd.R_lower ho0 (below_size zb)); have n1_ := zm (Kd.R_lower ho1 (below_size zb)); have n2_ := zm (blk_below (g := gb276) zk hb); have n3_ := zm (below_step zb hb); clear BK276; clear HB; have HO279 := n0_; have HO282 := n1_; have BK276 := n2_; have HB := n3_; clear n0_ n1_ n2_ n3_; (try clear hb); (try clear hb2); (try clear hk); (try clear hi); (try clear ho0); (try clear ho1)))
  go_ret2
  exact ⟨zr, zb⟩

/-! ### spec_WorstOffset: function 40 -/
def spec_WorstOffset.f (k : Nat) (a0_0 : Int) (a0_1 : Int) (a1 : Int) (l2 : List Int) : Option (Int × Bool) := (spec_tkAsked.f k a0_0 a0_1 a1 l2).bind fun t289 => (if t289 = true then ((spec_tkWorst.f k a0_0 a0_1 a1 l2).bind fun bt290 => (some (bt290.1, bt290.2))) else (some (0, false)))
theorem spec_WorstOffset.mono : ∀ a0 a1 a2 a3 k, LeO (spec_WorstOffset.f k a0 a1 a2 a3) (spec_WorstOffset.f (k + 1) a0 a1 a2 a3) := by
  intro a0 a1 a2 a3 k
  unfold spec_WorstOffset.f
  repeat' first
      | (with_reducible exact spec_tkAsked.mono _ _ _ _ _)
      | (with_reducible exact spec_tkWorst.mono _ _ _ _ _)
      | (with_reducible exact LeO.refl _)
      | (with_reducible exact LeO.none _)
      | (with_reducible refine LeO.ite ?_ ?_)
      | (with_reducible refine LeO.bind ?_ (fun _ => ?_))
      | exact spec_tkAsked.mono _ _ _ _ _
      | exact spec_tkWorst.mono _ _ _ _ _
      | exact LeO.none _
      | refine LeO.ite ?_ ?_
      | refine LeO.bind ?_ (fun _ => ?_)
set_option maxHeartbeats 8000000 in
set_option maxRecDepth 100000 in
theorem spec_WorstOffset.calls (k : Nat) (a0_0 : Int) (a0_1 : Int) (a1 : Int) (A2 : Option Addr) (c2 : Nat) (l2 : List Int) (r1 : Int) (r2 : Bool) (w : World) (hr2 : Kd.C (Kd.int .i64) w A2 l2.length l2) (hc2 : l2.length ≤ c2) (h : spec_WorstOffset.f k a0_0 a0_1 a1 l2 = some (r1, r2)) :
  Calls Try.prog 40 #[.agg #[.int .i64 a0_0, .int .i64 a0_1], .int .i64 a1, .slice A2 l2.length c2] w fun e w' => e = .returned (.tuple #[.int .i64 r1, .bool r2]) ∧ Below w.heap.size w w' := by
 have hu47 := Try.underlying47
 have HR2 := zm hr2
 have HC2 := zm hc2
 clear hr2 hc2
 have HB := zm (Below.refl w.heap.size w)
 have H : ((spec_tkAsked.f k a0_0 a0_1 a1 l2).bind fun t289 => (if t289 = true then ((spec_tkWorst.f k a0_0 a0_1 a1 l2).bind fun bt290 => (some (bt290.1, bt290.2))) else (some (0, false)))) = some (r1, r2) := h
 clear h
 replace H := Option.bind_eq_some_iff.mp H
 obtain ⟨t289, A40, H⟩ := H
 replace H : (if t289 = true then ((spec_tkWorst.f k a0_0 a0_1 a1 l2).bind fun bt290 => (some (bt290.1, bt290.2))) else (some (0, false))) = some (r1, r2) := H
 have A4 := zm A40
 clear A40
 by_cases c5 : t289 = true
 ·
  subst c5
  have H1 : ((spec_tkWorst.f k a0_0 a0_1 a1 l2).bind fun bt290 => (some (bt290.1, bt290.2))) = some (r1, r2) := by rw [if_pos rfl] at H; exact H
  clear H
  have H := H1
  clear H1
  replace H := Option.bind_eq_some_iff.mp H
  obtain ⟨⟨t290, t291⟩, A60, H⟩ := H
  replace H : (some (t290, t291)) = some (r1, r2) := H
  have A6 := zm A60
  clear A60
  simp only [Option.some.injEq, Prod.mk.injEq] at H
  obtain ⟨rfl, rfl⟩ := H
  go_enter Try.func40, Try.ntmps40
  go_wp2_with (first | ((with_reducible refine gate_dst (N := 3) rfl ?_); refine box_event ?hg (N := 3) ?hd (cs := #[.int .i64 a0_0, .int .i64 a0_1]) (t := 47) ?hr ?_; (case hd => rfl); (case hg => rfl); (case hr => first | (go_simp; done) | (go_simp; rfl)); intro gb288 hg w7 hbox hb; have n0_ := zm (below_step zb hb); have n1_ := zm (hbox); have n2_ := zm (zs hg zb : w.heap.size ≤ gb288); have n3_ := zm (zs hg zb : w.heap.size ≤ gb288); clear HB; have HB := n0_; have BK288 := n1_; have GW288 := n2_; have GE288 := n3_; clear n0_ n1_ n2_ n3_; clear hb hbox hg; obtain ⟨hcz8_0, hcz8_1, hfz8_0, hfz8_1⟩ := zc2 BK288.out) | ((with_reducible refine gate_callee (f := 117) rfl ?_); refine goesL_ (some 11) rfl rfl Try.func117 (by kernel_rfl) rfl #[.agg #[.int .i64 a0_0, .int .i64 a0_1], .int .i64 a1, .slice A2 l2.length c2] rfl (by (try simp only [List.map_toArray, List.map_cons, List.map_nil]); first | done | rfl | (simp only [List.length_drop, List.length_take]; rfl)) ?_; (with_reducible refine (spec_tkAsked.calls k a0_0 a0_1 a1 _ _ l2 true _ ?side1 ?side2 A4.out).mono ?_); (case side1 => repeat (first | exact (Kd.C_below HR2.out HB.out) | (with_reducible refine Kd.C_alloc ?_ _) | (with_reducible refine Kd.C_drewN ?_ _) | (with_reducible refine Kd.C_drew ?_))); (case side2 => exact HC2.out); rintro e w9 ⟨rfl, hb⟩; refine ⟨_, rfl, ?_⟩; have n0_ := zm (blk_below (g := gb288) zk hb); have n1_ := zm (below_step zb hb); clear BK288; clear HB; have BK288 := n0_; have HB := n1_; clear n0_ n1_; (try clear hb); (try clear hb2); (try clear hk); (try clear hi); obtain ⟨hcz10_0, hcz10_1, hfz10_0, hfz10_1⟩ := zc2 BK288.out) | ((with_reducible refine gate_callee (f := 119) rfl ?_); refine goesL_ (some 16) rfl rfl Try.func119 (by kernel_rfl) rfl #[.agg #[.int .i64 a0_0, .int .i64 a0_1], .int .i64 a1, .slice A2 l2.length c2] rfl (by (try simp only [List.map_toArray, List.map_cons, List.map_nil]); first | done | rfl | (simp only [List.length_drop, List.length_take]; rfl)) ?_; (with_reducible refine (spec_tkWorst.calls k a0_0 a0_1 a1 _ _ l2 t290 t291 _ ?side1 ?side2 A6.out).mono ?_); (case side1 => repeat (first | exact (Kd.C_below HR2.out HB.out) | (with_reducible refine Kd.C_alloc ?_ _) | (with_reducible refine Kd.C_drewN ?_ _) | (with_reducible refine Kd.C_drew ?_))); (case side2 => exact HC2.out); rintro e w11 ⟨rfl, hb⟩; refine ⟨_, rfl, ?_⟩; have n0_ := zm (blk_below (g := gb288) zk hb); have n1_ := zm (below_step zb hb); clear BK288; clear HB; have BK288 := n0_; have HB := n1_; clear n0_ n1_; (try clear hb); (try clear hb2); (try clear hk); (try clear hi)))
  go_ret2
  exact ⟨zr, zb⟩
 ·
  replace c5 := Bool.eq_false_iff.mpr c5
  subst c5
  have H1 : (some (0, false)) = some (r1, r2) := by rw [if_neg (show ¬ (false = true) by decide)] at H; exact H
  clear H
  have H := H1
  clear H1
  simp only [Option.some.injEq, Prod.mk.injEq] at H
  obtain ⟨rfl, rfl⟩ := H
  go_enter Try.func40, Try.ntmps40
  go_wp2_with (first | ((with_reducible refine gate_dst (N := 3) rfl ?_); refine box_event ?hg (N := 3) ?hd (cs := #[.int .i64 a0_0, .int .i64 a0_1]) (t := 47) ?hr ?_; (case hd => rfl); (case hg => rfl); (case hr => first | (go_simp; done) | (go_simp; rfl)); intro gb288 hg w12 hbox hb; have n0_ := zm (below_step zb hb); have n1_ := zm (hbox); have n2_ := zm (zs hg zb : w.heap.size ≤ gb288); have n3_ := zm (zs hg zb : w.heap.size ≤ gb288); clear HB; have HB := n0_; have BK288 := n1_; have GW288 := n2_; have GE288 := n3_; clear n0_ n1_ n2_ n3_; clear hb hbox hg; obtain ⟨hcz13_0, hcz13_1, hfz13_0, hfz13_1⟩ := zc2 BK288.out) | ((with_reducible refine gate_callee (f := 117) rfl ?_); refine goesL_ (some 11) rfl rfl Try.func117 (by kernel_rfl) rfl #[.agg #[.int .i64 a0_0, .int .i64 a0_1], .int .i64 a1, .slice A2 l2.length c2] rfl (by (try simp only [List.map_toArray, List.map_cons, List.map_nil]); first | done | rfl | (simp only [List.length_drop, List.length_take]; rfl)) ?_; (with_reducible refine (spec_tkAsked.calls k a0_0 a0_1 a1 _ _ l2 false _ ?side1 ?side2 A4.out).mono ?_); (case side1 => repeat (first | exact (Kd.C_below HR2.out HB.out) | (with_reducible refine Kd.C_alloc ?_ _) | (with_reducible refine Kd.C_drewN ?_ _) | (with_reducible refine Kd.C_drew ?_))); (case side2 => exact HC2.out); rintro e w14 ⟨rfl, hb⟩; refine ⟨_, rfl, ?_⟩; have n0_ := zm (blk_below (g := gb288) zk hb); have n1_ := zm (below_step zb hb); clear BK288; clear HB; have BK288 := n0_; have HB := n1_; clear n0_ n1_; (try clear hb); (try clear hb2); (try clear hk); (try clear hi)))
  go_ret2
  exact ⟨zr, zb⟩

/-! ### impl_MovesMade: function 41 -/
def impl_MovesMade.l0 : Nat → Int → List Int → Int → Int → List Int → Int → Int → Option (Int × Int × Bool)
  | 0, _, _, _, _, _, _, _ => none
  | k + 1, x1, x2, x11, x12, x25, x26, x27 => if x27 < x26 then (if 0 ≤ x27 then (if x27 < (x25.length : Int) then (if x27 < (x2.length : Int) then (if (rd x25 x27) < (wrap64 (x1 + (rd x2 x27))) then (impl_MovesMade.l0 k (rd x25 x27) x2 (wrap64 (x11 + 1)) x12 x25 x26 (wrap64 (x27 + 1))) else (if (rd x25 x27) > (wrap64 (x1 + (rd x2 x27))) then (impl_MovesMade.l0 k (rd x25 x27) x2 x11 (wrap64 (x12 + 1)) x25 x26 (wrap64 (x27 + 1))) else (impl_MovesMade.l0 k (rd x25 x27) x2 x11 x12 x25 x26 (wrap64 (x27 + 1))))) else (none)) else (none)) else (none)) else (some (x11, x12, true))
def impl_MovesMade.f (k : Nat) (a0_0 : Int) (a0_1 : Int) (a1 : Int) (l2 : List Int) : Option (Int × Int × Bool) := (impl_TrackRun.f k a0_0 a0_1 a1 l2).bind fun bt293 => (if bt293.2 = true then (impl_MovesMade.l0 k a1 l2 0 0 bt293.1 (bt293.1.length : Int) 0) else (some (0, 0, false)))
theorem impl_MovesMade.mono_l : ∀ k, (∀ y0 y1 y2 y3 y4 y5 y6, LeO (impl_MovesMade.l0 k y0 y1 y2 y3 y4 y5 y6) (impl_MovesMade.l0 (k + 1) y0 y1 y2 y3 y4 y5 y6))
  | 0 => fun _ _ _ _ _ _ _ r h => by simp [impl_MovesMade.l0] at h
  | k + 1 => by
    have ih0 := impl_MovesMade.mono_l k
    · intro y0 y1 y2 y3 y4 y5 y6
      unfold impl_MovesMade.l0
      repeat' first
      | (with_reducible exact ih0 _ _ _ _ _ _ _)
      | (with_reducible exact impl_TrackRun.mono _ _ _ _ _)
      | (with_reducible exact LeO.refl _)
      | (with_reducible exact LeO.none _)
      | (with_reducible refine LeO.ite ?_ ?_)
      | (with_reducible refine LeO.bind ?_ (fun _ => ?_))
      | exact ih0 _ _ _ _ _ _ _
      | exact impl_TrackRun.mono _ _ _ _ _
      | exact LeO.none _
      | refine LeO.ite ?_ ?_
      | refine LeO.bind ?_ (fun _ => ?_)
theorem impl_MovesMade.mono : ∀ a0 a1 a2 a3 k, LeO (impl_MovesMade.f k a0 a1 a2 a3) (impl_MovesMade.f (k + 1) a0 a1 a2 a3) := by
  intro a0 a1 a2 a3 k
  have ih0 := impl_MovesMade.mono_l k
  unfold impl_MovesMade.f
  repeat' first
      | (with_reducible exact ih0 _ _ _ _ _ _ _)
      | (with_reducible exact impl_TrackRun.mono _ _ _ _ _)
      | (with_reducible exact LeO.refl _)
      | (with_reducible exact LeO.none _)
      | (with_reducible refine LeO.ite ?_ ?_)
      | (with_reducible refine LeO.bind ?_ (fun _ => ?_))
      | exact ih0 _ _ _ _ _ _ _
      | exact impl_TrackRun.mono _ _ _ _ _
      | exact LeO.none _
      | refine LeO.ite ?_ ?_
      | refine LeO.bind ?_ (fun _ => ?_)
set_option maxHeartbeats 8000000 in
set_option maxRecDepth 100000 in
theorem impl_MovesMade.calls (k : Nat) (a0_0 : Int) (a0_1 : Int) (a1 : Int) (A2 : Option Addr) (c2 : Nat) (l2 : List Int) (r1 : Int) (r2 : Int) (r3 : Bool) (w : World) (hr2 : Kd.C (Kd.int .i64) w A2 l2.length l2) (hc2 : l2.length ≤ c2) (h : impl_MovesMade.f k a0_0 a0_1 a1 l2 = some (r1, r2, r3)) :
  Calls Try.prog 41 #[.agg #[.int .i64 a0_0, .int .i64 a0_1], .int .i64 a1, .slice A2 l2.length c2] w fun e w' => e = .returned (.tuple #[.int .i64 r1, .int .i64 r2, .bool r3]) ∧ Below w.heap.size w w' := by
 have hu47 := Try.underlying47
 have HR2 := zm hr2
 have HC2 := zm hc2
 clear hr2 hc2
 have HB := zm (Below.refl w.heap.size w)
 have H : ((impl_TrackRun.f k a0_0 a0_1 a1 l2).bind fun bt293 => (if bt293.2 = true then (impl_MovesMade.l0 k a1 l2 0 0 bt293.1 (bt293.1.length : Int) 0) else (some (0, 0, false)))) = some (r1, r2, r3) := h
 clear h
 replace H := Option.bind_eq_some_iff.mp H
 obtain ⟨⟨t293, t296⟩, A40, H⟩ := H
 replace H : (if t296 = true then (impl_MovesMade.l0 k a1 l2 0 0 t293 (t293.length : Int) 0) else (some (0, 0, false))) = some (r1, r2, r3) := H
 have A4 := zm A40
 clear A40
 by_cases c5 : t296 = true
 ·
  subst c5
  have H1 : (impl_MovesMade.l0 k a1 l2 0 0 t293 (t293.length : Int) 0) = some (r1, r2, r3) := by rw [if_pos rfl] at H; exact H
  clear H
  have H := H1
  clear H1
  have H' := zm H
  clear H
  go_enter Try.func41, Try.ntmps41
  go_wp2_with (first | ((with_reducible refine gate_dst (N := 3) rfl ?_); refine box_event ?hg (N := 3) ?hd (cs := #[.int .i64 a0_0, .int .i64 a0_1]) (t := 47) ?hr ?_; (case hd => rfl); (case hg => rfl); (case hr => first | (go_simp; done) | (go_simp; rfl)); intro gb292 hg w6 hbox hb; have n0_ := zm (below_step zb hb); have n1_ := zm (hbox); have n2_ := zm (zs hg zb : w.heap.size ≤ gb292); have n3_ := zm (zs hg zb : w.heap.size ≤ gb292); clear HB; have HB := n0_; have BK292 := n1_; have GW292 := n2_; have GE292 := n3_; clear n0_ n1_ n2_ n3_; clear hb hbox hg; obtain ⟨hcz7_0, hcz7_1, hfz7_0, hfz7_1⟩ := zc2 BK292.out) | ((with_reducible refine gate_callee (f := 37) rfl ?_); refine goesL_ (some 20) rfl rfl Try.func37 (by kernel_rfl) rfl #[.agg #[.int .i64 a0_0, .int .i64 a0_1], .int .i64 a1, .slice A2 l2.length c2] rfl (by (try simp only [List.map_toArray, List.map_cons, List.map_nil]); first | done | rfl | (simp only [List.length_drop, List.length_take]; rfl)) ?_; (with_reducible refine (impl_TrackRun.calls k a0_0 a0_1 a1 _ _ l2 t293 true _ ?side1 ?side2 A4.out).mono ?_); (case side1 => repeat (first | exact (Kd.C_below HR2.out HB.out) | (with_reducible refine Kd.C_alloc ?_ _) | (with_reducible refine Kd.C_drewN ?_ _) | (with_reducible refine Kd.C_drew ?_))); (case side2 => exact HC2.out); rintro e w8 ⟨v294, rfl, ho0, hb⟩; refine ⟨_, rfl, ?_⟩; have n0_ := zm (Kd.R_lower ho0 (below_size zb)); have n1_ := zm (blk_below (g := gb292) zk hb); have n2_ := zm (below_step zb hb); clear BK292; clear HB; have HO295 := n0_; have BK292 := n1_; have HB := n2_; clear n0_ n1_ n2_; (try clear hb); (try clear hb2); (try clear hk); (try clear hi); (try clear ho0); obtain ⟨Ao9, co9, eo9⟩ := Kd.R_slice HO295.out; subst eo9))
  go_loopg [1, 11, 12, 27] k (fun kq v1 v11 v12 v27 w' => ∃ (x1_1 : Int) (x11_1 : Int) (x12_1 : Int) (x27_1 : Int), v1 = .int .i64 x1_1 ∧ v11 = .int .i64 x11_1 ∧ v12 = .int .i64 x12_1 ∧ v27 = .int .i64 x27_1 ∧ Aside0 (impl_MovesMade.l0 kq x1_1 l2 x11_1 x12_1 t293 (t293.length : Int) x27_1 = some (r1, r2, r3)) ∧ Aside0 (kq ≤ k) ∧ Aside0 (Kd.R (Kd.int .i64) 3 w' w.heap.size (fun _ => True) (.slice Ao9 t293.length co9) t293) ∧ Aside0 (w'.heap[gb292]? = some (.cells #[.int .i64 a0_0, .int .i64 a0_1] 47 (0, 0))) ∧ Aside0 (Below w.heap.size w w'))
  case atStart => exact ⟨(a1), (0), (0), (0), (by first | rfl | (simp; done) | (simp [*]; done)), (by first | rfl | (simp; done) | (simp [*]; done)), (by first | rfl | (simp; done) | (simp [*]; done)), (by first | rfl | (simp; done) | (simp [*]; done)), H', ⟨Nat.le_refl _⟩, ⟨by (with_reducible repeat (first | apply Kd.R_alloc | apply Kd.R_drewN | apply Kd.R_drew)); exact HO295.out⟩, ⟨zk⟩, ⟨zb⟩⟩
  case round =>
   clear H'
   try clear c2
   try clear p2
   try clear c3
   try clear c4
   try clear c5
   try clear hcz7_0
   try clear hcz7_1
   try clear hfz7_0
   try clear hfz7_1
   obtain ⟨x1_1, x11_1, x12_1, x27_1, rfl, rfl, rfl, rfl, HA, HK1, HO_25, BK292, HB⟩ := hrel
   cases gk with
   | zero => exact absurd HA.out (by simp [impl_MovesMade.l0])
   | succ k1 =>
    have H := HA.out
    clear HA
    simp only [impl_MovesMade.l0] at H
    by_cases c10 : x27_1 < (t293.length : Int)
    ·
     rw [if_pos c10] at H
     have c10b0 : decide (x27_1 < (t293.length : Int)) = true := decide_eq_true c10
     clear c10
     by_cases c11 : 0 ≤ x27_1
     ·
      rw [if_pos c11] at H
      have c11b0 : decide (0 ≤ x27_1) = true := decide_eq_true c11
      clear c11
      by_cases c12 : x27_1 < (t293.length : Int)
      ·
       rw [if_pos c12] at H
       have c12b0 : decide (x27_1 < (t293.length : Int)) = true := decide_eq_true c12
       clear c12
       by_cases c13 : x27_1 < (l2.length : Int)
       ·
        rw [if_pos c13] at H
        have c13b0 : decide (x27_1 < (l2.length : Int)) = true := decide_eq_true c13
        clear c13
        by_cases c14 : (rd t293 x27_1) < (wrap64 (x1_1 + (rd l2 x27_1)))
        ·
         rw [if_pos c14] at H
         have c14b0 : decide ((rd t293 x27_1) < (wrap64 (x1_1 + (rd l2 x27_1)))) = true := decide_eq_true c14
         clear c14
         have H' := zm H
         clear H
         have p297 : 0 ≤ (x27_1 : Int) := zd
         have q297 : x27_1 < (t293.length : Int) := zd
         obtain ⟨ad297, e297, hx297_0⟩ := Kd.at_int (Kd.R_reads' HO_25.out).2.2 x27_1 p297 q297
         cases e297
         replace p297 := eq_true p297
         replace q297 := eq_true q297
         have p298 : 0 ≤ (x27_1 : Int) := zd
         have q298 : x27_1 < (l2.length : Int) := zd
         obtain ⟨ad298, e298, hx298_0⟩ := Kd.at_int HR2.out x27_1 p298 q298
         cases e298
         replace hx298_0 := zx HB.out hx298_0
         replace p298 := eq_true p298
         replace q298 := eq_true q298
         go_wp2
         go_roundg k1
         case measure => have := HK1.out; omega
         case rel => exact ⟨(rd t293 x27_1), (wrap64 (x11_1 + 1)), (x12_1), (wrap64 (x27_1 + 1)), (by first | rfl | (simp; done) | (simp [*]; done)), (by first | rfl | (simp; done) | (simp [*]; done)), (by first | rfl | (simp; done) | (simp [*]; done)), (by first | rfl | (simp; done) | (simp [*]; done)), H', ⟨by have := HK1.out; omega⟩, ⟨by (with_reducible repeat (first | apply Kd.R_alloc | apply Kd.R_drewN | apply Kd.R_drew)); exact HO_25.out⟩, ⟨zk⟩, ⟨zb⟩⟩
        ·
         rw [if_neg c14] at H
         have c14b0 : decide ((rd t293 x27_1) < (wrap64 (x1_1 + (rd l2 x27_1)))) = false := decide_eq_false c14
         clear c14
         by_cases c15 : (rd t293 x27_1) > (wrap64 (x1_1 + (rd l2 x27_1)))
         ·
          rw [if_pos c15] at H
          have c15b0 : decide ((wrap64 (x1_1 + (rd l2 x27_1))) < (rd t293 x27_1)) = true := decide_eq_true c15
          clear c15
          have H' := zm H
          clear H
          have p297 : 0 ≤ (x27_1 : Int) := zd
          have q297 : x27_1 < (t293.length : Int) := zd
          obtain ⟨ad297, e297, hx297_0⟩ := Kd.at_int (Kd.R_reads' HO_25.out).2.2 x27_1 p297 q297
          cases e297
          replace p297 := eq_true p297
          replace q297 := eq_true q297
          have p298 : 0 ≤ (x27_1 : Int) := zd
          have q298 : x27_1 < (l2.length : Int) := zd
          obtain ⟨ad298, e298, hx298_0⟩ := Kd.at_int HR2.out x27_1 p298 q298
          cases e298
          replace hx298_0 := zx HB.out hx298_0
          replace p298 := eq_true p298
          replace q298 := eq_true q298
          go_wp2
          go_roundg k1
          case measure => have := HK1.out; omega
          case rel => exact ⟨(rd t293 x27_1), (x11_1), (wrap64 (x12_1 + 1)), (wrap64 (x27_1 + 1)), (by first | rfl | (simp; done) | (simp [*]; done)), (by first | rfl | (simp; done) | (simp [*]; done)), (by first | rfl | (simp; done) | (simp [*]; done)), (by first | rfl | (simp; done) | (simp [*]; done)), H', ⟨by have := HK1.out; omega⟩, ⟨by (with_reducible repeat (first | apply Kd.R_alloc | apply Kd.R_drewN | apply Kd.R_drew)); exact HO_25.out⟩, ⟨zk⟩, ⟨zb⟩⟩
         ·
          rw [if_neg c15] at H
          have c15b0 : decide ((wrap64 (x1_1 + (rd l2 x27_1))) < (rd t293 x27_1)) = false := decide_eq_false c15
          clear c15
          have H' := zm H
          clear H
          have p297 : 0 ≤ (x27_1 : Int) := zd
          have q297 : x27_1 < (t293.length : Int) := zd
          obtain ⟨ad297, e297, hx297_0⟩ := Kd.at_int (Kd.R_reads' HO_25.out).2.2 x27_1 p297 q297
          cases e297
          replace p297 := eq_true p297
          replace q297 := eq_true q297
          have p298 : 0 ≤ (x27_1 : Int) := zd
          have q298 : x27_1 < (l2.length : Int) := zd
          obtain ⟨ad298, e298, hx298_0⟩ := Kd.at_int HR2.out x27_1 p298 q298
          cases e298
          replace hx298_0 := zx HB.out hx298_0
          replace p298 := eq_true p298
          replace q298 := eq_true q298
          go_wp2
          go_roundg k1
          case measure => have := HK1.out; omega
          case rel => exact ⟨(rd t293 x27_1), (x11_1), (x12_1), (wrap64 (x27_1 + 1)), (by first | rfl | (simp; done) | (simp [*]; done)), (by first | rfl | (simp; done) | (simp [*]; done)), (by first | rfl | (simp; done) | (simp [*]; done)), (by first | rfl | (simp; done) | (simp [*]; done)), H', ⟨by have := HK1.out; omega⟩, ⟨by (with_reducible repeat (first | apply Kd.R_alloc | apply Kd.R_drewN | apply Kd.R_drew)); exact HO_25.out⟩, ⟨zk⟩, ⟨zb⟩⟩
       ·
        rw [if_neg c13] at H
        exact absurd H (by simp)
      ·
       rw [if_neg c12] at H
       exact absurd H (by simp)
     ·
      rw [if_neg c11] at H
      exact absurd H (by simp)
    ·
     rw [if_neg c10] at H
     have c10b0 : decide (x27_1 < (t293.length : Int)) = false := decide_eq_false c10
     clear c10
     simp only [Option.some.injEq, Prod.mk.injEq] at H
     obtain ⟨rfl, rfl, rfl⟩ := H
     go_wp2
     go_ret3
     exact ⟨zr, zb⟩
 ·
  replace c5 := Bool.eq_false_iff.mpr c5
  subst c5
  have H1 : (some (0, 0, false)) = some (r1, r2, r3) := by rw [if_neg (show ¬ (false = true) by decide)] at H; exact H
  clear H
  have H := H1
  clear H1
  simp only [Option.some.injEq, Prod.mk.injEq] at H
  obtain ⟨rfl, rfl, rfl⟩ := H
  go_enter Try.func41, Try.ntmps41
  go_wp2_with (first | ((with_reducible refine gate_dst (N := 3) rfl ?_); refine box_event ?hg (N := 3) ?hd (cs := #[.int .i64 a0_0, .int .i64 a0_1]) (t := 47) ?hr ?_; (case hd => rfl); (case hg => rfl); (case hr => first | (go_simp; done) | (go_simp; rfl)); intro gb292 hg w16 hbox hb; have n0_ := zm (below_step zb hb); have n1_ := zm (hbox); have n2_ := zm (zs hg zb : w.heap.size ≤ gb292); have n3_ := zm (zs hg zb : w.heap.size ≤ gb292); clear HB; have HB := n0_; have BK292 := n1_; have GW292 := n2_; have GE292 := n3_; clear n0_ n1_ n2_ n3_; clear hb hbox hg; obtain ⟨hcz17_0, hcz17_1, hfz17_0, hfz17_1⟩ := zc2 BK292.out) | ((with_reducible refine gate_callee (f := 37) rfl ?_); refine goesL_ (some 20) rfl rfl Try.func37 (by kernel_rfl) rfl #[.agg #[.int .i64 a0_0, .int .i64 a0_1], .int .i64 a1, .slice A2 l2.length c2] rfl (by (try simp only [List.map_toArray, List.map_cons, List.map_nil]); first | done | rfl | (simp only [List.length_drop, List.length_take]; rfl)) ?_; (with_reducible refine (impl_TrackRun.calls k a0_0 a0_1 a1 _ _ l2 t293 false _ ?side1 ?side2 A4.out).mono ?_); (case side1 => repeat (first | exact (Kd.C_below HR2.out HB.out) | (with_reducible refine Kd.C_alloc ?_ _) | (with_reducible refine Kd.C_drewN ?_ _) | (with_reducible refine Kd.C_drew ?_))); (case side2 => exact HC2.out); rintro e w18 ⟨v294, rfl, ho0, hb⟩; refine ⟨_, rfl, ?_⟩; have n0_ := zm (Kd.R_lower ho0 (below_size zb)); have n1_ := zm (blk_below (g := gb292) zk hb); have n2_ := zm (below_step zb hb); clear BK292; clear HB; have HO295 := n0_; have BK292 := n1_; have HB := n2_; clear n0_ n1_ n2_; (try clear hb); (try clear hb2); (try clear hk); (try clear hi); (try clear ho0)))
  go_ret3
  exact ⟨zr, zb⟩

/-! ### spec_MovesMade: function 42 -/
def spec_MovesMade.f (k : Nat) (a0_0 : Int) (a0_1 : Int) (a1 : Int) (l2 : List Int) : Option (Int × Int × Bool) := (spec_tkAsked.f k a0_0 a0_1 a1 l2).bind fun t300 => (if t300 = true then ((spec_tkRun.f k a0_0 a0_1 a1 l2).bind fun bt301 => (if bt301.2.2 = true then (if 0 < (bt301.2.1.length : Int) then (if 1 < (bt301.2.1.length : Int) then (some (rd bt301.2.1 0, rd bt301.2.1 1, true)) else (none)) else (none)) else (some (0, 0, false)))) else (some (0, 0, false)))
theorem spec_MovesMade.mono : ∀ a0 a1 a2 a3 k, LeO (spec_MovesMade.f k a0 a1 a2 a3) (spec_MovesMade.f (k + 1) a0 a1 a2 a3) := by
  intro a0 a1 a2 a3 k
  unfold spec_MovesMade.f
  repeat' first
      | (with_reducible exact spec_tkAsked.mono _ _ _ _ _)
      | (with_reducible exact spec_tkRun.mono _ _ _ _ _)
      | (with_reducible exact LeO.refl _)
      | (with_reducible exact LeO.none _)
      | (with_reducible refine LeO.ite ?_ ?_)
      | (with_reducible refine LeO.bind ?_ (fun _ => ?_))
      | exact spec_tkAsked.mono _ _ _ _ _
      | exact spec_tkRun.mono _ _ _ _ _
      | exact LeO.none _
      | refine LeO.ite ?_ ?_
      | refine LeO.bind ?_ (fun _ => ?_)
theorem spec_MovesMade.gq {P : Program} {i : Nat} {ops : Array Oper} {Q : Exit → Act → World → Prop} {a : Act} {W : World} (h : (Code.region i ops true).wp P Q a W) : (Code.region i ops true).wp P Q a W := h
set_option maxHeartbeats 8000000 in
set_option maxRecDepth 100000 in
theorem spec_MovesMade.calls (k : Nat) (a0_0 : Int) (a0_1 : Int) (a1 : Int) (A2 : Option Addr) (c2 : Nat) (l2 : List Int) (r1 : Int) (r2 : Int) (r3 : Bool) (w : World) (hr2 : Kd.C (Kd.int .i64) w A2 l2.length l2) (hc2 : l2.length ≤ c2) (h : spec_MovesMade.f k a0_0 a0_1 a1 l2 = some (r1, r2, r3)) :
  Calls Try.prog 42 #[.agg #[.int .i64 a0_0, .int .i64 a0_1], .int .i64 a1, .slice A2 l2.length c2] w fun e w' => e = .returned (.tuple #[.int .i64 r1, .int .i64 r2, .bool r3]) ∧ Below w.heap.size w w' := by
 have hu47 := Try.underlying47
 have HR2 := zm hr2
 have HC2 := zm hc2
 clear hr2 hc2
 have HB := zm (Below.refl w.heap.size w)
 have H : ((spec_tkAsked.f k a0_0 a0_1 a1 l2).bind fun t300 => (if t300 = true then ((spec_tkRun.f k a0_0 a0_1 a1 l2).bind fun bt301 => (if bt301.2.2 = true then (if 0 < (bt301.2.1.length : Int) then (if 1 < (bt301.2.1.length : Int) then (some (rd bt301.2.1 0, rd bt301.2.1 1, true)) else (none)) else (none)) else (some (0, 0, false)))) else (some (0, 0, false)))) = some (r1, r2, r3) := h
 clear h
 replace H := Option.bind_eq_some_iff.mp H
 obtain ⟨t300, A40, H⟩ := H
 replace H : (if t300 = true then ((spec_tkRun.f k a0_0 a0_1 a1 l2).bind fun bt301 => (if bt301.2.2 = true then (if 0 < (bt301.2.1.length : Int) then (if 1 < (bt301.2.1.length : Int) then (some (rd bt301.2.1 0, rd bt301.2.1 1, true)) else (none)) else (none)) else (some (0, 0, false)))) else (some (0, 0, false))) = some (r1, r2, r3) := H
 have A4 := zm A40
 clear A40
 by_cases c5 : t300 = true
 ·
  subst c5
  have H1 : ((spec_tkRun.f k a0_0 a0_1 a1 l2).bind fun bt301 => (if bt301.2.2 = true then (if 0 < (bt301.2.1.length : Int) then (if 1 < (bt301.2.1.length : Int) then (some (rd bt301.2.1 0, rd bt301.2.1 1, true)) else (none)) else (none)) else (some (0, 0, false)))) = some (r1, r2, r3) := by rw [if_pos rfl] at H; exact H
  clear H
  have H := H1
  clear H1
  replace H := Option.bind_eq_some_iff.mp H
  obtain ⟨⟨t301, t304, t307⟩, A60, H⟩ := H
  replace H : (if t307 = true then (if 0 < (t304.length : Int) then (if 1 < (t304.length : Int) then (some (rd t304 0, rd t304 1, true)) else (none)) else (none)) else (some (0, 0, false))) = some (r1, r2, r3) := H
  have A6 := zm A60
  clear A60
  by_cases c7 : t307 = true
  ·
   subst c7
   have H1 : (if 0 < (t304.length : Int) then (if 1 < (t304.length : Int) then (some (rd t304 0, rd t304 1, true)) else (none)) else (none)) = some (r1, r2, r3) := by rw [if_pos rfl] at H; exact H
   clear H
   have H := H1
   clear H1
   by_cases c8 : 0 < (t304.length : Int)
   ·
    rw [if_pos c8] at H
    have c8b0 : decide (0 < (t304.length : Int)) = true := decide_eq_true c8
    have c8b1 : decide (0 < t304.length) = true := decide_eq_true (by omega)
    clear c8
    by_cases c9 : 1 < (t304.length : Int)
    ·
     rw [if_pos c9] at H
     have c9b0 : decide (1 < (t304.length : Int)) = true := decide_eq_true c9
     have c9b1 : decide (1 < t304.length) = true := decide_eq_true (by omega)
     clear c9
     simp only [Option.some.injEq, Prod.mk.injEq] at H
     obtain ⟨rfl, rfl, rfl⟩ := H
     go_enter Try.func42, Try.ntmps42
     go_wp2_with (first | ((with_reducible refine gate_dst (N := 3) rfl ?_); refine box_event ?hg (N := 3) ?hd (cs := #[.int .i64 a0_0, .int .i64 a0_1]) (t := 47) ?hr ?_; (case hd => rfl); (case hg => rfl); (case hr => first | (go_simp; done) | (go_simp; rfl)); intro gb299 hg w10 hbox hb; have n0_ := zm (below_step zb hb); have n1_ := zm (hbox); have n2_ := zm (zs hg zb : w.heap.size ≤ gb299); have n3_ := zm (zs hg zb : w.heap.size ≤ gb299); clear HB; have HB := n0_; have BK299 := n1_; have GW299 := n2_; have GE299 := n3_; clear n0_ n1_ n2_ n3_; clear hb hbox hg; obtain ⟨hcz11_0, hcz11_1, hfz11_0, hfz11_1⟩ := zc2 BK299.out) | (go_at_call 117; (with_reducible refine (spec_tkAsked.calls k a0_0 a0_1 a1 _ _ l2 true _ ?side1 ?side2 A4.out).mono ?_); (case side1 => repeat (first | exact (Kd.C_below HR2.out HB.out) | (with_reducible refine Kd.C_alloc ?_ _) | (with_reducible refine Kd.C_drewN ?_ _) | (with_reducible refine Kd.C_drew ?_))); (case side2 => exact HC2.out); rintro e w12 ⟨rfl, hb⟩; have n0_ := zm (blk_below (g := gb299) zk hb); have n1_ := zm (below_step zb hb); clear BK299; clear HB; have BK299 := n0_; have HB := n1_; clear n0_ n1_; (try clear hb); (try clear hb2); (try clear hk); (try clear hi); obtain ⟨hcz13_0, hcz13_1, hfz13_0, hfz13_1⟩ := zc2 BK299.out) | (go_at_call 118; (with_reducible refine (spec_tkRun.calls k a0_0 a0_1 a1 _ _ l2 t301 t304 true _ ?side1 ?side2 A6.out).mono ?_); (case side1 => repeat (first | exact (Kd.C_below HR2.out HB.out) | (with_reducible refine Kd.C_alloc ?_ _) | (with_reducible refine Kd.C_drewN ?_ _) | (with_reducible refine Kd.C_drew ?_))); (case side2 => exact HC2.out); rintro e w14 ⟨v302, v305, rfl, ho0, ho1, hb⟩; have n0_ := zm (Kd.R_lower ho0 (below_size zb)); have n1_ := zm (Kd.R_lower ho1 (below_size zb)); have n2_ := zm (blk_below (g := gb299) zk hb); have n3_ := zm (below_step zb hb); clear BK299; clear HB; have HO303 := n0_; have HO306 := n1_; have BK299 := n2_; have HB := n3_; clear n0_ n1_ n2_ n3_; (try clear hb); (try clear hb2); (try clear hk); (try clear hi); (try clear ho0); (try clear ho1); obtain ⟨Ao15, co15, eo15⟩ := Kd.R_slice HO306.out; subst eo15; have p308 : 0 ≤ (0 : Int) := (by omega); have q308 : 0 < (t304.length : Int) := zd; obtain ⟨ad308, e308, hx308_0⟩ := Kd.at_int (Kd.R_reads' HO306.out).2.2 0 p308 q308; cases e308; have qi308 : (0 < t304.length) = True := eq_true (by omega); (try rw [show ((0 : Int)).toNat = 0 from rfl] at hx308_0); (try rw [Addr.add_zero'] at hx308_0); replace p308 := eq_true p308; replace q308 := eq_true q308; have p309 : 0 ≤ (1 : Int) := (by omega); have q309 : 1 < (t304.length : Int) := zd; obtain ⟨ad309, e309, hx309_0⟩ := Kd.at_int (Kd.R_reads' HO306.out).2.2 1 p309 q309; obtain rfl : ad308 = ad309 := (by injection e309); (try simp only [show (1 : Int).toNat = 1 from rfl, Nat.reduceMul, Nat.reduceEqDiff, Go.Addr.add, ↓reduceIte] at hx309_0); have qi309 : (1 < t304.length) = True := eq_true (by omega); (try rw [show ((1 : Int)).toNat = 1 from rfl] at hx309_0); replace p309 := eq_true p309; replace q309 := eq_true q309) | ((with_reducible refine spec_MovesMade.gq ?_); go_quiet (first | (go_at_call 117; (with_reducible refine (spec_tkAsked.calls k a0_0 a0_1 a1 _ _ l2 true _ ?side1 ?side2 A4.out).mono ?_); (case side1 => repeat (first | exact (Kd.C_below HR2.out HB.out) | (with_reducible refine Kd.C_alloc ?_ _) | (with_reducible refine Kd.C_drewN ?_ _) | (with_reducible refine Kd.C_drew ?_))); (case side2 => exact HC2.out); rintro e w12 ⟨rfl, hb⟩; have n0_ := zm (blk_below (g := gb299) zk hb); have n1_ := zm (below_step zb hb); clear BK299; clear HB; have BK299 := n0_; have HB := n1_; clear n0_ n1_; (try clear hb); (try clear hb2); (try clear hk); (try clear hi); obtain ⟨hcz13_0, hcz13_1, hfz13_0, hfz13_1⟩ := zc2 BK299.out) | (go_at_call 118; (with_reducible refine (spec_tkRun.calls k a0_0 a0_1 a1 _ _ l2 t301 t304 true _ ?side1 ?side2 A6.out).mono ?_); (case side1 => repeat (first | exact (Kd.C_below HR2.out HB.out) | (with_reducible refine Kd.C_alloc ?_ _) | (with_reducible refine Kd.C_drewN ?_ _) | (with_reducible refine Kd.C_drew ?_))); (case side2 => exact HC2.out); rintro e w14 ⟨v302, v305, rfl, ho0, ho1, hb⟩; have n0_ := zm (Kd.R_lower ho0 (below_size zb)); have n1_ := zm (Kd.R_lower ho1 (below_size zb)); have n2_ := zm (blk_below (g := gb299) zk hb); have n3_ := zm (below_step zb hb); clear BK299; clear HB; have HO303 := n0_; have HO306 := n1_; have BK299 := n2_; have HB := n3_; clear n0_ n1_ n2_ n3_; (try clear hb); (try clear hb2); (try clear hk); (try clear hi); (try clear ho0); (try clear ho1); obtain ⟨Ao15, co15, eo15⟩ := Kd.R_slice HO306.out; subst eo15; have p308 : 0 ≤ (0 : Int) := (by omega); have q308 : 0 < (t304.length : Int) := zd; obtain ⟨ad308, e308, hx308_0⟩ := Kd.at_int (Kd.R_reads' HO306.out).2.2 0 p308 q308; cases e308; have qi308 : (0 < t304.length) = True := eq_true (by omega); (try rw [show ((0 : Int)).toNat = 0 from rfl] at hx308_0); (try rw [Addr.add_zero'] at hx308_0); replace p308 := eq_true p308; replace q308 := eq_true q308; have p309 : 0 ≤ (1 : Int) := (by omega); have q309 : 1 < (t304.length : Int) := zd; obtain ⟨ad309, e309, hx309_0⟩ := Kd.at_int (Kd.R_reads' HO306.out).2.2 1 p309 q309; obtain rfl : ad308 = ad309 := (by injection e309); (try simp only [show (1 : Int).toNat = 1 from rfl, Nat.reduceMul, Nat.reduceEqDiff, Go.Addr.add, ↓reduceIte] at hx309_0); have qi309 : (1 < t304.length) = True := eq_true (by omega); (try rw [show ((1 : Int)).toNat = 1 from rfl] at hx309_0); replace p309 := eq_true p309; replace q309 := eq_true q309))))
     go_ret3
     exact ⟨zr, zb⟩
    ·
     rw [if_neg c9] at H
     exact absurd H (by simp)
   ·
    rw [if_neg c8] at H
    exact absurd H (by simp)
  ·
   replace c7 := Bool.eq_false_iff.mpr c7
   subst c7
   have H1 : (some (0, 0, false)) = some (r1, r2, r3) := by rw [if_neg (show ¬ (false = true) by decide)] at H; exact H
   clear H
   have H := H1
   clear H1
   simp only [Option.some.injEq, Prod.mk.injEq] at H
   obtain ⟨rfl, rfl, rfl⟩ := H
   go_enter Try.func42, Try.ntmps42
   go_wp2_with (first | ((with_reducible refine gate_dst (N := 3) rfl ?_); refine box_event ?hg (N := 3) ?hd (cs := #[.int .i64 a0_0, .int .i64 a0_1]) (t := 47) ?hr ?_; (case hd => rfl); (case hg => rfl); (case hr => first | (go_simp; done) | (go_simp; rfl)); intro gb299 hg w16 hbox hb; have n0_ := zm (below_step zb hb); have n1_ := zm (hbox); have n2_ := zm (zs hg zb : w.heap.size ≤ gb299); have n3_ := zm (zs hg zb : w.heap.size ≤ gb299); clear HB; have HB := n0_; have BK299 := n1_; have GW299 := n2_; have GE299 := n3_; clear n0_ n1_ n2_ n3_; clear hb hbox hg; obtain ⟨hcz17_0, hcz17_1, hfz17_0, hfz17_1⟩ := zc2 BK299.out) | (go_at_call 117; (with_reducible refine (spec_tkAsked.calls k a0_0 a0_1 a1 _ _ l2 true _ ?side1 ?side2 A4.out).mono ?_); (case side1 => repeat (first | exact (Kd.C_below HR2.out HB.out) | (with_reducible refine Kd.C_alloc ?_ _) | (with_reducible refine Kd.C_drewN ?_ _) | (with_reducible refine Kd.C_drew ?_))); (case side2 => exact HC2.out); rintro e w18 ⟨rfl, hb⟩; have n0_ := zm (blk_below (g := gb299) zk hb); have n1_ := zm (below_step zb hb); clear BK299; clear HB; have BK299 := n0_; have HB := n1_; clear n0_ n1_; (try clear hb); (try clear hb2); (try clear hk); (try clear hi); obtain ⟨hcz19_0, hcz19_1, hfz19_0, hfz19_1⟩ := zc2 BK299.out) | (go_at_call 118; (with_reducible refine (spec_tkRun.calls k a0_0 a0_1 a1 _ _ l2 t301 t304 false _ ?side1 ?side2 A6.out).mono ?_); (case side1 => repeat (first | exact (Kd.C_below HR2.out HB.out) | (with_reducible refine Kd.C_alloc ?_ _) | (with_reducible refine Kd.C_drewN ?_ _) | (with_reducible refine Kd.C_drew ?_))); (case side2 => exact HC2.out); rintro e w20 ⟨v302, v305, rfl, ho0, ho1, hb⟩; have n0_ := zm (Kd.R_lower ho0 (below_size zb)); have n1_ := zm (Kd.R_lower ho1 (below_size zb)); have n2_ := zm (blk_below (g := gb299) zk hb); have n3_ := zm (below_step zb hb); clear BK299; clear HB; have HO303 := n0_; have HO306 := n1_; have BK299 := n2_; have HB := n3_; clear n0_ n1_ n2_ n3_; (try clear hb); (try clear hb2); (try clear hk); (try clear hi); (try clear ho0); (try clear ho1)) | ((with_reducible refine spec_MovesMade.gq ?_); go_quiet (first | (go_at_call 117; (with_reducible refine (spec_tkAsked.calls k a0_0 a0_1 a1 _ _ l2 true _ ?side1 ?side2 A4.out).mono ?_); (case side1 => repeat (first | exact (Kd.C_below HR2.out HB.out) | (with_reducible refine Kd.C_alloc ?_ _) | (with_reducible refine Kd.C_drewN ?_ _) | (with_reducible refine Kd.C_drew ?_))); (case side2 => exact HC2.out); rintro e w18 ⟨rfl, hb⟩; have n0_ := zm (blk_below (g := gb299) zk hb); have n1_ := zm (below_step zb hb); clear BK299; clear HB; have BK299 := n0_; have HB := n1_; clear n0_ n1_; (try clear hb); (try clear hb2); (try clear hk); (try clear hi); obtain ⟨hcz19_0, hcz19_1, hfz19_0, hfz19_1⟩ := zc2 BK299.out) | (go_at_call 118; (with_reducible refine (spec_tkRun.calls k a0_0 a0_1 a1 _ _ l2 t301 t304 false _ ?side1 ?side2 A6.out).mono ?_); (case side1 => repeat (first | exact (Kd.C_below HR2.out HB.out) | (with_reducible refine Kd.C_alloc ?_ _) | (with_reducible refine Kd.C_drewN ?_ _) | (with_reducible refine Kd.C_drew ?_))); (case side2 => exact HC2.out); rintro e w20 ⟨v302, v305, rfl, ho0, ho1, hb⟩; have n0_ := zm (Kd.R_lower ho0 (below_size zb)); have n1_ := zm (Kd.R_lower ho1 (below_size zb)); have n2_ := zm (blk_below (g := gb299) zk hb); have n3_ := zm (below_step zb hb); clear BK299; clear HB; have HO303 := n0_; have HO306 := n1_; have BK299 := n2_; have HB := n3_; clear n0_ n1_ n2_ n3_; (try clear hb); (try clear hb2); (try clear hk); (try clear hi); (try clear ho0); (try clear ho1)))))
   go_ret3
   exact ⟨zr, zb⟩
 ·
  replace c5 := Bool.eq_false_iff.mpr c5
  subst c5
  have H1 : (some (0, 0, false)) = some (r1, r2, r3) := by rw [if_neg (show ¬ (false = true) by decide)] at H; exact H
  clear H
  have H := H1
  clear H1
  simp only [Option.some.injEq, Prod.mk.injEq] at H
  obtain ⟨rfl, rfl, rfl⟩ := H
  go_enter Try.func42, Try.ntmps42
  go_wp2_with (first | ((with_reducible refine gate_dst (N := 3) rfl ?_); refine box_event ?hg (N := 3) ?hd (cs := #[.int .i64 a0_0, .int .i64 a0_1]) (t := 47) ?hr ?_; (case hd => rfl); (case hg => rfl); (case hr => first | (go_simp; done) | (go_simp; rfl)); intro gb299 hg w21 hbox hb; have n0_ := zm (below_step zb hb); have n1_ := zm (hbox); have n2_ := zm (zs hg zb : w.heap.size ≤ gb299); have n3_ := zm (zs hg zb : w.heap.size ≤ gb299); clear HB; have HB := n0_; have BK299 := n1_; have GW299 := n2_; have GE299 := n3_; clear n0_ n1_ n2_ n3_; clear hb hbox hg; obtain ⟨hcz22_0, hcz22_1, hfz22_0, hfz22_1⟩ := zc2 BK299.out) | (go_at_call 117; (with_reducible refine (spec_tkAsked.calls k a0_0 a0_1 a1 _ _ l2 false _ ?side1 ?side2 A4.out).mono ?_); (case side1 => repeat (first | exact (Kd.C_below HR2.out HB.out) | (with_reducible refine Kd.C_alloc ?_ _) | (with_reducible refine Kd.C_drewN ?_ _) | (with_reducible refine Kd.C_drew ?_))); (case side2 => exact HC2.out); rintro e w23 ⟨rfl, hb⟩; have n0_ := zm (blk_below (g := gb299) zk hb); have n1_ := zm (below_step zb hb); clear BK299; clear HB; have BK299 := n0_; have HB := n1_; clear n0_ n1_; (try clear hb); (try clear hb2); (try clear hk); (try clear hi)) | ((with_reducible refine spec_MovesMade.gq ?_); go_quiet (first | (go_at_call 117; (with_reducible refine (spec_tkAsked.calls k a0_0 a0_1 a1 _ _ l2 false _ ?side1 ?side2 A4.out).mono ?_); (case side1 => repeat (first | exact (Kd.C_below HR2.out HB.out) | (with_reducible refine Kd.C_alloc ?_ _) | (with_reducible refine Kd.C_drewN ?_ _) | (with_reducible refine Kd.C_drew ?_))); (case side2 => exact HC2.out); rintro e w23 ⟨rfl, hb⟩; have n0_ := zm (blk_below (g := gb299) zk hb); have n1_ := zm (below_step zb hb); clear BK299; clear HB; have BK299 := n0_; have HB := n1_; clear n0_ n1_; (try clear hb); (try clear hb2); (try clear hk); (try clear hi)))))
  go_ret3
  exact ⟨zr, zb⟩

/-! ### spec_DrawTrackStep: function 43 -/
def spec_DrawTrackStep.f (l0 : List Int) : Option (Int × Int × Int × Int) := (spec_l1Cur_controller.f l0 0 0).bind fun b => ((spec_l1Cur_offset.f l0 b.2.2.1 b.2.2.2).bind fun c => ((spec_l1Cur_pick.f l0 c.2.1 c.2.2 101).bind fun p => ((spec_l1Cur_among.f l0 p.2.1 p.2.2 ([51, (-51)] : List Int)).bind fun q => ((spec_l1Cur_among.f l0 q.2.1 q.2.2 ([0, 1, (-5), wrap64 (p.1 - 50), 50, q.1] : List Int)).bind fun r => (some (b.1, b.2.1, c.1, r.1))))))
set_option maxHeartbeats 8000000 in
set_option maxRecDepth 100000 in
theorem spec_DrawTrackStep.calls (A0 : Option Addr) (c0 : Nat) (l0 : List Int) (r1 : Int) (r2 : Int) (r3 : Int) (r4 : Int) (w : World) (hr0 : Kd.C (Kd.int .u8) w A0 l0.length l0) (hc0 : l0.length ≤ c0) (h : spec_DrawTrackStep.f l0 = some (r1, r2, r3, r4)) :
  Calls Try.prog 43 #[.slice A0 l0.length c0] w fun e w' => e = .returned (.tuple #[.agg #[.int .i64 r1, .int .i64 r2], .int .i64 r3, .int .i64 r4]) ∧ Below w.heap.size w w' := by
 have hu47 := Try.underlying47
 have hu115 := Try.underlying115
 unfold spec_DrawTrackStep.f at h
 obtain ⟨⟨c1, c2, c3, c4⟩, hA, h⟩ := Option.bind_eq_some_iff.mp h
 obtain ⟨⟨o1, o2, o3⟩, hO, h⟩ := Option.bind_eq_some_iff.mp h
 obtain ⟨⟨p1, p2, p3⟩, hP, h⟩ := Option.bind_eq_some_iff.mp h
 obtain ⟨⟨q1, q2, q3⟩, hQ, h⟩ := Option.bind_eq_some_iff.mp h
 obtain ⟨⟨s1, s2, s3⟩, hS, h⟩ := Option.bind_eq_some_iff.mp h
 simp only [Option.some.injEq, Prod.mk.injEq] at h
 obtain ⟨rfl, rfl, rfl, rfl⟩ := h
 have A1 := zm hA
 have A2 := zm (show spec_l1Cur_offset.f l0 c3 c4 = some (o1, o2, o3) from hO)
 clear hA hO
 have A3 := zm (show spec_l1Cur_pick.f l0 o2 o3 101 = some (p1, p2, p3) from hP)
 obtain ⟨y1, hy1⟩ : ∃ y_ : List Int, y_ = ([51, (-51)] : List Int) := ⟨_, rfl⟩
 have A4 := zm (show spec_l1Cur_among.f l0 p2 p3 y1 = some (q1, q2, q3) from by rw [hy1]; exact hQ)
 obtain ⟨y2, hy2⟩ : ∃ y_ : List Int, y_ = ([0, 1, (-5), wrap64 (p1 - 50), 50, q1] : List Int) := ⟨_, rfl⟩
 have A5 := zm (show spec_l1Cur_among.f l0 q2 q3 y2 = some (s1, s2, s3) from by rw [hy2]; exact hS)
 have Ny1 := zm hy1
 have Ny2 := zm hy2
 clear hP hQ hS hy1 hy2
 have HR := zm hr0
 clear hr0
 have HB := zm (Below.refl w.heap.size w)
 go_enter Try.func43, Try.ntmps43
 go_wp2_with (first | ((with_reducible refine gate_dst (N := 2) rfl ?_); refine box_event ?hg (N := 2) ?hd (cs := #[.int .i64 0, .int .i64 0]) (t := 47) ?hr ?_; (case hd => rfl); (case hg => rfl); (case hr => first | (go_simp; done) | (go_simp; rfl)); intro gb2 hg w2 hbox hb; have n0_ := zm (below_step zb hb); have n1_ := zm hbox; have n2_ := zm (zs hg zb : w.heap.size ≤ gb2); clear HB; have HB := n0_; have BK2 := n1_; have GE2 := n2_; clear n0_ n1_ n2_; clear hb hbox hg) | ((with_reducible refine gate_dst (N := 8) rfl ?_); refine box_event ?hg (N := 8) ?hd (cs := #[.slice A0 l0.length c0, .int .i64 0, .int .u64 0]) (t := 115) ?hr ?_; (case hd => rfl); (case hg => rfl); (case hr => first | (go_simp; done) | (go_simp; rfl)); intro gb8 hg w8 hbox hb; have n0_ := zm (below_step zb hb); have n2_ := zm (zs hg zb : w.heap.size ≤ gb8); have n3_ := zm (blk_below (g := gb2) zk hb); have n4_ := zm (zl hg zk : gb2 ≠ gb8); have n1_ := zm (show IsS115 w _ gb8 l0 0 0 from ⟨A0, c0, hbox, n2_.out, HR.out⟩); clear HB; clear BK2; have HB := n0_; have GE8 := n2_; have BK2 := n3_; have NB2_8 := n4_; have HI0 := n1_; clear n0_ n1_ n2_ n3_ n4_; clear hb hbox hg) | ((with_reducible refine gate_callee (f := 112) rfl ?_); refine goesL_ (some 10) rfl rfl Try.func112 (by kernel_rfl) rfl #[.pointer (some ⟨gb8, 0, none⟩)] rfl (by (try simp only [List.map_toArray, List.map_cons, List.map_nil]); first | done | rfl) ?_; (with_reducible refine (spec_l1Cur_controller.calls gb8 l0 0 0 c1 c2 c3 c4 w _ ?side1 ?side2 A1.out).mono ?_); (case side1 => repeat (first | (with_reducible first | exact HI0.out | apply IsS115.alloc | apply IsS115.drewN | apply IsS115.drew) | exact HI0.out)); (case side2 => exact zb); rintro e w10 ⟨rfl, hi, hb, hk⟩; refine ⟨_, rfl, ?_⟩; have n1_ := zm (hk.blk (g' := gb2) zk NB2_8.out (by simp)); clear HI0; clear HB; clear BK2; have HI0 := zm hi; have HB := zm hb; have BK2 := n1_; clear n1_ hi hb hk) | ((with_reducible refine gate_callee (f := 113) rfl ?_); refine goesL_ (some 12) rfl rfl Try.func113 (by kernel_rfl) rfl #[.pointer (some ⟨gb8, 0, none⟩)] rfl (by (try simp only [List.map_toArray, List.map_cons, List.map_nil]); first | done | rfl) ?_; (with_reducible refine (spec_l1Cur_offset.calls gb8 l0 c3 c4 o1 o2 o3 w _ ?side1 ?side2 A2.out).mono ?_); (case side1 => repeat (first | (with_reducible first | exact HI0.out | apply IsS115.alloc | apply IsS115.drewN | apply IsS115.drew) | exact HI0.out)); (case side2 => exact zb); rintro e w12 ⟨rfl, hi, hb, hk⟩; refine ⟨_, rfl, ?_⟩; have n1_ := zm (hk.blk (g' := gb2) zk NB2_8.out (by simp)); clear HI0; clear HB; clear BK2; have HI0 := zm hi; have HB := zm hb; have BK2 := n1_; clear n1_ hi hb hk) | ((with_reducible refine gate_callee (f := 121) rfl ?_); refine goesL_ (some 15) rfl rfl Try.func121 (by kernel_rfl) rfl #[.pointer (some ⟨gb8, 0, none⟩), .int .i64 101] rfl (by (try simp only [List.map_toArray, List.map_cons, List.map_nil]); first | done | rfl) ?_; (with_reducible refine (spec_l1Cur_pick.calls gb8 l0 o2 o3 101 p1 p2 p3 w _ ?side1 ?side2 A3.out).mono ?_); (case side1 => repeat (first | (with_reducible first | exact HI0.out | apply IsS115.alloc | apply IsS115.drewN | apply IsS115.drew) | exact HI0.out)); (case side2 => exact zb); rintro e w15 ⟨rfl, hi, hb, hk⟩; refine ⟨_, rfl, ?_⟩; have n1_ := zm (hk.blk (g' := gb2) zk NB2_8.out (by simp)); clear HI0; clear HB; clear BK2; have HI0 := zm hi; have HB := zm hb; have BK2 := n1_; clear n1_ hi hb hk) | ((with_reducible refine gate_dst (N := 18) rfl ?_); refine Kd.R_lit (Kd.int .i64) _ 3 ?hg (N := 18) ?hd (xs := ([51, (-51)] : List Int)) (inner := [.int .i64 (51), .int .i64 ((-51))]) (ok := fun _ => True) (okp := fun _ => True) ?hr ?hp (fun _ hk => hk) trivial (Below.refl _ _) (Nat.le_refl _) (by simp) ?_; (case hd => rfl); (case hg => rfl); (case hr => first | (go_simp; done) | (go_simp; rfl)); (case hp => exact (Reps.one (show Kd.M (Kd.int .i64) _ _ _ (51) [.int .i64 (51)] from rfl) (Reps.one (show Kd.M (Kd.int .i64) _ _ _ ((-51)) [.int .i64 ((-51))] from rfl) (Reps.none _ _)))); intro v18 w18 ho hb hg_ hnew_; clear hg_ hnew_; (first | rw [← Ny1.out] at ho | (simp only [Int.reduceToNat] at ho; rw [← Ny1.out] at ho)); have n0_ := zm (Kd.R_lower ho (below_size zb)); have n1_ := zm (IsS115.below (by repeat (first | (with_reducible first | exact HI0.out | apply IsS115.alloc | apply IsS115.drewN | apply IsS115.drew) | exact HI0.out)) hb); have n3_ := zm (below_step zb hb); have n4_ := zm (blk_below (g := gb2) zk hb); clear HI0; clear HB; clear BK2; have Hy1 := n0_; have HI0 := n1_; have HB := n3_; have BK2 := n4_; clear n0_ n1_ n3_ n4_; clear hb ho; obtain ⟨Ao18, co18, eo18⟩ := Kd.R_slice Hy1.out; subst eo18) | ((with_reducible refine gate_callee (f := 120) rfl ?_); refine goesL_ (some 19) rfl rfl Try.func120 (by kernel_rfl) rfl #[.pointer (some ⟨gb8, 0, none⟩), .slice Ao18 y1.length co18] rfl (by (try simp only [List.map_toArray, List.map_cons, List.map_nil]); first | done | rfl) ?_; (with_reducible refine (spec_l1Cur_among.calls gb8 l0 p2 p3 _ _ y1 q1 q2 q3 w _ ?side1 ?side2 ?side3 ?side4 ?side5 A4.out).mono ?_); (case side1 => repeat (first | (with_reducible first | exact HI0.out | apply IsS115.alloc | apply IsS115.drewN | apply IsS115.drew) | exact HI0.out)); (case side2 => exact zb); (case side3 => repeat (first | exact (Kd.R_reads' Hy1.out).2.2 | (with_reducible refine Kd.C_alloc ?_ _) | (with_reducible refine Kd.C_drewN ?_ _) | (with_reducible refine Kd.C_drew ?_))); (case side4 => exact (Kd.R_reads' Hy1.out).2.1); (case side5 => exact far_slice (IsS115.own_ne HI0.out Hy1.out (by decide))); rintro e w19 ⟨rfl, hi, hb, hk⟩; refine ⟨_, rfl, ?_⟩; have n1_ := zm (hk.blk (g' := gb2) zk NB2_8.out (by simp)); clear HI0; clear HB; clear BK2; have HI0 := zm hi; have HB := zm hb; have BK2 := n1_; clear n1_ hi hb hk; clear Hy1) | ((with_reducible refine gate_dst (N := 20) rfl ?_); refine Kd.R_lit (Kd.int .i64) _ 3 ?hg (N := 20) ?hd (xs := ([0, 1, (-5), wrap64 (p1 - 50), 50, q1] : List Int)) (inner := [.int .i64 (0), .int .i64 (1), .int .i64 ((-5)), .int .i64 (wrap64 (p1 - 50)), .int .i64 (50), .int .i64 (q1)]) (ok := fun _ => True) (okp := fun _ => True) ?hr ?hp (fun _ hk => hk) trivial (Below.refl _ _) (Nat.le_refl _) (by simp) ?_; (case hd => rfl); (case hg => rfl); (case hr => first | (go_simp; done) | (go_simp; rfl)); (case hp => exact (Reps.one (show Kd.M (Kd.int .i64) _ _ _ (0) [.int .i64 (0)] from rfl) (Reps.one (show Kd.M (Kd.int .i64) _ _ _ (1) [.int .i64 (1)] from rfl) (Reps.one (show Kd.M (Kd.int .i64) _ _ _ ((-5)) [.int .i64 ((-5))] from rfl) (Reps.one (show Kd.M (Kd.int .i64) _ _ _ (wrap64 (p1 - 50)) [.int .i64 (wrap64 (p1 - 50))] from rfl) (Reps.one (show Kd.M (Kd.int .i64) _ _ _ (50) [.int .i64 (50)] from rfl) (Reps.one (show Kd.M (Kd.int .i64) _ _ _ (q1) [.int .i64 (q1)] from rfl) (Reps.none _ _)))))))); intro v20 w20 ho hb hg_ hnew_; clear hg_ hnew_; (first | rw [← Ny2.out] at ho | (simp only [Int.reduceToNat] at ho; rw [← Ny2.out] at ho)); have n0_ := zm (Kd.R_lower ho (below_size zb)); have n1_ := zm (IsS115.below (by repeat (first | (with_reducible first | exact HI0.out | apply IsS115.alloc | apply IsS115.drewN | apply IsS115.drew) | exact HI0.out)) hb); have n3_ := zm (below_step zb hb); have n4_ := zm (blk_below (g := gb2) zk hb); clear HI0; clear HB; clear BK2; have Hy2 := n0_; have HI0 := n1_; have HB := n3_; have BK2 := n4_; clear n0_ n1_ n3_ n4_; clear hb ho; obtain ⟨Ao20, co20, eo20⟩ := Kd.R_slice Hy2.out; subst eo20) | ((with_reducible refine gate_callee (f := 120) rfl ?_); refine goesL_ (some 21) rfl rfl Try.func120 (by kernel_rfl) rfl #[.pointer (some ⟨gb8, 0, none⟩), .slice Ao20 y2.length co20] rfl (by (try simp only [List.map_toArray, List.map_cons, List.map_nil]); first | done | rfl) ?_; (with_reducible refine (spec_l1Cur_among.calls gb8 l0 q2 q3 _ _ y2 s1 s2 s3 w _ ?side1 ?side2 ?side3 ?side4 ?side5 A5.out).mono ?_); (case side1 => repeat (first | (with_reducible first | exact HI0.out | apply IsS115.alloc | apply IsS115.drewN | apply IsS115.drew) | exact HI0.out)); (case side2 => exact zb); (case side3 => repeat (first | exact (Kd.R_reads' Hy2.out).2.2 | (with_reducible refine Kd.C_alloc ?_ _) | (with_reducible refine Kd.C_drewN ?_ _) | (with_reducible refine Kd.C_drew ?_))); (case side4 => exact (Kd.R_reads' Hy2.out).2.1); (case side5 => exact far_slice (IsS115.own_ne HI0.out Hy2.out (by decide))); rintro e w21 ⟨rfl, hi, hb, hk⟩; refine ⟨_, rfl, ?_⟩; have n1_ := zm (hk.blk (g' := gb2) zk NB2_8.out (by simp)); clear HI0; clear HB; clear BK2; have HI0 := zm hi; have HB := zm hb; have BK2 := n1_; clear n1_ hi hb hk; clear Hy2; obtain ⟨hcz2_0, hcz2_1, hfz2_0, hfz2_1⟩ := zc2 BK2.out))
 refine bodyPost_ret (results_ctt rfl _ _ gb2 47 #[.int .i64 c1, .int .i64 c2] (0, 0) _ rfl (by (with_reducible repeat (first | refine blk_drewN ?_ _ | refine blk_drew ?_ | refine blk_alloc ?_ _)); refine blk_put (cs := #[.int .i64 c1, .int .i64 0]) ?_ 1 _ rfl; (with_reducible repeat (first | refine blk_drewN ?_ _ | refine blk_drew ?_ | refine blk_alloc ?_ _)); refine blk_put (cs := #[.int .i64 0, .int .i64 0]) ?_ 0 _ rfl; (with_reducible repeat (first | refine blk_drewN ?_ _ | refine blk_drew ?_ | refine blk_alloc ?_ _)); exact BK2.out) Try.underlying47 rfl (by kernel_rfl)) rfl ?_
 exact ⟨zr, zb⟩

/-! ### impl_TrackStep: function 44 -/
def impl_TrackStep.f (k : Nat) (a0_0 : Int) (a0_1 : Int) (a1 : Int) (a2 : Int) : Option (Int × Bool) := (impl_IsController.f a0_0 a0_1).bind fun t311 => (if t311 = true then ((impl_isOffset.f a1).bind fun t312 => (if t312 = true then ((impl_areDrifts.f k (([a2] : List Int))).bind fun t316 => (if t316 = true then ((impl_moved.f a0_0 a0_1 a1 a2).bind fun t317 => ((impl_isOffset.f t317).bind fun t318 => (if t318 = true then ((impl_moved.f a0_0 a0_1 a1 a2).bind fun t319 => (some (t319, true))) else (some (0, false))))) else (some (0, false)))) else (some (0, false)))) else (some (0, false)))
theorem impl_TrackStep.mono : ∀ a0 a1 a2 a3 k, LeO (impl_TrackStep.f k a0 a1 a2 a3) (impl_TrackStep.f (k + 1) a0 a1 a2 a3) := by
  intro a0 a1 a2 a3 k
  unfold impl_TrackStep.f
  repeat' first
      | (with_reducible exact impl_areDrifts.mono _ _)
      | (with_reducible exact LeO.refl _)
      | (with_reducible exact LeO.none _)
      | (with_reducible refine LeO.ite ?_ ?_)
      | (with_reducible refine LeO.bind ?_ (fun _ => ?_))
      | exact impl_areDrifts.mono _ _
      | exact LeO.none _
      | refine LeO.ite ?_ ?_
      | refine LeO.bind ?_ (fun _ => ?_)
set_option maxHeartbeats 8000000 in
set_option maxRecDepth 100000 in
theorem impl_TrackStep.calls (k : Nat) (a0_0 : Int) (a0_1 : Int) (a1 : Int) (a2 : Int) (r1 : Int) (r2 : Bool) (w : World) (h : impl_TrackStep.f k a0_0 a0_1 a1 a2 = some (r1, r2)) :
  Calls Try.prog 44 #[.agg #[.int .i64 a0_0, .int .i64 a0_1], .int .i64 a1, .int .i64 a2] w fun e w' => e = .returned (.tuple #[.int .i64 r1, .bool r2]) ∧ Below w.heap.size w w' := by
 have hu47 := Try.underlying47
 have HB := zm (Below.refl w.heap.size w)
 have H : ((impl_IsController.f a0_0 a0_1).bind fun t311 => (if t311 = true then ((impl_isOffset.f a1).bind fun t312 => (if t312 = true then ((impl_areDrifts.f k (([a2] : List Int))).bind fun t316 => (if t316 = true then ((impl_moved.f a0_0 a0_1 a1 a2).bind fun t317 => ((impl_isOffset.f t317).bind fun t318 => (if t318 = true then ((impl_moved.f a0_0 a0_1 a1 a2).bind fun t319 => (some (t319, true))) else (some (0, false))))) else (some (0, false)))) else (some (0, false)))) else (some (0, false)))) = some (r1, r2) := h
 clear h
 replace H := Option.bind_eq_some_iff.mp H
 obtain ⟨t311, A40, H⟩ := H
 replace H : (if t311 = true then ((impl_isOffset.f a1).bind fun t312 => (if t312 = true then ((impl_areDrifts.f k (([a2] : List Int))).bind fun t316 => (if t316 = true then ((impl_moved.f a0_0 a0_1 a1 a2).bind fun t317 => ((impl_isOffset.f t317).bind fun t318 => (if t318 = true then ((impl_moved.f a0_0 a0_1 a1 a2).bind fun t319 => (some (t319, true))) else (some (0, false))))) else (some (0, false)))) else (some (0, false)))) else (some (0, false))) = some (r1, r2) := H
 have A4 := zm A40
 clear A40
 by_cases c5 : t311 = true
 ·
  subst c5
  have H1 : ((impl_isOffset.f a1).bind fun t312 => (if t312 = true then ((impl_areDrifts.f k (([a2] : List Int))).bind fun t316 => (if t316 = true then ((impl_moved.f a0_0 a0_1 a1 a2).bind fun t317 => ((impl_isOffset.f t317).bind fun t318 => (if t318 = true then ((impl_moved.f a0_0 a0_1 a1 a2).bind fun t319 => (some (t319, true))) else (some (0, false))))) else (some (0, false)))) else (some (0, false)))) = some (r1, r2) := by rw [if_pos rfl] at H; exact H
  clear H
  have H := H1
  clear H1
  replace H := Option.bind_eq_some_iff.mp H
  obtain ⟨t312, A60, H⟩ := H
  replace H : (if t312 = true then ((impl_areDrifts.f k (([a2] : List Int))).bind fun t316 => (if t316 = true then ((impl_moved.f a0_0 a0_1 a1 a2).bind fun t317 => ((impl_isOffset.f t317).bind fun t318 => (if t318 = true then ((impl_moved.f a0_0 a0_1 a1 a2).bind fun t319 => (some (t319, true))) else (some (0, false))))) else (some (0, false)))) else (some (0, false))) = some (r1, r2) := H
  have A6 := zm A60
  clear A60
  by_cases c7 : t312 = true
  ·
   subst c7
   have H1 : ((impl_areDrifts.f k (([a2] : List Int))).bind fun t316 => (if t316 = true then ((impl_moved.f a0_0 a0_1 a1 a2).bind fun t317 => ((impl_isOffset.f t317).bind fun t318 => (if t318 = true then ((impl_moved.f a0_0 a0_1 a1 a2).bind fun t319 => (some (t319, true))) else (some (0, false))))) else (some (0, false)))) = some (r1, r2) := by rw [if_pos rfl] at H; exact H
   clear H
   have H := H1
   clear H1
   obtain ⟨y313, hy313⟩ : ∃ y_ : List Int, y_ = (([a2] : List Int)) := ⟨_, rfl⟩
   replace H : ((impl_areDrifts.f k y313).bind fun t316 => (if t316 = true then ((impl_moved.f a0_0 a0_1 a1 a2).bind fun t317 => ((impl_isOffset.f t317).bind fun t318 => (if t318 = true then ((impl_moved.f a0_0 a0_1 a1 a2).bind fun t319 => (some (t319, true))) else (some (0, false))))) else (some (0, false)))) = some (r1, r2) := by first | (rw [hy313]; with_reducible exact H) | (have H2_ := (Option.bind_some _ _).symm.trans H; rw [hy313]; with_reducible exact H2_) | (have H2_ := (Option.bind_some _ _).symm.trans H; with_reducible exact H2_) | with_reducible exact H | (rw [hy313]; exact H) | exact H
   have Ny313 := zm hy313
   clear hy313
   replace H := Option.bind_eq_some_iff.mp H
   obtain ⟨t316, A80, H⟩ := H
   replace H : (if t316 = true then ((impl_moved.f a0_0 a0_1 a1 a2).bind fun t317 => ((impl_isOffset.f t317).bind fun t318 => (if t318 = true then ((impl_moved.f a0_0 a0_1 a1 a2).bind fun t319 => (some (t319, true))) else (some (0, false))))) else (some (0, false))) = some (r1, r2) := H
   have A8 := zm A80
   clear A80
   by_cases c9 : t316 = true
   ·
    subst c9
    have H1 : ((impl_moved.f a0_0 a0_1 a1 a2).bind fun t317 => ((impl_isOffset.f t317).bind fun t318 => (if t318 = true then ((impl_moved.f a0_0 a0_1 a1 a2).bind fun t319 => (some (t319, true))) else (some (0, false))))) = some (r1, r2) := by rw [if_pos rfl] at H; exact H
    clear H
    have H := H1
    clear H1
    replace H := Option.bind_eq_some_iff.mp H
    obtain ⟨t317, A100, H⟩ := H
    replace H : ((impl_isOffset.f t317).bind fun t318 => (if t318 = true then ((impl_moved.f a0_0 a0_1 a1 a2).bind fun t319 => (some (t319, true))) else (some (0, false)))) = some (r1, r2) := H
    have A10 := zm A100
    clear A100
    replace H := Option.bind_eq_some_iff.mp H
    obtain ⟨t318, A110, H⟩ := H
    replace H : (if t318 = true then ((impl_moved.f a0_0 a0_1 a1 a2).bind fun t319 => (some (t319, true))) else (some (0, false))) = some (r1, r2) := H
    have A11 := zm A110
    clear A110
    by_cases c12 : t318 = true
    ·
     subst c12
     have H1 : ((impl_moved.f a0_0 a0_1 a1 a2).bind fun t319 => (some (t319, true))) = some (r1, r2) := by rw [if_pos rfl] at H; exact H
     clear H
     have H := H1
     clear H1
     replace H := Option.bind_eq_some_iff.mp H
     obtain ⟨t319, A130, H⟩ := H
     replace H : (some (t319, true)) = some (r1, r2) := H
     have A13 := zm A130
     clear A130
     simp only [Option.some.injEq, Prod.mk.injEq] at H
     obtain ⟨rfl, rfl⟩ := H
     go_enter Try.func44, Try.ntmps44
     go_wp2_with (first | ((with_reducible refine gate_dst (N := 3) rfl ?_); (try (refine gate_guard (by rfl) ?_; dsimp only)); refine box_event ?hg (N := 3) ?hd (cs := #[.int .i64 a0_0, .int .i64 a0_1]) (t := 47) ?hr ?_; (case hd => rfl); (case hg => rfl); (case hr => first | (go_simp; done) | (go_simp; rfl)); intro gb310 hg w14 hbox hb; have n0_ := zm (below_step zb hb); have n1_ := zm (hbox); have n2_ := zm (zs hg zb : w.heap.size ≤ gb310); have n3_ := zm (zs hg zb : w.heap.size ≤ gb310); clear HB; have HB := n0_; have BK310 := n1_; have GW310 := n2_; have GE310 := n3_; clear n0_ n1_ n2_ n3_; clear hb hbox hg; obtain ⟨hcz15_0, hcz15_1, hfz15_0, hfz15_1⟩ := zc2 BK310.out) | ((with_reducible refine gate_callee (f := 76) rfl ?_); refine goesL_ (some 9) rfl rfl Try.func76 (by kernel_rfl) rfl #[.agg #[.int .i64 a0_0, .int .i64 a0_1]] rfl (by (try simp only [List.map_toArray, List.map_cons, List.map_nil]); first | done | rfl | (simp only [List.length_drop, List.length_take]; rfl)) ?_; (with_reducible refine (impl_IsController.calls a0_0 a0_1 true _ A4.out).mono ?_); rintro e w16 ⟨rfl, hb⟩; refine ⟨_, rfl, ?_⟩; have n0_ := zm (blk_below (g := gb310) zk hb); have n1_ := zm (below_step zb hb); clear BK310; clear HB; have BK310 := n0_; have HB := n1_; clear n0_ n1_; (try clear hb); (try clear hb2); (try clear hk); (try clear hi)) | (go_at_call 106; (with_reducible refine (impl_isOffset.calls a1 true _ A6.out).mono ?_); rintro e w' ⟨rfl, ⟨nd, rfl⟩⟩) | ((with_reducible refine gate_dst (N := 18) rfl ?_); (try (refine gate_guard (by rfl) ?_; dsimp only)); refine Kd.R_lit (Kd.int .i64) _ 3 ?hg (N := 18) ?hd (xs := ([a2] : List Int)) (inner := [.int .i64 a2]) (ok := fun _ => True) (okp := fun _ => True) ?hr ?hp (fun _ hk => hk) trivial (Below.refl _ _) (Nat.le_refl _) (by simp) ?_; (case hd => rfl); (case hg => rfl); (case hr => first | (go_simp; done) | (go_simp; rfl)); (case hp => exact (Reps.one (show Kd.M (Kd.int .i64) _ _ _ a2 [.int .i64 a2] from rfl) (Reps.none _ _))); intro v314 w17 ho18 hb hg_ hnew_; clear hg_ hnew_; (first | rw [← Ny313.out] at ho18 | (simp only [Int.reduceToNat] at ho18; rw [← Ny313.out] at ho18)); have n0_ := zm (Kd.R_lower ho18 (below_size zb)); have n1_ := zm (blk_below (g := gb310) zk hb); have n2_ := zm (below_step zb hb); clear BK310; clear HB; have HO315 := n0_; have BK310 := n1_; have HB := n2_; clear n0_ n1_ n2_; clear hb ho18; obtain ⟨Ao19, co19, eo19⟩ := Kd.R_slice HO315.out; subst eo19) | (go_at_call 122; (with_reducible refine (impl_areDrifts.calls k _ _ y313 true _ ?side1 ?side2 A8.out).mono ?_); (case side1 => repeat (first | exact (Kd.R_reads' HO315.out).2.2 | (with_reducible refine Kd.C_alloc ?_ _) | (with_reducible refine Kd.C_drewN ?_ _) | (with_reducible refine Kd.C_drew ?_))); (case side2 => exact (Kd.R_reads' HO315.out).2.1); rintro e w' ⟨rfl, ⟨nd, rfl⟩⟩; obtain ⟨hcz20_0, hcz20_1, hfz20_0, hfz20_1⟩ := zc2 BK310.out) | (go_at_call 100; (with_reducible refine (impl_moved.calls a0_0 a0_1 a1 a2 t317 _ A10.out).mono ?_); rintro e w21 ⟨rfl, hb⟩; have n0_ := zm (Kd.R_below (by (with_reducible repeat (first | apply Kd.R_alloc | apply Kd.R_drewN | apply Kd.R_drew)); exact HO315.out) hb); have n1_ := zm (blk_below (g := gb310) zk hb); have n2_ := zm (below_step zb hb); clear HO315; clear BK310; clear HB; have HO315 := n0_; have BK310 := n1_; have HB := n2_; clear n0_ n1_ n2_; (try clear hb); (try clear hb2); (try clear hk); (try clear hi)) | (go_at_call 106; (with_reducible refine (impl_isOffset.calls t317 true _ A11.out).mono ?_); rintro e w' ⟨rfl, ⟨nd, rfl⟩⟩; obtain ⟨hcz22_0, hcz22_1, hfz22_0, hfz22_1⟩ := zc2 BK310.out) | ((with_reducible refine gate_callee (f := 100) rfl ?_); refine goesL_ (some 33) rfl rfl Try.func100 (by kernel_rfl) rfl #[.agg #[.int .i64 a0_0, .int .i64 a0_1], .int .i64 a1, .int .i64 a2] rfl (by (try simp only [List.map_toArray, List.map_cons, List.map_nil]); first | done | rfl | (simp only [List.length_drop, List.length_take]; rfl)) ?_; (with_reducible refine (impl_moved.calls a0_0 a0_1 a1 a2 t319 _ A13.out).mono ?_); rintro e w23 ⟨rfl, hb⟩; refine ⟨_, rfl, ?_⟩; have n0_ := zm (Kd.R_below (by (with_reducible repeat (first | apply Kd.R_alloc | apply Kd.R_drewN | apply Kd.R_drew)); exact HO315.out) hb); have n1_ := zm (blk_below (g := gb310) zk hb); have n2_ := zm (below_step zb hb); clear HO315; clear BK310; clear HB; have HO315 := n0_; have BK310 := n1_; have HB := n2_; clear n0_ n1_ n2_; (try clear hb); (try clear hb2); (try clear hk); (try clear hi)))
     go_ret2
     exact ⟨zr, zb⟩
    ·
     replace c12 := Bool.eq_false_iff.mpr c12
     subst c12
     have H1 : (some (0, false)) = some (r1, r2) := by rw [if_neg (show ¬ (false = true) by decide)] at H; exact H
     clear H
     have H := H1
     clear H1
     simp only [Option.some.injEq, Prod.mk.injEq] at H
     obtain ⟨rfl, rfl⟩ := H
     go_enter Try.func44, Try.ntmps44
     go_wp2_with (first | ((with_reducible refine gate_dst (N := 3) rfl ?_); (try (refine gate_guard (by rfl) ?_; dsimp only)); refine box_event ?hg (N := 3) ?hd (cs := #[.int .i64 a0_0, .int .i64 a0_1]) (t := 47) ?hr ?_; (case hd => rfl); (case hg => rfl); (case hr => first | (go_simp; done) | (go_simp; rfl)); intro gb310 hg w24 hbox hb; have n0_ := zm (below_step zb hb); have n1_ := zm (hbox); have n2_ := zm (zs hg zb : w.heap.size ≤ gb310); have n3_ := zm (zs hg zb : w.heap.size ≤ gb310); clear HB; have HB := n0_; have BK310 := n1_; have GW310 := n2_; have GE310 := n3_; clear n0_ n1_ n2_ n3_; clear hb hbox hg; obtain ⟨hcz25_0, hcz25_1, hfz25_0, hfz25_1⟩ := zc2 BK310.out) | ((with_reducible refine gate_callee (f := 76) rfl ?_); refine goesL_ (some 9) rfl rfl Try.func76 (by kernel_rfl) rfl #[.agg #[.int .i64 a0_0, .int .i64 a0_1]] rfl (by (try simp only [List.map_toArray, List.map_cons, List.map_nil]); first | done | rfl | (simp only [List.length_drop, List.length_take]; rfl)) ?_; (with_reducible refine (impl_IsController.calls a0_0 a0_1 true _ A4.out).mono ?_); rintro e w26 ⟨rfl, hb⟩; refine ⟨_, rfl, ?_⟩; have n0_ := zm (blk_below (g := gb310) zk hb); have n1_ := zm (below_step zb hb); clear BK310; clear HB; have BK310 := n0_; have HB := n1_; clear n0_ n1_; (try clear hb); (try clear hb2); (try clear hk); (try clear hi)) | (go_at_call 106; (with_reducible refine (impl_isOffset.calls a1 true _ A6.out).mono ?_); rintro e w' ⟨rfl, ⟨nd, rfl⟩⟩) | ((with_reducible refine gate_dst (N := 18) rfl ?_); (try (refine gate_guard (by rfl) ?_; dsimp only)); refine Kd.R_lit (Kd.int .i64) _ 3 ?hg (N := 18) ?hd (xs := ([a2] : List Int)) (inner := [.int .i64 a2]) (ok := fun _ => True) (okp := fun _ => True) ?hr ?hp (fun _ hk => hk) trivial (Below.refl _ _) (Nat.le_refl _) (by simp) ?_; (case hd => rfl); (case hg => rfl); (case hr => first | (go_simp; done) | (go_simp; rfl)); (case hp => exact (Reps.one (show Kd.M (Kd.int .i64) _ _ _ a2 [.int .i64 a2] from rfl) (Reps.none _ _))); intro v314 w27 ho28 hb hg_ hnew_; clear hg_ hnew_; (first | rw [← Ny313.out] at ho28 | (simp only [Int.reduceToNat] at ho28; rw [← Ny313.out] at ho28)); have n0_ := zm (Kd.R_lower ho28 (below_size zb)); have n1_ := zm (blk_below (g := gb310) zk hb); have n2_ := zm (below_step zb hb); clear BK310; clear HB; have HO315 := n0_; have BK310 := n1_; have HB := n2_; clear n0_ n1_ n2_; clear hb ho28; obtain ⟨Ao29, co29, eo29⟩ := Kd.R_slice HO315.out; subst eo29) | (go_at_call 122; (with_reducible refine (impl_areDrifts.calls k _ _ y313 true _ ?side1 ?side2 A8.out).mono ?_); (case side1 => repeat (first | exact (Kd.R_reads' HO315.out).2.2 | (with_reducible refine Kd.C_alloc ?_ _) | (with_reducible refine Kd.C_drewN ?_ _) | (with_reducible refine Kd.C_drew ?_))); (case side2 => exact (Kd.R_reads' HO315.out).2.1); rintro e w' ⟨rfl, ⟨nd, rfl⟩⟩; obtain ⟨hcz30_0, hcz30_1, hfz30_0, hfz30_1⟩ := zc2 BK310.out) | (go_at_call 100; (with_reducible refine (impl_moved.calls a0_0 a0_1 a1 a2 t317 _ A10.out).mono ?_); rintro e w31 ⟨rfl, hb⟩; have n0_ := zm (Kd.R_below (by (with_reducible repeat (first | apply Kd.R_alloc | apply Kd.R_drewN | apply Kd.R_drew)); exact HO315.out) hb); have n1_ := zm (blk_below (g := gb310) zk hb); have n2_ := zm (below_step zb hb); clear HO315; clear BK310; clear HB; have HO315 := n0_; have BK310 := n1_; have HB := n2_; clear n0_ n1_ n2_; (try clear hb); (try clear hb2); (try clear hk); (try clear hi)) | (go_at_call 106; (with_reducible refine (impl_isOffset.calls t317 false _ A11.out).mono ?_); rintro e w' ⟨rfl, ⟨nd, rfl⟩⟩))
     go_ret2
     exact ⟨zr, zb⟩
   ·
    replace c9 := Bool.eq_false_iff.mpr c9
    subst c9
    have H1 : (some (0, false)) = some (r1, r2) := by rw [if_neg (show ¬ (false = true) by decide)] at H; exact H
    clear H
    have H := H1
    clear H1
    simp only [Option.some.injEq, Prod.mk.injEq] at H
    obtain ⟨rfl, rfl⟩ := H
    go_enter Try.func44, Try.ntmps44
    go_wp2_with (first | ((with_reducible refine gate_dst (N := 3) rfl ?_); (try (refine gate_guard (by rfl) ?_; dsimp only)); refine box_event ?hg (N := 3) ?hd (cs := #[.int .i64 a0_0, .int .i64 a0_1]) (t := 47) ?hr ?_; (case hd => rfl); (case hg => rfl); (case hr => first | (go_simp; done) | (go_simp; rfl)); intro gb310 hg w32 hbox hb; have n0_ := zm (below_step zb hb); have n1_ := zm (hbox); have n2_ := zm (zs hg zb : w.heap.size ≤ gb310); have n3_ := zm (zs hg zb : w.heap.size ≤ gb310); clear HB; have HB := n0_; have BK310 := n1_; have GW310 := n2_; have GE310 := n3_; clear n0_ n1_ n2_ n3_; clear hb hbox hg; obtain ⟨hcz33_0, hcz33_1, hfz33_0, hfz33_1⟩ := zc2 BK310.out) | ((with_reducible refine gate_callee (f := 76) rfl ?_); refine goesL_ (some 9) rfl rfl Try.func76 (by kernel_rfl) rfl #[.agg #[.int .i64 a0_0, .int .i64 a0_1]] rfl (by (try simp only [List.map_toArray, List.map_cons, List.map_nil]); first | done | rfl | (simp only [List.length_drop, List.length_take]; rfl)) ?_; (with_reducible refine (impl_IsController.calls a0_0 a0_1 true _ A4.out).mono ?_); rintro e w34 ⟨rfl, hb⟩; refine ⟨_, rfl, ?_⟩; have n0_ := zm (blk_below (g := gb310) zk hb); have n1_ := zm (below_step zb hb); clear BK310; clear HB; have BK310 := n0_; have HB := n1_; clear n0_ n1_; (try clear hb); (try clear hb2); (try clear hk); (try clear hi)) | (go_at_call 106; (with_reducible refine (impl_isOffset.calls a1 true _ A6.out).mono ?_); rintro e w' ⟨rfl, ⟨nd, rfl⟩⟩) | ((with_reducible refine gate_dst (N := 18) rfl ?_); (try (refine gate_guard (by rfl) ?_; dsimp only)); refine Kd.R_lit (Kd.int .i64) _ 3 ?hg (N := 18) ?hd (xs := ([a2] : List Int)) (inner := [.int .i64 a2]) (ok := fun _ => True) (okp := fun _ => True) ?hr ?hp (fun _ hk => hk) trivial (Below.refl _ _) (Nat.le_refl _) (by simp) ?_; (case hd => rfl); (case hg => rfl); (case hr => first | (go_simp; done) | (go_simp; rfl)); (case hp => exact (Reps.one (show Kd.M (Kd.int .i64) _ _ _ a2 [.int .i64 a2] from rfl) (Reps.none _ _))); intro v314 w35 ho36 hb hg_ hnew_; clear hg_ hnew_; (first | rw [← Ny313.out] at ho36 | (simp only [Int.reduceToNat] at ho36; rw [← Ny313.out] at ho36)); have n0_ := zm (Kd.R_lower ho36 (below_size zb)); have n1_ := zm (blk_below (g := gb310) zk hb); have n2_ := zm (below_step zb hb); clear BK310; clear HB; have HO315 := n0_; have BK310 := n1_; have HB := n2_; clear n0_ n1_ n2_; clear hb ho36; obtain ⟨Ao37, co37, eo37⟩ := Kd.R_slice HO315.out; subst eo37) | (go_at_call 122; (with_reducible refine (impl_areDrifts.calls k _ _ y313 false _ ?side1 ?side2 A8.out).mono ?_); (case side1 => repeat (first | exact (Kd.R_reads' HO315.out).2.2 | (with_reducible refine Kd.C_alloc ?_ _) | (with_reducible refine Kd.C_drewN ?_ _) | (with_reducible refine Kd.C_drew ?_))); (case side2 => exact (Kd.R_reads' HO315.out).2.1); rintro e w' ⟨rfl, ⟨nd, rfl⟩⟩))
    go_ret2
    exact ⟨zr, zb⟩
  ·
   replace c7 := Bool.eq_false_iff.mpr c7
   subst c7
   have H1 : (some (0, false)) = some (r1, r2) := by rw [if_neg (show ¬ (false = true) by decide)] at H; exact H
   clear H
   have H := H1
   clear H1
   simp only [Option.some.injEq, Prod.mk.injEq] at H
   obtain ⟨rfl, rfl⟩ := H
   go_enter Try.func44, Try.ntmps44
   go_wp2_with (first | ((with_reducible refine gate_dst (N := 3) rfl ?_); (try (refine gate_guard (by rfl) ?_; dsimp only)); refine box_event ?hg (N := 3) ?hd (cs := #[.int .i64 a0_0, .int .i64 a0_1]) (t := 47) ?hr ?_; (case hd => rfl); (case hg => rfl); (case hr => first | (go_simp; done) | (go_simp; rfl)); intro gb310 hg w38 hbox hb; have n0_ := zm (below_step zb hb); have n1_ := zm (hbox); have n2_ := zm (zs hg zb : w.heap.size ≤ gb310); have n3_ := zm (zs hg zb : w.heap.size ≤ gb310); clear HB; have HB := n0_; have BK310 := n1_; have GW310 := n2_; have GE310 := n3_; clear n0_ n1_ n2_ n3_; clear hb hbox hg; obtain ⟨hcz39_0, hcz39_1, hfz39_0, hfz39_1⟩ := zc2 BK310.out) | ((with_reducible refine gate_callee (f := 76) rfl ?_); refine goesL_ (some 9) rfl rfl Try.func76 (by kernel_rfl) rfl #[.agg #[.int .i64 a0_0, .int .i64 a0_1]] rfl (by (try simp only [List.map_toArray, List.map_cons, List.map_nil]); first | done | rfl | (simp only [List.length_drop, List.length_take]; rfl)) ?_; (with_reducible refine (impl_IsController.calls a0_0 a0_1 true _ A4.out).mono ?_); rintro e w40 ⟨rfl, hb⟩; refine ⟨_, rfl, ?_⟩; have n0_ := zm (blk_below (g := gb310) zk hb); have n1_ := zm (below_step zb hb); clear BK310; clear HB; have BK310 := n0_; have HB := n1_; clear n0_ n1_; (try clear hb); (try clear hb2); (try clear hk); (try clear hi)) | (go_at_call 106; (with_reducible refine (impl_isOffset.calls a1 false _ A6.out).mono ?_); rintro e w' ⟨rfl, ⟨nd, rfl⟩⟩))
   go_ret2
   exact ⟨zr, zb⟩
 ·
  replace c5 := Bool.eq_false_iff.mpr c5
  subst c5
  have H1 : (some (0, false)) = some (r1, r2) := by rw [if_neg (show ¬ (false = true) by decide)] at H; exact H
  clear H
  have H := H1
  clear H1
  simp only [Option.some.injEq, Prod.mk.injEq] at H
  obtain ⟨rfl, rfl⟩ := H
  go_enter Try.func44, Try.ntmps44
  go_wp2_with (first | ((with_reducible refine gate_dst (N := 3) rfl ?_); (try (refine gate_guard (by rfl) ?_; dsimp only)); refine box_event ?hg (N := 3) ?hd (cs := #[.int .i64 a0_0, .int .i64 a0_1]) (t := 47) ?hr ?_; (case hd => rfl); (case hg => rfl); (case hr => first | (go_simp; done) | (go_simp; rfl)); intro gb310 hg w41 hbox hb; have n0_ := zm (below_step zb hb); have n1_ := zm (hbox); have n2_ := zm (zs hg zb : w.heap.size ≤ gb310); have n3_ := zm (zs hg zb : w.heap.size ≤ gb310); clear HB; have HB := n0_; have BK310 := n1_; have GW310 := n2_; have GE310 := n3_; clear n0_ n1_ n2_ n3_; clear hb hbox hg; obtain ⟨hcz42_0, hcz42_1, hfz42_0, hfz42_1⟩ := zc2 BK310.out) | ((with_reducible refine gate_callee (f := 76) rfl ?_); refine goesL_ (some 9) rfl rfl Try.func76 (by kernel_rfl) rfl #[.agg #[.int .i64 a0_0, .int .i64 a0_1]] rfl (by (try simp only [List.map_toArray, List.map_cons, List.map_nil]); first | done | rfl | (simp only [List.length_drop, List.length_take]; rfl)) ?_; (with_reducible refine (impl_IsController.calls a0_0 a0_1 false _ A4.out).mono ?_); rintro e w43 ⟨rfl, hb⟩; refine ⟨_, rfl, ?_⟩; have n0_ := zm (blk_below (g := gb310) zk hb); have n1_ := zm (below_step zb hb); clear BK310; clear HB; have BK310 := n0_; have HB := n1_; clear n0_ n1_; (try clear hb); (try clear hb2); (try clear hk); (try clear hi)))
  go_ret2
  exact ⟨zr, zb⟩

end Go.Proofs.Ytepkedhmbfkenaa.PTk
