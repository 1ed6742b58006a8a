-- Written for this claim by a program of this session (wip/tpl/patchprint.py), not by print.sh.
import Derived.Test.YtioheacdldgaaaaPAllx0
import Derived.Test.YtioheacdldgaaaaPAllx4
import Derived.Test.YtioheacdldgaaaaPAllx7
namespace Go.Proofs.Ytioheacdldgaaaa.PAll
open Go.RowKit Go.Proofs.YtioheacdldgaaaaW.PrintWords Go.Proofs.YtioheacdldgaaaaW.PrintLast Go.Proofs.YtioheacdldgaaaaW.PrintMore
attribute [local go_sem] max2_int min2_int max_two min_two max_three min_three max_four min_four   -- for this text's walks alone
set_option linter.unusedVariables false
set_option linter.unusedSimpArgs false

/-! ### spec_GreatestLeast: function 13 -/
def spec_GreatestLeast.l0 : Nat → List (S73) → List (S79) → Int → List Int → Int → Int → Int → Int → Option (Int × Bool)
  | 0, _, _, _, _, _, _, _, _ => none
  | k + 1, x1, x8, x10, x448000, x448001, x449000, x449001, x449002 => if x449002 ≤ 40 then ((spec_pyAll.f k x448000 x448001 x1 x449000 x449001 x449002).bind fun bt456 => (if (bt456.1.length : Int) = (x8.length : Int) then (spec_GreatestLeast.l0 k x1 x8 x449002 x448000 x448001 x449000 x449001 (wrap64 (x449002 + 1))) else (spec_GreatestLeast.l0 k x1 x8 x10 x448000 x448001 x449000 x449001 (wrap64 (x449002 + 1))))) else (some (x10, true))
def spec_GreatestLeast.f (k : Nat) (l0_0 : List Int) (a0_1 : Int) (l1 : List (S73)) (a2_0 : Int) (a2_1 : Int) (a2_2 : Int) : Option (Int × Bool) := (spec_pyAsked.f k l0_0 a0_1 l1 a2_0 a2_1 a2_2).bind fun t449 => (if t449 = true then ((spec_pyAll.f k l0_0 a0_1 l1 a2_0 a2_1 0).bind fun bt450 => (spec_GreatestLeast.l0 k l1 bt450.1 0 l0_0 a0_1 a2_0 a2_1 1)) else (some (0, false)))
theorem spec_GreatestLeast.mono_l : ∀ k, (∀ y0 y1 y2 y3 y4 y5 y6 y7, LeO (spec_GreatestLeast.l0 k y0 y1 y2 y3 y4 y5 y6 y7) (spec_GreatestLeast.l0 (k + 1) y0 y1 y2 y3 y4 y5 y6 y7))
  | 0 => fun _ _ _ _ _ _ _ _ r h => by simp [spec_GreatestLeast.l0] at h
  | k + 1 => by
    have ih0 := spec_GreatestLeast.mono_l k
    · intro y0 y1 y2 y3 y4 y5 y6 y7
      unfold spec_GreatestLeast.l0
      repeat' first
      | (with_reducible exact ih0 _ _ _ _ _ _ _ _)
      | (with_reducible exact spec_pyAll.mono _ _ _ _ _ _ _)
      | (with_reducible exact spec_pyAsked.mono _ _ _ _ _ _ _)
      | (with_reducible exact LeO.refl _)
      | (with_reducible exact LeO.none _)
      | (with_reducible refine LeO.ite ?_ ?_)
      | (with_reducible refine LeO.bind ?_ (fun _ => ?_))
      | exact ih0 _ _ _ _ _ _ _ _
      | exact spec_pyAll.mono _ _ _ _ _ _ _
      | exact spec_pyAsked.mono _ _ _ _ _ _ _
      | exact LeO.none _
      | refine LeO.ite ?_ ?_
      | refine LeO.bind ?_ (fun _ => ?_)
theorem spec_GreatestLeast.mono : ∀ a0 a1 a2 a3 a4 a5 k, LeO (spec_GreatestLeast.f k a0 a1 a2 a3 a4 a5) (spec_GreatestLeast.f (k + 1) a0 a1 a2 a3 a4 a5) := by
  intro a0 a1 a2 a3 a4 a5 k
  have ih0 := spec_GreatestLeast.mono_l k
  unfold spec_GreatestLeast.f
  repeat' first
      | (with_reducible exact ih0 _ _ _ _ _ _ _ _)
      | (with_reducible exact spec_pyAll.mono _ _ _ _ _ _ _)
      | (with_reducible exact spec_pyAsked.mono _ _ _ _ _ _ _)
      | (with_reducible exact LeO.refl _)
      | (with_reducible exact LeO.none _)
      | (with_reducible refine LeO.ite ?_ ?_)
      | (with_reducible refine LeO.bind ?_ (fun _ => ?_))
      | exact ih0 _ _ _ _ _ _ _ _
      | exact spec_pyAll.mono _ _ _ _ _ _ _
      | exact spec_pyAsked.mono _ _ _ _ _ _ _
      | exact LeO.none _
      | refine LeO.ite ?_ ?_
      | refine LeO.bind ?_ (fun _ => ?_)
set_option maxHeartbeats 8000000 in
set_option maxRecDepth 100000 in
theorem spec_GreatestLeast.calls (k : Nat) (A0_0 : Option Addr) (c0_0 : Nat) (l0_0 : List Int) (a0_1 : Int) (A1 : Option Addr) (c1 : Nat) (l1 : List (S73)) (a2_0 : Int) (a2_1 : Int) (a2_2 : Int) (r1 : Int) (r2 : Bool) (w : World) (hr0_0 : Kd.C (Kd.int .i64) w A0_0 l0_0.length l0_0) (hc0_0 : l0_0.length ≤ c0_0) (hr1 : Kd.C k73 w A1 l1.length l1) (hc1 : l1.length ≤ c1) (h : spec_GreatestLeast.f k l0_0 a0_1 l1 a2_0 a2_1 a2_2 = some (r1, r2)) :
  Calls Try.prog 13 #[.agg #[.slice A0_0 l0_0.length c0_0, .int .i64 a0_1], .slice A1 l1.length c1, .agg #[.int .i64 a2_0, .int .i64 a2_1, .int .i64 a2_2]] w fun e w' => e = .returned (.tuple #[.int .i64 r1, .bool r2]) ∧ Below w.heap.size w w' := by
 have hu32 := Try.underlying32
 have hu36 := Try.underlying36
 have HR0_0 := zm hr0_0
 have HC0_0 := zm hc0_0
 clear hr0_0 hc0_0
 have HR1 := zm hr1
 have HC1 := zm hc1
 clear hr1 hc1
 have HB := zm (Below.refl w.heap.size w)
 have H : ((spec_pyAsked.f k l0_0 a0_1 l1 a2_0 a2_1 a2_2).bind fun t449 => (if t449 = true then ((spec_pyAll.f k l0_0 a0_1 l1 a2_0 a2_1 0).bind fun bt450 => (spec_GreatestLeast.l0 k l1 bt450.1 0 l0_0 a0_1 a2_0 a2_1 1)) else (some (0, false)))) = some (r1, r2) := h
 clear h
 replace H := Option.bind_eq_some_iff.mp H
 obtain ⟨t449, A40, H⟩ := H
 replace H : (if t449 = true then ((spec_pyAll.f k l0_0 a0_1 l1 a2_0 a2_1 0).bind fun bt450 => (spec_GreatestLeast.l0 k l1 bt450.1 0 l0_0 a0_1 a2_0 a2_1 1)) else (some (0, false))) = some (r1, r2) := H
 have A4 := zm A40
 clear A40
 by_cases c5 : t449 = true
 ·
  subst c5
  have H1 : ((spec_pyAll.f k l0_0 a0_1 l1 a2_0 a2_1 0).bind fun bt450 => (spec_GreatestLeast.l0 k l1 bt450.1 0 l0_0 a0_1 a2_0 a2_1 1)) = some (r1, r2) := by rw [if_pos rfl] at H; exact H
  clear H
  have H := H1
  clear H1
  replace H := Option.bind_eq_some_iff.mp H
  obtain ⟨⟨t450, t453⟩, A60, H⟩ := H
  replace H : (spec_GreatestLeast.l0 k l1 t450 0 l0_0 a0_1 a2_0 a2_1 1) = some (r1, r2) := H
  have A6 := zm A60
  clear A60
  have H' := zm H
  clear H
  go_enter Try.func13, Try.ntmps13
  go_wp2_with (first | ((with_reducible refine gate_dst (N := 3) rfl ?_); refine box_event ?hg (N := 3) ?hd (cs := #[.slice A0_0 l0_0.length c0_0, .int .i64 a0_1]) (t := 32) ?hr ?_; (case hd => rfl); (case hg => rfl); (case hr => first | (go_simp; done) | (go_simp; rfl)); intro gb447 hg w7 hbox hb; have n0_ := zm (below_step zb hb); have n1_ := zm (hbox); have n2_ := zm (zs hg zb : w.heap.size ≤ gb447); have n3_ := zm (zs hg zb : w.heap.size ≤ gb447); clear HB; have HB := n0_; have BK447 := n1_; have GW447 := n2_; have GE447 := n3_; clear n0_ n1_ n2_ n3_; clear hb hbox hg) | ((with_reducible refine gate_dst (N := 5) rfl ?_); refine box_event ?hg (N := 5) ?hd (cs := #[.int .i64 a2_0, .int .i64 a2_1, .int .i64 a2_2]) (t := 36) ?hr ?_; (case hd => rfl); (case hg => rfl); (case hr => first | (go_simp; done) | (go_simp; rfl)); intro gb448 hg w8 hbox hb; have n0_ := zm (blk_below (g := gb447) zk hb); have n1_ := zm (below_step zb hb); have n2_ := zm (hbox); have n3_ := zm (zs hg zb : w.heap.size ≤ gb448); have n4_ := zm (zs hg zb : w.heap.size ≤ gb448); have n5_ := zm (zl hg zk : gb447 ≠ gb448); have n6_ := zm (zg hg zk : gb448 ≠ gb447); clear BK447; clear HB; have BK447 := n0_; have HB := n1_; have BK448 := n2_; have GW448 := n3_; have GE448 := n4_; have NB447_448 := n5_; have NB448_447 := n6_; clear n0_ n1_ n2_ n3_ n4_ n5_ n6_; clear hb hbox hg; have hnb9 := NB447_448.out; have hnc9 := NB448_447.out; obtain ⟨hcz10_0, hcz10_1, hfz10_0, hfz10_1⟩ := zc2 BK447.out; obtain ⟨hcz11_0, hcz11_1, hcz11_2, hfz11_0, hfz11_1, hfz11_2⟩ := zc3 BK448.out) | ((with_reducible refine gate_callee (f := 49) rfl ?_); refine goesL_ (some 16) rfl rfl Try.func49 (by kernel_rfl) rfl #[.agg #[.slice A0_0 l0_0.length c0_0, .int .i64 a0_1], .slice A1 l1.length c1, .agg #[.int .i64 a2_0, .int .i64 a2_1, .int .i64 a2_2]] rfl (by (try simp only [List.map_toArray, List.map_cons, List.map_nil]); first | done | rfl | (simp only [List.length_drop, List.length_take]; rfl)) ?_; (with_reducible refine (spec_pyAsked.calls k _ _ l0_0 a0_1 _ _ l1 a2_0 a2_1 a2_2 true _ ?side1 ?side2 ?side3 ?side4 A4.out).mono ?_); (case side1 => repeat (first | exact (Kd.C_below HR0_0.out HB.out) | (with_reducible refine Kd.C_alloc ?_ _) | (with_reducible refine Kd.C_drewN ?_ _) | (with_reducible refine Kd.C_drew ?_))); (case side2 => exact HC0_0.out); (case side3 => repeat (first | exact (Kd.C_below HR1.out HB.out) | (with_reducible refine Kd.C_alloc ?_ _) | (with_reducible refine Kd.C_drewN ?_ _) | (with_reducible refine Kd.C_drew ?_))); (case side4 => exact HC1.out); rintro e w12 ⟨rfl, hb⟩; refine ⟨_, rfl, ?_⟩; have n0_ := zm (blk_below (g := gb447) zk hb); have n1_ := zm (blk_below (g := gb448) zk hb); have n2_ := zm (below_step zb hb); clear BK447; clear BK448; clear HB; have BK447 := n0_; have BK448 := n1_; have HB := n2_; clear n0_ n1_ n2_; (try clear hb); (try clear hb2); (try clear hk); (try clear hi); obtain ⟨hcz13_0, hcz13_1, hcz13_2, hfz13_0, hfz13_1, hfz13_2⟩ := zc3 BK448.out; obtain ⟨hcz14_0, hcz14_1, hfz14_0, hfz14_1⟩ := zc2 BK447.out) | ((with_reducible refine gate_callee (f := 50) rfl ?_); refine goesL_ (some 23) rfl rfl Try.func50 (by kernel_rfl) rfl #[.agg #[.slice A0_0 l0_0.length c0_0, .int .i64 a0_1], .slice A1 l1.length c1, .agg #[.int .i64 a2_0, .int .i64 a2_1, .int .i64 0]] rfl (by (try simp only [List.map_toArray, List.map_cons, List.map_nil]); first | done | rfl | (simp only [List.length_drop, List.length_take]; rfl)) ?_; (with_reducible refine (spec_pyAll.calls k _ _ l0_0 a0_1 _ _ l1 a2_0 a2_1 0 t450 t453 _ ?side1 ?side2 ?side3 ?side4 A6.out).mono ?_); (case side1 => exact Kd.C_below HR0_0.out zb); (case side2 => exact HC0_0.out); (case side3 => exact Kd.C_below HR1.out zb); (case side4 => exact HC1.out); rintro e w15 ⟨v451, v454, rfl, ho0, ho1, hb⟩; refine ⟨_, rfl, ?_⟩; have n0_ := zm (Kd.R_lower ho0 (below_size zb)); have n1_ := zm (Kd.R_lower ho1 (below_size zb)); have n2_ := zm (blk_below (g := gb447) (o := .cells #[.slice A0_0 l0_0.length c0_0, .int .i64 a0_1] 32 (0, 0)) zK hb); have n3_ := zm (blk_below (g := gb448) (o := .cells #[.int .i64 a2_0, .int .i64 a2_1, .int .i64 0] 36 (0, 0)) (by (with_reducible repeat (first | refine blk_drewN ?_ _ | refine blk_drew ?_ | refine blk_alloc ?_ _)); refine blk_put (cs := #[.int .i64 a2_0, .int .i64 a2_1, .int .i64 a2_2]) ?_ 2 _ rfl; (with_reducible repeat (first | refine blk_drewN ?_ _ | refine blk_drew ?_ | refine blk_alloc ?_ _)); exact BK448.out) hb); have n4_ := zm (below_step zb hb); clear BK447; clear BK448; clear HB; have HO452 := n0_; have HO455 := n1_; have BK447 := n2_; have BK448 := n3_; have HB := n4_; clear n0_ n1_ n2_ n3_ n4_; (try clear hb); (try clear hb2); (try clear hk); (try clear hi); (try clear ho0); (try clear ho1); obtain ⟨hcz16_0, hcz16_1, hcz16_2, hfz16_0, hfz16_1, hfz16_2⟩ := zc3 BK448.out))
  go_loopg [10] k (fun kq v10 w' => ∃ (x10_1 : Int) (x449002_1 : Int), v10 = .int .i64 x10_1 ∧ Aside0 (spec_GreatestLeast.l0 kq l1 t450 x10_1 l0_0 a0_1 a2_0 a2_1 x449002_1 = some (r1, r2)) ∧ Aside0 (kq ≤ k) ∧ Aside0 (Kd.R k79 79 w' w.heap.size (fun _ => True) v451 t450) ∧ Aside0 (w'.heap[gb447]? = some (.cells #[(.slice A0_0 l0_0.length c0_0), .int .i64 a0_1] 32 (0, 0))) ∧ Aside0 (w'.heap[gb448]? = some (.cells #[.int .i64 a2_0, .int .i64 a2_1, .int .i64 x449002_1] 36 (0, 0))) ∧ Aside0 (Below w.heap.size w w'))
  case atStart => exact ⟨(0), (1), (by first | rfl | (simp; done) | (simp [*]; done)), H', ⟨Nat.le_refl _⟩, ⟨by (with_reducible repeat (first | apply Kd.R_alloc | apply Kd.R_drewN | apply Kd.R_drew)); exact Kd.R_mono (Kd.R_far (p := ⟨gb448, 2, none⟩) (Kd.R_types HO452.out BK448.out (by decide)) (fun _ hk => hk.2) (.int .i64 1)) (fun _ hk => trivial)⟩, ⟨zK⟩, ⟨by (with_reducible repeat (first | refine blk_drewN ?_ _ | refine blk_drew ?_ | refine blk_alloc ?_ _)); refine blk_put (cs := #[.int .i64 a2_0, .int .i64 a2_1, .int .i64 0]) ?_ 2 _ rfl; (with_reducible repeat (first | refine blk_drewN ?_ _ | refine blk_drew ?_ | refine blk_alloc ?_ _)); exact BK448.out⟩, ⟨zb⟩⟩
  case round =>
   clear H'
   try clear c1
   try clear p2
   try clear c4
   try clear c5
   try clear c9
   try clear c13
   try clear hcz10_0
   try clear hcz10_1
   try clear hcz11_0
   try clear hcz11_1
   try clear hcz11_2
   try clear hcz13_0
   try clear hcz13_1
   try clear hcz13_2
   try clear hcz14_0
   try clear hcz14_1
   try clear hcz16_0
   try clear hcz16_1
   try clear hcz16_2
   try clear hfz10_0
   try clear hfz10_1
   try clear hfz11_0
   try clear hfz11_1
   try clear hfz11_2
   try clear hfz13_0
   try clear hfz13_1
   try clear hfz13_2
   try clear hfz14_0
   try clear hfz14_1
   try clear hfz16_0
   try clear hfz16_1
   try clear hfz16_2
   obtain ⟨x10_1, x449002_1, rfl, HA, HK1, HO_8, BK447, BK448, HB⟩ := hrel
   cases gk with
   | zero => exact absurd HA.out (by simp [spec_GreatestLeast.l0])
   | succ k1 =>
    have H := HA.out
    clear HA
    simp only [spec_GreatestLeast.l0] at H
    by_cases c17 : x449002_1 ≤ 40
    ·
     rw [if_pos c17] at H
     have c17b0 : decide (x449002_1 ≤ 40) = true := decide_eq_true c17
     clear c17
     replace H := Option.bind_eq_some_iff.mp H
     obtain ⟨⟨t456, t459⟩, A180, H⟩ := H
     replace H : (if (t456.length : Int) = (t450.length : Int) then (spec_GreatestLeast.l0 k1 l1 t450 x449002_1 l0_0 a0_1 a2_0 a2_1 (wrap64 (x449002_1 + 1))) else (spec_GreatestLeast.l0 k1 l1 t450 x10_1 l0_0 a0_1 a2_0 a2_1 (wrap64 (x449002_1 + 1)))) = some (r1, r2) := H
     have A18 := zm A180
     clear A180
     by_cases c19 : (t456.length : Int) = (t450.length : Int)
     ·
      rw [if_pos c19] at H
      have c19b0 : ((t456.length : Int) == (t450.length : Int)) = true := beq_iff_eq.mpr c19
      have c19b1 : ((t456.length : Int) != (t450.length : Int)) = false := bne_eq_false_iff_eq.mpr c19
      have c19b2 : (t456.length == t450.length) = true := by first | simpa using c19 | (simp at c19 ⊢; omega)
      clear c19
      have H' := zm H
      clear H
      have hnb20 := NB448_447.out
      have hnc20 := NB447_448.out
      obtain ⟨hcz21_0, hcz21_1, hcz21_2, hfz21_0, hfz21_1, hfz21_2⟩ := zc3 BK448.out
      obtain ⟨hcz22_0, hcz22_1, hfz22_0, hfz22_1⟩ := zc2 BK447.out
      go_wp2_with (first | ((with_reducible refine gate_callee (f := 50) rfl ?_); refine goesL_ (some 38) rfl rfl Try.func50 (by kernel_rfl) rfl #[.agg #[.slice A0_0 l0_0.length c0_0, .int .i64 a0_1], .slice A1 l1.length c1, .agg #[.int .i64 a2_0, .int .i64 a2_1, .int .i64 x449002_1]] rfl (by (try simp only [List.map_toArray, List.map_cons, List.map_nil]); first | done | rfl | (simp only [List.length_drop, List.length_take]; rfl)) ?_; (with_reducible refine (spec_pyAll.calls k1 _ _ l0_0 a0_1 _ _ l1 a2_0 a2_1 x449002_1 t456 t459 _ ?side1 ?side2 ?side3 ?side4 A18.out).mono ?_); (case side1 => repeat (first | exact (Kd.C_below HR0_0.out HB.out) | (with_reducible refine Kd.C_alloc ?_ _) | (with_reducible refine Kd.C_drewN ?_ _) | (with_reducible refine Kd.C_drew ?_))); (case side2 => exact HC0_0.out); (case side3 => repeat (first | exact (Kd.C_below HR1.out HB.out) | (with_reducible refine Kd.C_alloc ?_ _) | (with_reducible refine Kd.C_drewN ?_ _) | (with_reducible refine Kd.C_drew ?_))); (case side4 => exact HC1.out); rintro e w23 ⟨v457, v460, rfl, ho0, ho1, hb⟩; refine ⟨_, rfl, ?_⟩; have n0_ := zm (Kd.R_elder' (by (with_reducible repeat (first | apply Kd.R_alloc | apply Kd.R_drewN | apply Kd.R_drew)); exact HO_8.out) (Kd.R_base ho0) hb); have n1_ := zm (Kd.R_lower (Kd.R_new' ho0 (Kd.R_lt (by (with_reducible repeat (first | apply Kd.R_alloc | apply Kd.R_drewN | apply Kd.R_drew)); exact HO_8.out))) (below_size zb)); have n2_ := zm (Kd.R_lower ho1 (below_size zb)); have n3_ := zm (blk_below (g := gb447) zk hb); have n4_ := zm (blk_below (g := gb448) zk hb); have n5_ := zm (below_step zb hb); clear HO_8; clear BK447; clear BK448; clear HB; have HO_8 := n0_; have HO458 := n1_; have HO461 := n2_; have BK447 := n3_; have BK448 := n4_; have HB := n5_; clear n0_ n1_ n2_ n3_ n4_ n5_; (try clear hb); (try clear hb2); (try clear hk); (try clear hi); (try clear ho0); (try clear ho1); obtain ⟨Ao24, co24, eo24⟩ := Kd.R_slice HO458.out; subst eo24; obtain ⟨Ao25, co25, eo25⟩ := Kd.R_slice HO_8.out; subst eo25; obtain ⟨hcz26_0, hcz26_1, hcz26_2, hfz26_0, hfz26_1, hfz26_2⟩ := zc3 BK448.out))
      go_roundg k1
      case measure => have := HK1.out; omega
      case rel => exact ⟨(x449002_1), (wrap64 (x449002_1 + 1)), (by first | rfl | (simp; done) | (simp [*]; done)), H', ⟨by have := HK1.out; omega⟩, ⟨by (with_reducible repeat (first | apply Kd.R_alloc | apply Kd.R_drewN | apply Kd.R_drew)); exact Kd.R_mono (Kd.R_far (p := ⟨gb448, 2, none⟩) (Kd.R_types HO_8.out BK448.out (by decide)) (fun _ hk => hk.2) (.int .i64 (wrap64 (x449002_1 + 1)))) (fun _ hk => trivial)⟩, ⟨zK⟩, ⟨by (with_reducible repeat (first | refine blk_drewN ?_ _ | refine blk_drew ?_ | refine blk_alloc ?_ _)); refine blk_put (cs := #[.int .i64 a2_0, .int .i64 a2_1, .int .i64 x449002_1]) ?_ 2 _ rfl; (with_reducible repeat (first | refine blk_drewN ?_ _ | refine blk_drew ?_ | refine blk_alloc ?_ _)); exact BK448.out⟩, ⟨zb⟩⟩
     ·
      rw [if_neg c19] at H
      have c19b0 : ((t456.length : Int) == (t450.length : Int)) = false := beq_eq_false_iff_ne.mpr c19
      have c19b1 : ((t456.length : Int) != (t450.length : Int)) = true := bne_iff_ne.mpr c19
      have c19b2 : (t456.length == t450.length) = false := by first | simpa using c19 | (simp at c19 ⊢; omega)
      have H' := zm H
      clear H
      have hnb27 := NB448_447.out
      have hnc27 := NB447_448.out
      obtain ⟨hcz28_0, hcz28_1, hcz28_2, hfz28_0, hfz28_1, hfz28_2⟩ := zc3 BK448.out
      obtain ⟨hcz29_0, hcz29_1, hfz29_0, hfz29_1⟩ := zc2 BK447.out
      go_wp2_with (first | ((with_reducible refine gate_callee (f := 50) rfl ?_); refine goesL_ (some 38) rfl rfl Try.func50 (by kernel_rfl) rfl #[.agg #[.slice A0_0 l0_0.length c0_0, .int .i64 a0_1], .slice A1 l1.length c1, .agg #[.int .i64 a2_0, .int .i64 a2_1, .int .i64 x449002_1]] rfl (by (try simp only [List.map_toArray, List.map_cons, List.map_nil]); first | done | rfl | (simp only [List.length_drop, List.length_take]; rfl)) ?_; (with_reducible refine (spec_pyAll.calls k1 _ _ l0_0 a0_1 _ _ l1 a2_0 a2_1 x449002_1 t456 t459 _ ?side1 ?side2 ?side3 ?side4 A18.out).mono ?_); (case side1 => repeat (first | exact (Kd.C_below HR0_0.out HB.out) | (with_reducible refine Kd.C_alloc ?_ _) | (with_reducible refine Kd.C_drewN ?_ _) | (with_reducible refine Kd.C_drew ?_))); (case side2 => exact HC0_0.out); (case side3 => repeat (first | exact (Kd.C_below HR1.out HB.out) | (with_reducible refine Kd.C_alloc ?_ _) | (with_reducible refine Kd.C_drewN ?_ _) | (with_reducible refine Kd.C_drew ?_))); (case side4 => exact HC1.out); rintro e w30 ⟨v457, v460, rfl, ho0, ho1, hb⟩; refine ⟨_, rfl, ?_⟩; have n0_ := zm (Kd.R_elder' (by (with_reducible repeat (first | apply Kd.R_alloc | apply Kd.R_drewN | apply Kd.R_drew)); exact HO_8.out) (Kd.R_base ho0) hb); have n1_ := zm (Kd.R_lower (Kd.R_new' ho0 (Kd.R_lt (by (with_reducible repeat (first | apply Kd.R_alloc | apply Kd.R_drewN | apply Kd.R_drew)); exact HO_8.out))) (below_size zb)); have n2_ := zm (Kd.R_lower ho1 (below_size zb)); have n3_ := zm (blk_below (g := gb447) zk hb); have n4_ := zm (blk_below (g := gb448) zk hb); have n5_ := zm (below_step zb hb); clear HO_8; clear BK447; clear BK448; clear HB; have HO_8 := n0_; have HO458 := n1_; have HO461 := n2_; have BK447 := n3_; have BK448 := n4_; have HB := n5_; clear n0_ n1_ n2_ n3_ n4_ n5_; (try clear hb); (try clear hb2); (try clear hk); (try clear hi); (try clear ho0); (try clear ho1); obtain ⟨Ao31, co31, eo31⟩ := Kd.R_slice HO458.out; subst eo31; obtain ⟨Ao32, co32, eo32⟩ := Kd.R_slice HO_8.out; subst eo32; obtain ⟨hcz33_0, hcz33_1, hcz33_2, hfz33_0, hfz33_1, hfz33_2⟩ := zc3 BK448.out))
      go_roundg k1
      case measure => have := HK1.out; omega
      case rel => exact ⟨(x10_1), (wrap64 (x449002_1 + 1)), (by first | rfl | (simp; done) | (simp [*]; done)), H', ⟨by have := HK1.out; omega⟩, ⟨by (with_reducible repeat (first | apply Kd.R_alloc | apply Kd.R_drewN | apply Kd.R_drew)); exact Kd.R_mono (Kd.R_far (p := ⟨gb448, 2, none⟩) (Kd.R_types HO_8.out BK448.out (by decide)) (fun _ hk => hk.2) (.int .i64 (wrap64 (x449002_1 + 1)))) (fun _ hk => trivial)⟩, ⟨zK⟩, ⟨by (with_reducible repeat (first | refine blk_drewN ?_ _ | refine blk_drew ?_ | refine blk_alloc ?_ _)); refine blk_put (cs := #[.int .i64 a2_0, .int .i64 a2_1, .int .i64 x449002_1]) ?_ 2 _ rfl; (with_reducible repeat (first | refine blk_drewN ?_ _ | refine blk_drew ?_ | refine blk_alloc ?_ _)); exact BK448.out⟩, ⟨zb⟩⟩
    ·
     rw [if_neg c17] at H
     have c17b0 : decide (x449002_1 ≤ 40) = false := decide_eq_false c17
     clear c17
     simp only [Option.some.injEq, Prod.mk.injEq] at H
     obtain ⟨rfl, rfl⟩ := H
     have hnb34 := NB448_447.out
     have hnc34 := NB447_448.out
     obtain ⟨hcz35_0, hcz35_1, hcz35_2, hfz35_0, hfz35_1, hfz35_2⟩ := zc3 BK448.out
     go_wp2
     go_ret2
     exact ⟨zr, zb⟩
 ·
  replace c5 := Bool.eq_false_iff.mpr c5
  subst c5
  have H1 : (some (0, false)) = some (r1, r2) := by rw [if_neg (show ¬ (false = true) by decide)] at H; exact H
  clear H
  have H := H1
  clear H1
  simp only [Option.some.injEq, Prod.mk.injEq] at H
  obtain ⟨rfl, rfl⟩ := H
  go_enter Try.func13, Try.ntmps13
  go_wp2_with (first | ((with_reducible refine gate_dst (N := 3) rfl ?_); refine box_event ?hg (N := 3) ?hd (cs := #[.slice A0_0 l0_0.length c0_0, .int .i64 a0_1]) (t := 32) ?hr ?_; (case hd => rfl); (case hg => rfl); (case hr => first | (go_simp; done) | (go_simp; rfl)); intro gb447 hg w36 hbox hb; have n0_ := zm (below_step zb hb); have n1_ := zm (hbox); have n2_ := zm (zs hg zb : w.heap.size ≤ gb447); have n3_ := zm (zs hg zb : w.heap.size ≤ gb447); clear HB; have HB := n0_; have BK447 := n1_; have GW447 := n2_; have GE447 := n3_; clear n0_ n1_ n2_ n3_; clear hb hbox hg) | ((with_reducible refine gate_dst (N := 5) rfl ?_); refine box_event ?hg (N := 5) ?hd (cs := #[.int .i64 a2_0, .int .i64 a2_1, .int .i64 a2_2]) (t := 36) ?hr ?_; (case hd => rfl); (case hg => rfl); (case hr => first | (go_simp; done) | (go_simp; rfl)); intro gb448 hg w37 hbox hb; have n0_ := zm (blk_below (g := gb447) zk hb); have n1_ := zm (below_step zb hb); have n2_ := zm (hbox); have n3_ := zm (zs hg zb : w.heap.size ≤ gb448); have n4_ := zm (zs hg zb : w.heap.size ≤ gb448); have n5_ := zm (zl hg zk : gb447 ≠ gb448); have n6_ := zm (zg hg zk : gb448 ≠ gb447); clear BK447; clear HB; have BK447 := n0_; have HB := n1_; have BK448 := n2_; have GW448 := n3_; have GE448 := n4_; have NB447_448 := n5_; have NB448_447 := n6_; clear n0_ n1_ n2_ n3_ n4_ n5_ n6_; clear hb hbox hg; have hnb38 := NB447_448.out; have hnc38 := NB448_447.out; obtain ⟨hcz39_0, hcz39_1, hfz39_0, hfz39_1⟩ := zc2 BK447.out; obtain ⟨hcz40_0, hcz40_1, hcz40_2, hfz40_0, hfz40_1, hfz40_2⟩ := zc3 BK448.out) | ((with_reducible refine gate_callee (f := 49) rfl ?_); refine goesL_ (some 16) rfl rfl Try.func49 (by kernel_rfl) rfl #[.agg #[.slice A0_0 l0_0.length c0_0, .int .i64 a0_1], .slice A1 l1.length c1, .agg #[.int .i64 a2_0, .int .i64 a2_1, .int .i64 a2_2]] rfl (by (try simp only [List.map_toArray, List.map_cons, List.map_nil]); first | done | rfl | (simp only [List.length_drop, List.length_take]; rfl)) ?_; (with_reducible refine (spec_pyAsked.calls k _ _ l0_0 a0_1 _ _ l1 a2_0 a2_1 a2_2 false _ ?side1 ?side2 ?side3 ?side4 A4.out).mono ?_); (case side1 => repeat (first | exact (Kd.C_below HR0_0.out HB.out) | (with_reducible refine Kd.C_alloc ?_ _) | (with_reducible refine Kd.C_drewN ?_ _) | (with_reducible refine Kd.C_drew ?_))); (case side2 => exact HC0_0.out); (case side3 => repeat (first | exact (Kd.C_below HR1.out HB.out) | (with_reducible refine Kd.C_alloc ?_ _) | (with_reducible refine Kd.C_drewN ?_ _) | (with_reducible refine Kd.C_drew ?_))); (case side4 => exact HC1.out); rintro e w41 ⟨rfl, hb⟩; refine ⟨_, rfl, ?_⟩; have n0_ := zm (blk_below (g := gb447) zk hb); have n1_ := zm (blk_below (g := gb448) zk hb); have n2_ := zm (below_step zb hb); clear BK447; clear BK448; clear HB; have BK447 := n0_; have BK448 := n1_; have HB := n2_; clear n0_ n1_ n2_; (try clear hb); (try clear hb2); (try clear hk); (try clear hi)))
  go_ret2
  exact ⟨zr, zb⟩

/-! ### impl_GreatestLeast: function 17 -/
def impl_GreatestLeast.l0 : Nat → List (S73) → List (S79) → Int → List Int → Int → Int → Int → Int → Option (Int × Bool)
  | 0, _, _, _, _, _, _, _, _ => none
  | k + 1, x1, x8, x10, x463000, x463001, x464000, x464001, x464002 => if x10 > 0 then ((impl_spoken.f k x463000 x463001 x1 x464000 x464001 x10).bind fun bt471 => (if (bt471.1.length : Int) = (x8.length : Int) then (some (x10, true)) else (impl_GreatestLeast.l0 k x1 x8 (wrap64 (x10 - 1)) x463000 x463001 x464000 x464001 x10))) else (some (0, true))
def impl_GreatestLeast.f (k : Nat) (l0_0 : List Int) (a0_1 : Int) (l1 : List (S73)) (a2_0 : Int) (a2_1 : Int) (a2_2 : Int) : Option (Int × Bool) := (impl_canBePlayed.f k l0_0 a0_1 l1 a2_0 a2_1 a2_2).bind fun t464 => (if t464 = true then ((impl_spoken.f k l0_0 a0_1 l1 a2_0 a2_1 0).bind fun bt465 => (impl_GreatestLeast.l0 k l1 bt465.1 40 l0_0 a0_1 a2_0 a2_1 0)) else (some (0, false)))
theorem impl_GreatestLeast.mono_l : ∀ k, (∀ y0 y1 y2 y3 y4 y5 y6 y7, LeO (impl_GreatestLeast.l0 k y0 y1 y2 y3 y4 y5 y6 y7) (impl_GreatestLeast.l0 (k + 1) y0 y1 y2 y3 y4 y5 y6 y7))
  | 0 => fun _ _ _ _ _ _ _ _ r h => by simp [impl_GreatestLeast.l0] at h
  | k + 1 => by
    have ih0 := impl_GreatestLeast.mono_l k
    · intro y0 y1 y2 y3 y4 y5 y6 y7
      unfold impl_GreatestLeast.l0
      repeat' first
      | (with_reducible exact ih0 _ _ _ _ _ _ _ _)
      | (with_reducible exact impl_canBePlayed.mono _ _ _ _ _ _ _)
      | (with_reducible exact impl_spoken.mono _ _ _ _ _ _ _)
      | (with_reducible exact LeO.refl _)
      | (with_reducible exact LeO.none _)
      | (with_reducible refine LeO.ite ?_ ?_)
      | (with_reducible refine LeO.bind ?_ (fun _ => ?_))
      | exact ih0 _ _ _ _ _ _ _ _
      | exact impl_canBePlayed.mono _ _ _ _ _ _ _
      | exact impl_spoken.mono _ _ _ _ _ _ _
      | exact LeO.none _
      | refine LeO.ite ?_ ?_
      | refine LeO.bind ?_ (fun _ => ?_)
theorem impl_GreatestLeast.mono : ∀ a0 a1 a2 a3 a4 a5 k, LeO (impl_GreatestLeast.f k a0 a1 a2 a3 a4 a5) (impl_GreatestLeast.f (k + 1) a0 a1 a2 a3 a4 a5) := by
  intro a0 a1 a2 a3 a4 a5 k
  have ih0 := impl_GreatestLeast.mono_l k
  unfold impl_GreatestLeast.f
  repeat' first
      | (with_reducible exact ih0 _ _ _ _ _ _ _ _)
      | (with_reducible exact impl_canBePlayed.mono _ _ _ _ _ _ _)
      | (with_reducible exact impl_spoken.mono _ _ _ _ _ _ _)
      | (with_reducible exact LeO.refl _)
      | (with_reducible exact LeO.none _)
      | (with_reducible refine LeO.ite ?_ ?_)
      | (with_reducible refine LeO.bind ?_ (fun _ => ?_))
      | exact ih0 _ _ _ _ _ _ _ _
      | exact impl_canBePlayed.mono _ _ _ _ _ _ _
      | exact impl_spoken.mono _ _ _ _ _ _ _
      | exact LeO.none _
      | refine LeO.ite ?_ ?_
      | refine LeO.bind ?_ (fun _ => ?_)
set_option maxHeartbeats 8000000 in
set_option maxRecDepth 100000 in
theorem impl_GreatestLeast.calls (k : Nat) (A0_0 : Option Addr) (c0_0 : Nat) (l0_0 : List Int) (a0_1 : Int) (A1 : Option Addr) (c1 : Nat) (l1 : List (S73)) (a2_0 : Int) (a2_1 : Int) (a2_2 : Int) (r1 : Int) (r2 : Bool) (w : World) (hr0_0 : Kd.C (Kd.int .i64) w A0_0 l0_0.length l0_0) (hc0_0 : l0_0.length ≤ c0_0) (hr1 : Kd.C k73 w A1 l1.length l1) (hc1 : l1.length ≤ c1) (h : impl_GreatestLeast.f k l0_0 a0_1 l1 a2_0 a2_1 a2_2 = some (r1, r2)) :
  Calls Try.prog 17 #[.agg #[.slice A0_0 l0_0.length c0_0, .int .i64 a0_1], .slice A1 l1.length c1, .agg #[.int .i64 a2_0, .int .i64 a2_1, .int .i64 a2_2]] w fun e w' => e = .returned (.tuple #[.int .i64 r1, .bool r2]) ∧ Below w.heap.size w w' := by
 have hu32 := Try.underlying32
 have hu36 := Try.underlying36
 have HR0_0 := zm hr0_0
 have HC0_0 := zm hc0_0
 clear hr0_0 hc0_0
 have HR1 := zm hr1
 have HC1 := zm hc1
 clear hr1 hc1
 have HB := zm (Below.refl w.heap.size w)
 have H : ((impl_canBePlayed.f k l0_0 a0_1 l1 a2_0 a2_1 a2_2).bind fun t464 => (if t464 = true then ((impl_spoken.f k l0_0 a0_1 l1 a2_0 a2_1 0).bind fun bt465 => (impl_GreatestLeast.l0 k l1 bt465.1 40 l0_0 a0_1 a2_0 a2_1 0)) else (some (0, false)))) = some (r1, r2) := h
 clear h
 replace H := Option.bind_eq_some_iff.mp H
 obtain ⟨t464, A40, H⟩ := H
 replace H : (if t464 = true then ((impl_spoken.f k l0_0 a0_1 l1 a2_0 a2_1 0).bind fun bt465 => (impl_GreatestLeast.l0 k l1 bt465.1 40 l0_0 a0_1 a2_0 a2_1 0)) else (some (0, false))) = some (r1, r2) := H
 have A4 := zm A40
 clear A40
 by_cases c5 : t464 = true
 ·
  subst c5
  have H1 : ((impl_spoken.f k l0_0 a0_1 l1 a2_0 a2_1 0).bind fun bt465 => (impl_GreatestLeast.l0 k l1 bt465.1 40 l0_0 a0_1 a2_0 a2_1 0)) = some (r1, r2) := by rw [if_pos rfl] at H; exact H
  clear H
  have H := H1
  clear H1
  replace H := Option.bind_eq_some_iff.mp H
  obtain ⟨⟨t465, t468⟩, A60, H⟩ := H
  replace H : (impl_GreatestLeast.l0 k l1 t465 40 l0_0 a0_1 a2_0 a2_1 0) = some (r1, r2) := H
  have A6 := zm A60
  clear A60
  have H' := zm H
  clear H
  go_enter Try.func17, Try.ntmps17
  go_wp2_with (first | ((with_reducible refine gate_dst (N := 3) rfl ?_); refine box_event ?hg (N := 3) ?hd (cs := #[.slice A0_0 l0_0.length c0_0, .int .i64 a0_1]) (t := 32) ?hr ?_; (case hd => rfl); (case hg => rfl); (case hr => first | (go_simp; done) | (go_simp; rfl)); intro gb462 hg w7 hbox hb; have n0_ := zm (below_step zb hb); have n1_ := zm (hbox); have n2_ := zm (zs hg zb : w.heap.size ≤ gb462); have n3_ := zm (zs hg zb : w.heap.size ≤ gb462); clear HB; have HB := n0_; have BK462 := n1_; have GW462 := n2_; have GE462 := n3_; clear n0_ n1_ n2_ n3_; clear hb hbox hg) | ((with_reducible refine gate_dst (N := 5) rfl ?_); refine box_event ?hg (N := 5) ?hd (cs := #[.int .i64 a2_0, .int .i64 a2_1, .int .i64 a2_2]) (t := 36) ?hr ?_; (case hd => rfl); (case hg => rfl); (case hr => first | (go_simp; done) | (go_simp; rfl)); intro gb463 hg w8 hbox hb; have n0_ := zm (blk_below (g := gb462) zk hb); have n1_ := zm (below_step zb hb); have n2_ := zm (hbox); have n3_ := zm (zs hg zb : w.heap.size ≤ gb463); have n4_ := zm (zs hg zb : w.heap.size ≤ gb463); have n5_ := zm (zl hg zk : gb462 ≠ gb463); have n6_ := zm (zg hg zk : gb463 ≠ gb462); clear BK462; clear HB; have BK462 := n0_; have HB := n1_; have BK463 := n2_; have GW463 := n3_; have GE463 := n4_; have NB462_463 := n5_; have NB463_462 := n6_; clear n0_ n1_ n2_ n3_ n4_ n5_ n6_; clear hb hbox hg; have hnb9 := NB462_463.out; have hnc9 := NB463_462.out; obtain ⟨hcz10_0, hcz10_1, hfz10_0, hfz10_1⟩ := zc2 BK462.out; obtain ⟨hcz11_0, hcz11_1, hcz11_2, hfz11_0, hfz11_1, hfz11_2⟩ := zc3 BK463.out) | ((with_reducible refine gate_callee (f := 53) rfl ?_); refine goesL_ (some 16) rfl rfl Try.func53 (by kernel_rfl) rfl #[.agg #[.slice A0_0 l0_0.length c0_0, .int .i64 a0_1], .slice A1 l1.length c1, .agg #[.int .i64 a2_0, .int .i64 a2_1, .int .i64 a2_2]] rfl (by (try simp only [List.map_toArray, List.map_cons, List.map_nil]); first | done | rfl | (simp only [List.length_drop, List.length_take]; rfl)) ?_; (with_reducible refine (impl_canBePlayed.calls k _ _ l0_0 a0_1 _ _ l1 a2_0 a2_1 a2_2 true _ ?side1 ?side2 ?side3 ?side4 A4.out).mono ?_); (case side1 => repeat (first | exact (Kd.C_below HR0_0.out HB.out) | (with_reducible refine Kd.C_alloc ?_ _) | (with_reducible refine Kd.C_drewN ?_ _) | (with_reducible refine Kd.C_drew ?_))); (case side2 => exact HC0_0.out); (case side3 => repeat (first | exact (Kd.C_below HR1.out HB.out) | (with_reducible refine Kd.C_alloc ?_ _) | (with_reducible refine Kd.C_drewN ?_ _) | (with_reducible refine Kd.C_drew ?_))); (case side4 => exact HC1.out); rintro e w12 ⟨rfl, hb⟩; refine ⟨_, rfl, ?_⟩; have n0_ := zm (blk_below (g := gb462) zk hb); have n1_ := zm (blk_below (g := gb463) zk hb); have n2_ := zm (below_step zb hb); clear BK462; clear BK463; clear HB; have BK462 := n0_; have BK463 := n1_; have HB := n2_; clear n0_ n1_ n2_; (try clear hb); (try clear hb2); (try clear hk); (try clear hi); obtain ⟨hcz13_0, hcz13_1, hcz13_2, hfz13_0, hfz13_1, hfz13_2⟩ := zc3 BK463.out; obtain ⟨hcz14_0, hcz14_1, hfz14_0, hfz14_1⟩ := zc2 BK462.out) | ((with_reducible refine gate_callee (f := 54) rfl ?_); refine goesL_ (some 23) rfl rfl Try.func54 (by kernel_rfl) rfl #[.agg #[.slice A0_0 l0_0.length c0_0, .int .i64 a0_1], .slice A1 l1.length c1, .agg #[.int .i64 a2_0, .int .i64 a2_1, .int .i64 0]] rfl (by (try simp only [List.map_toArray, List.map_cons, List.map_nil]); first | done | rfl | (simp only [List.length_drop, List.length_take]; rfl)) ?_; (with_reducible refine (impl_spoken.calls k _ _ l0_0 a0_1 _ _ l1 a2_0 a2_1 0 t465 t468 _ ?side1 ?side2 ?side3 ?side4 A6.out).mono ?_); (case side1 => exact Kd.C_below HR0_0.out zb); (case side2 => exact HC0_0.out); (case side3 => exact Kd.C_below HR1.out zb); (case side4 => exact HC1.out); rintro e w15 ⟨v466, v469, rfl, ho0, ho1, hb⟩; refine ⟨_, rfl, ?_⟩; have n0_ := zm (Kd.R_lower ho0 (below_size zb)); have n1_ := zm (Kd.R_lower ho1 (below_size zb)); have n2_ := zm (blk_below (g := gb462) (o := .cells #[.slice A0_0 l0_0.length c0_0, .int .i64 a0_1] 32 (0, 0)) zK hb); have n3_ := zm (blk_below (g := gb463) (o := .cells #[.int .i64 a2_0, .int .i64 a2_1, .int .i64 0] 36 (0, 0)) (by (with_reducible repeat (first | refine blk_drewN ?_ _ | refine blk_drew ?_ | refine blk_alloc ?_ _)); refine blk_put (cs := #[.int .i64 a2_0, .int .i64 a2_1, .int .i64 a2_2]) ?_ 2 _ rfl; (with_reducible repeat (first | refine blk_drewN ?_ _ | refine blk_drew ?_ | refine blk_alloc ?_ _)); exact BK463.out) hb); have n4_ := zm (below_step zb hb); clear BK462; clear BK463; clear HB; have HO467 := n0_; have HO470 := n1_; have BK462 := n2_; have BK463 := n3_; have HB := n4_; clear n0_ n1_ n2_ n3_ n4_; (try clear hb); (try clear hb2); (try clear hk); (try clear hi); (try clear ho0); (try clear ho1)))
  go_loopg [10] k (fun kq v10 w' => ∃ (x10_1 : Int) (x464002_1 : Int), v10 = .int .i64 x10_1 ∧ Aside0 (impl_GreatestLeast.l0 kq l1 t465 x10_1 l0_0 a0_1 a2_0 a2_1 x464002_1 = some (r1, r2)) ∧ Aside0 (kq ≤ k) ∧ Aside0 (Kd.R k79 79 w' w.heap.size (fun _ => True) v466 t465) ∧ Aside0 (w'.heap[gb462]? = some (.cells #[(.slice A0_0 l0_0.length c0_0), .int .i64 a0_1] 32 (0, 0))) ∧ Aside0 (w'.heap[gb463]? = some (.cells #[.int .i64 a2_0, .int .i64 a2_1, .int .i64 x464002_1] 36 (0, 0))) ∧ Aside0 (Below w.heap.size w w'))
  case atStart => exact ⟨(40), (0), (by first | rfl | (simp; done) | (simp [*]; done)), H', ⟨Nat.le_refl _⟩, ⟨by (with_reducible repeat (first | apply Kd.R_alloc | apply Kd.R_drewN | apply Kd.R_drew)); exact HO467.out⟩, ⟨zk⟩, ⟨zk⟩, ⟨zb⟩⟩
  case round =>
   clear H'
   try clear c1
   try clear p2
   try clear c5
   try clear c9
   try clear hcz10_0
   try clear hcz10_1
   try clear hcz11_0
   try clear hcz11_1
   try clear hcz11_2
   try clear hcz13_0
   try clear hcz13_1
   try clear hcz13_2
   try clear hcz14_0
   try clear hcz14_1
   try clear hfz10_0
   try clear hfz10_1
   try clear hfz11_0
   try clear hfz11_1
   try clear hfz11_2
   try clear hfz13_0
   try clear hfz13_1
   try clear hfz13_2
   try clear hfz14_0
   try clear hfz14_1
   obtain ⟨x10_1, x464002_1, rfl, HA, HK1, HO_8, BK462, BK463, HB⟩ := hrel
   cases gk with
   | zero => exact absurd HA.out (by simp [impl_GreatestLeast.l0])
   | succ k1 =>
    have H := HA.out
    clear HA
    simp only [impl_GreatestLeast.l0] at H
    by_cases c16 : x10_1 > 0
    ·
     rw [if_pos c16] at H
     have c16b0 : decide (0 < x10_1) = true := decide_eq_true c16
     clear c16
     replace H := Option.bind_eq_some_iff.mp H
     obtain ⟨⟨t471, t474⟩, A170, H⟩ := H
     replace H : (if (t471.length : Int) = (t465.length : Int) then (some (x10_1, true)) else (impl_GreatestLeast.l0 k1 l1 t465 (wrap64 (x10_1 - 1)) l0_0 a0_1 a2_0 a2_1 x10_1)) = some (r1, r2) := H
     have A17 := zm A170
     clear A170
     by_cases c18 : (t471.length : Int) = (t465.length : Int)
     ·
      rw [if_pos c18] at H
      have c18b0 : ((t471.length : Int) == (t465.length : Int)) = true := beq_iff_eq.mpr c18
      have c18b1 : ((t471.length : Int) != (t465.length : Int)) = false := bne_eq_false_iff_eq.mpr c18
      have c18b2 : (t471.length == t465.length) = true := by first | simpa using c18 | (simp at c18 ⊢; omega)
      clear c18
      simp only [Option.some.injEq, Prod.mk.injEq] at H
      obtain ⟨rfl, rfl⟩ := H
      have hnb19 := NB463_462.out
      have hnc19 := NB462_463.out
      obtain ⟨hcz20_0, hcz20_1, hcz20_2, hfz20_0, hfz20_1, hfz20_2⟩ := zc3 BK463.out
      obtain ⟨hcz21_0, hcz21_1, hfz21_0, hfz21_1⟩ := zc2 BK462.out
      go_wp2_with (first | ((with_reducible refine gate_callee (f := 54) rfl ?_); refine goesL_ (some 36) rfl rfl Try.func54 (by kernel_rfl) rfl #[.agg #[.slice A0_0 l0_0.length c0_0, .int .i64 a0_1], .slice A1 l1.length c1, .agg #[.int .i64 a2_0, .int .i64 a2_1, .int .i64 x10_1]] rfl (by (try simp only [List.map_toArray, List.map_cons, List.map_nil]); first | done | rfl | (simp only [List.length_drop, List.length_take]; rfl)) ?_; (with_reducible refine (impl_spoken.calls k1 _ _ l0_0 a0_1 _ _ l1 a2_0 a2_1 x10_1 t471 t474 _ ?side1 ?side2 ?side3 ?side4 A17.out).mono ?_); (case side1 => exact Kd.C_below HR0_0.out zb); (case side2 => exact HC0_0.out); (case side3 => exact Kd.C_below HR1.out zb); (case side4 => exact HC1.out); rintro e w22 ⟨v472, v475, rfl, ho0, ho1, hb⟩; refine ⟨_, rfl, ?_⟩; have n0_ := zm (Kd.R_elder' (by (with_reducible repeat (first | apply Kd.R_alloc | apply Kd.R_drewN | apply Kd.R_drew)); exact (Kd.R_mono (Kd.R_far (p := ⟨gb463, 2, none⟩) (Kd.R_types HO_8.out BK463.out (by decide)) (fun _ hk => hk.2) (.int .i64 x10_1)) (fun _ h_ => h_.1))) (Kd.R_base ho0) hb); have n1_ := zm (Kd.R_lower (Kd.R_new' ho0 (Kd.R_lt (by (with_reducible repeat (first | apply Kd.R_alloc | apply Kd.R_drewN | apply Kd.R_drew)); exact (Kd.R_mono (Kd.R_far (p := ⟨gb463, 2, none⟩) (Kd.R_types HO_8.out BK463.out (by decide)) (fun _ hk => hk.2) (.int .i64 x10_1)) (fun _ h_ => h_.1))))) (below_size zb)); have n2_ := zm (Kd.R_lower ho1 (below_size zb)); have n3_ := zm (blk_below (g := gb462) (o := .cells #[.slice A0_0 l0_0.length c0_0, .int .i64 a0_1] 32 (0, 0)) zK hb); have n4_ := zm (blk_below (g := gb463) (o := .cells #[.int .i64 a2_0, .int .i64 a2_1, .int .i64 x10_1] 36 (0, 0)) (by (with_reducible repeat (first | refine blk_drewN ?_ _ | refine blk_drew ?_ | refine blk_alloc ?_ _)); refine blk_put (cs := #[.int .i64 a2_0, .int .i64 a2_1, .int .i64 x464002_1]) ?_ 2 _ rfl; (with_reducible repeat (first | refine blk_drewN ?_ _ | refine blk_drew ?_ | refine blk_alloc ?_ _)); exact BK463.out) hb); have n5_ := zm (below_step zb hb); clear HO_8; clear BK462; clear BK463; clear HB; have HO_8 := n0_; have HO473 := n1_; have HO476 := n2_; have BK462 := n3_; have BK463 := n4_; have HB := n5_; clear n0_ n1_ n2_ n3_ n4_ n5_; (try clear hb); (try clear hb2); (try clear hk); (try clear hi); (try clear ho0); (try clear ho1); obtain ⟨Ao23, co23, eo23⟩ := Kd.R_slice HO473.out; subst eo23; obtain ⟨Ao24, co24, eo24⟩ := Kd.R_slice HO_8.out; subst eo24))
      go_ret2
      exact ⟨zr, zb⟩
     ·
      rw [if_neg c18] at H
      have c18b0 : ((t471.length : Int) == (t465.length : Int)) = false := beq_eq_false_iff_ne.mpr c18
      have c18b1 : ((t471.length : Int) != (t465.length : Int)) = true := bne_iff_ne.mpr c18
      have c18b2 : (t471.length == t465.length) = false := by first | simpa using c18 | (simp at c18 ⊢; omega)
      have H' := zm H
      clear H
      have hnb25 := NB463_462.out
      have hnc25 := NB462_463.out
      obtain ⟨hcz26_0, hcz26_1, hcz26_2, hfz26_0, hfz26_1, hfz26_2⟩ := zc3 BK463.out
      obtain ⟨hcz27_0, hcz27_1, hfz27_0, hfz27_1⟩ := zc2 BK462.out
      go_wp2_with (first | ((with_reducible refine gate_callee (f := 54) rfl ?_); refine goesL_ (some 36) rfl rfl Try.func54 (by kernel_rfl) rfl #[.agg #[.slice A0_0 l0_0.length c0_0, .int .i64 a0_1], .slice A1 l1.length c1, .agg #[.int .i64 a2_0, .int .i64 a2_1, .int .i64 x10_1]] rfl (by (try simp only [List.map_toArray, List.map_cons, List.map_nil]); first | done | rfl | (simp only [List.length_drop, List.length_take]; rfl)) ?_; (with_reducible refine (impl_spoken.calls k1 _ _ l0_0 a0_1 _ _ l1 a2_0 a2_1 x10_1 t471 t474 _ ?side1 ?side2 ?side3 ?side4 A17.out).mono ?_); (case side1 => exact Kd.C_below HR0_0.out zb); (case side2 => exact HC0_0.out); (case side3 => exact Kd.C_below HR1.out zb); (case side4 => exact HC1.out); rintro e w28 ⟨v472, v475, rfl, ho0, ho1, hb⟩; refine ⟨_, rfl, ?_⟩; have n0_ := zm (Kd.R_elder' (by (with_reducible repeat (first | apply Kd.R_alloc | apply Kd.R_drewN | apply Kd.R_drew)); exact (Kd.R_mono (Kd.R_far (p := ⟨gb463, 2, none⟩) (Kd.R_types HO_8.out BK463.out (by decide)) (fun _ hk => hk.2) (.int .i64 x10_1)) (fun _ h_ => h_.1))) (Kd.R_base ho0) hb); have n1_ := zm (Kd.R_lower (Kd.R_new' ho0 (Kd.R_lt (by (with_reducible repeat (first | apply Kd.R_alloc | apply Kd.R_drewN | apply Kd.R_drew)); exact (Kd.R_mono (Kd.R_far (p := ⟨gb463, 2, none⟩) (Kd.R_types HO_8.out BK463.out (by decide)) (fun _ hk => hk.2) (.int .i64 x10_1)) (fun _ h_ => h_.1))))) (below_size zb)); have n2_ := zm (Kd.R_lower ho1 (below_size zb)); have n3_ := zm (blk_below (g := gb462) (o := .cells #[.slice A0_0 l0_0.length c0_0, .int .i64 a0_1] 32 (0, 0)) zK hb); have n4_ := zm (blk_below (g := gb463) (o := .cells #[.int .i64 a2_0, .int .i64 a2_1, .int .i64 x10_1] 36 (0, 0)) (by (with_reducible repeat (first | refine blk_drewN ?_ _ | refine blk_drew ?_ | refine blk_alloc ?_ _)); refine blk_put (cs := #[.int .i64 a2_0, .int .i64 a2_1, .int .i64 x464002_1]) ?_ 2 _ rfl; (with_reducible repeat (first | refine blk_drewN ?_ _ | refine blk_drew ?_ | refine blk_alloc ?_ _)); exact BK463.out) hb); have n5_ := zm (below_step zb hb); clear HO_8; clear BK462; clear BK463; clear HB; have HO_8 := n0_; have HO473 := n1_; have HO476 := n2_; have BK462 := n3_; have BK463 := n4_; have HB := n5_; clear n0_ n1_ n2_ n3_ n4_ n5_; (try clear hb); (try clear hb2); (try clear hk); (try clear hi); (try clear ho0); (try clear ho1); obtain ⟨Ao29, co29, eo29⟩ := Kd.R_slice HO473.out; subst eo29; obtain ⟨Ao30, co30, eo30⟩ := Kd.R_slice HO_8.out; subst eo30))
      go_roundg k1
      case measure => have := HK1.out; omega
      case rel => exact ⟨(wrap64 (x10_1 - 1)), (x10_1), (by first | rfl | (simp; done) | (simp [*]; done)), H', ⟨by have := HK1.out; omega⟩, ⟨by (with_reducible repeat (first | apply Kd.R_alloc | apply Kd.R_drewN | apply Kd.R_drew)); exact Kd.R_mono HO_8.out (fun _ hk => trivial)⟩, ⟨zk⟩, ⟨zk⟩, ⟨zb⟩⟩
    ·
     rw [if_neg c16] at H
     have c16b0 : decide (0 < x10_1) = false := decide_eq_false c16
     clear c16
     simp only [Option.some.injEq, Prod.mk.injEq] at H
     obtain ⟨rfl, rfl⟩ := H
     go_wp2
     go_ret2
     exact ⟨zr, zb⟩
 ·
  replace c5 := Bool.eq_false_iff.mpr c5
  subst c5
  have H1 : (some (0, false)) = some (r1, r2) := by rw [if_neg (show ¬ (false = true) by decide)] at H; exact H
  clear H
  have H := H1
  clear H1
  simp only [Option.some.injEq, Prod.mk.injEq] at H
  obtain ⟨rfl, rfl⟩ := H
  go_enter Try.func17, Try.ntmps17
  go_wp2_with (first | ((with_reducible refine gate_dst (N := 3) rfl ?_); refine box_event ?hg (N := 3) ?hd (cs := #[.slice A0_0 l0_0.length c0_0, .int .i64 a0_1]) (t := 32) ?hr ?_; (case hd => rfl); (case hg => rfl); (case hr => first | (go_simp; done) | (go_simp; rfl)); intro gb462 hg w31 hbox hb; have n0_ := zm (below_step zb hb); have n1_ := zm (hbox); have n2_ := zm (zs hg zb : w.heap.size ≤ gb462); have n3_ := zm (zs hg zb : w.heap.size ≤ gb462); clear HB; have HB := n0_; have BK462 := n1_; have GW462 := n2_; have GE462 := n3_; clear n0_ n1_ n2_ n3_; clear hb hbox hg) | ((with_reducible refine gate_dst (N := 5) rfl ?_); refine box_event ?hg (N := 5) ?hd (cs := #[.int .i64 a2_0, .int .i64 a2_1, .int .i64 a2_2]) (t := 36) ?hr ?_; (case hd => rfl); (case hg => rfl); (case hr => first | (go_simp; done) | (go_simp; rfl)); intro gb463 hg w32 hbox hb; have n0_ := zm (blk_below (g := gb462) zk hb); have n1_ := zm (below_step zb hb); have n2_ := zm (hbox); have n3_ := zm (zs hg zb : w.heap.size ≤ gb463); have n4_ := zm (zs hg zb : w.heap.size ≤ gb463); have n5_ := zm (zl hg zk : gb462 ≠ gb463); have n6_ := zm (zg hg zk : gb463 ≠ gb462); clear BK462; clear HB; have BK462 := n0_; have HB := n1_; have BK463 := n2_; have GW463 := n3_; have GE463 := n4_; have NB462_463 := n5_; have NB463_462 := n6_; clear n0_ n1_ n2_ n3_ n4_ n5_ n6_; clear hb hbox hg; have hnb33 := NB462_463.out; have hnc33 := NB463_462.out; obtain ⟨hcz34_0, hcz34_1, hfz34_0, hfz34_1⟩ := zc2 BK462.out; obtain ⟨hcz35_0, hcz35_1, hcz35_2, hfz35_0, hfz35_1, hfz35_2⟩ := zc3 BK463.out) | ((with_reducible refine gate_callee (f := 53) rfl ?_); refine goesL_ (some 16) rfl rfl Try.func53 (by kernel_rfl) rfl #[.agg #[.slice A0_0 l0_0.length c0_0, .int .i64 a0_1], .slice A1 l1.length c1, .agg #[.int .i64 a2_0, .int .i64 a2_1, .int .i64 a2_2]] rfl (by (try simp only [List.map_toArray, List.map_cons, List.map_nil]); first | done | rfl | (simp only [List.length_drop, List.length_take]; rfl)) ?_; (with_reducible refine (impl_canBePlayed.calls k _ _ l0_0 a0_1 _ _ l1 a2_0 a2_1 a2_2 false _ ?side1 ?side2 ?side3 ?side4 A4.out).mono ?_); (case side1 => repeat (first | exact (Kd.C_below HR0_0.out HB.out) | (with_reducible refine Kd.C_alloc ?_ _) | (with_reducible refine Kd.C_drewN ?_ _) | (with_reducible refine Kd.C_drew ?_))); (case side2 => exact HC0_0.out); (case side3 => repeat (first | exact (Kd.C_below HR1.out HB.out) | (with_reducible refine Kd.C_alloc ?_ _) | (with_reducible refine Kd.C_drewN ?_ _) | (with_reducible refine Kd.C_drew ?_))); (case side4 => exact HC1.out); rintro e w36 ⟨rfl, hb⟩; refine ⟨_, rfl, ?_⟩; have n0_ := zm (blk_below (g := gb462) zk hb); have n1_ := zm (blk_below (g := gb463) zk hb); have n2_ := zm (below_step zb hb); clear BK462; clear BK463; clear HB; have BK462 := n0_; have BK463 := n1_; have HB := n2_; clear n0_ n1_ n2_; (try clear hb); (try clear hb2); (try clear hk); (try clear hi)))
  go_ret2
  exact ⟨zr, zb⟩

end Go.Proofs.Ytioheacdldgaaaa.PAll
