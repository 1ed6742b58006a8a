-- Written for this claim by a program of this session (wip/tpl/patchprint.py), not by print.sh.
import Derived.Test.YtioheacdldgaaaaPAllx0
import Derived.Test.YtioheacdldgaaaaPAllx4
import Derived.Test.YtioheacdldgaaaaPAllx7
import Derived.Test.YtioheacdldgaaaaPAllx22
import Derived.Test.YtioheacdldgaaaaPAllx25
import Derived.Test.YtioheacdldgaaaaPAllx26
namespace Go.Proofs.Ytioheacdldgaaaa.PAll
open Go.RowKit Go.Proofs.YtioheacdldgaaaaW.PrintWords Go.Proofs.YtioheacdldgaaaaW.PrintLast Go.Proofs.YtioheacdldgaaaaW.PrintMore
attribute [local go_sem] max2_int min2_int max_two min_two max_three min_three max_four min_four   -- for this text's walks alone
set_option linter.unusedVariables false
set_option linter.unusedSimpArgs false

/-! ### spec_WindNeeded: function 44 -/
def spec_WindNeeded.l0 : Nat → List (S79) → Int → List (S79) → Int → Int → Option (Int × Bool)
  | 0, _, _, _, _, _ => none
  | k + 1, x8, x10, x25, x26, x27 => if x27 < x26 then (if 0 ≤ x27 then (if x27 < (x25.length : Int) then ((spec_pyAt.f k x8 ((rd_T79 x25 x27).f1)).bind fun t906 => ((spec_l1Most.f x10 (t906.length : Int)).bind fun t909 => (spec_WindNeeded.l0 k x8 t909 x25 x26 (wrap64 (x27 + 1))))) else (none)) else (none)) else (some (x10, true))
def spec_WindNeeded.f (k : Nat) (l0_0 : List Int) (a0_1 : Int) (l1 : List (S73)) (a2_0 : Int) (a2_1 : Int) (a2_2 : Int) : Option (Int × Bool) := (spec_pyAsked.f k l0_0 a0_1 l1 a2_0 a2_1 a2_2).bind fun t897 => (if t897 = true then ((spec_pyAll.f k l0_0 a0_1 l1 a2_0 a2_1 a2_2).bind fun bt898 => (spec_WindNeeded.l0 k bt898.1 0 bt898.1 (bt898.1.length : Int) 0)) else (some (0, false)))
theorem spec_WindNeeded.mono_l : ∀ k, (∀ y0 y1 y2 y3 y4, LeO (spec_WindNeeded.l0 k y0 y1 y2 y3 y4) (spec_WindNeeded.l0 (k + 1) y0 y1 y2 y3 y4))
  | 0 => fun _ _ _ _ _ r h => by simp [spec_WindNeeded.l0] at h
  | k + 1 => by
    have ih0 := spec_WindNeeded.mono_l k
    · intro y0 y1 y2 y3 y4
      unfold spec_WindNeeded.l0
      repeat' first
      | (with_reducible exact ih0 _ _ _ _ _)
      | (with_reducible exact spec_pyAll.mono _ _ _ _ _ _ _)
      | (with_reducible exact spec_pyAsked.mono _ _ _ _ _ _ _)
      | (with_reducible exact spec_pyAt.mono _ _ _)
      | (with_reducible exact LeO.refl _)
      | (with_reducible exact LeO.none _)
      | (with_reducible refine LeO.ite ?_ ?_)
      | (with_reducible refine LeO.bind ?_ (fun _ => ?_))
      | exact ih0 _ _ _ _ _
      | exact spec_pyAll.mono _ _ _ _ _ _ _
      | exact spec_pyAsked.mono _ _ _ _ _ _ _
      | exact spec_pyAt.mono _ _ _
      | exact LeO.none _
      | refine LeO.ite ?_ ?_
      | refine LeO.bind ?_ (fun _ => ?_)
theorem spec_WindNeeded.mono : ∀ a0 a1 a2 a3 a4 a5 k, LeO (spec_WindNeeded.f k a0 a1 a2 a3 a4 a5) (spec_WindNeeded.f (k + 1) a0 a1 a2 a3 a4 a5) := by
  intro a0 a1 a2 a3 a4 a5 k
  have ih0 := spec_WindNeeded.mono_l k
  unfold spec_WindNeeded.f
  repeat' first
      | (with_reducible exact ih0 _ _ _ _ _)
      | (with_reducible exact spec_pyAll.mono _ _ _ _ _ _ _)
      | (with_reducible exact spec_pyAsked.mono _ _ _ _ _ _ _)
      | (with_reducible exact spec_pyAt.mono _ _ _)
      | (with_reducible exact LeO.refl _)
      | (with_reducible exact LeO.none _)
      | (with_reducible refine LeO.ite ?_ ?_)
      | (with_reducible refine LeO.bind ?_ (fun _ => ?_))
      | exact ih0 _ _ _ _ _
      | exact spec_pyAll.mono _ _ _ _ _ _ _
      | exact spec_pyAsked.mono _ _ _ _ _ _ _
      | exact spec_pyAt.mono _ _ _
      | exact LeO.none _
      | refine LeO.ite ?_ ?_
      | refine LeO.bind ?_ (fun _ => ?_)
set_option maxHeartbeats 8000000 in
set_option maxRecDepth 100000 in
theorem spec_WindNeeded.calls (k : Nat) (A0_0 : Option Addr) (c0_0 : Nat) (l0_0 : List Int) (a0_1 : Int) (A1 : Option Addr) (c1 : Nat) (l1 : List (S73)) (a2_0 : Int) (a2_1 : Int) (a2_2 : Int) (r1 : Int) (r2 : Bool) (w : World) (hr0_0 : Kd.C (Kd.int .i64) w A0_0 l0_0.length l0_0) (hc0_0 : l0_0.length ≤ c0_0) (hr1 : Kd.C k73 w A1 l1.length l1) (hc1 : l1.length ≤ c1) (h : spec_WindNeeded.f k l0_0 a0_1 l1 a2_0 a2_1 a2_2 = some (r1, r2)) :
  Calls Try.prog 44 #[.agg #[.slice A0_0 l0_0.length c0_0, .int .i64 a0_1], .slice A1 l1.length c1, .agg #[.int .i64 a2_0, .int .i64 a2_1, .int .i64 a2_2]] w fun e w' => e = .returned (.tuple #[.int .i64 r1, .bool r2]) ∧ Below w.heap.size w w' := by
 have hu32 := Try.underlying32
 have hu36 := Try.underlying36
 have hu79 := Try.underlying79
 have HR0_0 := zm hr0_0
 have HC0_0 := zm hc0_0
 clear hr0_0 hc0_0
 have HR1 := zm hr1
 have HC1 := zm hc1
 clear hr1 hc1
 have HB := zm (Below.refl w.heap.size w)
 have H : ((spec_pyAsked.f k l0_0 a0_1 l1 a2_0 a2_1 a2_2).bind fun t897 => (if t897 = true then ((spec_pyAll.f k l0_0 a0_1 l1 a2_0 a2_1 a2_2).bind fun bt898 => (spec_WindNeeded.l0 k bt898.1 0 bt898.1 (bt898.1.length : Int) 0)) else (some (0, false)))) = some (r1, r2) := h
 clear h
 replace H := Option.bind_eq_some_iff.mp H
 obtain ⟨t897, A40, H⟩ := H
 replace H : (if t897 = true then ((spec_pyAll.f k l0_0 a0_1 l1 a2_0 a2_1 a2_2).bind fun bt898 => (spec_WindNeeded.l0 k bt898.1 0 bt898.1 (bt898.1.length : Int) 0)) else (some (0, false))) = some (r1, r2) := H
 have A4 := zm A40
 clear A40
 by_cases c5 : t897 = true
 ·
  subst c5
  have H1 : ((spec_pyAll.f k l0_0 a0_1 l1 a2_0 a2_1 a2_2).bind fun bt898 => (spec_WindNeeded.l0 k bt898.1 0 bt898.1 (bt898.1.length : Int) 0)) = some (r1, r2) := by rw [if_pos rfl] at H; exact H
  clear H
  have H := H1
  clear H1
  replace H := Option.bind_eq_some_iff.mp H
  obtain ⟨⟨t898, t901⟩, A60, H⟩ := H
  replace H : (spec_WindNeeded.l0 k t898 0 t898 (t898.length : Int) 0) = some (r1, r2) := H
  have A6 := zm A60
  clear A60
  have H' := zm H
  clear H
  go_enter Try.func44, Try.ntmps44
  go_wp2_with (first | ((with_reducible refine gate_dst (N := 3) rfl ?_); refine box_event ?hg (N := 3) ?hd (cs := #[.slice A0_0 l0_0.length c0_0, .int .i64 a0_1]) (t := 32) ?hr ?_; (case hd => rfl); (case hg => rfl); (case hr => first | (go_simp; done) | (go_simp; rfl)); intro gb895 hg w7 hbox hb; have n0_ := zm (below_step zb hb); have n1_ := zm (hbox); have n2_ := zm (zs hg zb : w.heap.size ≤ gb895); have n3_ := zm (zs hg zb : w.heap.size ≤ gb895); clear HB; have HB := n0_; have BK895 := n1_; have GW895 := n2_; have GE895 := n3_; clear n0_ n1_ n2_ n3_; clear hb hbox hg) | ((with_reducible refine gate_dst (N := 5) rfl ?_); refine box_event ?hg (N := 5) ?hd (cs := #[.int .i64 a2_0, .int .i64 a2_1, .int .i64 a2_2]) (t := 36) ?hr ?_; (case hd => rfl); (case hg => rfl); (case hr => first | (go_simp; done) | (go_simp; rfl)); intro gb896 hg w8 hbox hb; have n0_ := zm (blk_below (g := gb895) zk hb); have n1_ := zm (below_step zb hb); have n2_ := zm (hbox); have n3_ := zm (zs hg zb : w.heap.size ≤ gb896); have n4_ := zm (zs hg zb : w.heap.size ≤ gb896); have n5_ := zm (zl hg zk : gb895 ≠ gb896); have n6_ := zm (zg hg zk : gb896 ≠ gb895); clear BK895; clear HB; have BK895 := n0_; have HB := n1_; have BK896 := n2_; have GW896 := n3_; have GE896 := n4_; have NB895_896 := n5_; have NB896_895 := n6_; clear n0_ n1_ n2_ n3_ n4_ n5_ n6_; clear hb hbox hg; have hnb9 := NB895_896.out; have hnc9 := NB896_895.out; obtain ⟨hcz10_0, hcz10_1, hfz10_0, hfz10_1⟩ := zc2 BK895.out; obtain ⟨hcz11_0, hcz11_1, hcz11_2, hfz11_0, hfz11_1, hfz11_2⟩ := zc3 BK896.out) | ((with_reducible refine gate_callee (f := 49) rfl ?_); refine goesL_ (some 16) rfl rfl Try.func49 (by kernel_rfl) rfl #[.agg #[.slice A0_0 l0_0.length c0_0, .int .i64 a0_1], .slice A1 l1.length c1, .agg #[.int .i64 a2_0, .int .i64 a2_1, .int .i64 a2_2]] rfl (by (try simp only [List.map_toArray, List.map_cons, List.map_nil]); first | done | rfl | (simp only [List.length_drop, List.length_take]; rfl)) ?_; (with_reducible refine (spec_pyAsked.calls k _ _ l0_0 a0_1 _ _ l1 a2_0 a2_1 a2_2 true _ ?side1 ?side2 ?side3 ?side4 A4.out).mono ?_); (case side1 => repeat (first | exact (Kd.C_below HR0_0.out HB.out) | (with_reducible refine Kd.C_alloc ?_ _) | (with_reducible refine Kd.C_drewN ?_ _) | (with_reducible refine Kd.C_drew ?_))); (case side2 => exact HC0_0.out); (case side3 => repeat (first | exact (Kd.C_below HR1.out HB.out) | (with_reducible refine Kd.C_alloc ?_ _) | (with_reducible refine Kd.C_drewN ?_ _) | (with_reducible refine Kd.C_drew ?_))); (case side4 => exact HC1.out); rintro e w12 ⟨rfl, hb⟩; refine ⟨_, rfl, ?_⟩; have n0_ := zm (blk_below (g := gb895) zk hb); have n1_ := zm (blk_below (g := gb896) zk hb); have n2_ := zm (below_step zb hb); clear BK895; clear BK896; clear HB; have BK895 := n0_; have BK896 := n1_; have HB := n2_; clear n0_ n1_ n2_; (try clear hb); (try clear hb2); (try clear hk); (try clear hi); obtain ⟨hcz13_0, hcz13_1, hfz13_0, hfz13_1⟩ := zc2 BK895.out; obtain ⟨hcz14_0, hcz14_1, hcz14_2, hfz14_0, hfz14_1, hfz14_2⟩ := zc3 BK896.out) | ((with_reducible refine gate_callee (f := 50) rfl ?_); refine goesL_ (some 22) rfl rfl Try.func50 (by kernel_rfl) rfl #[.agg #[.slice A0_0 l0_0.length c0_0, .int .i64 a0_1], .slice A1 l1.length c1, .agg #[.int .i64 a2_0, .int .i64 a2_1, .int .i64 a2_2]] rfl (by (try simp only [List.map_toArray, List.map_cons, List.map_nil]); first | done | rfl | (simp only [List.length_drop, List.length_take]; rfl)) ?_; (with_reducible refine (spec_pyAll.calls k _ _ l0_0 a0_1 _ _ l1 a2_0 a2_1 a2_2 t898 t901 _ ?side1 ?side2 ?side3 ?side4 A6.out).mono ?_); (case side1 => repeat (first | exact (Kd.C_below HR0_0.out HB.out) | (with_reducible refine Kd.C_alloc ?_ _) | (with_reducible refine Kd.C_drewN ?_ _) | (with_reducible refine Kd.C_drew ?_))); (case side2 => exact HC0_0.out); (case side3 => repeat (first | exact (Kd.C_below HR1.out HB.out) | (with_reducible refine Kd.C_alloc ?_ _) | (with_reducible refine Kd.C_drewN ?_ _) | (with_reducible refine Kd.C_drew ?_))); (case side4 => exact HC1.out); rintro e w15 ⟨v899, v902, rfl, ho0, ho1, hb⟩; refine ⟨_, rfl, ?_⟩; have n0_ := zm (Kd.R_lower ho0 (below_size zb)); have n1_ := zm (Kd.R_lower ho1 (below_size zb)); have n2_ := zm (blk_below (g := gb895) zk hb); have n3_ := zm (blk_below (g := gb896) zk hb); have n4_ := zm (below_step zb hb); clear BK895; clear BK896; clear HB; have HO900 := n0_; have HO903 := n1_; have BK895 := n2_; have BK896 := n3_; have HB := n4_; clear n0_ n1_ n2_ n3_ n4_; (try clear hb); (try clear hb2); (try clear hk); (try clear hi); (try clear ho0); (try clear ho1); obtain ⟨Ao16, co16, eo16⟩ := Kd.R_slice HO900.out; subst eo16))
  go_loopg [10, 27] k (fun kq v10 v27 w' => ∃ (x10_1 : Int) (x27_1 : Int), v10 = .int .i64 x10_1 ∧ v27 = .int .i64 x27_1 ∧ Aside0 (spec_WindNeeded.l0 kq t898 x10_1 t898 (t898.length : Int) x27_1 = some (r1, r2)) ∧ Aside0 (kq ≤ k) ∧ Aside0 (Kd.R k79 79 w' w.heap.size (fun _ => True) (.slice Ao16 t898.length co16) t898) ∧ Aside0 (Kd.R k79 79 w' w.heap.size (fun _ => True) (.slice Ao16 t898.length co16) t898) ∧ Aside0 (w'.heap[gb895]? = some (.cells #[(.slice A0_0 l0_0.length c0_0), .int .i64 a0_1] 32 (0, 0))) ∧ Aside0 (w'.heap[gb896]? = some (.cells #[.int .i64 a2_0, .int .i64 a2_1, .int .i64 a2_2] 36 (0, 0))) ∧ Aside0 (Below w.heap.size w w'))
  case atStart => exact ⟨(0), (0), (by first | rfl | (simp; done) | (simp [*]; done)), (by first | rfl | (simp; done) | (simp [*]; done)), H', ⟨Nat.le_refl _⟩, ⟨by (with_reducible repeat (first | apply Kd.R_alloc | apply Kd.R_drewN | apply Kd.R_drew)); exact HO900.out⟩, ⟨by (with_reducible repeat (first | apply Kd.R_alloc | apply Kd.R_drewN | apply Kd.R_drew)); exact HO900.out⟩, ⟨zk⟩, ⟨zk⟩, ⟨zb⟩⟩
  case round =>
   clear H'
   try clear c1
   try clear p2
   try clear c4
   try clear c5
   try clear c9
   try clear hcz10_0
   try clear hcz10_1
   try clear hcz11_0
   try clear hcz11_1
   try clear hcz11_2
   try clear hcz13_0
   try clear hcz13_1
   try clear hcz14_0
   try clear hcz14_1
   try clear hcz14_2
   try clear hfz10_0
   try clear hfz10_1
   try clear hfz11_0
   try clear hfz11_1
   try clear hfz11_2
   try clear hfz13_0
   try clear hfz13_1
   try clear hfz14_0
   try clear hfz14_1
   try clear hfz14_2
   obtain ⟨x10_1, x27_1, rfl, rfl, HA, HK1, HO_8, HO_25, BK895, BK896, HB⟩ := hrel
   cases gk with
   | zero => exact absurd HA.out (by simp [spec_WindNeeded.l0])
   | succ k1 =>
    have H := HA.out
    clear HA
    simp only [spec_WindNeeded.l0] at H
    by_cases c17 : x27_1 < (t898.length : Int)
    ·
     rw [if_pos c17] at H
     have c17b0 : decide (x27_1 < (t898.length : Int)) = true := decide_eq_true c17
     clear c17
     by_cases c18 : 0 ≤ x27_1
     ·
      rw [if_pos c18] at H
      have c18b0 : decide (0 ≤ x27_1) = true := decide_eq_true c18
      clear c18
      by_cases c19 : x27_1 < (t898.length : Int)
      ·
       rw [if_pos c19] at H
       have c19b0 : decide (x27_1 < (t898.length : Int)) = true := decide_eq_true c19
       clear c19
       replace H := Option.bind_eq_some_iff.mp H
       obtain ⟨t906, A200, H⟩ := H
       replace H : ((spec_l1Most.f x10_1 (t906.length : Int)).bind fun t909 => (spec_WindNeeded.l0 k1 t898 t909 t898 (t898.length : Int) (wrap64 (x27_1 + 1)))) = some (r1, r2) := H
       have A20 := zm A200
       clear A200
       replace H := Option.bind_eq_some_iff.mp H
       obtain ⟨t909, A210, H⟩ := H
       replace H : (spec_WindNeeded.l0 k1 t898 t909 t898 (t898.length : Int) (wrap64 (x27_1 + 1))) = some (r1, r2) := H
       have A21 := zm A210
       clear A210
       have H' := zm H
       clear H
       have p904 : 0 ≤ (x27_1 : Int) := zd
       have q904 : x27_1 < (t898.length : Int) := zd
       obtain ⟨ad904, e904, hx904_0, hx904_1, hx904_2⟩ := at_T79 (Kd.R_reads' HO_25.out).2.2 x27_1 p904 q904
       cases e904
       replace p904 := eq_true p904
       replace q904 := eq_true q904
       go_wp2_with (first | ((with_reducible refine gate_dst (N := 12) rfl ?_); refine box_event ?hg (N := 12) ?hd (cs := #[.int .i64 0, .int .i64 0, .int .i64 0]) (t := 79) ?hr ?_; (case hd => rfl); (case hg => rfl); (case hr => first | (go_simp; done) | (go_simp; rfl)); intro gb905 hg w22 hbox hb; have n0_ := zm (Kd.R_below (Kd.R_elderB (by (with_reducible repeat (first | apply Kd.R_alloc | apply Kd.R_drewN | apply Kd.R_drew)); exact HO_8.out) gb905 (Nat.le_of_eq hg.symm)) hb); have n1_ := zm (Kd.R_below (Kd.R_elderB (by (with_reducible repeat (first | apply Kd.R_alloc | apply Kd.R_drewN | apply Kd.R_drew)); exact HO_25.out) gb905 (Nat.le_of_eq hg.symm)) hb); have n2_ := zm (blk_below (g := gb895) zk hb); have n3_ := zm (blk_below (g := gb896) zk hb); have n4_ := zm (below_step zb hb); have n5_ := zm (hbox); have n6_ := zm (zs hg zb : w.heap.size ≤ gb905); have n7_ := zm (zs hg zb : w.heap.size ≤ gb905); have n8_ := zm (zl hg zk : gb895 ≠ gb905); have n9_ := zm (zg hg zk : gb905 ≠ gb895); have n10_ := zm (zl hg zk : gb896 ≠ gb905); have n11_ := zm (zg hg zk : gb905 ≠ gb896); clear HO_8; clear HO_25; clear BK895; clear BK896; clear HB; have HO_8 := n0_; have HO_25 := n1_; have BK895 := n2_; have BK896 := n3_; have HB := n4_; have BK905 := n5_; have GW905 := n6_; have GE905 := n7_; have NB895_905 := n8_; have NB905_895 := n9_; have NB896_905 := n10_; have NB905_896 := n11_; clear n0_ n1_ n2_ n3_ n4_ n5_ n6_ n7_ n8_ n9_ n10_ n11_; clear hb hbox hg; have hnb23 := NB905_895.out; have hnc23 := NB895_905.out; have hnb24 := NB905_896.out; have hnc24 := NB896_905.out; obtain ⟨hcz25_0, hcz25_1, hcz25_2, hfz25_0, hfz25_1, hfz25_2⟩ := zc3 BK905.out) | ((with_reducible refine gate_callee (f := 67) rfl ?_); refine goesL_ (some 35) rfl rfl Try.func67 (by kernel_rfl) rfl #[.slice (some ad904) t898.length co16, .int .i64 ((rd_T79 t898 x27_1).f1)] rfl (by (try simp only [List.map_toArray, List.map_cons, List.map_nil]); first | done | rfl | (simp only [List.length_drop, List.length_take]; rfl)) ?_; (with_reducible refine (spec_pyAt.calls k1 _ _ t898 ((rd_T79 t898 x27_1).f1) t906 _ ?side1 ?side2 A20.out).mono ?_); (case side1 => refine (Kd.R_reads' (e := 79) (base := w.heap.size) (ok := fun k_ => (True ∧ k_ ≠ gb905)) (n := t898.length) (c := co16) ?_).2.2; exact (by (with_reducible repeat (first | apply Kd.R_alloc | apply Kd.R_drewN | apply Kd.R_drew)); exact (Kd.R_mono (Kd.R_far (p := ⟨gb905, 2, none⟩) (Kd.R_far (p := ⟨gb905, 1, none⟩) (Kd.R_far (p := ⟨gb905, 0, none⟩) (Kd.R_mono HO_8.out (fun k_ hk => (⟨hk, hk.2⟩ : _ ∧ k_ ≠ gb905))) (fun _ hk => hk.2) (.int .i64 ((rd_T79 t898 x27_1).f0))) (fun _ hk => hk.2) (.int .i64 ((rd_T79 t898 x27_1).f1))) (fun _ hk => hk.2) (.int .i64 ((rd_T79 t898 x27_1).f2))) (fun _ h_ => h_.1)))); (case side2 => exact (Kd.R_reads' HO_8.out).2.1); rintro e w26 ⟨v907, rfl, ho0, hb⟩; refine ⟨_, rfl, ?_⟩; have n0_ := zm (Kd.R_below (by (with_reducible repeat (first | apply Kd.R_alloc | apply Kd.R_drewN | apply Kd.R_drew)); exact (Kd.R_mono (Kd.R_far (p := ⟨gb905, 2, none⟩) (Kd.R_far (p := ⟨gb905, 1, none⟩) (Kd.R_far (p := ⟨gb905, 0, none⟩) (Kd.R_mono HO_8.out (fun k_ hk => (⟨hk, hk.2⟩ : _ ∧ k_ ≠ gb905))) (fun _ hk => hk.2) (.int .i64 ((rd_T79 t898 x27_1).f0))) (fun _ hk => hk.2) (.int .i64 ((rd_T79 t898 x27_1).f1))) (fun _ hk => hk.2) (.int .i64 ((rd_T79 t898 x27_1).f2))) (fun _ h_ => h_.1))) hb); have n1_ := zm (Kd.R_below (by (with_reducible repeat (first | apply Kd.R_alloc | apply Kd.R_drewN | apply Kd.R_drew)); exact (Kd.R_mono (Kd.R_far (p := ⟨gb905, 2, none⟩) (Kd.R_far (p := ⟨gb905, 1, none⟩) (Kd.R_far (p := ⟨gb905, 0, none⟩) (Kd.R_mono HO_25.out (fun k_ hk => (⟨hk, hk.2⟩ : _ ∧ k_ ≠ gb905))) (fun _ hk => hk.2) (.int .i64 ((rd_T79 t898 x27_1).f0))) (fun _ hk => hk.2) (.int .i64 ((rd_T79 t898 x27_1).f1))) (fun _ hk => hk.2) (.int .i64 ((rd_T79 t898 x27_1).f2))) (fun _ h_ => h_.1))) hb); have n2_ := zm (Kd.R_lower ho0 (below_size zb)); have n3_ := zm (blk_below (g := gb895) (o := .cells #[.slice A0_0 l0_0.length c0_0, .int .i64 a0_1] 32 (0, 0)) zK hb); have n4_ := zm (blk_below (g := gb896) (o := .cells #[.int .i64 a2_0, .int .i64 a2_1, .int .i64 a2_2] 36 (0, 0)) zK hb); have n5_ := zm (blk_below (g := gb905) (o := .cells #[.int .i64 ((rd_T79 t898 x27_1).f0), .int .i64 ((rd_T79 t898 x27_1).f1), .int .i64 ((rd_T79 t898 x27_1).f2)] 79 (0, 0)) (by (with_reducible repeat (first | refine blk_drewN ?_ _ | refine blk_drew ?_ | refine blk_alloc ?_ _)); refine blk_put (cs := #[.int .i64 ((rd_T79 t898 x27_1).f0), .int .i64 ((rd_T79 t898 x27_1).f1), .int .i64 0]) ?_ 2 _ rfl; (with_reducible repeat (first | refine blk_drewN ?_ _ | refine blk_drew ?_ | refine blk_alloc ?_ _)); refine blk_put (cs := #[.int .i64 ((rd_T79 t898 x27_1).f0), .int .i64 0, .int .i64 0]) ?_ 1 _ rfl; (with_reducible repeat (first | refine blk_drewN ?_ _ | refine blk_drew ?_ | refine blk_alloc ?_ _)); refine blk_put (cs := #[.int .i64 0, .int .i64 0, .int .i64 0]) ?_ 0 _ rfl; (with_reducible repeat (first | refine blk_drewN ?_ _ | refine blk_drew ?_ | refine blk_alloc ?_ _)); exact BK905.out) hb); have n6_ := zm (below_step zb hb); clear HO_8; clear HO_25; clear BK895; clear BK896; clear BK905; clear HB; have HO_8 := n0_; have HO_25 := n1_; have HO908 := n2_; have BK895 := n3_; have BK896 := n4_; have BK905 := n5_; have HB := n6_; clear n0_ n1_ n2_ n3_ n4_ n5_ n6_; (try clear hb); (try clear hb2); (try clear hk); (try clear hi); (try clear ho0); obtain ⟨Ao27, co27, eo27⟩ := Kd.R_slice HO908.out; subst eo27) | ((with_reducible refine gate_callee (f := 63) rfl ?_); refine goesL_ (some 37) rfl rfl Try.func63 (by kernel_rfl) rfl #[.int .i64 x10_1, .int .i64 (t906.length : Int)] rfl (by (try simp only [List.map_toArray, List.map_cons, List.map_nil]); first | done | rfl | (simp only [List.length_drop, List.length_take]; rfl)) ?_; (with_reducible refine (spec_l1Most.calls x10_1 (t906.length : Int) t909 _ A21.out).mono ?_); rintro e w' ⟨rfl, ⟨nd, rfl⟩⟩; refine ⟨_, rfl, ?_⟩))
       go_roundg k1
       case measure => have := HK1.out; omega
       case rel => exact ⟨(t909), (wrap64 (x27_1 + 1)), (by first | rfl | (simp; done) | (simp [*]; done)), (by first | rfl | (simp; done) | (simp [*]; done)), H', ⟨by have := HK1.out; omega⟩, ⟨by (with_reducible repeat (first | apply Kd.R_alloc | apply Kd.R_drewN | apply Kd.R_drew)); exact Kd.R_mono HO_8.out (fun _ hk => trivial)⟩, ⟨by (with_reducible repeat (first | apply Kd.R_alloc | apply Kd.R_drewN | apply Kd.R_drew)); exact Kd.R_mono HO_25.out (fun _ hk => trivial)⟩, ⟨zk⟩, ⟨zk⟩, ⟨zb⟩⟩
      ·
       rw [if_neg c19] at H
       exact absurd H (by simp)
     ·
      rw [if_neg c18] at H
      exact absurd H (by simp)
    ·
     rw [if_neg c17] at H
     have c17b0 : decide (x27_1 < (t898.length : Int)) = false := decide_eq_false c17
     clear c17
     simp only [Option.some.injEq, Prod.mk.injEq] at H
     obtain ⟨rfl, rfl⟩ := H
     go_wp2
     go_ret2
     exact ⟨zr, zb⟩
 ·
  replace c5 := Bool.eq_false_iff.mpr c5
  subst c5
  have H1 : (some (0, false)) = some (r1, r2) := by rw [if_neg (show ¬ (false = true) by decide)] at H; exact H
  clear H
  have H := H1
  clear H1
  simp only [Option.some.injEq, Prod.mk.injEq] at H
  obtain ⟨rfl, rfl⟩ := H
  go_enter Try.func44, Try.ntmps44
  go_wp2_with (first | ((with_reducible refine gate_dst (N := 3) rfl ?_); refine box_event ?hg (N := 3) ?hd (cs := #[.slice A0_0 l0_0.length c0_0, .int .i64 a0_1]) (t := 32) ?hr ?_; (case hd => rfl); (case hg => rfl); (case hr => first | (go_simp; done) | (go_simp; rfl)); intro gb895 hg w28 hbox hb; have n0_ := zm (below_step zb hb); have n1_ := zm (hbox); have n2_ := zm (zs hg zb : w.heap.size ≤ gb895); have n3_ := zm (zs hg zb : w.heap.size ≤ gb895); clear HB; have HB := n0_; have BK895 := n1_; have GW895 := n2_; have GE895 := n3_; clear n0_ n1_ n2_ n3_; clear hb hbox hg) | ((with_reducible refine gate_dst (N := 5) rfl ?_); refine box_event ?hg (N := 5) ?hd (cs := #[.int .i64 a2_0, .int .i64 a2_1, .int .i64 a2_2]) (t := 36) ?hr ?_; (case hd => rfl); (case hg => rfl); (case hr => first | (go_simp; done) | (go_simp; rfl)); intro gb896 hg w29 hbox hb; have n0_ := zm (blk_below (g := gb895) zk hb); have n1_ := zm (below_step zb hb); have n2_ := zm (hbox); have n3_ := zm (zs hg zb : w.heap.size ≤ gb896); have n4_ := zm (zs hg zb : w.heap.size ≤ gb896); have n5_ := zm (zl hg zk : gb895 ≠ gb896); have n6_ := zm (zg hg zk : gb896 ≠ gb895); clear BK895; clear HB; have BK895 := n0_; have HB := n1_; have BK896 := n2_; have GW896 := n3_; have GE896 := n4_; have NB895_896 := n5_; have NB896_895 := n6_; clear n0_ n1_ n2_ n3_ n4_ n5_ n6_; clear hb hbox hg; have hnb30 := NB895_896.out; have hnc30 := NB896_895.out; obtain ⟨hcz31_0, hcz31_1, hfz31_0, hfz31_1⟩ := zc2 BK895.out; obtain ⟨hcz32_0, hcz32_1, hcz32_2, hfz32_0, hfz32_1, hfz32_2⟩ := zc3 BK896.out) | ((with_reducible refine gate_callee (f := 49) rfl ?_); refine goesL_ (some 16) rfl rfl Try.func49 (by kernel_rfl) rfl #[.agg #[.slice A0_0 l0_0.length c0_0, .int .i64 a0_1], .slice A1 l1.length c1, .agg #[.int .i64 a2_0, .int .i64 a2_1, .int .i64 a2_2]] rfl (by (try simp only [List.map_toArray, List.map_cons, List.map_nil]); first | done | rfl | (simp only [List.length_drop, List.length_take]; rfl)) ?_; (with_reducible refine (spec_pyAsked.calls k _ _ l0_0 a0_1 _ _ l1 a2_0 a2_1 a2_2 false _ ?side1 ?side2 ?side3 ?side4 A4.out).mono ?_); (case side1 => repeat (first | exact (Kd.C_below HR0_0.out HB.out) | (with_reducible refine Kd.C_alloc ?_ _) | (with_reducible refine Kd.C_drewN ?_ _) | (with_reducible refine Kd.C_drew ?_))); (case side2 => exact HC0_0.out); (case side3 => repeat (first | exact (Kd.C_below HR1.out HB.out) | (with_reducible refine Kd.C_alloc ?_ _) | (with_reducible refine Kd.C_drewN ?_ _) | (with_reducible refine Kd.C_drew ?_))); (case side4 => exact HC1.out); rintro e w33 ⟨rfl, hb⟩; refine ⟨_, rfl, ?_⟩; have n0_ := zm (blk_below (g := gb895) zk hb); have n1_ := zm (blk_below (g := gb896) zk hb); have n2_ := zm (below_step zb hb); clear BK895; clear BK896; clear HB; have BK895 := n0_; have BK896 := n1_; have HB := n2_; clear n0_ n1_ n2_; (try clear hb); (try clear hb2); (try clear hk); (try clear hi)))
  go_ret2
  exact ⟨zr, zb⟩

/-! ### impl_WindNeeded: function 45 -/
def impl_WindNeeded.l0 : Nat → List (S79) → Int → List (S79) → Int → Int → Option (Int × Bool)
  | 0, _, _, _, _, _ => none
  | k + 1, x8, x10, x25, x26, x27 => if x27 < x26 then (if 0 ≤ x27 then (if x27 < (x25.length : Int) then ((impl_pitchesIn.f k x8 ((rd_T79 x25 x27).f1)).bind fun t921 => (impl_WindNeeded.l0 k x8 (mx x10 (t921.length : Int)) x25 x26 (wrap64 (x27 + 1)))) else (none)) else (none)) else (some (x10, true))
def impl_WindNeeded.f (k : Nat) (l0_0 : List Int) (a0_1 : Int) (l1 : List (S73)) (a2_0 : Int) (a2_1 : Int) (a2_2 : Int) : Option (Int × Bool) := (impl_canBePlayed.f k l0_0 a0_1 l1 a2_0 a2_1 a2_2).bind fun t912 => (if t912 = true then ((impl_spoken.f k l0_0 a0_1 l1 a2_0 a2_1 a2_2).bind fun bt913 => (impl_WindNeeded.l0 k bt913.1 0 bt913.1 (bt913.1.length : Int) 0)) else (some (0, false)))
theorem impl_WindNeeded.mono_l : ∀ k, (∀ y0 y1 y2 y3 y4, LeO (impl_WindNeeded.l0 k y0 y1 y2 y3 y4) (impl_WindNeeded.l0 (k + 1) y0 y1 y2 y3 y4))
  | 0 => fun _ _ _ _ _ r h => by simp [impl_WindNeeded.l0] at h
  | k + 1 => by
    have ih0 := impl_WindNeeded.mono_l k
    · intro y0 y1 y2 y3 y4
      unfold impl_WindNeeded.l0
      repeat' first
      | (with_reducible exact ih0 _ _ _ _ _)
      | (with_reducible exact impl_canBePlayed.mono _ _ _ _ _ _ _)
      | (with_reducible exact impl_pitchesIn.mono _ _ _)
      | (with_reducible exact impl_spoken.mono _ _ _ _ _ _ _)
      | (with_reducible exact LeO.refl _)
      | (with_reducible exact LeO.none _)
      | (with_reducible refine LeO.ite ?_ ?_)
      | (with_reducible refine LeO.bind ?_ (fun _ => ?_))
      | exact ih0 _ _ _ _ _
      | exact impl_canBePlayed.mono _ _ _ _ _ _ _
      | exact impl_pitchesIn.mono _ _ _
      | exact impl_spoken.mono _ _ _ _ _ _ _
      | exact LeO.none _
      | refine LeO.ite ?_ ?_
      | refine LeO.bind ?_ (fun _ => ?_)
theorem impl_WindNeeded.mono : ∀ a0 a1 a2 a3 a4 a5 k, LeO (impl_WindNeeded.f k a0 a1 a2 a3 a4 a5) (impl_WindNeeded.f (k + 1) a0 a1 a2 a3 a4 a5) := by
  intro a0 a1 a2 a3 a4 a5 k
  have ih0 := impl_WindNeeded.mono_l k
  unfold impl_WindNeeded.f
  repeat' first
      | (with_reducible exact ih0 _ _ _ _ _)
      | (with_reducible exact impl_canBePlayed.mono _ _ _ _ _ _ _)
      | (with_reducible exact impl_pitchesIn.mono _ _ _)
      | (with_reducible exact impl_spoken.mono _ _ _ _ _ _ _)
      | (with_reducible exact LeO.refl _)
      | (with_reducible exact LeO.none _)
      | (with_reducible refine LeO.ite ?_ ?_)
      | (with_reducible refine LeO.bind ?_ (fun _ => ?_))
      | exact ih0 _ _ _ _ _
      | exact impl_canBePlayed.mono _ _ _ _ _ _ _
      | exact impl_pitchesIn.mono _ _ _
      | exact impl_spoken.mono _ _ _ _ _ _ _
      | exact LeO.none _
      | refine LeO.ite ?_ ?_
      | refine LeO.bind ?_ (fun _ => ?_)
set_option maxHeartbeats 8000000 in
set_option maxRecDepth 100000 in
theorem impl_WindNeeded.calls (k : Nat) (A0_0 : Option Addr) (c0_0 : Nat) (l0_0 : List Int) (a0_1 : Int) (A1 : Option Addr) (c1 : Nat) (l1 : List (S73)) (a2_0 : Int) (a2_1 : Int) (a2_2 : Int) (r1 : Int) (r2 : Bool) (w : World) (hr0_0 : Kd.C (Kd.int .i64) w A0_0 l0_0.length l0_0) (hc0_0 : l0_0.length ≤ c0_0) (hr1 : Kd.C k73 w A1 l1.length l1) (hc1 : l1.length ≤ c1) (h : impl_WindNeeded.f k l0_0 a0_1 l1 a2_0 a2_1 a2_2 = some (r1, r2)) :
  Calls Try.prog 45 #[.agg #[.slice A0_0 l0_0.length c0_0, .int .i64 a0_1], .slice A1 l1.length c1, .agg #[.int .i64 a2_0, .int .i64 a2_1, .int .i64 a2_2]] w fun e w' => e = .returned (.tuple #[.int .i64 r1, .bool r2]) ∧ Below w.heap.size w w' := by
 have hu32 := Try.underlying32
 have hu36 := Try.underlying36
 have hu79 := Try.underlying79
 have HR0_0 := zm hr0_0
 have HC0_0 := zm hc0_0
 clear hr0_0 hc0_0
 have HR1 := zm hr1
 have HC1 := zm hc1
 clear hr1 hc1
 have HB := zm (Below.refl w.heap.size w)
 have H : ((impl_canBePlayed.f k l0_0 a0_1 l1 a2_0 a2_1 a2_2).bind fun t912 => (if t912 = true then ((impl_spoken.f k l0_0 a0_1 l1 a2_0 a2_1 a2_2).bind fun bt913 => (impl_WindNeeded.l0 k bt913.1 0 bt913.1 (bt913.1.length : Int) 0)) else (some (0, false)))) = some (r1, r2) := h
 clear h
 replace H := Option.bind_eq_some_iff.mp H
 obtain ⟨t912, A40, H⟩ := H
 replace H : (if t912 = true then ((impl_spoken.f k l0_0 a0_1 l1 a2_0 a2_1 a2_2).bind fun bt913 => (impl_WindNeeded.l0 k bt913.1 0 bt913.1 (bt913.1.length : Int) 0)) else (some (0, false))) = some (r1, r2) := H
 have A4 := zm A40
 clear A40
 by_cases c5 : t912 = true
 ·
  subst c5
  have H1 : ((impl_spoken.f k l0_0 a0_1 l1 a2_0 a2_1 a2_2).bind fun bt913 => (impl_WindNeeded.l0 k bt913.1 0 bt913.1 (bt913.1.length : Int) 0)) = some (r1, r2) := by rw [if_pos rfl] at H; exact H
  clear H
  have H := H1
  clear H1
  replace H := Option.bind_eq_some_iff.mp H
  obtain ⟨⟨t913, t916⟩, A60, H⟩ := H
  replace H : (impl_WindNeeded.l0 k t913 0 t913 (t913.length : Int) 0) = some (r1, r2) := H
  have A6 := zm A60
  clear A60
  have H' := zm H
  clear H
  go_enter Try.func45, Try.ntmps45
  go_wp2_with (first | ((with_reducible refine gate_dst (N := 3) rfl ?_); refine box_event ?hg (N := 3) ?hd (cs := #[.slice A0_0 l0_0.length c0_0, .int .i64 a0_1]) (t := 32) ?hr ?_; (case hd => rfl); (case hg => rfl); (case hr => first | (go_simp; done) | (go_simp; rfl)); intro gb910 hg w7 hbox hb; have n0_ := zm (below_step zb hb); have n1_ := zm (hbox); have n2_ := zm (zs hg zb : w.heap.size ≤ gb910); have n3_ := zm (zs hg zb : w.heap.size ≤ gb910); clear HB; have HB := n0_; have BK910 := n1_; have GW910 := n2_; have GE910 := n3_; clear n0_ n1_ n2_ n3_; clear hb hbox hg) | ((with_reducible refine gate_dst (N := 5) rfl ?_); refine box_event ?hg (N := 5) ?hd (cs := #[.int .i64 a2_0, .int .i64 a2_1, .int .i64 a2_2]) (t := 36) ?hr ?_; (case hd => rfl); (case hg => rfl); (case hr => first | (go_simp; done) | (go_simp; rfl)); intro gb911 hg w8 hbox hb; have n0_ := zm (blk_below (g := gb910) zk hb); have n1_ := zm (below_step zb hb); have n2_ := zm (hbox); have n3_ := zm (zs hg zb : w.heap.size ≤ gb911); have n4_ := zm (zs hg zb : w.heap.size ≤ gb911); have n5_ := zm (zl hg zk : gb910 ≠ gb911); have n6_ := zm (zg hg zk : gb911 ≠ gb910); clear BK910; clear HB; have BK910 := n0_; have HB := n1_; have BK911 := n2_; have GW911 := n3_; have GE911 := n4_; have NB910_911 := n5_; have NB911_910 := n6_; clear n0_ n1_ n2_ n3_ n4_ n5_ n6_; clear hb hbox hg; have hnb9 := NB910_911.out; have hnc9 := NB911_910.out; obtain ⟨hcz10_0, hcz10_1, hfz10_0, hfz10_1⟩ := zc2 BK910.out; obtain ⟨hcz11_0, hcz11_1, hcz11_2, hfz11_0, hfz11_1, hfz11_2⟩ := zc3 BK911.out) | ((with_reducible refine gate_callee (f := 53) rfl ?_); refine goesL_ (some 16) rfl rfl Try.func53 (by kernel_rfl) rfl #[.agg #[.slice A0_0 l0_0.length c0_0, .int .i64 a0_1], .slice A1 l1.length c1, .agg #[.int .i64 a2_0, .int .i64 a2_1, .int .i64 a2_2]] rfl (by (try simp only [List.map_toArray, List.map_cons, List.map_nil]); first | done | rfl | (simp only [List.length_drop, List.length_take]; rfl)) ?_; (with_reducible refine (impl_canBePlayed.calls k _ _ l0_0 a0_1 _ _ l1 a2_0 a2_1 a2_2 true _ ?side1 ?side2 ?side3 ?side4 A4.out).mono ?_); (case side1 => repeat (first | exact (Kd.C_below HR0_0.out HB.out) | (with_reducible refine Kd.C_alloc ?_ _) | (with_reducible refine Kd.C_drewN ?_ _) | (with_reducible refine Kd.C_drew ?_))); (case side2 => exact HC0_0.out); (case side3 => repeat (first | exact (Kd.C_below HR1.out HB.out) | (with_reducible refine Kd.C_alloc ?_ _) | (with_reducible refine Kd.C_drewN ?_ _) | (with_reducible refine Kd.C_drew ?_))); (case side4 => exact HC1.out); rintro e w12 ⟨rfl, hb⟩; refine ⟨_, rfl, ?_⟩; have n0_ := zm (blk_below (g := gb910) zk hb); have n1_ := zm (blk_below (g := gb911) zk hb); have n2_ := zm (below_step zb hb); clear BK910; clear BK911; clear HB; have BK910 := n0_; have BK911 := n1_; have HB := n2_; clear n0_ n1_ n2_; (try clear hb); (try clear hb2); (try clear hk); (try clear hi); obtain ⟨hcz13_0, hcz13_1, hfz13_0, hfz13_1⟩ := zc2 BK910.out; obtain ⟨hcz14_0, hcz14_1, hcz14_2, hfz14_0, hfz14_1, hfz14_2⟩ := zc3 BK911.out) | ((with_reducible refine gate_callee (f := 54) rfl ?_); refine goesL_ (some 22) rfl rfl Try.func54 (by kernel_rfl) rfl #[.agg #[.slice A0_0 l0_0.length c0_0, .int .i64 a0_1], .slice A1 l1.length c1, .agg #[.int .i64 a2_0, .int .i64 a2_1, .int .i64 a2_2]] rfl (by (try simp only [List.map_toArray, List.map_cons, List.map_nil]); first | done | rfl | (simp only [List.length_drop, List.length_take]; rfl)) ?_; (with_reducible refine (impl_spoken.calls k _ _ l0_0 a0_1 _ _ l1 a2_0 a2_1 a2_2 t913 t916 _ ?side1 ?side2 ?side3 ?side4 A6.out).mono ?_); (case side1 => repeat (first | exact (Kd.C_below HR0_0.out HB.out) | (with_reducible refine Kd.C_alloc ?_ _) | (with_reducible refine Kd.C_drewN ?_ _) | (with_reducible refine Kd.C_drew ?_))); (case side2 => exact HC0_0.out); (case side3 => repeat (first | exact (Kd.C_below HR1.out HB.out) | (with_reducible refine Kd.C_alloc ?_ _) | (with_reducible refine Kd.C_drewN ?_ _) | (with_reducible refine Kd.C_drew ?_))); (case side4 => exact HC1.out); rintro e w15 ⟨v914, v917, rfl, ho0, ho1, hb⟩; refine ⟨_, rfl, ?_⟩; have n0_ := zm (Kd.R_lower ho0 (below_size zb)); have n1_ := zm (Kd.R_lower ho1 (below_size zb)); have n2_ := zm (blk_below (g := gb910) zk hb); have n3_ := zm (blk_below (g := gb911) zk hb); have n4_ := zm (below_step zb hb); clear BK910; clear BK911; clear HB; have HO915 := n0_; have HO918 := n1_; have BK910 := n2_; have BK911 := n3_; have HB := n4_; clear n0_ n1_ n2_ n3_ n4_; (try clear hb); (try clear hb2); (try clear hk); (try clear hi); (try clear ho0); (try clear ho1); obtain ⟨Ao16, co16, eo16⟩ := Kd.R_slice HO915.out; subst eo16))
  go_loopg [10, 27] k (fun kq v10 v27 w' => ∃ (x10_1 : Int) (x27_1 : Int), v10 = .int .i64 x10_1 ∧ v27 = .int .i64 x27_1 ∧ Aside0 (impl_WindNeeded.l0 kq t913 x10_1 t913 (t913.length : Int) x27_1 = some (r1, r2)) ∧ Aside0 (kq ≤ k) ∧ Aside0 (Kd.R k79 79 w' w.heap.size (fun _ => True) (.slice Ao16 t913.length co16) t913) ∧ Aside0 (Kd.R k79 79 w' w.heap.size (fun _ => True) (.slice Ao16 t913.length co16) t913) ∧ Aside0 (w'.heap[gb910]? = some (.cells #[(.slice A0_0 l0_0.length c0_0), .int .i64 a0_1] 32 (0, 0))) ∧ Aside0 (w'.heap[gb911]? = some (.cells #[.int .i64 a2_0, .int .i64 a2_1, .int .i64 a2_2] 36 (0, 0))) ∧ Aside0 (Below w.heap.size w w'))
  case atStart => exact ⟨(0), (0), (by first | rfl | (simp; done) | (simp [*]; done)), (by first | rfl | (simp; done) | (simp [*]; done)), H', ⟨Nat.le_refl _⟩, ⟨by (with_reducible repeat (first | apply Kd.R_alloc | apply Kd.R_drewN | apply Kd.R_drew)); exact HO915.out⟩, ⟨by (with_reducible repeat (first | apply Kd.R_alloc | apply Kd.R_drewN | apply Kd.R_drew)); exact HO915.out⟩, ⟨zk⟩, ⟨zk⟩, ⟨zb⟩⟩
  case round =>
   clear H'
   try clear c1
   try clear p2
   try clear c4
   try clear c5
   try clear c9
   try clear hcz10_0
   try clear hcz10_1
   try clear hcz11_0
   try clear hcz11_1
   try clear hcz11_2
   try clear hcz13_0
   try clear hcz13_1
   try clear hcz14_0
   try clear hcz14_1
   try clear hcz14_2
   try clear hfz10_0
   try clear hfz10_1
   try clear hfz11_0
   try clear hfz11_1
   try clear hfz11_2
   try clear hfz13_0
   try clear hfz13_1
   try clear hfz14_0
   try clear hfz14_1
   try clear hfz14_2
   obtain ⟨x10_1, x27_1, rfl, rfl, HA, HK1, HO_8, HO_25, BK910, BK911, HB⟩ := hrel
   cases gk with
   | zero => exact absurd HA.out (by simp [impl_WindNeeded.l0])
   | succ k1 =>
    have H := HA.out
    clear HA
    simp only [impl_WindNeeded.l0] at H
    by_cases c17 : x27_1 < (t913.length : Int)
    ·
     rw [if_pos c17] at H
     have c17b0 : decide (x27_1 < (t913.length : Int)) = true := decide_eq_true c17
     clear c17
     by_cases c18 : 0 ≤ x27_1
     ·
      rw [if_pos c18] at H
      have c18b0 : decide (0 ≤ x27_1) = true := decide_eq_true c18
      clear c18
      by_cases c19 : x27_1 < (t913.length : Int)
      ·
       rw [if_pos c19] at H
       have c19b0 : decide (x27_1 < (t913.length : Int)) = true := decide_eq_true c19
       clear c19
       replace H := Option.bind_eq_some_iff.mp H
       obtain ⟨t921, A200, H⟩ := H
       replace H : (impl_WindNeeded.l0 k1 t913 (mx x10_1 (t921.length : Int)) t913 (t913.length : Int) (wrap64 (x27_1 + 1))) = some (r1, r2) := H
       have A20 := zm A200
       clear A200
       obtain ⟨ji21, hji21⟩ : ∃ j_ : Int, (mx x10_1 (t921.length : Int)) = j_ := ⟨_, rfl⟩
       replace H : (impl_WindNeeded.l0 k1 t913 ji21 t913 (t913.length : Int) (wrap64 (x27_1 + 1))) = some (r1, r2) := by first | (rw [hji21] at H; exact H) | (simp only [hji21] at H ⊢; exact H)
       (try rw [hji21] at A20)
       have hji21_ : (if x10_1 < (t921.length : Int) then (t921.length : Int) else x10_1) = ji21 := hji21
       have H' := zm H
       clear H
       have p919 : 0 ≤ (x27_1 : Int) := zd
       have q919 : x27_1 < (t913.length : Int) := zd
       obtain ⟨ad919, e919, hx919_0, hx919_1, hx919_2⟩ := at_T79 (Kd.R_reads' HO_25.out).2.2 x27_1 p919 q919
       cases e919
       replace p919 := eq_true p919
       replace q919 := eq_true q919
       go_wp2_with (first | ((with_reducible refine gate_dst (N := 12) rfl ?_); refine box_event ?hg (N := 12) ?hd (cs := #[.int .i64 0, .int .i64 0, .int .i64 0]) (t := 79) ?hr ?_; (case hd => rfl); (case hg => rfl); (case hr => first | (go_simp; done) | (go_simp; rfl)); intro gb920 hg w22 hbox hb; have n0_ := zm (Kd.R_below (Kd.R_elderB (by (with_reducible repeat (first | apply Kd.R_alloc | apply Kd.R_drewN | apply Kd.R_drew)); exact HO_8.out) gb920 (Nat.le_of_eq hg.symm)) hb); have n1_ := zm (Kd.R_below (Kd.R_elderB (by (with_reducible repeat (first | apply Kd.R_alloc | apply Kd.R_drewN | apply Kd.R_drew)); exact HO_25.out) gb920 (Nat.le_of_eq hg.symm)) hb); have n2_ := zm (blk_below (g := gb910) zk hb); have n3_ := zm (blk_below (g := gb911) zk hb); have n4_ := zm (below_step zb hb); have n5_ := zm (hbox); have n6_ := zm (zs hg zb : w.heap.size ≤ gb920); have n7_ := zm (zs hg zb : w.heap.size ≤ gb920); have n8_ := zm (zl hg zk : gb910 ≠ gb920); have n9_ := zm (zg hg zk : gb920 ≠ gb910); have n10_ := zm (zl hg zk : gb911 ≠ gb920); have n11_ := zm (zg hg zk : gb920 ≠ gb911); clear HO_8; clear HO_25; clear BK910; clear BK911; clear HB; have HO_8 := n0_; have HO_25 := n1_; have BK910 := n2_; have BK911 := n3_; have HB := n4_; have BK920 := n5_; have GW920 := n6_; have GE920 := n7_; have NB910_920 := n8_; have NB920_910 := n9_; have NB911_920 := n10_; have NB920_911 := n11_; clear n0_ n1_ n2_ n3_ n4_ n5_ n6_ n7_ n8_ n9_ n10_ n11_; clear hb hbox hg; have hnb23 := NB920_910.out; have hnc23 := NB910_920.out; have hnb24 := NB920_911.out; have hnc24 := NB911_920.out; obtain ⟨hcz25_0, hcz25_1, hcz25_2, hfz25_0, hfz25_1, hfz25_2⟩ := zc3 BK920.out) | ((with_reducible refine gate_callee (f := 68) rfl ?_); refine goesL_ (some 35) rfl rfl Try.func68 (by kernel_rfl) rfl #[.slice (some ad919) t913.length co16, .int .i64 ((rd_T79 t913 x27_1).f1)] rfl (by (try simp only [List.map_toArray, List.map_cons, List.map_nil]); first | done | rfl | (simp only [List.length_drop, List.length_take]; rfl)) ?_; (with_reducible refine (impl_pitchesIn.calls k1 _ _ t913 ((rd_T79 t913 x27_1).f1) t921 _ ?side1 ?side2 A20.out).mono ?_); (case side1 => refine (Kd.R_reads' (e := 79) (base := w.heap.size) (ok := fun k_ => (True ∧ k_ ≠ gb920)) (n := t913.length) (c := co16) ?_).2.2; exact (by (with_reducible repeat (first | apply Kd.R_alloc | apply Kd.R_drewN | apply Kd.R_drew)); exact (Kd.R_mono (Kd.R_far (p := ⟨gb920, 2, none⟩) (Kd.R_far (p := ⟨gb920, 1, none⟩) (Kd.R_far (p := ⟨gb920, 0, none⟩) (Kd.R_mono HO_8.out (fun k_ hk => (⟨hk, hk.2⟩ : _ ∧ k_ ≠ gb920))) (fun _ hk => hk.2) (.int .i64 ((rd_T79 t913 x27_1).f0))) (fun _ hk => hk.2) (.int .i64 ((rd_T79 t913 x27_1).f1))) (fun _ hk => hk.2) (.int .i64 ((rd_T79 t913 x27_1).f2))) (fun _ h_ => h_.1)))); (case side2 => exact (Kd.R_reads' HO_8.out).2.1); rintro e w26 ⟨v922, rfl, ho0, hb⟩; refine ⟨_, rfl, ?_⟩; have n0_ := zm (Kd.R_below (by (with_reducible repeat (first | apply Kd.R_alloc | apply Kd.R_drewN | apply Kd.R_drew)); exact (Kd.R_mono (Kd.R_far (p := ⟨gb920, 2, none⟩) (Kd.R_far (p := ⟨gb920, 1, none⟩) (Kd.R_far (p := ⟨gb920, 0, none⟩) (Kd.R_mono HO_8.out (fun k_ hk => (⟨hk, hk.2⟩ : _ ∧ k_ ≠ gb920))) (fun _ hk => hk.2) (.int .i64 ((rd_T79 t913 x27_1).f0))) (fun _ hk => hk.2) (.int .i64 ((rd_T79 t913 x27_1).f1))) (fun _ hk => hk.2) (.int .i64 ((rd_T79 t913 x27_1).f2))) (fun _ h_ => h_.1))) hb); have n1_ := zm (Kd.R_below (by (with_reducible repeat (first | apply Kd.R_alloc | apply Kd.R_drewN | apply Kd.R_drew)); exact (Kd.R_mono (Kd.R_far (p := ⟨gb920, 2, none⟩) (Kd.R_far (p := ⟨gb920, 1, none⟩) (Kd.R_far (p := ⟨gb920, 0, none⟩) (Kd.R_mono HO_25.out (fun k_ hk => (⟨hk, hk.2⟩ : _ ∧ k_ ≠ gb920))) (fun _ hk => hk.2) (.int .i64 ((rd_T79 t913 x27_1).f0))) (fun _ hk => hk.2) (.int .i64 ((rd_T79 t913 x27_1).f1))) (fun _ hk => hk.2) (.int .i64 ((rd_T79 t913 x27_1).f2))) (fun _ h_ => h_.1))) hb); have n2_ := zm (Kd.R_lower ho0 (below_size zb)); have n3_ := zm (blk_below (g := gb910) (o := .cells #[.slice A0_0 l0_0.length c0_0, .int .i64 a0_1] 32 (0, 0)) zK hb); have n4_ := zm (blk_below (g := gb911) (o := .cells #[.int .i64 a2_0, .int .i64 a2_1, .int .i64 a2_2] 36 (0, 0)) zK hb); have n5_ := zm (blk_below (g := gb920) (o := .cells #[.int .i64 ((rd_T79 t913 x27_1).f0), .int .i64 ((rd_T79 t913 x27_1).f1), .int .i64 ((rd_T79 t913 x27_1).f2)] 79 (0, 0)) (by (with_reducible repeat (first | refine blk_drewN ?_ _ | refine blk_drew ?_ | refine blk_alloc ?_ _)); refine blk_put (cs := #[.int .i64 ((rd_T79 t913 x27_1).f0), .int .i64 ((rd_T79 t913 x27_1).f1), .int .i64 0]) ?_ 2 _ rfl; (with_reducible repeat (first | refine blk_drewN ?_ _ | refine blk_drew ?_ | refine blk_alloc ?_ _)); refine blk_put (cs := #[.int .i64 ((rd_T79 t913 x27_1).f0), .int .i64 0, .int .i64 0]) ?_ 1 _ rfl; (with_reducible repeat (first | refine blk_drewN ?_ _ | refine blk_drew ?_ | refine blk_alloc ?_ _)); refine blk_put (cs := #[.int .i64 0, .int .i64 0, .int .i64 0]) ?_ 0 _ rfl; (with_reducible repeat (first | refine blk_drewN ?_ _ | refine blk_drew ?_ | refine blk_alloc ?_ _)); exact BK920.out) hb); have n6_ := zm (below_step zb hb); clear HO_8; clear HO_25; clear BK910; clear BK911; clear BK920; clear HB; have HO_8 := n0_; have HO_25 := n1_; have HO923 := n2_; have BK910 := n3_; have BK911 := n4_; have BK920 := n5_; have HB := n6_; clear n0_ n1_ n2_ n3_ n4_ n5_ n6_; (try clear hb); (try clear hb2); (try clear hk); (try clear hi); (try clear ho0); obtain ⟨Ao27, co27, eo27⟩ := Kd.R_slice HO923.out; subst eo27))
       go_roundg k1
       case measure => have := HK1.out; omega
       case rel => exact ⟨(ji21), (wrap64 (x27_1 + 1)), (by first | rfl | (simp; done) | (simp only [← hji21] <;> (first | rfl | simp)) | (simp [*]; done)), (by first | rfl | (simp; done) | (simp [*]; done)), H', ⟨by have := HK1.out; omega⟩, ⟨by (with_reducible repeat (first | apply Kd.R_alloc | apply Kd.R_drewN | apply Kd.R_drew)); exact Kd.R_mono HO_8.out (fun _ hk => trivial)⟩, ⟨by (with_reducible repeat (first | apply Kd.R_alloc | apply Kd.R_drewN | apply Kd.R_drew)); exact Kd.R_mono HO_25.out (fun _ hk => trivial)⟩, ⟨zk⟩, ⟨zk⟩, ⟨zb⟩⟩
      ·
       rw [if_neg c19] at H
       exact absurd H (by simp)
     ·
      rw [if_neg c18] at H
      exact absurd H (by simp)
    ·
     rw [if_neg c17] at H
     have c17b0 : decide (x27_1 < (t913.length : Int)) = false := decide_eq_false c17
     clear c17
     simp only [Option.some.injEq, Prod.mk.injEq] at H
     obtain ⟨rfl, rfl⟩ := H
     go_wp2
     go_ret2
     exact ⟨zr, zb⟩
 ·
  replace c5 := Bool.eq_false_iff.mpr c5
  subst c5
  have H1 : (some (0, false)) = some (r1, r2) := by rw [if_neg (show ¬ (false = true) by decide)] at H; exact H
  clear H
  have H := H1
  clear H1
  simp only [Option.some.injEq, Prod.mk.injEq] at H
  obtain ⟨rfl, rfl⟩ := H
  go_enter Try.func45, Try.ntmps45
  go_wp2_with (first | ((with_reducible refine gate_dst (N := 3) rfl ?_); refine box_event ?hg (N := 3) ?hd (cs := #[.slice A0_0 l0_0.length c0_0, .int .i64 a0_1]) (t := 32) ?hr ?_; (case hd => rfl); (case hg => rfl); (case hr => first | (go_simp; done) | (go_simp; rfl)); intro gb910 hg w28 hbox hb; have n0_ := zm (below_step zb hb); have n1_ := zm (hbox); have n2_ := zm (zs hg zb : w.heap.size ≤ gb910); have n3_ := zm (zs hg zb : w.heap.size ≤ gb910); clear HB; have HB := n0_; have BK910 := n1_; have GW910 := n2_; have GE910 := n3_; clear n0_ n1_ n2_ n3_; clear hb hbox hg) | ((with_reducible refine gate_dst (N := 5) rfl ?_); refine box_event ?hg (N := 5) ?hd (cs := #[.int .i64 a2_0, .int .i64 a2_1, .int .i64 a2_2]) (t := 36) ?hr ?_; (case hd => rfl); (case hg => rfl); (case hr => first | (go_simp; done) | (go_simp; rfl)); intro gb911 hg w29 hbox hb; have n0_ := zm (blk_below (g := gb910) zk hb); have n1_ := zm (below_step zb hb); have n2_ := zm (hbox); have n3_ := zm (zs hg zb : w.heap.size ≤ gb911); have n4_ := zm (zs hg zb : w.heap.size ≤ gb911); have n5_ := zm (zl hg zk : gb910 ≠ gb911); have n6_ := zm (zg hg zk : gb911 ≠ gb910); clear BK910; clear HB; have BK910 := n0_; have HB := n1_; have BK911 := n2_; have GW911 := n3_; have GE911 := n4_; have NB910_911 := n5_; have NB911_910 := n6_; clear n0_ n1_ n2_ n3_ n4_ n5_ n6_; clear hb hbox hg; have hnb30 := NB910_911.out; have hnc30 := NB911_910.out; obtain ⟨hcz31_0, hcz31_1, hfz31_0, hfz31_1⟩ := zc2 BK910.out; obtain ⟨hcz32_0, hcz32_1, hcz32_2, hfz32_0, hfz32_1, hfz32_2⟩ := zc3 BK911.out) | ((with_reducible refine gate_callee (f := 53) rfl ?_); refine goesL_ (some 16) rfl rfl Try.func53 (by kernel_rfl) rfl #[.agg #[.slice A0_0 l0_0.length c0_0, .int .i64 a0_1], .slice A1 l1.length c1, .agg #[.int .i64 a2_0, .int .i64 a2_1, .int .i64 a2_2]] rfl (by (try simp only [List.map_toArray, List.map_cons, List.map_nil]); first | done | rfl | (simp only [List.length_drop, List.length_take]; rfl)) ?_; (with_reducible refine (impl_canBePlayed.calls k _ _ l0_0 a0_1 _ _ l1 a2_0 a2_1 a2_2 false _ ?side1 ?side2 ?side3 ?side4 A4.out).mono ?_); (case side1 => repeat (first | exact (Kd.C_below HR0_0.out HB.out) | (with_reducible refine Kd.C_alloc ?_ _) | (with_reducible refine Kd.C_drewN ?_ _) | (with_reducible refine Kd.C_drew ?_))); (case side2 => exact HC0_0.out); (case side3 => repeat (first | exact (Kd.C_below HR1.out HB.out) | (with_reducible refine Kd.C_alloc ?_ _) | (with_reducible refine Kd.C_drewN ?_ _) | (with_reducible refine Kd.C_drew ?_))); (case side4 => exact HC1.out); rintro e w33 ⟨rfl, hb⟩; refine ⟨_, rfl, ?_⟩; have n0_ := zm (blk_below (g := gb910) zk hb); have n1_ := zm (blk_below (g := gb911) zk hb); have n2_ := zm (below_step zb hb); clear BK910; clear BK911; clear HB; have BK910 := n0_; have BK911 := n1_; have HB := n2_; clear n0_ n1_ n2_; (try clear hb); (try clear hb2); (try clear hk); (try clear hi)))
  go_ret2
  exact ⟨zr, zb⟩

end Go.Proofs.Ytioheacdldgaaaa.PAll
