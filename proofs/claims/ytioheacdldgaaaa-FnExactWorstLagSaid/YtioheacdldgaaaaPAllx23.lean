-- Written for this claim by a program of this session (wip/tpl/patchprint.py), not by print.sh.
import Derived.Test.YtioheacdldgaaaaPAllx0
import Derived.Test.YtioheacdldgaaaaPAllx7
import Derived.Test.YtioheacdldgaaaaPAllx17
import Derived.Test.YtioheacdldgaaaaPAllx18
import Derived.Test.YtioheacdldgaaaaPAllx19
import Derived.Test.YtioheacdldgaaaaPAllx22
namespace Go.Proofs.Ytioheacdldgaaaa.PAll
open Go.RowKit Go.Proofs.YtioheacdldgaaaaW.PrintWords Go.Proofs.YtioheacdldgaaaaW.PrintLast Go.Proofs.YtioheacdldgaaaaW.PrintMore
attribute [local go_sem] max2_int min2_int max_two min_two max_three min_three max_four min_four   -- for this text's walks alone
set_option linter.unusedVariables false
set_option linter.unusedSimpArgs false

/-! ### impl_WorstLag: function 43 -/
mutual
def impl_WorstLag.j0 : Nat → List (S73) → List (S83) → Bool → List Int → Int → Int → Int → Int → Option (Int × Bool)
  | 0, _, _, _, _, _, _, _, _ => none
  | k + 1, x1, x3, x24, x668000, x668001, x669000, x669001, x669002 => if x24 = true then (some (0, false)) else ((impl_spoken.f k x668000 x668001 x1 x669000 x669001 x669002).bind fun bt671 => ((impl_isTrueTo.f k bt671.1 x669000 x669001 x669002 x3).bind fun t677 => (if t677 = true then (impl_WorstLag.l0 k bt671.1 0 x3 (x3.length : Int) 0) else (some (0, false)))))
def impl_WorstLag.l0 : Nat → List (S79) → Int → List (S83) → Int → Int → Option (Int × Bool)
  | 0, _, _, _, _, _ => none
  | k + 1, x10, x12, x37, x38, x39 => if x39 < x38 then (if 0 ≤ x39 then (if x39 < (x37.length : Int) then (if x39 < (x10.length : Int) then ((impl_noteEnd.f ((rd_T83 x37 x39).f0) ((rd_T83 x37 x39).f1) ((rd_T83 x37 x39).f2)).bind fun t681 => ((impl_distance.f ((rd_T79 x10 x39).f2) (wrap64 (2 * t681))).bind fun t682 => (impl_WorstLag.l0 k x10 (mx x12 t682) x37 x38 (wrap64 (x39 + 1))))) else (none)) else (none)) else (none)) else (some (x12, true))
end
def impl_WorstLag.f (k : Nat) (l0_0 : List Int) (a0_1 : Int) (l1 : List (S73)) (a2_0 : Int) (a2_1 : Int) (a2_2 : Int) (l3 : List (S83)) : Option (Int × Bool) := (impl_canBePlayed.f k l0_0 a0_1 l1 a2_0 a2_1 a2_2).bind fun t669 => (if t669 = true then ((impl_IsScore.f k l3).bind fun t670 => (impl_WorstLag.j0 k l1 l3 (!t670) l0_0 a0_1 a2_0 a2_1 a2_2)) else (impl_WorstLag.j0 k l1 l3 true l0_0 a0_1 a2_0 a2_1 a2_2))
theorem impl_WorstLag.mono_l : ∀ k, (∀ y0 y1 y2 y3 y4 y5 y6 y7, LeO (impl_WorstLag.j0 k y0 y1 y2 y3 y4 y5 y6 y7) (impl_WorstLag.j0 (k + 1) y0 y1 y2 y3 y4 y5 y6 y7)) ∧ (∀ y0 y1 y2 y3 y4, LeO (impl_WorstLag.l0 k y0 y1 y2 y3 y4) (impl_WorstLag.l0 (k + 1) y0 y1 y2 y3 y4))
  | 0 => ⟨fun _ _ _ _ _ _ _ _ r h => by simp [impl_WorstLag.j0] at h, fun _ _ _ _ _ r h => by simp [impl_WorstLag.l0] at h⟩
  | k + 1 => by
    obtain ⟨ih0, ih1⟩ := impl_WorstLag.mono_l k
    refine ⟨?_, ?_⟩
    · intro y0 y1 y2 y3 y4 y5 y6 y7
      unfold impl_WorstLag.j0
      repeat' first
      | (with_reducible exact ih0 _ _ _ _ _ _ _ _)
      | (with_reducible exact ih1 _ _ _ _ _)
      | (with_reducible exact impl_IsScore.mono _ _)
      | (with_reducible exact impl_canBePlayed.mono _ _ _ _ _ _ _)
      | (with_reducible exact impl_isTrueTo.mono _ _ _ _ _ _)
      | (with_reducible exact impl_spoken.mono _ _ _ _ _ _ _)
      | (with_reducible exact LeO.refl _)
      | (with_reducible exact LeO.none _)
      | (with_reducible refine LeO.ite ?_ ?_)
      | (with_reducible refine LeO.bind ?_ (fun _ => ?_))
      | exact ih0 _ _ _ _ _ _ _ _
      | exact ih1 _ _ _ _ _
      | exact impl_IsScore.mono _ _
      | exact impl_canBePlayed.mono _ _ _ _ _ _ _
      | exact impl_isTrueTo.mono _ _ _ _ _ _
      | exact impl_spoken.mono _ _ _ _ _ _ _
      | exact LeO.none _
      | refine LeO.ite ?_ ?_
      | refine LeO.bind ?_ (fun _ => ?_)
    · intro y0 y1 y2 y3 y4
      unfold impl_WorstLag.l0
      repeat' first
      | (with_reducible exact ih0 _ _ _ _ _ _ _ _)
      | (with_reducible exact ih1 _ _ _ _ _)
      | (with_reducible exact impl_IsScore.mono _ _)
      | (with_reducible exact impl_canBePlayed.mono _ _ _ _ _ _ _)
      | (with_reducible exact impl_isTrueTo.mono _ _ _ _ _ _)
      | (with_reducible exact impl_spoken.mono _ _ _ _ _ _ _)
      | (with_reducible exact LeO.refl _)
      | (with_reducible exact LeO.none _)
      | (with_reducible refine LeO.ite ?_ ?_)
      | (with_reducible refine LeO.bind ?_ (fun _ => ?_))
      | exact ih0 _ _ _ _ _ _ _ _
      | exact ih1 _ _ _ _ _
      | exact impl_IsScore.mono _ _
      | exact impl_canBePlayed.mono _ _ _ _ _ _ _
      | exact impl_isTrueTo.mono _ _ _ _ _ _
      | exact impl_spoken.mono _ _ _ _ _ _ _
      | exact LeO.none _
      | refine LeO.ite ?_ ?_
      | refine LeO.bind ?_ (fun _ => ?_)
theorem impl_WorstLag.mono : ∀ a0 a1 a2 a3 a4 a5 a6 k, LeO (impl_WorstLag.f k a0 a1 a2 a3 a4 a5 a6) (impl_WorstLag.f (k + 1) a0 a1 a2 a3 a4 a5 a6) := by
  intro a0 a1 a2 a3 a4 a5 a6 k
  obtain ⟨ih0, ih1⟩ := impl_WorstLag.mono_l k
  unfold impl_WorstLag.f
  repeat' first
      | (with_reducible exact ih0 _ _ _ _ _ _ _ _)
      | (with_reducible exact ih1 _ _ _ _ _)
      | (with_reducible exact impl_IsScore.mono _ _)
      | (with_reducible exact impl_canBePlayed.mono _ _ _ _ _ _ _)
      | (with_reducible exact impl_isTrueTo.mono _ _ _ _ _ _)
      | (with_reducible exact impl_spoken.mono _ _ _ _ _ _ _)
      | (with_reducible exact LeO.refl _)
      | (with_reducible exact LeO.none _)
      | (with_reducible refine LeO.ite ?_ ?_)
      | (with_reducible refine LeO.bind ?_ (fun _ => ?_))
      | exact ih0 _ _ _ _ _ _ _ _
      | exact ih1 _ _ _ _ _
      | exact impl_IsScore.mono _ _
      | exact impl_canBePlayed.mono _ _ _ _ _ _ _
      | exact impl_isTrueTo.mono _ _ _ _ _ _
      | exact impl_spoken.mono _ _ _ _ _ _ _
      | exact LeO.none _
      | refine LeO.ite ?_ ?_
      | refine LeO.bind ?_ (fun _ => ?_)
def impl_WorstLag.T10 : Bool × List (List Nat × List Nat) := (true, [([], []), ([], []), ([], []), ([1, 2], [1, 2]), ([3], [3]), ([4], [4]), ([], []), ([6], [6]), ([7], [7]), ([5, 8, 7], [5, 8]), ([0, 9], [0, 9]), ([10, 9, 0, 1, 2, 3, 4, 5, 6, 7, 8, 9, 10], [0, 10])])
def impl_WorstLag.B10 : List Nat := [0, 0, 0, 6, 14, 30, 0, 64, 192, 510, 1023, 2047]
theorem impl_WorstLag.tab10 : rtab .any (opsOf Try.f43 10) = impl_WorstLag.T10 := by kernel_rfl
theorem impl_WorstLag.bits10 : waitsOk impl_WorstLag.T10.2 impl_WorstLag.B10 = true := by kernel_rfl
set_option maxHeartbeats 8000000 in
set_option maxRecDepth 100000 in
theorem impl_WorstLag.calls (k : Nat) (A0_0 : Option Addr) (c0_0 : Nat) (l0_0 : List Int) (a0_1 : Int) (A1 : Option Addr) (c1 : Nat) (l1 : List (S73)) (a2_0 : Int) (a2_1 : Int) (a2_2 : Int) (A3 : Option Addr) (c3 : Nat) (l3 : List (S83)) (r1 : Int) (r2 : Bool) (w : World) (hr0_0 : Kd.C (Kd.int .i64) w A0_0 l0_0.length l0_0) (hc0_0 : l0_0.length ≤ c0_0) (hr1 : Kd.C k73 w A1 l1.length l1) (hc1 : l1.length ≤ c1) (hr3 : Kd.C k83 w A3 l3.length l3) (hc3 : l3.length ≤ c3) (h : impl_WorstLag.f k l0_0 a0_1 l1 a2_0 a2_1 a2_2 l3 = some (r1, r2)) :
  Calls Try.prog 43 #[.agg #[.slice A0_0 l0_0.length c0_0, .int .i64 a0_1], .slice A1 l1.length c1, .agg #[.int .i64 a2_0, .int .i64 a2_1, .int .i64 a2_2], .slice A3 l3.length c3] w fun e w' => e = .returned (.tuple #[.int .i64 r1, .bool r2]) ∧ Below w.heap.size w w' := by
 have hu32 := Try.underlying32
 have hu36 := Try.underlying36
 have hu83 := Try.underlying83
 have HR0_0 := zm hr0_0
 have HC0_0 := zm hc0_0
 clear hr0_0 hc0_0
 have HR1 := zm hr1
 have HC1 := zm hc1
 clear hr1 hc1
 have HR3 := zm hr3
 have HC3 := zm hc3
 clear hr3 hc3
 have HB := zm (Below.refl w.heap.size w)
 have H : ((impl_canBePlayed.f k l0_0 a0_1 l1 a2_0 a2_1 a2_2).bind fun t669 => (if t669 = true then ((impl_IsScore.f k l3).bind fun t670 => (impl_WorstLag.j0 k l1 l3 (!t670) l0_0 a0_1 a2_0 a2_1 a2_2)) else (impl_WorstLag.j0 k l1 l3 true l0_0 a0_1 a2_0 a2_1 a2_2))) = some (r1, r2) := h
 clear h
 have HC5 := zm H
 clear H
 go_enter Try.func43, Try.ntmps43
 go_upto_region 1 with (first | ((with_reducible refine gate_dst (N := 4) rfl ?_); refine box_event ?hg (N := 4) ?hd (cs := #[.slice A0_0 l0_0.length c0_0, .int .i64 a0_1]) (t := 32) ?hr ?_; (case hd => rfl); (case hg => rfl); (case hr => first | (go_simp; done) | (go_simp; rfl)); intro gb667 hg w6 hbox hb; have n0_ := zm (below_step zb hb); have n1_ := zm (hbox); have n2_ := zm (zs hg zb : w.heap.size ≤ gb667); have n3_ := zm (zs hg zb : w.heap.size ≤ gb667); clear HB; have HB := n0_; have BK667 := n1_; have GW667 := n2_; have GE667 := n3_; clear n0_ n1_ n2_ n3_; clear hb hbox hg) | ((with_reducible refine gate_dst (N := 6) rfl ?_); refine box_event ?hg (N := 6) ?hd (cs := #[.int .i64 a2_0, .int .i64 a2_1, .int .i64 a2_2]) (t := 36) ?hr ?_; (case hd => rfl); (case hg => rfl); (case hr => first | (go_simp; done) | (go_simp; rfl)); intro gb668 hg w7 hbox hb; have n0_ := zm (blk_below (g := gb667) zk hb); have n1_ := zm (below_step zb hb); have n2_ := zm (hbox); have n3_ := zm (zs hg zb : w.heap.size ≤ gb668); have n4_ := zm (zs hg zb : w.heap.size ≤ gb668); have n5_ := zm (zl hg zk : gb667 ≠ gb668); have n6_ := zm (zg hg zk : gb668 ≠ gb667); clear BK667; clear HB; have BK667 := n0_; have HB := n1_; have BK668 := n2_; have GW668 := n3_; have GE668 := n4_; have NB667_668 := n5_; have NB668_667 := n6_; clear n0_ n1_ n2_ n3_ n4_ n5_ n6_; clear hb hbox hg))
 (try simp only [Act.put, List.setIfInBounds_toArray, List.set_cons_zero, List.set_cons_succ])
 go_cut [24] (fun v24 wc => ∃ (kq : Nat) (x24_4 : Bool), v24 = .bool x24_4 ∧ Aside0 (impl_WorstLag.j0 kq l1 l3 x24_4 l0_0 a0_1 a2_0 a2_1 a2_2 = some (r1, r2)) ∧ Aside0 (kq ≤ k) ∧ Aside0 (wc.heap[gb667]? = some (.cells #[(.slice A0_0 l0_0.length c0_0), .int .i64 a0_1] 32 (0, 0))) ∧ Aside0 (wc.heap[gb668]? = some (.cells #[.int .i64 a2_0, .int .i64 a2_1, .int .i64 a2_2] 36 (0, 0))) ∧ Aside0 (Below w.heap.size w wc))
 case first =>
  have H := HC5.out
  clear HC5
  replace H := Option.bind_eq_some_iff.mp H
  obtain ⟨t669, A80, H⟩ := H
  replace H : (if t669 = true then ((impl_IsScore.f k l3).bind fun t670 => (impl_WorstLag.j0 k l1 l3 (!t670) l0_0 a0_1 a2_0 a2_1 a2_2)) else (impl_WorstLag.j0 k l1 l3 true l0_0 a0_1 a2_0 a2_1 a2_2)) = some (r1, r2) := H
  have A8 := zm A80
  clear A80
  by_cases c9 : t669 = true
  ·
   subst c9
   have H1 : ((impl_IsScore.f k l3).bind fun t670 => (impl_WorstLag.j0 k l1 l3 (!t670) l0_0 a0_1 a2_0 a2_1 a2_2)) = some (r1, r2) := by rw [if_pos rfl] at H; exact H
   clear H
   have H := H1
   clear H1
   replace H := Option.bind_eq_some_iff.mp H
   obtain ⟨t670, A100, H⟩ := H
   replace H : (impl_WorstLag.j0 k l1 l3 (!t670) l0_0 a0_1 a2_0 a2_1 a2_2) = some (r1, r2) := H
   have A10 := zm A100
   clear A100
   have H' := zm H
   clear H
   have hnb11 := NB667_668.out
   have hnc11 := NB668_667.out
   obtain ⟨hcz12_0, hcz12_1, hfz12_0, hfz12_1⟩ := zc2 BK667.out
   obtain ⟨hcz13_0, hcz13_1, hcz13_2, hfz13_0, hfz13_1, hfz13_2⟩ := zc3 BK668.out
   go_wp2_with (first | ((with_reducible refine gate_callee (f := 53) rfl ?_); refine goesL_ (some 18) rfl rfl Try.func53 (by kernel_rfl) rfl #[.agg #[.slice A0_0 l0_0.length c0_0, .int .i64 a0_1], .slice A1 l1.length c1, .agg #[.int .i64 a2_0, .int .i64 a2_1, .int .i64 a2_2]] rfl (by (try simp only [List.map_toArray, List.map_cons, List.map_nil]); first | done | rfl | (simp only [List.length_drop, List.length_take]; rfl)) ?_; (with_reducible refine (impl_canBePlayed.calls k _ _ l0_0 a0_1 _ _ l1 a2_0 a2_1 a2_2 true _ ?side1 ?side2 ?side3 ?side4 A8.out).mono ?_); (case side1 => repeat (first | exact (Kd.C_below HR0_0.out HB.out) | (with_reducible refine Kd.C_alloc ?_ _) | (with_reducible refine Kd.C_drewN ?_ _) | (with_reducible refine Kd.C_drew ?_))); (case side2 => exact HC0_0.out); (case side3 => repeat (first | exact (Kd.C_below HR1.out HB.out) | (with_reducible refine Kd.C_alloc ?_ _) | (with_reducible refine Kd.C_drewN ?_ _) | (with_reducible refine Kd.C_drew ?_))); (case side4 => exact HC1.out); rintro e w14 ⟨rfl, hb⟩; refine ⟨_, rfl, ?_⟩; have n0_ := zm (blk_below (g := gb667) zk hb); have n1_ := zm (blk_below (g := gb668) zk hb); have n2_ := zm (below_step zb hb); clear BK667; clear BK668; clear HB; have BK667 := n0_; have BK668 := n1_; have HB := n2_; clear n0_ n1_ n2_; (try clear hb); (try clear hb2); (try clear hk); (try clear hi)) | (go_at_call 60; (with_reducible refine (impl_IsScore.calls k _ _ l3 t670 _ ?side1 ?side2 A10.out).mono ?_); (case side1 => repeat (first | exact (Kd.C_below HR3.out HB.out) | (with_reducible refine Kd.C_alloc ?_ _) | (with_reducible refine Kd.C_drewN ?_ _) | (with_reducible refine Kd.C_drew ?_))); (case side2 => exact HC3.out); rintro e w15 ⟨rfl, hb⟩; have n0_ := zm (blk_below (g := gb667) zk hb); have n1_ := zm (blk_below (g := gb668) zk hb); have n2_ := zm (below_step zb hb); clear BK667; clear BK668; clear HB; have BK667 := n0_; have BK668 := n1_; have HB := n2_; clear n0_ n1_ n2_; (try clear hb); (try clear hb2); (try clear hk); (try clear hi)))
   go_meet
   case rel => exact ⟨_, (!t670), (by first | rfl | (simp; done) | (simp [*]; done)), H', ⟨by first | omega | exact Nat.le_refl _⟩, ⟨zk⟩, ⟨zk⟩, ⟨zb⟩⟩
  ·
   replace c9 := Bool.eq_false_iff.mpr c9
   subst c9
   have H1 : (impl_WorstLag.j0 k l1 l3 true l0_0 a0_1 a2_0 a2_1 a2_2) = some (r1, r2) := by rw [if_neg (show ¬ (false = true) by decide)] at H; exact H
   clear H
   have H := H1
   clear H1
   have H' := zm H
   clear H
   have hnb16 := NB667_668.out
   have hnc16 := NB668_667.out
   obtain ⟨hcz17_0, hcz17_1, hfz17_0, hfz17_1⟩ := zc2 BK667.out
   obtain ⟨hcz18_0, hcz18_1, hcz18_2, hfz18_0, hfz18_1, hfz18_2⟩ := zc3 BK668.out
   go_wp2_with (first | ((with_reducible refine gate_callee (f := 53) rfl ?_); refine goesL_ (some 18) rfl rfl Try.func53 (by kernel_rfl) rfl #[.agg #[.slice A0_0 l0_0.length c0_0, .int .i64 a0_1], .slice A1 l1.length c1, .agg #[.int .i64 a2_0, .int .i64 a2_1, .int .i64 a2_2]] rfl (by (try simp only [List.map_toArray, List.map_cons, List.map_nil]); first | done | rfl | (simp only [List.length_drop, List.length_take]; rfl)) ?_; (with_reducible refine (impl_canBePlayed.calls k _ _ l0_0 a0_1 _ _ l1 a2_0 a2_1 a2_2 false _ ?side1 ?side2 ?side3 ?side4 A8.out).mono ?_); (case side1 => repeat (first | exact (Kd.C_below HR0_0.out HB.out) | (with_reducible refine Kd.C_alloc ?_ _) | (with_reducible refine Kd.C_drewN ?_ _) | (with_reducible refine Kd.C_drew ?_))); (case side2 => exact HC0_0.out); (case side3 => repeat (first | exact (Kd.C_below HR1.out HB.out) | (with_reducible refine Kd.C_alloc ?_ _) | (with_reducible refine Kd.C_drewN ?_ _) | (with_reducible refine Kd.C_drew ?_))); (case side4 => exact HC1.out); rintro e w19 ⟨rfl, hb⟩; refine ⟨_, rfl, ?_⟩; have n0_ := zm (blk_below (g := gb667) zk hb); have n1_ := zm (blk_below (g := gb668) zk hb); have n2_ := zm (below_step zb hb); clear BK667; clear BK668; clear HB; have BK667 := n0_; have BK668 := n1_; have HB := n2_; clear n0_ n1_ n2_; (try clear hb); (try clear hb2); (try clear hk); (try clear hi)))
   go_meet
   case rel => exact ⟨_, (true), (by first | rfl | (simp; done) | (simp [*]; done)), H', ⟨by first | omega | exact Nat.le_refl _⟩, ⟨zk⟩, ⟨zk⟩, ⟨zb⟩⟩
 case rest =>
  clear HC5
  try clear c1
  try clear p2
  try clear c3
  try clear c4
  try clear c5
  try clear c9
  try clear c11
  try clear c16
  try clear hcz12_0
  try clear hcz12_1
  try clear hcz13_0
  try clear hcz13_1
  try clear hcz13_2
  try clear hcz17_0
  try clear hcz17_1
  try clear hcz18_0
  try clear hcz18_1
  try clear hcz18_2
  try clear hfz12_0
  try clear hfz12_1
  try clear hfz13_0
  try clear hfz13_1
  try clear hfz13_2
  try clear hfz17_0
  try clear hfz17_1
  try clear hfz18_0
  try clear hfz18_1
  try clear hfz18_2
  obtain ⟨kq, x24_4, rfl, HA, HJ4, BK667, BK668, HB⟩ := hcut
  cases kq with
  | zero => exact absurd HA.out (by simp [impl_WorstLag.j0])
  | succ kj4 =>
   have H := HA.out
   clear HA
   simp only [impl_WorstLag.j0] at H
   by_cases c20 : x24_4 = true
   ·
    subst c20
    have H1 : (some (0, false)) = some (r1, r2) := by rw [if_pos rfl] at H; exact H
    clear H
    have H := H1
    clear H1
    simp only [Option.some.injEq, Prod.mk.injEq] at H
    obtain ⟨rfl, rfl⟩ := H
    go_wp2
    go_ret2
    exact ⟨zr, zb⟩
   ·
    replace c20 := Bool.eq_false_iff.mpr c20
    subst c20
    have H1 : ((impl_spoken.f kj4 l0_0 a0_1 l1 a2_0 a2_1 a2_2).bind fun bt671 => ((impl_isTrueTo.f kj4 bt671.1 a2_0 a2_1 a2_2 l3).bind fun t677 => (if t677 = true then (impl_WorstLag.l0 kj4 bt671.1 0 l3 (l3.length : Int) 0) else (some (0, false))))) = some (r1, r2) := by rw [if_neg (show ¬ (false = true) by decide)] at H; exact H
    clear H
    have H := H1
    clear H1
    replace H := Option.bind_eq_some_iff.mp H
    obtain ⟨⟨t671, t674⟩, A210, H⟩ := H
    replace H : ((impl_isTrueTo.f kj4 t671 a2_0 a2_1 a2_2 l3).bind fun t677 => (if t677 = true then (impl_WorstLag.l0 kj4 t671 0 l3 (l3.length : Int) 0) else (some (0, false)))) = some (r1, r2) := H
    have A21 := zm A210
    clear A210
    replace H := Option.bind_eq_some_iff.mp H
    obtain ⟨t677, A220, H⟩ := H
    replace H : (if t677 = true then (impl_WorstLag.l0 kj4 t671 0 l3 (l3.length : Int) 0) else (some (0, false))) = some (r1, r2) := H
    have A22 := zm A220
    clear A220
    by_cases c23 : t677 = true
    ·
     subst c23
     have H1 : (impl_WorstLag.l0 kj4 t671 0 l3 (l3.length : Int) 0) = some (r1, r2) := by rw [if_pos rfl] at H; exact H
     clear H
     have H := H1
     clear H1
     have H' := zm H
     clear H
     have hnb24 := NB667_668.out
     have hnc24 := NB668_667.out
     obtain ⟨hcz25_0, hcz25_1, hfz25_0, hfz25_1⟩ := zc2 BK667.out
     obtain ⟨hcz26_0, hcz26_1, hcz26_2, hfz26_0, hfz26_1, hfz26_2⟩ := zc3 BK668.out
     go_wp2_with (first | ((with_reducible refine gate_callee (f := 54) rfl ?_); refine goesL_ (some 29) rfl rfl Try.func54 (by kernel_rfl) rfl #[.agg #[.slice A0_0 l0_0.length c0_0, .int .i64 a0_1], .slice A1 l1.length c1, .agg #[.int .i64 a2_0, .int .i64 a2_1, .int .i64 a2_2]] rfl (by (try simp only [List.map_toArray, List.map_cons, List.map_nil]); first | done | rfl | (simp only [List.length_drop, List.length_take]; rfl)) ?_; (with_reducible refine (impl_spoken.calls kj4 _ _ l0_0 a0_1 _ _ l1 a2_0 a2_1 a2_2 t671 t674 _ ?side1 ?side2 ?side3 ?side4 A21.out).mono ?_); (case side1 => repeat (first | exact (Kd.C_below HR0_0.out HB.out) | (with_reducible refine Kd.C_alloc ?_ _) | (with_reducible refine Kd.C_drewN ?_ _) | (with_reducible refine Kd.C_drew ?_))); (case side2 => exact HC0_0.out); (case side3 => repeat (first | exact (Kd.C_below HR1.out HB.out) | (with_reducible refine Kd.C_alloc ?_ _) | (with_reducible refine Kd.C_drewN ?_ _) | (with_reducible refine Kd.C_drew ?_))); (case side4 => exact HC1.out); rintro e w27 ⟨v672, v675, rfl, ho0, ho1, hb⟩; refine ⟨_, rfl, ?_⟩; have n0_ := zm (Kd.R_lower ho0 (below_size zb)); have n1_ := zm (Kd.R_lower ho1 (below_size zb)); have n2_ := zm (blk_below (g := gb667) zk hb); have n3_ := zm (blk_below (g := gb668) zk hb); have n4_ := zm (below_step zb hb); clear BK667; clear BK668; clear HB; have HO673 := n0_; have HO676 := n1_; have BK667 := n2_; have BK668 := n3_; have HB := n4_; clear n0_ n1_ n2_ n3_ n4_; (try clear hb); (try clear hb2); (try clear hk); (try clear hi); (try clear ho0); (try clear ho1); obtain ⟨hcz28_0, hcz28_1, hcz28_2, hfz28_0, hfz28_1, hfz28_2⟩ := zc3 BK668.out; obtain ⟨Ao29, co29, eo29⟩ := Kd.R_slice HO673.out; subst eo29) | ((with_reducible refine gate_callee (f := 61) rfl ?_); refine goesL_ (some 35) rfl rfl Try.func61 (by kernel_rfl) rfl #[.slice Ao29 t671.length co29, .agg #[.int .i64 a2_0, .int .i64 a2_1, .int .i64 a2_2], .slice A3 l3.length c3] rfl (by (try simp only [List.map_toArray, List.map_cons, List.map_nil]); first | done | rfl | (simp only [List.length_drop, List.length_take]; rfl)) ?_; (with_reducible refine (impl_isTrueTo.calls kj4 _ _ t671 a2_0 a2_1 a2_2 _ _ l3 true _ ?side1 ?side2 ?side3 ?side4 A22.out).mono ?_); (case side1 => repeat (first | exact (Kd.R_reads' HO673.out).2.2 | (with_reducible refine Kd.C_alloc ?_ _) | (with_reducible refine Kd.C_drewN ?_ _) | (with_reducible refine Kd.C_drew ?_))); (case side2 => exact (Kd.R_reads' HO673.out).2.1); (case side3 => repeat (first | exact (Kd.C_below HR3.out HB.out) | (with_reducible refine Kd.C_alloc ?_ _) | (with_reducible refine Kd.C_drewN ?_ _) | (with_reducible refine Kd.C_drew ?_))); (case side4 => exact HC3.out); rintro e w30 ⟨rfl, hb⟩; refine ⟨_, rfl, ?_⟩; have n0_ := zm (Kd.R_below (by (with_reducible repeat (first | apply Kd.R_alloc | apply Kd.R_drewN | apply Kd.R_drew)); exact HO673.out) hb); have n1_ := zm (Kd.R_below (by (with_reducible repeat (first | apply Kd.R_alloc | apply Kd.R_drewN | apply Kd.R_drew)); exact HO676.out) hb); have n2_ := zm (blk_below (g := gb667) zk hb); have n3_ := zm (blk_below (g := gb668) zk hb); have n4_ := zm (below_step zb hb); clear HO673; clear HO676; clear BK667; clear BK668; clear HB; have HO673 := n0_; have HO676 := n1_; have BK667 := n2_; have BK668 := n3_; have HB := n4_; clear n0_ n1_ n2_ n3_ n4_; (try clear hb); (try clear hb2); (try clear hk); (try clear hi)))
     go_loopg [12, 39] kj4 (fun kq v12 v39 w' => ∃ (x12_2 : Int) (x39_2 : Int), v12 = .int .i64 x12_2 ∧ v39 = .int .i64 x39_2 ∧ Aside0 (impl_WorstLag.l0 kq t671 x12_2 l3 (l3.length : Int) x39_2 = some (r1, r2)) ∧ Aside0 (kq ≤ kj4) ∧ Aside0 (Kd.R k79 79 w' w.heap.size (fun _ => True) (.slice Ao29 t671.length co29) t671) ∧ Aside0 (w'.heap[gb667]? = some (.cells #[(.slice A0_0 l0_0.length c0_0), .int .i64 a0_1] 32 (0, 0))) ∧ Aside0 (w'.heap[gb668]? = some (.cells #[.int .i64 a2_0, .int .i64 a2_1, .int .i64 a2_2] 36 (0, 0))) ∧ Aside0 (Below w.heap.size w w'))
     case atStart => exact ⟨(0), (0), (by first | rfl | (simp; done) | (simp [*]; done)), (by first | rfl | (simp; done) | (simp [*]; done)), H', ⟨Nat.le_refl _⟩, ⟨by (with_reducible repeat (first | apply Kd.R_alloc | apply Kd.R_drewN | apply Kd.R_drew)); exact HO673.out⟩, ⟨zk⟩, ⟨zk⟩, ⟨zb⟩⟩
     case round =>
      clear H'
      try clear c1
      try clear c2
      try clear p2
      try clear c3
      try clear c4
      try clear c5
      try clear c6
      try clear c9
      try clear c11
      try clear c16
      try clear c20
      try clear c23
      try clear c24
      try clear hcz12_0
      try clear hcz12_1
      try clear hcz13_0
      try clear hcz13_1
      try clear hcz13_2
      try clear hcz17_0
      try clear hcz17_1
      try clear hcz18_0
      try clear hcz18_1
      try clear hcz18_2
      try clear hcz25_0
      try clear hcz25_1
      try clear hcz26_0
      try clear hcz26_1
      try clear hcz26_2
      try clear hcz28_0
      try clear hcz28_1
      try clear hcz28_2
      try clear hfz12_0
      try clear hfz12_1
      try clear hfz13_0
      try clear hfz13_1
      try clear hfz13_2
      try clear hfz17_0
      try clear hfz17_1
      try clear hfz18_0
      try clear hfz18_1
      try clear hfz18_2
      try clear hfz25_0
      try clear hfz25_1
      try clear hfz26_0
      try clear hfz26_1
      try clear hfz26_2
      try clear hfz28_0
      try clear hfz28_1
      try clear hfz28_2
      try clear p2
      obtain ⟨x12_2, x39_2, rfl, rfl, HA, HK2, HO_10, BK667, BK668, HB⟩ := hrel
      cases gk with
      | zero => exact absurd HA.out (by simp [impl_WorstLag.l0])
      | succ k2 =>
       have H := HA.out
       clear HA
       simp only [impl_WorstLag.l0] at H
       by_cases c31 : x39_2 < (l3.length : Int)
       ·
        rw [if_pos c31] at H
        have c31b0 : decide (x39_2 < (l3.length : Int)) = true := decide_eq_true c31
        clear c31
        by_cases c32 : 0 ≤ x39_2
        ·
         rw [if_pos c32] at H
         have c32b0 : decide (0 ≤ x39_2) = true := decide_eq_true c32
         clear c32
         by_cases c33 : x39_2 < (l3.length : Int)
         ·
          rw [if_pos c33] at H
          have c33b0 : decide (x39_2 < (l3.length : Int)) = true := decide_eq_true c33
          clear c33
          by_cases c34 : x39_2 < (t671.length : Int)
          ·
           rw [if_pos c34] at H
           have c34b0 : decide (x39_2 < (t671.length : Int)) = true := decide_eq_true c34
           clear c34
           replace H := Option.bind_eq_some_iff.mp H
           obtain ⟨t681, A350, H⟩ := H
           replace H : ((impl_distance.f ((rd_T79 t671 x39_2).f2) (wrap64 (2 * t681))).bind fun t682 => (impl_WorstLag.l0 k2 t671 (mx x12_2 t682) l3 (l3.length : Int) (wrap64 (x39_2 + 1)))) = some (r1, r2) := H
           have A35 := zm A350
           clear A350
           replace H := Option.bind_eq_some_iff.mp H
           obtain ⟨t682, A360, H⟩ := H
           replace H : (impl_WorstLag.l0 k2 t671 (mx x12_2 t682) l3 (l3.length : Int) (wrap64 (x39_2 + 1))) = some (r1, r2) := H
           have A36 := zm A360
           clear A360
           obtain ⟨ji37, hji37⟩ : ∃ j_ : Int, (mx x12_2 t682) = j_ := ⟨_, rfl⟩
           replace H : (impl_WorstLag.l0 k2 t671 ji37 l3 (l3.length : Int) (wrap64 (x39_2 + 1))) = some (r1, r2) := by first | (rw [hji37] at H; exact H) | (simp only [hji37] at H ⊢; exact H)
           (try rw [hji37] at A35)
           (try rw [hji37] at A36)
           have hji37_ : (if x12_2 < t682 then t682 else x12_2) = ji37 := hji37
           have H' := zm H
           clear H
           have p678 : 0 ≤ (x39_2 : Int) := zd
           have q678 : x39_2 < (l3.length : Int) := zd
           obtain ⟨ad678, e678, hx678_0, hx678_1, hx678_2⟩ := at_T83 HR3.out x39_2 p678 q678
           cases e678
           replace hx678_0 := zx HB.out hx678_0
           replace hx678_1 := zx HB.out hx678_1
           replace hx678_2 := zx HB.out hx678_2
           replace p678 := eq_true p678
           replace q678 := eq_true q678
           try go_wp2_with (first | ((with_reducible refine gate_dst (N := 14) rfl ?_); refine box_event ?hg (N := 14) ?hd (cs := #[.int .i64 0, .int .i64 0, .int .i64 0]) (t := 83) ?hr ?_; (case hd => rfl); (case hg => rfl); (case hr => first | (go_simp; done) | (go_simp; rfl)); intro gb679 hg w38 hbox hb; have n0_ := zm (Kd.R_below (by (with_reducible repeat (first | apply Kd.R_alloc | apply Kd.R_drewN | apply Kd.R_drew)); exact HO_10.out) hb); have n1_ := zm (blk_below (g := gb667) zk hb); have n2_ := zm (blk_below (g := gb668) zk hb); have n3_ := zm (below_step zb hb); have n4_ := zm (hbox); have n5_ := zm (zs hg zb : w.heap.size ≤ gb679); have n6_ := zm (zs hg zb : w.heap.size ≤ gb679); have n7_ := zm (zl hg zk : gb667 ≠ gb679); have n8_ := zm (zg hg zk : gb679 ≠ gb667); have n9_ := zm (zl hg zk : gb668 ≠ gb679); have n10_ := zm (zg hg zk : gb679 ≠ gb668); clear HO_10; clear BK667; clear BK668; clear HB; have HO_10 := n0_; have BK667 := n1_; have BK668 := n2_; have HB := n3_; have BK679 := n4_; have GW679 := n5_; have GE679 := n6_; have NB667_679 := n7_; have NB679_667 := n8_; have NB668_679 := n9_; have NB679_668 := n10_; clear n0_ n1_ n2_ n3_ n4_ n5_ n6_ n7_ n8_ n9_ n10_; clear hb hbox hg; have hnb39 := NB679_667.out; have hnc39 := NB667_679.out; have hnb40 := NB679_668.out; have hnc40 := NB668_679.out; obtain ⟨hcz41_0, hcz41_1, hcz41_2, hfz41_0, hfz41_1, hfz41_2⟩ := zc3 BK679.out))
           have n0_ : Aside0 (Kd.R k79 79 (((w38.setCell ⟨gb679, 0, none⟩ (.int .i64 ((rd_T83 l3 x39_2).f0))).setCell ⟨gb679, 1, none⟩ (.int .i64 ((rd_T83 l3 x39_2).f1))).setCell ⟨gb679, 2, none⟩ (.int .i64 ((rd_T83 l3 x39_2).f2))) w.heap.size (fun _ => True) (.slice Ao29 t671.length co29) t671) := ⟨by (with_reducible repeat (first | apply Kd.R_alloc | apply Kd.R_drewN | apply Kd.R_drew)); exact Kd.R_mono (Kd.R_far (p := ⟨gb679, 2, none⟩) (Kd.R_far (p := ⟨gb679, 1, none⟩) (Kd.R_far (p := ⟨gb679, 0, none⟩) (Kd.R_types HO_10.out BK679.out (by decide)) (fun _ hk => hk.2) (.int .i64 ((rd_T83 l3 x39_2).f0))) (fun _ hk => hk.2) (.int .i64 ((rd_T83 l3 x39_2).f1))) (fun _ hk => hk.2) (.int .i64 ((rd_T83 l3 x39_2).f2))) (fun _ hk => trivial)⟩
           have n1_ : Aside0 ((((w38.setCell ⟨gb679, 0, none⟩ (.int .i64 ((rd_T83 l3 x39_2).f0))).setCell ⟨gb679, 1, none⟩ (.int .i64 ((rd_T83 l3 x39_2).f1))).setCell ⟨gb679, 2, none⟩ (.int .i64 ((rd_T83 l3 x39_2).f2))).heap[gb667]? = some (.cells #[.slice A0_0 l0_0.length c0_0, .int .i64 a0_1] 32 (0, 0))) := ⟨zK⟩
           have n2_ : Aside0 ((((w38.setCell ⟨gb679, 0, none⟩ (.int .i64 ((rd_T83 l3 x39_2).f0))).setCell ⟨gb679, 1, none⟩ (.int .i64 ((rd_T83 l3 x39_2).f1))).setCell ⟨gb679, 2, none⟩ (.int .i64 ((rd_T83 l3 x39_2).f2))).heap[gb668]? = some (.cells #[.int .i64 a2_0, .int .i64 a2_1, .int .i64 a2_2] 36 (0, 0))) := ⟨zK⟩
           have n3_ : Aside0 ((((w38.setCell ⟨gb679, 0, none⟩ (.int .i64 ((rd_T83 l3 x39_2).f0))).setCell ⟨gb679, 1, none⟩ (.int .i64 ((rd_T83 l3 x39_2).f1))).setCell ⟨gb679, 2, none⟩ (.int .i64 ((rd_T83 l3 x39_2).f2))).heap[gb679]? = some (.cells #[.int .i64 ((rd_T83 l3 x39_2).f0), .int .i64 ((rd_T83 l3 x39_2).f1), .int .i64 ((rd_T83 l3 x39_2).f2)] 83 (0, 0))) := ⟨by (with_reducible repeat (first | refine blk_drewN ?_ _ | refine blk_drew ?_ | refine blk_alloc ?_ _)); refine blk_put (cs := #[.int .i64 ((rd_T83 l3 x39_2).f0), .int .i64 ((rd_T83 l3 x39_2).f1), .int .i64 0]) ?_ 2 _ rfl; (with_reducible repeat (first | refine blk_drewN ?_ _ | refine blk_drew ?_ | refine blk_alloc ?_ _)); refine blk_put (cs := #[.int .i64 ((rd_T83 l3 x39_2).f0), .int .i64 0, .int .i64 0]) ?_ 1 _ rfl; (with_reducible repeat (first | refine blk_drewN ?_ _ | refine blk_drew ?_ | refine blk_alloc ?_ _)); refine blk_put (cs := #[.int .i64 0, .int .i64 0, .int .i64 0]) ?_ 0 _ rfl; (with_reducible repeat (first | refine blk_drewN ?_ _ | refine blk_drew ?_ | refine blk_alloc ?_ _)); exact BK679.out⟩
           have n4_ : Aside0 (Below w.heap.size w (((w38.setCell ⟨gb679, 0, none⟩ (.int .i64 ((rd_T83 l3 x39_2).f0))).setCell ⟨gb679, 1, none⟩ (.int .i64 ((rd_T83 l3 x39_2).f1))).setCell ⟨gb679, 2, none⟩ (.int .i64 ((rd_T83 l3 x39_2).f2)))) := ⟨zb⟩
           (try clear HO_10)
           (try clear BK667)
           (try clear BK668)
           (try clear BK679)
           (try clear HB)
           generalize (((w38.setCell ⟨gb679, 0, none⟩ (.int .i64 ((rd_T83 l3 x39_2).f0))).setCell ⟨gb679, 1, none⟩ (.int .i64 ((rd_T83 l3 x39_2).f1))).setCell ⟨gb679, 2, none⟩ (.int .i64 ((rd_T83 l3 x39_2).f2))) = w42 at n0_ n1_ n2_ n3_ n4_ ⊢
           have HO_10 := n0_
           have BK667 := n1_
           have BK668 := n2_
           have BK679 := n3_
           have HB := n4_
           clear n0_ n1_ n2_ n3_ n4_
           have n0_ := zm (Kd.R_drew HO_10.out)
           have n1_ := zm (blk_drew BK667.out)
           have n2_ := zm (blk_drew BK668.out)
           have n3_ := zm (blk_drew BK679.out)
           have n4_ := zm (below_drew1 HB.out)
           clear HO_10
           clear BK667
           clear BK668
           clear BK679
           clear HB
           have HO_10 := n0_
           have BK667 := n1_
           have BK668 := n2_
           have BK679 := n3_
           have HB := n4_
           clear n0_ n1_ n2_ n3_ n4_
           have p680 : 0 ≤ (x39_2 : Int) := zd
           have q680 : x39_2 < (t671.length : Int) := zd
           obtain ⟨ad680, e680, hx680_0, hx680_1, hx680_2⟩ := at_T79 (Kd.R_reads' HO_10.out).2.2 x39_2 p680 q680
           cases e680
           replace p680 := eq_true p680
           replace q680 := eq_true q680
           refine start_ (n := 12) (S := fun w' => w'.cell? ⟨gb679, 0, none⟩ = some (.int .i64 ((rd_T83 l3 x39_2).f0)) ∧ w'.cell? ⟨gb679, 1, none⟩ = some (.int .i64 ((rd_T83 l3 x39_2).f1)) ∧ w'.cell? ⟨gb679, 2, none⟩ = some (.int .i64 ((rd_T83 l3 x39_2).f2)) ∧ w'.cell? (ad680.add ((x39_2).toNat * 3)) = some (.int .i64 ((rd_T79 t671 x39_2).f0)) ∧ w'.cell? ⟨(ad680.add ((x39_2).toNat * 3)).block, (ad680.add ((x39_2).toNat * 3)).off + 1, none⟩ = some (.int .i64 ((rd_T79 t671 x39_2).f1)) ∧ w'.cell? ⟨(ad680.add ((x39_2).toNat * 3)).block, (ad680.add ((x39_2).toNat * 3)).off + 2, none⟩ = some (.int .i64 ((rd_T79 t671 x39_2).f2))) (ds := []) #[false, false, false, false, false, false, false, false, false, false, false, false] (by kernel_rfl) rfl rfl ⟨(blk_cell BK679.out 0).trans rfl, (blk_cell BK679.out 1).trans rfl, (blk_cell BK679.out 2).trans rfl, hx680_0, hx680_1, hx680_2⟩ (fun hHeld => ?_); refine with_tabW impl_WorstLag.tab10 impl_WorstLag.bits10 (fun HT_ HW_ => ?_)
           generalize w42.drew = w43 at HO_10 BK667 BK668 BK679 HB hx680_0 hx680_1 hx680_2 hHeld ⊢
           refine pure_ (i := 0) (N := some 44) (v := ?_) (a' := ?_) #[true, false, false, false, false, false, false, false, false, false, false, false] rfl rfl (any_of HT_.out (by kernel_rfl)) (fun _ _ _ h => h) (Or.inl ⟨by rfl, ?_⟩) ?_ ?_
           rotate_left
           ·
            intro w'
            go_simp
            with_reducible rfl
           rotate_left
           ·
            simp only [Act.put, zA, zB, zD, i64_w, i32_w]
            rfl
           refine pure_ (i := 1) (N := some 45) (v := ?_) (a' := ?_) #[true, true, false, false, false, false, false, false, false, false, false, false] rfl rfl (any_of HT_.out (by kernel_rfl)) (fun _ _ _ h => h) (Or.inl ⟨by rfl, ?_⟩) ?_ ?_
           rotate_left
           ·
            intro w'
            go_simp
            with_reducible rfl
           rotate_left
           ·
            simp only [Act.put, zA, zB, zD, i64_w, i32_w]
            rfl
           refine pure_ (i := 2) (N := some 46) (v := ?_) (a' := ?_) #[true, true, true, false, false, false, false, false, false, false, false, false] rfl rfl (any_of HT_.out (by kernel_rfl)) (fun _ _ _ h => h) (Or.inl ⟨by rfl, ?_⟩) ?_ ?_
           rotate_left
           ·
            intro w'
            go_simp
            with_reducible rfl
           rotate_left
           ·
            simp only [Act.put, zA, zB, zD, i64_w, i32_w]
            rfl
           refine pure_ (i := 3) (N := some 47) (v := ?_) (a' := ?_) #[true, true, true, true, false, false, false, false, false, false, false, false] rfl rfl (any_of HT_.out (by kernel_rfl)) (fun _ _ _ h => h) (Or.inl ⟨by rfl, ?_⟩) ?_ ?_
           rotate_left
           ·
            intro w'
            go_simp
            with_reducible rfl
           rotate_left
           ·
            simp only [Act.put, zA, zB, zD, i64_w, i32_w]
            rfl
           refine pure_ (i := 4) (N := some 48) (v := ?_) (a' := ?_) #[true, true, true, true, true, false, false, false, false, false, false, false] rfl rfl (any_of HT_.out (by kernel_rfl)) (fun _ _ _ h => h) (Or.inl ⟨by rfl, ?_⟩) ?_ ?_
           rotate_left
           ·
            intro w'
            go_simp
            with_reducible rfl
           rotate_left
           ·
            simp only [Act.put, zA, zB, zD, i64_w, i32_w]
            rfl
           refine take_ (i := 5) (N := some 49) (v := ?_) (a' := ?_) #[true, true, true, true, true, true, false, false, false, false, false, false] rfl rfl (take_ofW HT_.out HW_.out (by kernel_rfl)) (fun _ _ _ h => h) (Or.inl ⟨by rfl, ?_⟩) hHeld ?_ ?_
           rotate_left
           ·
            rintro w' ⟨s0, s1, s2, s3, s4, s5⟩
            go_simp
            with_reducible rfl
           rotate_left
           ·
            simp only [Act.put, zA, zB, zD, i64_w, i32_w]
            rfl
           refine take_ (i := 6) (N := some 50) (v := ?_) (a' := ?_) #[true, true, true, true, true, true, true, false, false, false, false, false] rfl rfl (take_ofW HT_.out HW_.out (by kernel_rfl)) (fun _ _ _ h => h) (Or.inl ⟨by rfl, ?_⟩) hHeld ?_ ?_
           rotate_left
           ·
            rintro w' ⟨s0, s1, s2, s3, s4, s5⟩
            go_simp
            with_reducible rfl
           rotate_left
           ·
            simp only [Act.put, zA, zB, zD, i64_w, i32_w]
            rfl
           refine one_ (i := 7) (N := some 51) #[true, true, true, true, true, true, true, true, false, false, false, false] rfl rfl (one_of HT_.out (by kernel_rfl)) (by decide) (fun K hK => ?_)
           refine goes_ Try.func66 (by kernel_rfl) rfl #[.agg #[.int .i64 ((rd_T83 l3 x39_2).f0), .int .i64 ((rd_T83 l3 x39_2).f1), .int .i64 ((rd_T83 l3 x39_2).f2)]] (by rfl) rfl rfl (by (try simp only [List.map_toArray, List.map_cons, List.map_nil]); first | done | rfl | (simp only [List.length_drop, List.length_take]; rfl)) ?_
           with_reducible refine (impl_noteEnd.calls ((rd_T83 l3 x39_2).f0) ((rd_T83 l3 x39_2).f1) ((rd_T83 l3 x39_2).f2) t681 _ A35.out).mono ?_
           rintro e w44 ⟨rfl, hb⟩
           have HS3_ := (hb.cell (World.block_lt_of_cell? _ _ (hHeld.2.2.2.1))).trans (hHeld.2.2.2.1)
           have HS4_ := (hb.cell (World.block_lt_of_cell? _ _ (hHeld.2.2.2.2.1))).trans (hHeld.2.2.2.2.1)
           have HS5_ := (hb.cell (World.block_lt_of_cell? _ _ (hHeld.2.2.2.2.2))).trans (hHeld.2.2.2.2.2)
           refine ⟨_, rfl, ?_⟩
           have n0_ := zm (Kd.R_below (by (with_reducible repeat (first | apply Kd.R_alloc | apply Kd.R_drewN | apply Kd.R_drew)); exact HO_10.out) hb)
           have n1_ := zm (blk_below (g := gb667) zk hb)
           have n2_ := zm (blk_below (g := gb668) zk hb)
           have n3_ := zm (blk_below (g := gb679) zk hb)
           have n4_ := zm (below_step zb hb)
           clear HO_10
           clear BK667
           clear BK668
           clear BK679
           clear HB
           have HO_10 := n0_
           have BK667 := n1_
           have BK668 := n2_
           have BK679 := n3_
           have HB := n4_
           clear n0_ n1_ n2_ n3_ n4_
           (try clear hb)
           (try clear hb2)
           (try clear hk)
           (try clear hi)
           refine hK.out _ _ ⟨(blk_cell BK679.out 0).trans rfl, (blk_cell BK679.out 1).trans rfl, (blk_cell BK679.out 2).trans rfl, HS3_, HS4_, HS5_⟩ (fun hHeld => ?_)
           clear hK K
           refine norm_ (a' := ?_) ?_ ?_
           rotate_left
           ·
            show Act.put _ (some 51) _ = _
            simp only [Act.put, zA, zB, zD, i64_w, i32_w]
            rfl
           refine pure_ (i := 8) (N := some 52) (v := ?_) (a' := ?_) #[true, true, true, true, true, true, true, true, true, false, false, false] rfl rfl (any_of HT_.out (by kernel_rfl)) (fun _ _ _ h => h) (Or.inl ⟨by rfl, ?_⟩) ?_ ?_
           rotate_left
           ·
            intro w'
            go_simp
            with_reducible rfl
           rotate_left
           ·
            simp only [Act.put, zA, zB, zD, i64_w, i32_w]
            rfl
           refine one_ (i := 9) (N := some 53) #[true, true, true, true, true, true, true, true, true, true, false, false] rfl rfl (one_of HT_.out (by kernel_rfl)) (by decide) (fun K hK => ?_)
           refine goes_ Try.func65 (by kernel_rfl) rfl #[.int .i64 ((rd_T79 t671 x39_2).f2), .int .i64 (wrap64 (2 * t681))] (by rfl) rfl rfl (by (try simp only [List.map_toArray, List.map_cons, List.map_nil]); first | done | rfl | (simp only [List.length_drop, List.length_take]; rfl)) ?_
           with_reducible refine (impl_distance.calls ((rd_T79 t671 x39_2).f2) (wrap64 (2 * t681)) t682 _ A36.out).mono ?_
           rintro e w45 ⟨rfl, hb⟩
           have HS3_ := (hb.cell (World.block_lt_of_cell? _ _ (hHeld.2.2.2.1))).trans (hHeld.2.2.2.1)
           have HS4_ := (hb.cell (World.block_lt_of_cell? _ _ (hHeld.2.2.2.2.1))).trans (hHeld.2.2.2.2.1)
           have HS5_ := (hb.cell (World.block_lt_of_cell? _ _ (hHeld.2.2.2.2.2))).trans (hHeld.2.2.2.2.2)
           refine ⟨_, rfl, ?_⟩
           have n0_ := zm (Kd.R_below (by (with_reducible repeat (first | apply Kd.R_alloc | apply Kd.R_drewN | apply Kd.R_drew)); exact HO_10.out) hb)
           have n1_ := zm (blk_below (g := gb667) zk hb)
           have n2_ := zm (blk_below (g := gb668) zk hb)
           have n3_ := zm (blk_below (g := gb679) zk hb)
           have n4_ := zm (below_step zb hb)
           clear HO_10
           clear BK667
           clear BK668
           clear BK679
           clear HB
           have HO_10 := n0_
           have BK667 := n1_
           have BK668 := n2_
           have BK679 := n3_
           have HB := n4_
           clear n0_ n1_ n2_ n3_ n4_
           (try clear hb)
           (try clear hb2)
           (try clear hk)
           (try clear hi)
           refine hK.out _ _ ⟨(blk_cell BK679.out 0).trans rfl, (blk_cell BK679.out 1).trans rfl, (blk_cell BK679.out 2).trans rfl, HS3_, HS4_, HS5_⟩ (fun hHeld => ?_)
           clear hK K
           refine norm_ (a' := ?_) ?_ ?_
           rotate_left
           ·
            show Act.put _ (some 53) _ = _
            simp only [Act.put, zA, zB, zD, i64_w, i32_w]
            rfl
           refine pure_ (i := 10) (N := some 54) (v := ?_) (a' := ?_) #[true, true, true, true, true, true, true, true, true, true, true, false] rfl rfl (any_of HT_.out (by kernel_rfl)) (fun _ _ _ h => h) (Or.inl ⟨by rfl, ?_⟩) ?_ ?_
           rotate_left
           ·
            intro w'
            go_simp
            with_reducible rfl
           rotate_left
           ·
            simp only [Act.put, zA, zB, zD, i64_w, i32_w]
            rfl
           refine pure_ (i := 11) (N := some 12) (v := ?_) (a' := ?_) #[true, true, true, true, true, true, true, true, true, true, true, true] rfl rfl (any_of HT_.out (by kernel_rfl)) (fun _ _ _ h => h) (Or.inl ⟨by rfl, ?_⟩) ?_ ?_
           rotate_left
           ·
            intro w'
            go_simp
            with_reducible rfl
           rotate_left
           ·
            simp only [Act.put, zA, zB, zD, i64_w, i32_w]
            rfl
           refine done_ (done_of HT_.out (by kernel_rfl)) ?_
           try go_wp2
           go_roundg k2
           case measure => have := HJ4.out; have := HK2.out; omega
           case rel => exact ⟨(ji37), (wrap64 (x39_2 + 1)), (by first | rfl | (simp; done) | (simp only [← hji37] <;> (first | rfl | simp)) | (simp [*]; done)), (by first | rfl | (simp; done) | (simp [*]; done)), H', ⟨by have := HJ4.out; have := HK2.out; omega⟩, ⟨by (with_reducible repeat (first | apply Kd.R_alloc | apply Kd.R_drewN | apply Kd.R_drew)); exact HO_10.out⟩, ⟨zk⟩, ⟨zk⟩, ⟨zb⟩⟩
          ·
           rw [if_neg c34] at H
           exact absurd H (by simp)
         ·
          rw [if_neg c33] at H
          exact absurd H (by simp)
        ·
         rw [if_neg c32] at H
         exact absurd H (by simp)
       ·
        rw [if_neg c31] at H
        have c31b0 : decide (x39_2 < (l3.length : Int)) = false := decide_eq_false c31
        clear c31
        simp only [Option.some.injEq, Prod.mk.injEq] at H
        obtain ⟨rfl, rfl⟩ := H
        go_wp2
        go_ret2
        exact ⟨zr, zb⟩
    ·
     replace c23 := Bool.eq_false_iff.mpr c23
     subst c23
     have H1 : (some (0, false)) = some (r1, r2) := by rw [if_neg (show ¬ (false = true) by decide)] at H; exact H
     clear H
     have H := H1
     clear H1
     simp only [Option.some.injEq, Prod.mk.injEq] at H
     obtain ⟨rfl, rfl⟩ := H
     have hnb46 := NB667_668.out
     have hnc46 := NB668_667.out
     obtain ⟨hcz47_0, hcz47_1, hfz47_0, hfz47_1⟩ := zc2 BK667.out
     obtain ⟨hcz48_0, hcz48_1, hcz48_2, hfz48_0, hfz48_1, hfz48_2⟩ := zc3 BK668.out
     go_wp2_with (first | ((with_reducible refine gate_callee (f := 54) rfl ?_); refine goesL_ (some 29) rfl rfl Try.func54 (by kernel_rfl) rfl #[.agg #[.slice A0_0 l0_0.length c0_0, .int .i64 a0_1], .slice A1 l1.length c1, .agg #[.int .i64 a2_0, .int .i64 a2_1, .int .i64 a2_2]] rfl (by (try simp only [List.map_toArray, List.map_cons, List.map_nil]); first | done | rfl | (simp only [List.length_drop, List.length_take]; rfl)) ?_; (with_reducible refine (impl_spoken.calls kj4 _ _ l0_0 a0_1 _ _ l1 a2_0 a2_1 a2_2 t671 t674 _ ?side1 ?side2 ?side3 ?side4 A21.out).mono ?_); (case side1 => repeat (first | exact (Kd.C_below HR0_0.out HB.out) | (with_reducible refine Kd.C_alloc ?_ _) | (with_reducible refine Kd.C_drewN ?_ _) | (with_reducible refine Kd.C_drew ?_))); (case side2 => exact HC0_0.out); (case side3 => repeat (first | exact (Kd.C_below HR1.out HB.out) | (with_reducible refine Kd.C_alloc ?_ _) | (with_reducible refine Kd.C_drewN ?_ _) | (with_reducible refine Kd.C_drew ?_))); (case side4 => exact HC1.out); rintro e w49 ⟨v672, v675, rfl, ho0, ho1, hb⟩; refine ⟨_, rfl, ?_⟩; have n0_ := zm (Kd.R_lower ho0 (below_size zb)); have n1_ := zm (Kd.R_lower ho1 (below_size zb)); have n2_ := zm (blk_below (g := gb667) zk hb); have n3_ := zm (blk_below (g := gb668) zk hb); have n4_ := zm (below_step zb hb); clear BK667; clear BK668; clear HB; have HO673 := n0_; have HO676 := n1_; have BK667 := n2_; have BK668 := n3_; have HB := n4_; clear n0_ n1_ n2_ n3_ n4_; (try clear hb); (try clear hb2); (try clear hk); (try clear hi); (try clear ho0); (try clear ho1); obtain ⟨hcz50_0, hcz50_1, hcz50_2, hfz50_0, hfz50_1, hfz50_2⟩ := zc3 BK668.out; obtain ⟨Ao51, co51, eo51⟩ := Kd.R_slice HO673.out; subst eo51) | ((with_reducible refine gate_callee (f := 61) rfl ?_); refine goesL_ (some 35) rfl rfl Try.func61 (by kernel_rfl) rfl #[.slice Ao51 t671.length co51, .agg #[.int .i64 a2_0, .int .i64 a2_1, .int .i64 a2_2], .slice A3 l3.length c3] rfl (by (try simp only [List.map_toArray, List.map_cons, List.map_nil]); first | done | rfl | (simp only [List.length_drop, List.length_take]; rfl)) ?_; (with_reducible refine (impl_isTrueTo.calls kj4 _ _ t671 a2_0 a2_1 a2_2 _ _ l3 false _ ?side1 ?side2 ?side3 ?side4 A22.out).mono ?_); (case side1 => repeat (first | exact (Kd.R_reads' HO673.out).2.2 | (with_reducible refine Kd.C_alloc ?_ _) | (with_reducible refine Kd.C_drewN ?_ _) | (with_reducible refine Kd.C_drew ?_))); (case side2 => exact (Kd.R_reads' HO673.out).2.1); (case side3 => repeat (first | exact (Kd.C_below HR3.out HB.out) | (with_reducible refine Kd.C_alloc ?_ _) | (with_reducible refine Kd.C_drewN ?_ _) | (with_reducible refine Kd.C_drew ?_))); (case side4 => exact HC3.out); rintro e w52 ⟨rfl, hb⟩; refine ⟨_, rfl, ?_⟩; have n0_ := zm (Kd.R_below (by (with_reducible repeat (first | apply Kd.R_alloc | apply Kd.R_drewN | apply Kd.R_drew)); exact HO673.out) hb); have n1_ := zm (Kd.R_below (by (with_reducible repeat (first | apply Kd.R_alloc | apply Kd.R_drewN | apply Kd.R_drew)); exact HO676.out) hb); have n2_ := zm (blk_below (g := gb667) zk hb); have n3_ := zm (blk_below (g := gb668) zk hb); have n4_ := zm (below_step zb hb); clear HO673; clear HO676; clear BK667; clear BK668; clear HB; have HO673 := n0_; have HO676 := n1_; have BK667 := n2_; have BK668 := n3_; have HB := n4_; clear n0_ n1_ n2_ n3_ n4_; (try clear hb); (try clear hb2); (try clear hk); (try clear hi)))
     go_ret2
     exact ⟨zr, zb⟩

end Go.Proofs.Ytioheacdldgaaaa.PAll
