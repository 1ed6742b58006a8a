-- Written for this claim by a program of this session (wip/tpl/patchprint.py), not by print.sh.
import Derived.Test.YtepkedhmbfkenaaPTbx0
import Derived.Test.YtepkedhmbfkenaaPTbx4
namespace Go.Proofs.Ytepkedhmbfkenaa.PTb
open Go.RowKit Go.Proofs.YtepkedhmbfkenaaW.PrintWords Go.Proofs.YtepkedhmbfkenaaW.PrintLast Go.Proofs.YtepkedhmbfkenaaW.PrintMore
attribute [local go_sem] max2_int min2_int max_two min_two max_three min_three max_four min_four   -- for this text's walks alone
set_option linter.unusedVariables false
set_option linter.unusedSimpArgs false

theorem impl_ReachedOffset.zeroM101 (w : World) : (zeroValue 4).run Try.prog w = .ok (Value.bool false) w := by kernel_rfl
/-! ### impl_ReachedOffset: function 28 -/
mutual
def impl_ReachedOffset.j0 : Nat → Int → Bool → Int → Int → Option (Int × Bool)
  | 0, _, _, _, _ => none
  | k + 1, x1, x25, x296000, x296001 => if x25 = true then (some (0, false)) else (impl_ReachedOffset.l0 k x1 (([0] : List Int)) 0 0 x296000 x296001 (Mp.mput ([] : List (Int × Bool)) 0 true))
def impl_ReachedOffset.l0 : Nat → Int → List Int → Int → Int → Int → Int → List (Int × Bool) → Option (Int × Bool)
  | 0, _, _, _, _, _, _, _ => none
  | k + 1, x1, x7, x8, x9, x296000, x296001, x299000 => if x9 < (x7.length : Int) then (if 0 ≤ x9 then ((impl_distance.f (rd x7 x9) 0).bind fun t303 => (impl_ReachedOffset.l1 k x1 x7 (mx x8 t303) x9 (wrap64 (-x1)) x296000 x296001 x299000)) else (none)) else (some (x8, true))
def impl_ReachedOffset.l1 : Nat → Int → List Int → Int → Int → Int → Int → Int → List (Int × Bool) → Option (Int × Bool)
  | 0, _, _, _, _, _, _, _, _ => none
  | k + 1, x1, x7, x8, x9, x10, x296000, x296001, x299000 => if x10 ≤ x1 then (if 0 ≤ x9 then (if x9 < (x7.length : Int) then ((impl_moved.f x296000 x296001 (rd x7 x9) x10).bind fun t305 => (if Mp.mget false x299000 t305 = true then (impl_ReachedOffset.l1 k x1 x7 x8 x9 (wrap64 (x10 + 1)) x296000 x296001 x299000) else (if x7.length < 17592186044416 then (impl_ReachedOffset.l1 k x1 (x7 ++ [t305]) x8 x9 (wrap64 (x10 + 1)) x296000 x296001 (Mp.mput x299000 t305 true)) else (none)))) else (none)) else (none)) else (impl_ReachedOffset.l0 k x1 x7 x8 (wrap64 (x9 + 1)) x296000 x296001 x299000)
end
def impl_ReachedOffset.f (k : Nat) (a0_0 : Int) (a0_1 : Int) (a1 : Int) : Option (Int × Bool) := (impl_IsController.f a0_0 a0_1).bind fun t296 => (if t296 = true then ((impl_isMostDrift.f a1).bind fun t297 => (if t297 = true then (impl_ReachedOffset.j0 k a1 (decide (a0_1 < a1)) a0_0 a0_1) else (impl_ReachedOffset.j0 k a1 true a0_0 a0_1))) else (impl_ReachedOffset.j0 k a1 true a0_0 a0_1))
theorem impl_ReachedOffset.mono_l : ∀ k, (∀ y0 y1 y2 y3, LeO (impl_ReachedOffset.j0 k y0 y1 y2 y3) (impl_ReachedOffset.j0 (k + 1) y0 y1 y2 y3)) ∧ (∀ y0 y1 y2 y3 y4 y5 y6, LeO (impl_ReachedOffset.l0 k y0 y1 y2 y3 y4 y5 y6) (impl_ReachedOffset.l0 (k + 1) y0 y1 y2 y3 y4 y5 y6)) ∧ (∀ y0 y1 y2 y3 y4 y5 y6 y7, LeO (impl_ReachedOffset.l1 k y0 y1 y2 y3 y4 y5 y6 y7) (impl_ReachedOffset.l1 (k + 1) y0 y1 y2 y3 y4 y5 y6 y7))
  | 0 => ⟨fun _ _ _ _ r h => by simp [impl_ReachedOffset.j0] at h, fun _ _ _ _ _ _ _ r h => by simp [impl_ReachedOffset.l0] at h, fun _ _ _ _ _ _ _ _ r h => by simp [impl_ReachedOffset.l1] at h⟩
  | k + 1 => by
    obtain ⟨ih0, ih1, ih2⟩ := impl_ReachedOffset.mono_l k
    refine ⟨?_, ?_, ?_⟩
    · intro y0 y1 y2 y3
      unfold impl_ReachedOffset.j0
      repeat' first
      | (with_reducible exact ih0 _ _ _ _)
      | (with_reducible exact ih1 _ _ _ _ _ _ _)
      | (with_reducible exact ih2 _ _ _ _ _ _ _ _)
      | (with_reducible exact LeO.refl _)
      | (with_reducible exact LeO.none _)
      | (with_reducible refine LeO.ite ?_ ?_)
      | (with_reducible refine LeO.bind ?_ (fun _ => ?_))
      | exact ih0 _ _ _ _
      | exact ih1 _ _ _ _ _ _ _
      | exact ih2 _ _ _ _ _ _ _ _
      | exact LeO.none _
      | refine LeO.ite ?_ ?_
      | refine LeO.bind ?_ (fun _ => ?_)
    · intro y0 y1 y2 y3 y4 y5 y6
      unfold impl_ReachedOffset.l0
      repeat' first
      | (with_reducible exact ih0 _ _ _ _)
      | (with_reducible exact ih1 _ _ _ _ _ _ _)
      | (with_reducible exact ih2 _ _ _ _ _ _ _ _)
      | (with_reducible exact LeO.refl _)
      | (with_reducible exact LeO.none _)
      | (with_reducible refine LeO.ite ?_ ?_)
      | (with_reducible refine LeO.bind ?_ (fun _ => ?_))
      | exact ih0 _ _ _ _
      | exact ih1 _ _ _ _ _ _ _
      | exact ih2 _ _ _ _ _ _ _ _
      | exact LeO.none _
      | refine LeO.ite ?_ ?_
      | refine LeO.bind ?_ (fun _ => ?_)
    · intro y0 y1 y2 y3 y4 y5 y6 y7
      unfold impl_ReachedOffset.l1
      repeat' first
      | (with_reducible exact ih0 _ _ _ _)
      | (with_reducible exact ih1 _ _ _ _ _ _ _)
      | (with_reducible exact ih2 _ _ _ _ _ _ _ _)
      | (with_reducible exact LeO.refl _)
      | (with_reducible exact LeO.none _)
      | (with_reducible refine LeO.ite ?_ ?_)
      | (with_reducible refine LeO.bind ?_ (fun _ => ?_))
      | exact ih0 _ _ _ _
      | exact ih1 _ _ _ _ _ _ _
      | exact ih2 _ _ _ _ _ _ _ _
      | exact LeO.none _
      | refine LeO.ite ?_ ?_
      | refine LeO.bind ?_ (fun _ => ?_)
theorem impl_ReachedOffset.mono : ∀ a0 a1 a2 k, LeO (impl_ReachedOffset.f k a0 a1 a2) (impl_ReachedOffset.f (k + 1) a0 a1 a2) := by
  intro a0 a1 a2 k
  obtain ⟨ih0, ih1, ih2⟩ := impl_ReachedOffset.mono_l k
  unfold impl_ReachedOffset.f
  repeat' first
      | (with_reducible exact ih0 _ _ _ _)
      | (with_reducible exact ih1 _ _ _ _ _ _ _)
      | (with_reducible exact ih2 _ _ _ _ _ _ _ _)
      | (with_reducible exact LeO.refl _)
      | (with_reducible exact LeO.none _)
      | (with_reducible refine LeO.ite ?_ ?_)
      | (with_reducible refine LeO.bind ?_ (fun _ => ?_))
      | exact ih0 _ _ _ _
      | exact ih1 _ _ _ _ _ _ _
      | exact ih2 _ _ _ _ _ _ _ _
      | exact LeO.none _
      | refine LeO.ite ?_ ?_
      | refine LeO.bind ?_ (fun _ => ?_)
def impl_ReachedOffset.T13 : Bool × List (List Nat × List Nat) := (true, [([], []), ([], []), ([], []), ([1, 2], [1, 2]), ([3], [3]), ([], []), ([0, 4, 5], [0, 4, 5]), ([6, 6, 0, 1, 2, 3, 4, 5, 6], [6])])
def impl_ReachedOffset.B13 : List Nat := [0, 0, 0, 6, 14, 0, 63, 127]
theorem impl_ReachedOffset.tab13 : rtab .any (opsOf Try.f28 13) = impl_ReachedOffset.T13 := by kernel_rfl
theorem impl_ReachedOffset.bits13 : waitsOk impl_ReachedOffset.T13.2 impl_ReachedOffset.B13 = true := by kernel_rfl
set_option maxHeartbeats 8000000 in
set_option maxRecDepth 100000 in
theorem impl_ReachedOffset.calls (k : Nat) (a0_0 : Int) (a0_1 : Int) (a1 : Int) (r1 : Int) (r2 : Bool) (w : World) (h : impl_ReachedOffset.f k a0_0 a0_1 a1 = some (r1, r2)) :
  Calls Try.prog 28 #[.agg #[.int .i64 a0_0, .int .i64 a0_1], .int .i64 a1] w fun e w' => e = .returned (.tuple #[.int .i64 r1, .bool r2]) ∧ Below w.heap.size w w' := by
 have hu47 := Try.underlying47
 have HB := zm (Below.refl w.heap.size w)
 have H : ((impl_IsController.f a0_0 a0_1).bind fun t296 => (if t296 = true then ((impl_isMostDrift.f a1).bind fun t297 => (if t297 = true then (impl_ReachedOffset.j0 k a1 (decide (a0_1 < a1)) a0_0 a0_1) else (impl_ReachedOffset.j0 k a1 true a0_0 a0_1))) else (impl_ReachedOffset.j0 k a1 true a0_0 a0_1))) = some (r1, r2) := h
 clear h
 have HC3 := zm H
 clear H
 go_enter Try.func28, Try.ntmps28
 go_upto_region 1 with (first | ((with_reducible refine gate_dst (N := 2) rfl ?_); refine box_event ?hg (N := 2) ?hd (cs := #[.int .i64 a0_0, .int .i64 a0_1]) (t := 47) ?hr ?_; (case hd => rfl); (case hg => rfl); (case hr => first | (go_simp; done) | (go_simp; rfl)); intro gb295 hg w4 hbox hb; have n0_ := zm (below_step zb hb); have n1_ := zm (hbox); have n2_ := zm (zs hg zb : w.heap.size ≤ gb295); have n3_ := zm (zs hg zb : w.heap.size ≤ gb295); clear HB; have HB := n0_; have BK295 := n1_; have GW295 := n2_; have GE295 := n3_; clear n0_ n1_ n2_ n3_; clear hb hbox hg))
 (try simp only [Act.put, List.setIfInBounds_toArray, List.set_cons_zero, List.set_cons_succ])
 go_cut [25] (fun v25 wc => ∃ (kq : Nat) (x25_2 : Bool), v25 = .bool x25_2 ∧ Aside0 (impl_ReachedOffset.j0 kq a1 x25_2 a0_0 a0_1 = some (r1, r2)) ∧ Aside0 (kq ≤ k) ∧ Aside0 (wc.heap[gb295]? = some (.cells #[.int .i64 a0_0, .int .i64 a0_1] 47 (0, 0))) ∧ Aside0 (Below w.heap.size w wc))
 case first =>
  have H := HC3.out
  clear HC3
  replace H := Option.bind_eq_some_iff.mp H
  obtain ⟨t296, A50, H⟩ := H
  (try dsimp only at H)
  have A5 := zm A50
  clear A50
  by_cases c6 : t296 = true
  ·
   subst c6
   have H1 : ((impl_isMostDrift.f a1).bind fun t297 => (if t297 = true then (impl_ReachedOffset.j0 k a1 (decide (a0_1 < a1)) a0_0 a0_1) else (impl_ReachedOffset.j0 k a1 true a0_0 a0_1))) = some (r1, r2) := by rw [if_pos rfl] at H; exact H
   clear H
   have H := H1
   clear H1
   replace H := Option.bind_eq_some_iff.mp H
   obtain ⟨t297, A70, H⟩ := H
   (try dsimp only at H)
   have A7 := zm A70
   clear A70
   by_cases c8 : t297 = true
   ·
    subst c8
    have H1 : (impl_ReachedOffset.j0 k a1 (decide (a0_1 < a1)) a0_0 a0_1) = some (r1, r2) := by rw [if_pos rfl] at H; exact H
    clear H
    have H := H1
    clear H1
    have H' := zm H
    clear H
    obtain ⟨hcz9_0, hcz9_1, hfz9_0, hfz9_1⟩ := zc2 BK295.out
    go_wp2_with (first | ((with_reducible refine gate_callee (f := 76) rfl ?_); refine goesA_ (some 13) Try.func76 #[.agg #[.int .i64 a0_0, .int .i64 a0_1]] rfl ?_; (with_reducible refine (impl_IsController.calls a0_0 a0_1 true _ A5.out).mono ?_); rintro e w10 ⟨rfl, hb⟩; refine ⟨_, rfl, ?_⟩; have n0_ := zm (blk_below (g := gb295) zk hb); have n1_ := zm (below_step zb hb); clear BK295; clear HB; have BK295 := n0_; have HB := n1_; clear n0_ n1_; (try clear hb); (try clear hb2); (try clear hk); (try clear hi)) | (go_at_call 98; (with_reducible refine (impl_isMostDrift.calls a1 true _ A7.out).mono ?_); rintro e w' ⟨rfl, ⟨nd, rfl⟩⟩; obtain ⟨hcz11_0, hcz11_1, hfz11_0, hfz11_1⟩ := zc2 BK295.out))
    go_meet
    case rel => exact ⟨_, (decide (a0_1 < a1)), (by first | rfl | (simp; done) | (simp [*]; done)), H', ⟨by first | omega | exact Nat.le_refl _⟩, ⟨zk⟩, ⟨zb⟩⟩
   ·
    replace c8 := Bool.eq_false_iff.mpr c8
    subst c8
    have H1 : (impl_ReachedOffset.j0 k a1 true a0_0 a0_1) = some (r1, r2) := by rw [if_neg (show ¬ (false = true) by decide)] at H; exact H
    clear H
    have H := H1
    clear H1
    have H' := zm H
    clear H
    obtain ⟨hcz12_0, hcz12_1, hfz12_0, hfz12_1⟩ := zc2 BK295.out
    go_wp2_with (first | ((with_reducible refine gate_callee (f := 76) rfl ?_); refine goesA_ (some 13) Try.func76 #[.agg #[.int .i64 a0_0, .int .i64 a0_1]] rfl ?_; (with_reducible refine (impl_IsController.calls a0_0 a0_1 true _ A5.out).mono ?_); rintro e w13 ⟨rfl, hb⟩; refine ⟨_, rfl, ?_⟩; have n0_ := zm (blk_below (g := gb295) zk hb); have n1_ := zm (below_step zb hb); clear BK295; clear HB; have BK295 := n0_; have HB := n1_; clear n0_ n1_; (try clear hb); (try clear hb2); (try clear hk); (try clear hi)) | (go_at_call 98; (with_reducible refine (impl_isMostDrift.calls a1 false _ A7.out).mono ?_); rintro e w' ⟨rfl, ⟨nd, rfl⟩⟩))
    go_meet
    case rel => exact ⟨_, (true), (by first | rfl | (simp; done) | (simp [*]; done)), H', ⟨by first | omega | exact Nat.le_refl _⟩, ⟨zk⟩, ⟨zb⟩⟩
  ·
   replace c6 := Bool.eq_false_iff.mpr c6
   subst c6
   have H1 : (impl_ReachedOffset.j0 k a1 true a0_0 a0_1) = some (r1, r2) := by rw [if_neg (show ¬ (false = true) by decide)] at H; exact H
   clear H
   have H := H1
   clear H1
   have H' := zm H
   clear H
   obtain ⟨hcz14_0, hcz14_1, hfz14_0, hfz14_1⟩ := zc2 BK295.out
   go_wp2_with (first | ((with_reducible refine gate_callee (f := 76) rfl ?_); refine goesA_ (some 13) Try.func76 #[.agg #[.int .i64 a0_0, .int .i64 a0_1]] rfl ?_; (with_reducible refine (impl_IsController.calls a0_0 a0_1 false _ A5.out).mono ?_); rintro e w15 ⟨rfl, hb⟩; refine ⟨_, rfl, ?_⟩; have n0_ := zm (blk_below (g := gb295) zk hb); have n1_ := zm (below_step zb hb); clear BK295; clear HB; have BK295 := n0_; have HB := n1_; clear n0_ n1_; (try clear hb); (try clear hb2); (try clear hk); (try clear hi)))
   go_meet
   case rel => exact ⟨_, (true), (by first | rfl | (simp; done) | (simp [*]; done)), H', ⟨by first | omega | exact Nat.le_refl _⟩, ⟨zk⟩, ⟨zb⟩⟩
 case rest =>
  clear HC3
  (try clear c2); (try clear p2); (try clear c6); (try clear c7); (try clear c8); (try clear hcz11_0); (try clear hcz11_1); (try clear hcz12_0); (try clear hcz12_1); (try clear hcz14_0); (try clear hcz14_1); (try clear hcz9_0); (try clear hcz9_1); (try clear hfz11_0); (try clear hfz11_1); (try clear hfz12_0); (try clear hfz12_1); (try clear hfz14_0); (try clear hfz14_1); (try clear hfz9_0); (try clear hfz9_1)
  obtain ⟨kq, x25_2, rfl, HA, HJ2, BK295, HB⟩ := hcut
  cases kq with
  | zero => exact absurd HA.out (by simp [impl_ReachedOffset.j0])
  | succ kj2 =>
   have H := HA.out
   clear HA
   simp only [impl_ReachedOffset.j0] at H
   by_cases c16 : x25_2 = true
   ·
    subst c16
    have H1 : (some (0, false)) = some (r1, r2) := by rw [if_pos rfl] at H; exact H
    clear H
    have H := H1
    clear H1
    simp only [Option.some.injEq, Prod.mk.injEq] at H
    obtain ⟨rfl, rfl⟩ := H
    go_wp2
    go_ret2
    exact ⟨zr, zb⟩
   ·
    replace c16 := Bool.eq_false_iff.mpr c16
    subst c16
    have H1 : (impl_ReachedOffset.l0 kj2 a1 (([0] : List Int)) 0 0 a0_0 a0_1 (Mp.mput ([] : List (Int × Bool)) 0 true)) = some (r1, r2) := by rw [if_neg (show ¬ (false = true) by decide)] at H; exact H
    clear H
    have H := H1
    clear H1
    obtain ⟨y299, hy299⟩ : ∃ y_ : List Int, y_ = (([0] : List Int)) := ⟨_, rfl⟩
    replace H : (impl_ReachedOffset.l0 kj2 a1 y299 0 0 a0_0 a0_1 (Mp.mput ([] : List (Int × Bool)) 0 true)) = some (r1, r2) := by first | (rw [hy299]; with_reducible exact H) | (have H2_ := (Option.bind_some _ _).symm.trans H; rw [hy299]; with_reducible exact H2_) | (have H2_ := (Option.bind_some _ _).symm.trans H; with_reducible exact H2_) | with_reducible exact H | (rw [hy299]; exact H) | exact H
    have Ny299 := zm hy299
    clear hy299
    have H' := zm H
    clear H
    go_wp2_with (first | ((with_reducible refine gate_dst (N := 26) rfl ?_); refine Mp.make_event Value.bool ?hg (N := 26) ?hd (t := 101) ?ho ?_; (case hd => rfl); (case hg => rfl); (case ho => rfl); intro gb298 hg w17 hbox hb; have n0_ := zm (blk_below (g := gb295) zk hb); have n1_ := zm (below_step zb hb); have n2_ := zm (hbox); have n3_ := zm (zs hg zb : w.heap.size ≤ gb298); have n4_ := zm (zs hg zb : w.heap.size ≤ gb298); have n5_ := zm (zl hg zk : gb295 ≠ gb298); have n6_ := zm (zg hg zk : gb298 ≠ gb295); clear BK295; clear HB; have BK295 := n0_; have HB := n1_; have BK298 := n2_; have GW298 := n3_; have GE298 := n4_; have NB295_298 := n5_; have NB298_295 := n6_; clear n0_ n1_ n2_ n3_ n4_ n5_ n6_; clear hb hbox hg) | ((with_reducible refine Mp.gate_insert (t := 101) rfl ?_); refine Mp.ins_event (t := 101) Try.underlying101 Try.underlying3 Value.bool rfl rfl rfl zk rfl (0) (true) ?hx ?hy ?_; (case hx => first | rfl | (go_simp; done) | (go_simp; rfl)); (case hy => first | rfl | (go_simp; done) | (go_simp; rfl)); intro w18 hp_ hg; have n0_ := zm (Mp.blk_put (by exact BK295.out) hg NB295_298.out); have n1_ := zm (hp_); have n2_ := zm (Below.grown zb hg (below_size zb) (fun j_ hj_ => by cases hj_; exact GE298.out)); clear BK295; clear BK298; clear HB; have BK295 := n0_; have BK298 := n1_; have HB := n2_; clear n0_ n1_ n2_; clear hp_ hg) | ((with_reducible refine gate_dst (N := 28) rfl ?_); refine Kd.R_lit (Kd.int .i64) _ 3 ?hg (N := 28) ?hd (xs := ([0] : List Int)) (inner := [.int .i64 0]) (ok := fun _ => True) (okp := fun _ => True) ?hr ?hp (fun _ hk => hk) trivial (Below.refl _ _) (Nat.le_refl _) (by simp) ?_; (case hd => rfl); (case hg => rfl); (case hr => first | (go_simp; done) | (go_simp; rfl)); (case hp => exact (Reps.one (show Kd.M (Kd.int .i64) _ _ _ 0 [.int .i64 0] from rfl) (Reps.none _ _))); intro v300 w19 ho20 hb hg_ hnew_; clear hg_ hnew_; (first | rw [← Ny299.out] at ho20 | (simp only [Int.reduceToNat] at ho20; rw [← Ny299.out] at ho20)); have n0_ := zm (Kd.R_lower ho20 (below_size zb)); have n1_ := zm (blk_below (g := gb295) zk hb); have n2_ := zm (blk_below (g := gb298) zk hb); have n3_ := zm (below_step zb hb); clear BK295; clear BK298; clear HB; have HO301 := n0_; have BK295 := n1_; have BK298 := n2_; have HB := n3_; clear n0_ n1_ n2_ n3_; clear hb ho20))
    go_loopg [7, 8, 9] kj2 (fun kq v7 v8 v9 w' => ∃ (x7_2 : List Int) (x8_2 : Int) (x9_2 : Int) (x299000_2 : List (Int × Bool)), v8 = .int .i64 x8_2 ∧ v9 = .int .i64 x9_2 ∧ Aside0 (impl_ReachedOffset.l0 kq a1 x7_2 x8_2 x9_2 a0_0 a0_1 x299000_2 = some (r1, r2)) ∧ Aside0 (kq ≤ kj2) ∧ Aside0 (Kd.R (Kd.int .i64) 3 w' w.heap.size (fun _ => True) v7 x7_2) ∧ Aside0 (w'.heap[gb295]? = some (.cells #[.int .i64 a0_0, .int .i64 a0_1] 47 (0, 0))) ∧ Aside0 (w'.heap[gb298]? = some (Mp.mObj Value.bool x299000_2)) ∧ Aside0 (Below w.heap.size w w'))
    case atStart => exact ⟨(y299), (0), (0), (Mp.mput ([] : List (Int × Bool)) 0 true), (by first | rfl | (simp; done) | (simp [*]; done)), (by first | rfl | (simp; done) | (simp [*]; done)), H', ⟨Nat.le_refl _⟩, ⟨by (with_reducible repeat (first | apply Kd.R_alloc | apply Kd.R_drewN | apply Kd.R_drew)); exact HO301.out⟩, ⟨zk⟩, ⟨zk⟩, ⟨zb⟩⟩
    case round =>
     clear H'
     (try clear c1); (try clear c2); (try clear p2); (try clear c6); (try clear c7); (try clear c8); (try clear c16); (try clear hcz11_0); (try clear hcz11_1); (try clear hcz12_0); (try clear hcz12_1); (try clear hcz14_0); (try clear hcz14_1); (try clear hcz9_0); (try clear hcz9_1); (try clear hfz11_0); (try clear hfz11_1); (try clear hfz12_0); (try clear hfz12_1); (try clear hfz14_0); (try clear hfz14_1); (try clear hfz9_0); (try clear hfz9_1); (try clear p2)
     obtain ⟨x7_2, x8_2, x9_2, x299000_2, rfl, rfl, HA, HK2, HO_7, BK295, BK298, HB⟩ := hrel
     cases gk with
     | zero => exact absurd HA.out (by simp [impl_ReachedOffset.l0])
     | succ k2 =>
      have H := HA.out
      clear HA
      simp only [impl_ReachedOffset.l0] at H
      by_cases c21 : x9_2 < (x7_2.length : Int)
      ·
       rw [if_pos c21] at H
       have c21b0 : decide (x9_2 < (x7_2.length : Int)) = true := decide_eq_true c21
       clear c21
       by_cases c22 : 0 ≤ x9_2
       ·
        rw [if_pos c22] at H
        have c22b0 : decide (0 ≤ x9_2) = true := decide_eq_true c22
        clear c22
        replace H := Option.bind_eq_some_iff.mp H
        obtain ⟨t303, A230, H⟩ := H
        (try dsimp only at H)
        have A23 := zm A230
        clear A230
        obtain ⟨ji24, hji24⟩ : ∃ j_ : Int, (mx x8_2 t303) = j_ := ⟨_, rfl⟩
        replace H : (impl_ReachedOffset.l1 k2 a1 x7_2 ji24 x9_2 (wrap64 (-a1)) a0_0 a0_1 x299000_2) = some (r1, r2) := by first | (rw [hji24] at H; exact H) | (simp only [hji24] at H ⊢; exact H)
        (try rw [hji24] at A23)
        have hji24_ : (if x8_2 < t303 then t303 else x8_2) = ji24 := hji24
        have H' := zm H
        clear H
        obtain ⟨Ao25, co25, eo25⟩ := Kd.R_slice HO_7.out
        subst eo25
        have p302 : 0 ≤ (x9_2 : Int) := zd
        have q302 : x9_2 < (x7_2.length : Int) := zd
        obtain ⟨ad302, e302, hx302_0⟩ := Kd.at_int (Kd.R_reads' HO_7.out).2.2 x9_2 p302 q302
        cases e302
        replace p302 := eq_true p302
        replace q302 := eq_true q302
        go_wp2_with (first | ((with_reducible refine gate_callee (f := 99) rfl ?_); refine goesA_ (some 40) Try.func99 #[.int .i64 (rd x7_2 x9_2), .int .i64 0] rfl ?_; (with_reducible refine (impl_distance.calls (rd x7_2 x9_2) 0 t303 _ A23.out).mono ?_); rintro e w26 ⟨rfl, hb⟩; refine ⟨_, rfl, ?_⟩; have n0_ := zm (Kd.R_below (by (with_reducible repeat (first | apply Kd.R_alloc | apply Kd.R_drewN | apply Kd.R_drew)); exact HO_7.out) hb); have n1_ := zm (blk_below (g := gb295) zk hb); have n2_ := zm (blk_below (g := gb298) zk hb); have n3_ := zm (below_step zb hb); clear HO_7; clear BK295; clear BK298; clear HB; have HO_7 := n0_; have BK295 := n1_; have BK298 := n2_; have HB := n3_; clear n0_ n1_ n2_ n3_; (try clear hb); (try clear hb2); (try clear hk); (try clear hi)))
        go_loopg [7, 10] k2 (fun kq v7 v10 w' => ∃ (x7_3 : List Int) (x10_3 : Int) (x299000_3 : List (Int × Bool)), v10 = .int .i64 x10_3 ∧ Aside0 (impl_ReachedOffset.l1 kq a1 x7_3 ji24 x9_2 x10_3 a0_0 a0_1 x299000_3 = some (r1, r2)) ∧ Aside0 (kq ≤ k2) ∧ Aside0 (Kd.R (Kd.int .i64) 3 w' w.heap.size (fun _ => True) v7 x7_3) ∧ Aside0 (w'.heap[gb295]? = some (.cells #[.int .i64 a0_0, .int .i64 a0_1] 47 (0, 0))) ∧ Aside0 (w'.heap[gb298]? = some (Mp.mObj Value.bool x299000_3)) ∧ Aside0 (Below w.heap.size w w'))
        case atStart => exact ⟨(x7_2), (wrap64 (-a1)), (x299000_2), (by first | rfl | (simp; done) | (simp [*]; done)), H', ⟨Nat.le_refl _⟩, ⟨by (with_reducible repeat (first | apply Kd.R_alloc | apply Kd.R_drewN | apply Kd.R_drew)); exact HO_7.out⟩, ⟨zk⟩, ⟨zk⟩, ⟨zb⟩⟩
        case round =>
         clear H'
         (try clear c1); (try clear c2); (try clear p2); (try clear p3); (try clear q3); (try clear hx3); (try clear c6); (try clear p6); (try clear c7); (try clear c8); (try clear c9); (try clear c16); (try clear c21); (try clear c21b0); (try clear c22); (try clear c22b0); (try clear hcz11_0); (try clear hcz11_1); (try clear hcz12_0); (try clear hcz12_1); (try clear hcz14_0); (try clear hcz14_1); (try clear hcz9_0); (try clear hcz9_1); (try clear hfz11_0); (try clear hfz11_1); (try clear hfz12_0); (try clear hfz12_1); (try clear hfz14_0); (try clear hfz14_1); (try clear hfz9_0); (try clear hfz9_1); (try clear hx302_0); (try clear p2); (try clear p302); (try clear q302)
         obtain ⟨x7_3, x10_3, x299000_3, rfl, HA, HK3, HO_7, BK295, BK298, HB⟩ := hrel
         cases gk with
         | zero => exact absurd HA.out (by simp [impl_ReachedOffset.l1])
         | succ k3 =>
          have H := HA.out
          clear HA
          simp only [impl_ReachedOffset.l1] at H
          by_cases c27 : x10_3 ≤ a1
          ·
           rw [if_pos c27] at H
           have c27b0 : decide (x10_3 ≤ a1) = true := decide_eq_true c27
           clear c27
           by_cases c28 : 0 ≤ x9_2
           ·
            rw [if_pos c28] at H
            have c28b0 : decide (0 ≤ x9_2) = true := decide_eq_true c28
            clear c28
            by_cases c29 : x9_2 < (x7_3.length : Int)
            ·
             rw [if_pos c29] at H
             have c29b0 : decide (x9_2 < (x7_3.length : Int)) = true := decide_eq_true c29
             clear c29
             replace H := Option.bind_eq_some_iff.mp H
             obtain ⟨t305, A300, H⟩ := H
             (try dsimp only at H)
             have A30 := zm A300
             clear A300
             by_cases c31 : Mp.mget false x299000_3 t305 = true
             ·
              rw [if_pos c31] at H
              have c31b0 : Mp.mget false x299000_3 t305 = true := c31
              clear c31
              have H' := zm H
              clear H
              try go_wp2
              have n0_ := zm (Kd.R_drew HO_7.out)
              have n1_ := zm (blk_drew BK295.out)
              have n2_ := zm (blk_drew BK298.out)
              have n3_ := zm (below_drew1 HB.out)
              clear HO_7
              clear BK295
              clear BK298
              clear HB
              have HO_7 := n0_
              have BK295 := n1_
              have BK298 := n2_
              have HB := n3_
              clear n0_ n1_ n2_ n3_
              obtain ⟨Ao33, co33, eo33⟩ := Kd.R_slice HO_7.out
              (first | subst eo33 | (injection eo33 with f1_ f2_ f3_; have f4_ := f1_.symm; have f5_ := f3_.symm; clear f1_ f2_ f3_; subst f4_; subst f5_))
              have p304 : 0 ≤ (x9_2 : Int) := zd
              have q304 : x9_2 < (x7_3.length : Int) := zd
              obtain ⟨ad304, e304, hx304_0⟩ := Kd.at_int (Kd.R_reads' HO_7.out).2.2 x9_2 p304 q304
              cases e304
              replace p304 := eq_true p304
              replace q304 := eq_true q304
              refine start_ (n := 8) (S := fun w' => w'.cell? ⟨gb295, 0, none⟩ = some (.int .i64 a0_0) ∧ w'.cell? ⟨gb295, 1, none⟩ = some (.int .i64 a0_1) ∧ w'.cell? (ad304.add (x9_2).toNat) = some (.int .i64 (rd x7_3 x9_2))) (ds := []) #[false, false, false, false, false, false, false, false] (by kernel_rfl) rfl rfl ⟨(blk_cell BK295.out 0).trans rfl, (blk_cell BK295.out 1).trans rfl, hx304_0⟩ (fun hHeld => ?_); refine with_tabW impl_ReachedOffset.tab13 impl_ReachedOffset.bits13 (fun HT_ HW_ => ?_)
              generalize wr.drew = w32 at HO_7 BK295 BK298 HB hx304_0 hHeld ⊢
              refine pure_ (i := 1) (N := some 50) (v := ?_) (a' := ?_) #[false, true, false, false, false, false, false, false] rfl rfl (any_of HT_.out (by kernel_rfl)) (fun _ _ _ h => h) (Or.inl ⟨by rfl, ?_⟩) ?_ ?_
              rotate_left
              ·
               intro w'
               go_simp
               with_reducible rfl
              rotate_left
              ·
               simp only [Act.put, zA, zB, zD, i64_w, i32_w]
               rfl
              refine pure_ (i := 2) (N := some 51) (v := ?_) (a' := ?_) #[false, true, true, false, false, false, false, false] rfl rfl (any_of HT_.out (by kernel_rfl)) (fun _ _ _ h => h) (Or.inl ⟨by rfl, ?_⟩) ?_ ?_
              rotate_left
              ·
               intro w'
               go_simp
               with_reducible rfl
              rotate_left
              ·
               simp only [Act.put, zA, zB, zD, i64_w, i32_w]
               rfl
              refine pure_ (i := 3) (N := some 52) (v := ?_) (a' := ?_) #[false, true, true, true, false, false, false, false] rfl rfl (any_of HT_.out (by kernel_rfl)) (fun _ _ _ h => h) (Or.inl ⟨by rfl, ?_⟩) ?_ ?_
              rotate_left
              ·
               intro w'
               go_simp
               with_reducible rfl
              rotate_left
              ·
               simp only [Act.put, zA, zB, zD, i64_w, i32_w]
               rfl
              refine pure_ (i := 5) (N := some 54) (v := ?_) (a' := ?_) #[false, true, true, true, false, true, false, false] rfl rfl (any_of HT_.out (by kernel_rfl)) (fun _ _ _ h => h) (Or.inl ⟨by rfl, ?_⟩) ?_ ?_
              rotate_left
              ·
               intro w'
               go_simp
               with_reducible rfl
              rotate_left
              ·
               simp only [Act.put, zA, zB, zD, i64_w, i32_w]
               rfl
              refine take_ (i := 0) (N := some 49) (v := ?_) (a' := ?_) #[true, true, true, true, false, true, false, false] rfl rfl (take_ofW HT_.out HW_.out (by kernel_rfl)) (fun _ _ _ h => h) (Or.inl ⟨by rfl, ?_⟩) hHeld ?_ ?_
              rotate_left
              ·
               rintro w' ⟨s0, s1, s2⟩
               go_simp
               with_reducible rfl
              rotate_left
              ·
               simp only [Act.put, zA, zB, zD, i64_w, i32_w]
               rfl
              refine take_ (i := 4) (N := some 53) (v := ?_) (a' := ?_) #[true, true, true, true, true, true, false, false] rfl rfl (take_ofW HT_.out HW_.out (by kernel_rfl)) (fun _ _ _ h => h) (Or.inl ⟨by rfl, ?_⟩) hHeld ?_ ?_
              rotate_left
              ·
               rintro w' ⟨s0, s1, s2⟩
               go_simp
               with_reducible rfl
              rotate_left
              ·
               simp only [Act.put, zA, zB, zD, i64_w, i32_w]
               rfl
              refine one_ (i := 6) (N := some 55) #[true, true, true, true, true, true, true, false] rfl rfl (one_of HT_.out (by kernel_rfl)) (by decide) (fun K hK => ?_)
              refine goes_ Try.func100 (by kernel_rfl) rfl #[.agg #[.int .i64 a0_0, .int .i64 a0_1], .int .i64 (rd x7_3 x9_2), .int .i64 x10_3] (by rfl) rfl rfl (by (try simp only [List.map_toArray, List.map_cons, List.map_nil]); first | done | rfl | (simp only [List.length_drop, List.length_take]; rfl)) ?_
              with_reducible refine (impl_moved.calls a0_0 a0_1 (rd x7_3 x9_2) x10_3 t305 _ A30.out).mono ?_
              rintro e w34 ⟨rfl, hb⟩
              have HS2_ := (hb.cell (World.block_lt_of_cell? _ _ (hHeld.2.2))).trans (hHeld.2.2)
              refine ⟨_, rfl, ?_⟩
              have n0_ := zm (Kd.R_below (by (with_reducible repeat (first | apply Kd.R_alloc | apply Kd.R_drewN | apply Kd.R_drew)); exact HO_7.out) hb)
              have n1_ := zm (blk_below (g := gb295) zk hb)
              have n2_ := zm (blk_below (g := gb298) zk hb)
              have n3_ := zm (below_step zb hb)
              clear HO_7
              clear BK295
              clear BK298
              clear HB
              have HO_7 := n0_
              have BK295 := n1_
              have BK298 := n2_
              have HB := n3_
              clear n0_ n1_ n2_ n3_
              (try clear hb)
              (try clear hb2)
              (try clear hk)
              (try clear hi)
              refine hK.out _ _ ⟨(blk_cell BK295.out 0).trans rfl, (blk_cell BK295.out 1).trans rfl, HS2_⟩ (fun hHeld => ?_)
              clear hK K
              refine norm_ (a' := ?_) ?_ ?_
              rotate_left
              ·
               show Act.put _ (some 55) _ = _
               simp only [Act.put, zA, zB, zD, i64_w, i32_w]
               rfl
              refine pure_ (i := 7) (N := some 11) (v := ?_) (a' := ?_) #[true, true, true, true, true, true, true, true] rfl rfl (any_of HT_.out (by kernel_rfl)) (fun _ _ _ h => h) (Or.inl ⟨by rfl, ?_⟩) ?_ ?_
              rotate_left
              ·
               intro w'
               go_simp
               with_reducible rfl
              rotate_left
              ·
               simp only [Act.put, zA, zB, zD, i64_w, i32_w]
               rfl
              refine done_ (done_of HT_.out (by kernel_rfl)) ?_
              have hnb35 := NB298_295.out
              have hnc35 := NB295_298.out
              have hlz36_true : ∀ k_ : Int, (Instr.lookup 101 (.map (some gb298)) (.int .i64 k_) true).run Try.prog w34 = .ok (.tuple #[Value.bool (Mp.mget false x299000_3 k_), .bool (Mp.mhas x299000_3 k_)]) w34 := fun k_ => Mp.run_lookup (enc := Value.bool) Try.underlying101 Try.underlying3 false (fun w_ => impl_ReachedOffset.zeroM101 w_) BK298.out k_ true
              have hlz36_false : ∀ k_ : Int, (Instr.lookup 101 (.map (some gb298)) (.int .i64 k_) false).run Try.prog w34 = .ok (Value.bool (Mp.mget false x299000_3 k_)) w34 := fun k_ => Mp.run_lookup (enc := Value.bool) Try.underlying101 Try.underlying3 false (fun w_ => impl_ReachedOffset.zeroM101 w_) BK298.out k_ false
              have hlz36_truen : ∀ (n_ : Nat) (k_ : Int), (Instr.lookup 101 (.map (some gb298)) (.int .i64 k_) true).run Try.prog (w34.drewN n_) = .ok (.tuple #[Value.bool (Mp.mget false x299000_3 k_), .bool (Mp.mhas x299000_3 k_)]) (w34.drewN n_) := fun n_ k_ => Mp.run_lookup (enc := Value.bool) Try.underlying101 Try.underlying3 false (fun w_ => impl_ReachedOffset.zeroM101 w_) (show (w34.drewN n_).heap[gb298]? = _ from BK298.out) k_ true
              have hlz36_falsen : ∀ (n_ : Nat) (k_ : Int), (Instr.lookup 101 (.map (some gb298)) (.int .i64 k_) false).run Try.prog (w34.drewN n_) = .ok (Value.bool (Mp.mget false x299000_3 k_)) (w34.drewN n_) := fun n_ k_ => Mp.run_lookup (enc := Value.bool) Try.underlying101 Try.underlying3 false (fun w_ => impl_ReachedOffset.zeroM101 w_) (show (w34.drewN n_).heap[gb298]? = _ from BK298.out) k_ false
              try go_wp2
              go_roundg k3
              case measure => have := HJ2.out; have := HK2.out; have := HK3.out; omega
              case rel => exact ⟨(x7_3), (wrap64 (x10_3 + 1)), (x299000_3), (by first | rfl | (simp; done) | (simp [*]; done)), H', ⟨by have := HJ2.out; have := HK2.out; have := HK3.out; omega⟩, ⟨by (with_reducible repeat (first | apply Kd.R_alloc | apply Kd.R_drewN | apply Kd.R_drew)); exact HO_7.out⟩, ⟨zk⟩, ⟨zk⟩, ⟨zb⟩⟩
             ·
              rw [if_neg c31] at H
              have c31b0 : Mp.mget false x299000_3 t305 = false := by simpa using c31
              clear c31
              by_cases c37 : x7_3.length < 17592186044416
              ·
               rw [if_pos c37] at H
               have LMc37 := zm c37
               clear c37
               obtain ⟨y306, hy306⟩ : ∃ y_ : List Int, y_ = (x7_3 ++ [t305]) := ⟨_, rfl⟩
               replace H : (impl_ReachedOffset.l1 k3 a1 y306 ji24 x9_2 (wrap64 (x10_3 + 1)) a0_0 a0_1 (Mp.mput x299000_3 t305 true)) = some (r1, r2) := by first | (rw [hy306]; with_reducible exact H) | (have H2_ := (Option.bind_some _ _).symm.trans H; rw [hy306]; with_reducible exact H2_) | (have H2_ := (Option.bind_some _ _).symm.trans H; with_reducible exact H2_) | with_reducible exact H | (rw [hy306]; exact H) | exact H
               have Ny306 := zm hy306
               clear hy306
               have H' := zm H
               clear H
               try go_wp2
               have n0_ := zm (Kd.R_drew HO_7.out)
               have n1_ := zm (blk_drew BK295.out)
               have n2_ := zm (blk_drew BK298.out)
               have n3_ := zm (below_drew1 HB.out)
               clear HO_7
               clear BK295
               clear BK298
               clear HB
               have HO_7 := n0_
               have BK295 := n1_
               have BK298 := n2_
               have HB := n3_
               clear n0_ n1_ n2_ n3_
               obtain ⟨Ao39, co39, eo39⟩ := Kd.R_slice HO_7.out
               (first | subst eo39 | (injection eo39 with f1_ f2_ f3_; have f4_ := f1_.symm; have f5_ := f3_.symm; clear f1_ f2_ f3_; subst f4_; subst f5_))
               have p304 : 0 ≤ (x9_2 : Int) := zd
               have q304 : x9_2 < (x7_3.length : Int) := zd
               obtain ⟨ad304, e304, hx304_0⟩ := Kd.at_int (Kd.R_reads' HO_7.out).2.2 x9_2 p304 q304
               cases e304
               replace p304 := eq_true p304
               replace q304 := eq_true q304
               refine start_ (n := 8) (S := fun w' => w'.cell? ⟨gb295, 0, none⟩ = some (.int .i64 a0_0) ∧ w'.cell? ⟨gb295, 1, none⟩ = some (.int .i64 a0_1) ∧ w'.cell? (ad304.add (x9_2).toNat) = some (.int .i64 (rd x7_3 x9_2))) (ds := []) #[false, false, false, false, false, false, false, false] (by kernel_rfl) rfl rfl ⟨(blk_cell BK295.out 0).trans rfl, (blk_cell BK295.out 1).trans rfl, hx304_0⟩ (fun hHeld => ?_); refine with_tabW impl_ReachedOffset.tab13 impl_ReachedOffset.bits13 (fun HT_ HW_ => ?_)
               generalize wr.drew = w38 at HO_7 BK295 BK298 HB hx304_0 hHeld ⊢
               refine pure_ (i := 1) (N := some 50) (v := ?_) (a' := ?_) #[false, true, false, false, false, false, false, false] rfl rfl (any_of HT_.out (by kernel_rfl)) (fun _ _ _ h => h) (Or.inl ⟨by rfl, ?_⟩) ?_ ?_
               rotate_left
               ·
                intro w'
                go_simp
                with_reducible rfl
               rotate_left
               ·
                simp only [Act.put, zA, zB, zD, i64_w, i32_w]
                rfl
               refine pure_ (i := 2) (N := some 51) (v := ?_) (a' := ?_) #[false, true, true, false, false, false, false, false] rfl rfl (any_of HT_.out (by kernel_rfl)) (fun _ _ _ h => h) (Or.inl ⟨by rfl, ?_⟩) ?_ ?_
               rotate_left
               ·
                intro w'
                go_simp
                with_reducible rfl
               rotate_left
               ·
                simp only [Act.put, zA, zB, zD, i64_w, i32_w]
                rfl
               refine pure_ (i := 3) (N := some 52) (v := ?_) (a' := ?_) #[false, true, true, true, false, false, false, false] rfl rfl (any_of HT_.out (by kernel_rfl)) (fun _ _ _ h => h) (Or.inl ⟨by rfl, ?_⟩) ?_ ?_
               rotate_left
               ·
                intro w'
                go_simp
                with_reducible rfl
               rotate_left
               ·
                simp only [Act.put, zA, zB, zD, i64_w, i32_w]
                rfl
               refine pure_ (i := 5) (N := some 54) (v := ?_) (a' := ?_) #[false, true, true, true, false, true, false, false] rfl rfl (any_of HT_.out (by kernel_rfl)) (fun _ _ _ h => h) (Or.inl ⟨by rfl, ?_⟩) ?_ ?_
               rotate_left
               ·
                intro w'
                go_simp
                with_reducible rfl
               rotate_left
               ·
                simp only [Act.put, zA, zB, zD, i64_w, i32_w]
                rfl
               refine take_ (i := 0) (N := some 49) (v := ?_) (a' := ?_) #[true, true, true, true, false, true, false, false] rfl rfl (take_ofW HT_.out HW_.out (by kernel_rfl)) (fun _ _ _ h => h) (Or.inl ⟨by rfl, ?_⟩) hHeld ?_ ?_
               rotate_left
               ·
                rintro w' ⟨s0, s1, s2⟩
                go_simp
                with_reducible rfl
               rotate_left
               ·
                simp only [Act.put, zA, zB, zD, i64_w, i32_w]
                rfl
               refine take_ (i := 4) (N := some 53) (v := ?_) (a' := ?_) #[true, true, true, true, true, true, false, false] rfl rfl (take_ofW HT_.out HW_.out (by kernel_rfl)) (fun _ _ _ h => h) (Or.inl ⟨by rfl, ?_⟩) hHeld ?_ ?_
               rotate_left
               ·
                rintro w' ⟨s0, s1, s2⟩
                go_simp
                with_reducible rfl
               rotate_left
               ·
                simp only [Act.put, zA, zB, zD, i64_w, i32_w]
                rfl
               refine one_ (i := 6) (N := some 55) #[true, true, true, true, true, true, true, false] rfl rfl (one_of HT_.out (by kernel_rfl)) (by decide) (fun K hK => ?_)
               refine goes_ Try.func100 (by kernel_rfl) rfl #[.agg #[.int .i64 a0_0, .int .i64 a0_1], .int .i64 (rd x7_3 x9_2), .int .i64 x10_3] (by rfl) rfl rfl (by (try simp only [List.map_toArray, List.map_cons, List.map_nil]); first | done | rfl | (simp only [List.length_drop, List.length_take]; rfl)) ?_
               with_reducible refine (impl_moved.calls a0_0 a0_1 (rd x7_3 x9_2) x10_3 t305 _ A30.out).mono ?_
               rintro e w40 ⟨rfl, hb⟩
               have HS2_ := (hb.cell (World.block_lt_of_cell? _ _ (hHeld.2.2))).trans (hHeld.2.2)
               refine ⟨_, rfl, ?_⟩
               have n0_ := zm (Kd.R_below (by (with_reducible repeat (first | apply Kd.R_alloc | apply Kd.R_drewN | apply Kd.R_drew)); exact HO_7.out) hb)
               have n1_ := zm (blk_below (g := gb295) zk hb)
               have n2_ := zm (blk_below (g := gb298) zk hb)
               have n3_ := zm (below_step zb hb)
               clear HO_7
               clear BK295
               clear BK298
               clear HB
               have HO_7 := n0_
               have BK295 := n1_
               have BK298 := n2_
               have HB := n3_
               clear n0_ n1_ n2_ n3_
               (try clear hb)
               (try clear hb2)
               (try clear hk)
               (try clear hi)
               refine hK.out _ _ ⟨(blk_cell BK295.out 0).trans rfl, (blk_cell BK295.out 1).trans rfl, HS2_⟩ (fun hHeld => ?_)
               clear hK K
               refine norm_ (a' := ?_) ?_ ?_
               rotate_left
               ·
                show Act.put _ (some 55) _ = _
                simp only [Act.put, zA, zB, zD, i64_w, i32_w]
                rfl
               refine pure_ (i := 7) (N := some 11) (v := ?_) (a' := ?_) #[true, true, true, true, true, true, true, true] rfl rfl (any_of HT_.out (by kernel_rfl)) (fun _ _ _ h => h) (Or.inl ⟨by rfl, ?_⟩) ?_ ?_
               rotate_left
               ·
                intro w'
                go_simp
                with_reducible rfl
               rotate_left
               ·
                simp only [Act.put, zA, zB, zD, i64_w, i32_w]
                rfl
               refine done_ (done_of HT_.out (by kernel_rfl)) ?_
               have hnb41 := NB298_295.out
               have hnc41 := NB295_298.out
               have hlz42_true : ∀ k_ : Int, (Instr.lookup 101 (.map (some gb298)) (.int .i64 k_) true).run Try.prog w40 = .ok (.tuple #[Value.bool (Mp.mget false x299000_3 k_), .bool (Mp.mhas x299000_3 k_)]) w40 := fun k_ => Mp.run_lookup (enc := Value.bool) Try.underlying101 Try.underlying3 false (fun w_ => impl_ReachedOffset.zeroM101 w_) BK298.out k_ true
               have hlz42_false : ∀ k_ : Int, (Instr.lookup 101 (.map (some gb298)) (.int .i64 k_) false).run Try.prog w40 = .ok (Value.bool (Mp.mget false x299000_3 k_)) w40 := fun k_ => Mp.run_lookup (enc := Value.bool) Try.underlying101 Try.underlying3 false (fun w_ => impl_ReachedOffset.zeroM101 w_) BK298.out k_ false
               have hlz42_truen : ∀ (n_ : Nat) (k_ : Int), (Instr.lookup 101 (.map (some gb298)) (.int .i64 k_) true).run Try.prog (w40.drewN n_) = .ok (.tuple #[Value.bool (Mp.mget false x299000_3 k_), .bool (Mp.mhas x299000_3 k_)]) (w40.drewN n_) := fun n_ k_ => Mp.run_lookup (enc := Value.bool) Try.underlying101 Try.underlying3 false (fun w_ => impl_ReachedOffset.zeroM101 w_) (show (w40.drewN n_).heap[gb298]? = _ from BK298.out) k_ true
               have hlz42_falsen : ∀ (n_ : Nat) (k_ : Int), (Instr.lookup 101 (.map (some gb298)) (.int .i64 k_) false).run Try.prog (w40.drewN n_) = .ok (Value.bool (Mp.mget false x299000_3 k_)) (w40.drewN n_) := fun n_ k_ => Mp.run_lookup (enc := Value.bool) Try.underlying101 Try.underlying3 false (fun w_ => impl_ReachedOffset.zeroM101 w_) (show (w40.drewN n_).heap[gb298]? = _ from BK298.out) k_ false
               try go_wp2_with (first | (at_mapUpdate; refine Mp.put_event (t := 101) Try.underlying101 Try.underlying3 Value.bool rfl rfl rfl zk rfl (t305) (true) ?hx ?hy ?_; (case hx => first | rfl | (go_simp; done) | (go_simp; rfl)); (case hy => first | rfl | (go_simp; done) | (go_simp; rfl)); intro w43 hp_ hg; have n0_ := zm (Mp.R_put (by (with_reducible repeat (first | apply Kd.R_alloc | apply Kd.R_drewN | apply Kd.R_drew)); exact HO_7.out) zk hg); have n1_ := zm (Mp.blk_put (by exact BK295.out) hg NB295_298.out); have n2_ := zm (hp_); have n3_ := zm (Below.grown zb hg (below_size zb) (fun j_ hj_ => by cases hj_; exact GE298.out)); clear HO_7; clear BK295; clear BK298; clear HB; have HO_7 := n0_; have BK295 := n1_; have BK298 := n2_; have HB := n3_; clear n0_ n1_ n2_ n3_; clear hp_ hg) | ((with_reducible refine gate_builtin (b := .append) (xs := #[.tmp 62, .tmp 64]) rfl ?_); at_builtin; refine Kd.R_append (Kd.int .i64) (w0 := w) w.heap.size rfl (.tmp 62) (.tmp 64) 23 3 (.int .i64 0) 8 rfl Try.underlying23 info3 rfl (by decide) (by omega) (.slice (some ad304) x7_3.length co39) x7_3 t305 [.int .i64 t305] (fun _ => True) (fun _ => False) rfl rfl ?aP (fun _ hk => hk.elim) ?aF ?aO ?aB ?aS ?aL ?_; (case aP => exact rfl); (case aB => exact zb); (case aF => exact (fun _ _ => trivial)); (case aO => exact (by (with_reducible repeat (first | apply Kd.R_alloc | apply Kd.R_drewN | apply Kd.R_drew)); exact HO_7.out)); (case aS => exact (below_size zb)); (case aL => have := LMc37.out; omega); intro v307 w44 ho hb hg hat; rw [← Ny306.out] at ho; have n0_ := zm (blk_grown (g := gb295) (o := .cells #[.int .i64 a0_0, .int .i64 a0_1] 47 (0, 0)) zk hg (Kd.R_ne HO_7.out BK295.out (by decide))); have n1_ := zm (blk_grown (g := gb298) (o := Mp.mObj Value.bool (Mp.mput x299000_3 t305 true)) zk hg (Mp.R_ne HO_7.out BK298.out)); have n2_ := zm (hb); have n3_ := zm (ho); clear BK295; clear BK298; clear HB; clear HO_7; have BK295 := n0_; have BK298 := n1_; have HB := n2_; have HO308 := n3_; clear n0_ n1_ n2_ n3_; clear ho hb hg hat))
               go_roundg k3
               case measure => have := HJ2.out; have := HK2.out; have := HK3.out; omega
               case rel => exact ⟨(y306), (wrap64 (x10_3 + 1)), (Mp.mput x299000_3 t305 true), (by first | rfl | (simp; done) | (simp [*]; done)), H', ⟨by have := HJ2.out; have := HK2.out; have := HK3.out; omega⟩, ⟨by (with_reducible repeat (first | apply Kd.R_alloc | apply Kd.R_drewN | apply Kd.R_drew)); exact HO308.out⟩, ⟨zk⟩, ⟨zk⟩, ⟨zb⟩⟩
              ·
               rw [if_neg c37] at H
               exact absurd H (by simp)
            ·
             rw [if_neg c29] at H
             exact absurd H (by simp)
           ·
            rw [if_neg c28] at H
            exact absurd H (by simp)
          ·
           rw [if_neg c27] at H
           have c27b0 : decide (x10_3 ≤ a1) = false := decide_eq_false c27
           clear c27
           have H' := zm H
           clear H
           go_wp2
           go_roundg k3
           case measure => have := HJ2.out; have := HK2.out; have := HK3.out; omega
           case rel => exact ⟨(x7_3), (ji24), (wrap64 (x9_2 + 1)), (x299000_3), (by first | rfl | (simp; done) | (simp only [← hji24] <;> (first | rfl | simp)) | (simp [*]; done)), (by first | rfl | (simp; done) | (simp [*]; done)), H', ⟨by have := HJ2.out; have := HK2.out; have := HK3.out; omega⟩, ⟨by (with_reducible repeat (first | apply Kd.R_alloc | apply Kd.R_drewN | apply Kd.R_drew)); exact HO_7.out⟩, ⟨zk⟩, ⟨zk⟩, ⟨zb⟩⟩
       ·
        rw [if_neg c22] at H
        exact absurd H (by simp)
      ·
       rw [if_neg c21] at H
       have c21b0 : decide (x9_2 < (x7_2.length : Int)) = false := decide_eq_false c21
       clear c21
       simp only [Option.some.injEq, Prod.mk.injEq] at H
       obtain ⟨rfl, rfl⟩ := H
       obtain ⟨Ao45, co45, eo45⟩ := Kd.R_slice HO_7.out
       subst eo45
       go_wp2
       go_ret2
       exact ⟨zr, zb⟩

/-! ### impl_areDrifts: function 122 -/
def impl_areDrifts.l0 : Nat → List Int → List Int → Int → Int → Option (Bool)
  | 0, _, _, _, _ => none
  | k + 1, x0, x5, x6, x7 => if x7 < x6 then (if 0 ≤ x7 then (if x7 < (x5.length : Int) then (if (rd x5 x7) < (-50) then (some false) else (if (rd x5 x7) > 50 then (some false) else (impl_areDrifts.l0 k x0 x5 x6 (wrap64 (x7 + 1))))) else (none)) else (none)) else (some (decide ((x0.length : Int) ≤ 100)))
def impl_areDrifts.f (k : Nat) (l0 : List Int) : Option (Bool) := impl_areDrifts.l0 k l0 l0 (l0.length : Int) 0
theorem impl_areDrifts.mono_l : ∀ k, (∀ y0 y1 y2 y3, LeO (impl_areDrifts.l0 k y0 y1 y2 y3) (impl_areDrifts.l0 (k + 1) y0 y1 y2 y3))
  | 0 => fun _ _ _ _ r h => by simp [impl_areDrifts.l0] at h
  | k + 1 => by
    have ih0 := impl_areDrifts.mono_l k
    · intro y0 y1 y2 y3
      unfold impl_areDrifts.l0
      repeat' first
      | (with_reducible exact ih0 _ _ _ _)
      | (with_reducible exact LeO.refl _)
      | (with_reducible exact LeO.none _)
      | (with_reducible refine LeO.ite ?_ ?_)
      | (with_reducible refine LeO.bind ?_ (fun _ => ?_))
      | exact ih0 _ _ _ _
      | exact LeO.none _
      | refine LeO.ite ?_ ?_
      | refine LeO.bind ?_ (fun _ => ?_)
theorem impl_areDrifts.mono : ∀ a0 k, LeO (impl_areDrifts.f k a0) (impl_areDrifts.f (k + 1) a0) := by
  intro a0 k
  have ih0 := impl_areDrifts.mono_l k
  unfold impl_areDrifts.f
  repeat' first
      | (with_reducible exact ih0 _ _ _ _)
      | (with_reducible exact LeO.refl _)
      | (with_reducible exact LeO.none _)
      | (with_reducible refine LeO.ite ?_ ?_)
      | (with_reducible refine LeO.bind ?_ (fun _ => ?_))
      | exact ih0 _ _ _ _
      | exact LeO.none _
      | refine LeO.ite ?_ ?_
      | refine LeO.bind ?_ (fun _ => ?_)
set_option maxHeartbeats 8000000 in
set_option maxRecDepth 100000 in
theorem impl_areDrifts.calls (k : Nat) (A0 : Option Addr) (c0 : Nat) (l0 : List Int) (r : Bool) (w : World) (hr0 : Kd.C (Kd.int .i64) w A0 l0.length l0) (hc0 : l0.length ≤ c0) (h : impl_areDrifts.f k l0 = some r) :
  Calls Try.prog 122 #[.slice A0 l0.length c0] w fun e w' => e = .returned (.bool r) ∧ Drawn0 w w' := by
 have HR0 := zm hr0
 have HC0 := zm hc0
 clear hr0 hc0
 have H : (impl_areDrifts.l0 k l0 l0 (l0.length : Int) 0) = some r := h
 clear h
 have H' := zm H
 clear H
 go_enter Try.func122, Try.ntmps122
 go_wp2
 go_loopg [7] k (fun kq v7 w' => ∃ (x7_1 : Int), v7 = .int .i64 x7_1 ∧ Aside0 (impl_areDrifts.l0 kq l0 l0 (l0.length : Int) x7_1 = some r) ∧ Aside0 (kq ≤ k) ∧ Drawn0 w w')
 case atStart => exact ⟨(0), (by first | rfl | (simp; done) | (simp [*]; done)), H', ⟨Nat.le_refl _⟩, by repeat (first | exact Drawn0.refl _ | apply Drawn0.step)⟩
 case round =>
  clear H'
  try clear c1
  obtain ⟨x7_1, rfl, HA, HK1, ⟨m1, rfl⟩⟩ := hrel
  cases gk with
  | zero => exact absurd HA.out (by simp [impl_areDrifts.l0])
  | succ k1 =>
   have H := HA.out
   clear HA
   simp only [impl_areDrifts.l0] at H
   by_cases c2 : x7_1 < (l0.length : Int)
   ·
    rw [if_pos c2] at H
    have c2b0 : decide (x7_1 < (l0.length : Int)) = true := decide_eq_true c2
    clear c2
    by_cases c3 : 0 ≤ x7_1
    ·
     rw [if_pos c3] at H
     have c3b0 : decide (0 ≤ x7_1) = true := decide_eq_true c3
     clear c3
     by_cases c4 : x7_1 < (l0.length : Int)
     ·
      rw [if_pos c4] at H
      have c4b0 : decide (x7_1 < (l0.length : Int)) = true := decide_eq_true c4
      clear c4
      by_cases c5 : (rd l0 x7_1) < (-50)
      ·
       rw [if_pos c5] at H
       have c5b0 : decide ((rd l0 x7_1) < (-50)) = true := decide_eq_true c5
       clear c5
       obtain rfl := Option.some.inj H
       have p309 : 0 ≤ (x7_1 : Int) := zd
       have q309 : x7_1 < (l0.length : Int) := zd
       obtain ⟨ad309, e309, hx309_0⟩ := Kd.at_int HR0.out x7_1 p309 q309
       cases e309
       replace p309 := eq_true p309
       replace q309 := eq_true q309
       go_wp2
       go_ret
       exact ⟨by first | rfl | (simp; done) | (simp [*]; done), by repeat (first | exact Drawn0.refl _ | apply Drawn0.step)⟩
      ·
       rw [if_neg c5] at H
       have c5b0 : decide ((rd l0 x7_1) < (-50)) = false := decide_eq_false c5
       clear c5
       by_cases c6 : (rd l0 x7_1) > 50
       ·
        rw [if_pos c6] at H
        have c6b0 : decide (50 < (rd l0 x7_1)) = true := decide_eq_true c6
        clear c6
        obtain rfl := Option.some.inj H
        have p309 : 0 ≤ (x7_1 : Int) := zd
        have q309 : x7_1 < (l0.length : Int) := zd
        obtain ⟨ad309, e309, hx309_0⟩ := Kd.at_int HR0.out x7_1 p309 q309
        cases e309
        replace p309 := eq_true p309
        replace q309 := eq_true q309
        go_wp2
        go_ret
        exact ⟨by first | rfl | (simp; done) | (simp [*]; done), by repeat (first | exact Drawn0.refl _ | apply Drawn0.step)⟩
       ·
        rw [if_neg c6] at H
        have c6b0 : decide (50 < (rd l0 x7_1)) = false := decide_eq_false c6
        clear c6
        have H' := zm H
        clear H
        have p309 : 0 ≤ (x7_1 : Int) := zd
        have q309 : x7_1 < (l0.length : Int) := zd
        obtain ⟨ad309, e309, hx309_0⟩ := Kd.at_int HR0.out x7_1 p309 q309
        cases e309
        replace p309 := eq_true p309
        replace q309 := eq_true q309
        go_wp2
        go_roundg k1
        case measure => have := HK1.out; omega
        case rel => exact ⟨(wrap64 (x7_1 + 1)), (by first | rfl | (simp; done) | (simp [*]; done)), H', ⟨by have := HK1.out; omega⟩, by repeat (first | exact Drawn0.refl _ | apply Drawn0.step)⟩
     ·
      rw [if_neg c4] at H
      exact absurd H (by simp)
    ·
     rw [if_neg c3] at H
     exact absurd H (by simp)
   ·
    rw [if_neg c2] at H
    have c2b0 : decide (x7_1 < (l0.length : Int)) = false := decide_eq_false c2
    clear c2
    obtain rfl := Option.some.inj H
    go_wp2
    go_ret
    exact ⟨by first | rfl | (simp; done) | (simp [*]; done), by repeat (first | exact Drawn0.refl _ | apply Drawn0.step)⟩

end Go.Proofs.Ytepkedhmbfkenaa.PTb
