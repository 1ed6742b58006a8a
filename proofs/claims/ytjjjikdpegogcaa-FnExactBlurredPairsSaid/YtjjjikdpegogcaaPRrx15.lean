-- Written for this claim by a program of this session (wip/tpl/patchprint.py), not by print.sh.
import Derived.Test.YtjjjikdpegogcaaPRrx0
import Derived.Test.YtjjjikdpegogcaaPRrx5
import Derived.Test.YtjjjikdpegogcaaPRrx14
namespace Go.Proofs.Ytjjjikdpegogcaa.PRr
open Go.RowKit Go.Proofs.YtjjjikdpegogcaaW.PrintWords Go.Proofs.YtjjjikdpegogcaaW.PrintLast Go.Proofs.YtjjjikdpegogcaaW.PrintMore
attribute [local go_sem] max2_int min2_int max_two min_two max_three min_three max_four min_four   -- for this text's walks alone
set_option linter.unusedVariables false
set_option linter.unusedSimpArgs false

/-! ### impl_BlurredPairs: function 26 -/
mutual
def impl_BlurredPairs.l0 : Nat → List (S93) → List (List Int) → List (S93) → Int → Int → Option ((List (List Int)) × Bool)
  | 0, _, _, _, _, _ => none
  | k + 1, x8, x10, x28, x29, x30 => if x30 < x29 then (if 0 ≤ x30 then (if x30 < (x28.length : Int) then (impl_BlurredPairs.l1 k x8 x10 x30 (wrap64 (x30 + 1)) x28 x29 x30 ((rd_T93 x28 x30).f0) ((rd_T93 x28 x30).f1) ((rd_T93 x28 x30).f2)) else (none)) else (none)) else (some (x10, true))
def impl_BlurredPairs.l1 : Nat → List (S93) → List (List Int) → Int → Int → List (S93) → Int → Int → Int → Int → Int → Option ((List (List Int)) × Bool)
  | 0, _, _, _, _, _, _, _, _, _, _ => none
  | k + 1, x8, x10, x11, x13, x28, x29, x30, x427000, x427001, x427002 => if x13 < (x8.length : Int) then (if 0 ≤ x13 then (if x427000 = ((rd_T93 x8 x13).f0) then (if (mx x427001 ((rd_T93 x8 x13).f1)) < (mn x427002 ((rd_T93 x8 x13).f2)) then (if x10.length < 5864062014805 then (impl_BlurredPairs.l1 k x8 (x10 ++ [(([x11, x13] : List Int))]) x11 (wrap64 (x13 + 1)) x28 x29 x30 x427000 x427001 x427002) else (none)) else (impl_BlurredPairs.l1 k x8 x10 x11 (wrap64 (x13 + 1)) x28 x29 x30 x427000 x427001 x427002)) else (impl_BlurredPairs.l1 k x8 x10 x11 (wrap64 (x13 + 1)) x28 x29 x30 x427000 x427001 x427002)) else (none)) else (impl_BlurredPairs.l0 k x8 x10 x28 x29 (wrap64 (x30 + 1)))
end
def impl_BlurredPairs.f (k : Nat) (l0_0 : List Int) (a0_1 : Int) (l1 : List (S96)) (a2_0 : Int) (a2_1 : Int) (a2_2 : Int) : Option ((List (List Int)) × Bool) := (impl_canBePlayed.f k l0_0 a0_1 l1 a2_0 a2_1 a2_2).bind fun t415 => (if t415 = true then ((impl_spoken.f k l0_0 a0_1 l1 a2_0 a2_1 a2_2).bind fun bt416 => (impl_BlurredPairs.l0 k bt416.1 (([] : List (List Int))) bt416.1 (bt416.1.length : Int) 0)) else (some (([] : List (List Int)), false)))
theorem impl_BlurredPairs.mono_l : ∀ k, (∀ y0 y1 y2 y3 y4, LeO (impl_BlurredPairs.l0 k y0 y1 y2 y3 y4) (impl_BlurredPairs.l0 (k + 1) y0 y1 y2 y3 y4)) ∧ (∀ y0 y1 y2 y3 y4 y5 y6 y7 y8 y9, LeO (impl_BlurredPairs.l1 k y0 y1 y2 y3 y4 y5 y6 y7 y8 y9) (impl_BlurredPairs.l1 (k + 1) y0 y1 y2 y3 y4 y5 y6 y7 y8 y9))
  | 0 => ⟨fun _ _ _ _ _ r h => by simp [impl_BlurredPairs.l0] at h, fun _ _ _ _ _ _ _ _ _ _ r h => by simp [impl_BlurredPairs.l1] at h⟩
  | k + 1 => by
    obtain ⟨ih0, ih1⟩ := impl_BlurredPairs.mono_l k
    refine ⟨?_, ?_⟩
    · intro y0 y1 y2 y3 y4
      unfold impl_BlurredPairs.l0
      repeat' first
      | (with_reducible exact ih0 _ _ _ _ _)
      | (with_reducible exact ih1 _ _ _ _ _ _ _ _ _ _)
      | (with_reducible exact impl_canBePlayed.mono _ _ _ _ _ _ _)
      | (with_reducible exact impl_spoken.mono _ _ _ _ _ _ _)
      | (with_reducible exact LeO.refl _)
      | (with_reducible exact LeO.none _)
      | (with_reducible refine LeO.ite ?_ ?_)
      | (with_reducible refine LeO.bind ?_ (fun _ => ?_))
      | exact ih0 _ _ _ _ _
      | exact ih1 _ _ _ _ _ _ _ _ _ _
      | exact impl_canBePlayed.mono _ _ _ _ _ _ _
      | exact impl_spoken.mono _ _ _ _ _ _ _
      | exact LeO.none _
      | refine LeO.ite ?_ ?_
      | refine LeO.bind ?_ (fun _ => ?_)
    · intro y0 y1 y2 y3 y4 y5 y6 y7 y8 y9
      unfold impl_BlurredPairs.l1
      repeat' first
      | (with_reducible exact ih0 _ _ _ _ _)
      | (with_reducible exact ih1 _ _ _ _ _ _ _ _ _ _)
      | (with_reducible exact impl_canBePlayed.mono _ _ _ _ _ _ _)
      | (with_reducible exact impl_spoken.mono _ _ _ _ _ _ _)
      | (with_reducible exact LeO.refl _)
      | (with_reducible exact LeO.none _)
      | (with_reducible refine LeO.ite ?_ ?_)
      | (with_reducible refine LeO.bind ?_ (fun _ => ?_))
      | exact ih0 _ _ _ _ _
      | exact ih1 _ _ _ _ _ _ _ _ _ _
      | exact impl_canBePlayed.mono _ _ _ _ _ _ _
      | exact impl_spoken.mono _ _ _ _ _ _ _
      | exact LeO.none _
      | refine LeO.ite ?_ ?_
      | refine LeO.bind ?_ (fun _ => ?_)
theorem impl_BlurredPairs.mono : ∀ a0 a1 a2 a3 a4 a5 k, LeO (impl_BlurredPairs.f k a0 a1 a2 a3 a4 a5) (impl_BlurredPairs.f (k + 1) a0 a1 a2 a3 a4 a5) := by
  intro a0 a1 a2 a3 a4 a5 k
  obtain ⟨ih0, ih1⟩ := impl_BlurredPairs.mono_l k
  unfold impl_BlurredPairs.f
  repeat' first
      | (with_reducible exact ih0 _ _ _ _ _)
      | (with_reducible exact ih1 _ _ _ _ _ _ _ _ _ _)
      | (with_reducible exact impl_canBePlayed.mono _ _ _ _ _ _ _)
      | (with_reducible exact impl_spoken.mono _ _ _ _ _ _ _)
      | (with_reducible exact LeO.refl _)
      | (with_reducible exact LeO.none _)
      | (with_reducible refine LeO.ite ?_ ?_)
      | (with_reducible refine LeO.bind ?_ (fun _ => ?_))
      | exact ih0 _ _ _ _ _
      | exact ih1 _ _ _ _ _ _ _ _ _ _
      | exact impl_canBePlayed.mono _ _ _ _ _ _ _
      | exact impl_spoken.mono _ _ _ _ _ _ _
      | exact LeO.none _
      | refine LeO.ite ?_ ?_
      | refine LeO.bind ?_ (fun _ => ?_)
set_option maxHeartbeats 8000000 in
set_option maxRecDepth 100000 in
theorem impl_BlurredPairs.calls (k : Nat) (A0_0 : Option Addr) (c0_0 : Nat) (l0_0 : List Int) (a0_1 : Int) (A1 : Option Addr) (c1 : Nat) (l1 : List (S96)) (a2_0 : Int) (a2_1 : Int) (a2_2 : Int) (r1 : List (List Int)) (r2 : Bool) (w : World) (hr0_0 : Kd.C (Kd.int .i64) w A0_0 l0_0.length l0_0) (hc0_0 : l0_0.length ≤ c0_0) (hr1 : Kd.C k96 w A1 l1.length l1) (hc1 : l1.length ≤ c1) (h : impl_BlurredPairs.f k l0_0 a0_1 l1 a2_0 a2_1 a2_2 = some (r1, r2)) :
  Calls Try.prog 26 #[.agg #[.slice A0_0 l0_0.length c0_0, .int .i64 a0_1], .slice A1 l1.length c1, .agg #[.int .i64 a2_0, .int .i64 a2_1, .int .i64 a2_2]] w fun e w' => ∃ v0_ : Value, e = .returned (.tuple #[v0_, .bool r2]) ∧ Kd.S (Kd.slice 3 (Kd.int .i64)) 38 w' w.heap.size (fun _ => True) v0_ r1 ∧ Below w.heap.size w w' := by
 have hu45 := Try.underlying45
 have hu31 := Try.underlying31
 have hu93 := Try.underlying93
 have HR0_0 := zm hr0_0
 have HC0_0 := zm hc0_0
 clear hr0_0 hc0_0
 have HR1 := zm hr1
 have HC1 := zm hc1
 clear hr1 hc1
 have HB := zm (Below.refl w.heap.size w)
 have H : ((impl_canBePlayed.f k l0_0 a0_1 l1 a2_0 a2_1 a2_2).bind fun t415 => (if t415 = true then ((impl_spoken.f k l0_0 a0_1 l1 a2_0 a2_1 a2_2).bind fun bt416 => (impl_BlurredPairs.l0 k bt416.1 (([] : List (List Int))) bt416.1 (bt416.1.length : Int) 0)) else (some (([] : List (List Int)), false)))) = some (r1, r2) := h
 clear h
 replace H := Option.bind_eq_some_iff.mp H
 obtain ⟨t415, A40, H⟩ := H
 (try dsimp only at H)
 have A4 := zm A40
 clear A40
 by_cases c5 : t415 = true
 ·
  subst c5
  have H1 : ((impl_spoken.f k l0_0 a0_1 l1 a2_0 a2_1 a2_2).bind fun bt416 => (impl_BlurredPairs.l0 k bt416.1 (([] : List (List Int))) bt416.1 (bt416.1.length : Int) 0)) = some (r1, r2) := by rw [if_pos rfl] at H; exact H
  clear H
  have H := H1
  clear H1
  replace H := Option.bind_eq_some_iff.mp H
  obtain ⟨⟨t416, t419⟩, A60, H⟩ := H
  (try dsimp only at H)
  have A6 := zm A60
  clear A60
  obtain ⟨y422, hy422⟩ : ∃ y_ : List (List Int), y_ = (([] : List (List Int))) := ⟨_, rfl⟩
  replace H : (impl_BlurredPairs.l0 k t416 y422 t416 (t416.length : Int) 0) = some (r1, r2) := by first | (rw [hy422]; with_reducible exact H) | (have H2_ := (Option.bind_some _ _).symm.trans H; rw [hy422]; with_reducible exact H2_) | (have H2_ := (Option.bind_some _ _).symm.trans H; with_reducible exact H2_) | with_reducible exact H | (rw [hy422]; exact H) | exact H
  have Ny422 := zm hy422
  clear hy422
  have H' := zm H
  clear H
  go_enter Try.func26, Try.ntmps26
  go_wp2_with (first | ((with_reducible refine gate_dst (N := 3) rfl ?_); (try (refine gate_guard (by rfl) ?_; dsimp only)); refine box_event ?hg (N := 3) ?hd (cs := #[.slice A0_0 l0_0.length c0_0, .int .i64 a0_1]) (t := 45) ?hr ?_; (case hd => rfl); (case hg => rfl); (case hr => first | (go_simp; done) | (go_simp; rfl)); intro gb413 hg w7 hbox hb; have n0_ := zm (below_step zb hb); have n1_ := zm (hbox); have n2_ := zm (zs hg zb : w.heap.size ≤ gb413); have n3_ := zm (zs hg zb : w.heap.size ≤ gb413); clear HB; have HB := n0_; have BK413 := n1_; have GW413 := n2_; have GE413 := n3_; clear n0_ n1_ n2_ n3_; clear hb hbox hg) | ((with_reducible refine gate_dst (N := 5) rfl ?_); (try (refine gate_guard (by rfl) ?_; dsimp only)); refine box_event ?hg (N := 5) ?hd (cs := #[.int .i64 a2_0, .int .i64 a2_1, .int .i64 a2_2]) (t := 31) ?hr ?_; (case hd => rfl); (case hg => rfl); (case hr => first | (go_simp; done) | (go_simp; rfl)); intro gb414 hg w8 hbox hb; have n0_ := zm (blk_below (g := gb413) zk hb); have n1_ := zm (below_step zb hb); have n2_ := zm (hbox); have n3_ := zm (zs hg zb : w.heap.size ≤ gb414); have n4_ := zm (zs hg zb : w.heap.size ≤ gb414); have n5_ := zm (zl hg zk : gb413 ≠ gb414); have n6_ := zm (zg hg zk : gb414 ≠ gb413); clear BK413; clear HB; have BK413 := n0_; have HB := n1_; have BK414 := n2_; have GW414 := n3_; have GE414 := n4_; have NB413_414 := n5_; have NB414_413 := n6_; clear n0_ n1_ n2_ n3_ n4_ n5_ n6_; clear hb hbox hg; have hnb9 := NB413_414.out; have hnc9 := NB414_413.out; obtain ⟨hcz10_0, hcz10_1, hfz10_0, hfz10_1⟩ := zc2 BK413.out; obtain ⟨hcz11_0, hcz11_1, hcz11_2, hfz11_0, hfz11_1, hfz11_2⟩ := zc3 BK414.out) | ((with_reducible refine gate_callee (f := 72) rfl ?_); refine goesA_ (some 18) Try.func72 #[.agg #[.slice A0_0 l0_0.length c0_0, .int .i64 a0_1], .slice A1 l1.length c1, .agg #[.int .i64 a2_0, .int .i64 a2_1, .int .i64 a2_2]] rfl ?_; (with_reducible refine (impl_canBePlayed.calls k _ _ l0_0 a0_1 _ _ l1 a2_0 a2_1 a2_2 true _ ?side1 ?side2 ?side3 ?side4 A4.out).mono ?_); (case side1 => repeat (first | exact (Kd.C_below HR0_0.out HB.out) | (with_reducible refine Kd.C_alloc ?_ _) | (with_reducible refine Kd.C_drewN ?_ _) | (with_reducible refine Kd.C_drew ?_))); (case side2 => exact HC0_0.out); (case side3 => repeat (first | exact (Kd.C_below HR1.out HB.out) | (with_reducible refine Kd.C_alloc ?_ _) | (with_reducible refine Kd.C_drewN ?_ _) | (with_reducible refine Kd.C_drew ?_))); (case side4 => exact HC1.out); rintro e w12 ⟨rfl, hb⟩; refine ⟨_, rfl, ?_⟩; have n0_ := zm (blk_below (g := gb413) zk hb); have n1_ := zm (blk_below (g := gb414) zk hb); have n2_ := zm (below_step zb hb); clear BK413; clear BK414; clear HB; have BK413 := n0_; have BK414 := n1_; have HB := n2_; clear n0_ n1_ n2_; (try clear hb); (try clear hb2); (try clear hk); (try clear hi); obtain ⟨hcz13_0, hcz13_1, hfz13_0, hfz13_1⟩ := zc2 BK413.out; obtain ⟨hcz14_0, hcz14_1, hcz14_2, hfz14_0, hfz14_1, hfz14_2⟩ := zc3 BK414.out) | ((with_reducible refine gate_callee (f := 73) rfl ?_); refine goesA_ (some 24) Try.func73 #[.agg #[.slice A0_0 l0_0.length c0_0, .int .i64 a0_1], .slice A1 l1.length c1, .agg #[.int .i64 a2_0, .int .i64 a2_1, .int .i64 a2_2]] rfl ?_; (with_reducible refine (impl_spoken.calls k _ _ l0_0 a0_1 _ _ l1 a2_0 a2_1 a2_2 t416 t419 _ ?side1 ?side2 ?side3 ?side4 A6.out).mono ?_); (case side1 => repeat (first | exact (Kd.C_below HR0_0.out HB.out) | (with_reducible refine Kd.C_alloc ?_ _) | (with_reducible refine Kd.C_drewN ?_ _) | (with_reducible refine Kd.C_drew ?_))); (case side2 => exact HC0_0.out); (case side3 => repeat (first | exact (Kd.C_below HR1.out HB.out) | (with_reducible refine Kd.C_alloc ?_ _) | (with_reducible refine Kd.C_drewN ?_ _) | (with_reducible refine Kd.C_drew ?_))); (case side4 => exact HC1.out); rintro e w15 ⟨v417, v420, rfl, ho0, ho1, hb⟩; refine ⟨_, rfl, ?_⟩; have n0_ := zm (Kd.R_lower ho0 (below_size zb)); have n1_ := zm (Kd.R_lower ho1 (below_size zb)); have n2_ := zm (blk_below (g := gb413) zk hb); have n3_ := zm (blk_below (g := gb414) zk hb); have n4_ := zm (below_step zb hb); clear BK413; clear BK414; clear HB; have HO418 := n0_; have HO421 := n1_; have BK413 := n2_; have BK414 := n3_; have HB := n4_; clear n0_ n1_ n2_ n3_ n4_; (try clear hb); (try clear hb2); (try clear hk); (try clear hi); (try clear ho0); (try clear ho1)) | ((with_reducible refine gate_dst (N := 27) rfl ?_); (try (refine gate_guard (by rfl) ?_; dsimp only)); refine Kd.S_lit (Kd.slice 3 (Kd.int .i64)) _ 38 ?hg (N := 27) ?hd (xs := ([] : List (List Int))) (inner := []) (ok := fun _ => True) (okp := fun _ => True) ?hr ?hp (fun _ hk => hk) trivial (Below.refl _ _) (Nat.le_refl _) (by simp) ?_; (case hd => rfl); (case hg => rfl); (case hr => first | (go_simp; done) | (go_simp; rfl)); (case hp => exact (Reps.none _ _)); intro v423 w16 ho17 hb hg_ hnew_; clear hg_ hnew_; (first | rw [← Ny422.out] at ho17 | (simp only [Int.reduceToNat] at ho17; rw [← Ny422.out] at ho17)); have n0_ := zm (Kd.R_below (by (with_reducible repeat (first | apply Kd.R_alloc | apply Kd.R_drewN | apply Kd.R_drew)); exact HO418.out) hb); have n1_ := zm (Kd.R_below (by (with_reducible repeat (first | apply Kd.R_alloc | apply Kd.R_drewN | apply Kd.R_drew)); exact HO421.out) hb); have n2_ := zm (Kd.S_lower (Kd.S_new' ho17 (Kd.R_lt (by (with_reducible repeat (first | apply Kd.R_alloc | apply Kd.R_drewN | apply Kd.R_drew)); exact HO421.out))) (below_size zb)); have n3_ := zm (blk_below (g := gb413) zk hb); have n4_ := zm (blk_below (g := gb414) zk hb); have n5_ := zm (below_step zb hb); clear HO418; clear HO421; clear BK413; clear BK414; clear HB; have HO418 := n0_; have HO421 := n1_; have HO424 := n2_; have BK413 := n3_; have BK414 := n4_; have HB := n5_; clear n0_ n1_ n2_ n3_ n4_ n5_; clear hb ho17; obtain ⟨Ao18, co18, eo18⟩ := Kd.R_slice HO418.out; subst eo18))
  go_loopg [10, 30] k (fun kq v10 v30 w' => ∃ (x10_1 : List (List Int)) (x30_1 : Int), v30 = .int .i64 x30_1 ∧ Aside0 (impl_BlurredPairs.l0 kq t416 x10_1 t416 (t416.length : Int) x30_1 = some (r1, r2)) ∧ Aside0 (kq ≤ k) ∧ Aside0 (Kd.R k93 93 w' w.heap.size (fun _ => True) (.slice Ao18 t416.length co18) t416) ∧ Aside0 (Kd.S (Kd.slice 3 (Kd.int .i64)) 38 w' w.heap.size (fun _ => True) v10 x10_1) ∧ Aside0 (Kd.R k93 93 w' w.heap.size (fun _ => True) (.slice Ao18 t416.length co18) t416) ∧ Aside0 (w'.heap[gb413]? = some (.cells #[(.slice A0_0 l0_0.length c0_0), .int .i64 a0_1] 45 (0, 0))) ∧ Aside0 (w'.heap[gb414]? = some (.cells #[.int .i64 a2_0, .int .i64 a2_1, .int .i64 a2_2] 31 (0, 0))) ∧ Aside0 (Below w.heap.size w w'))
  case atStart => exact ⟨(y422), (0), (by first | rfl | (simp; done) | (simp [*]; done)), H', ⟨Nat.le_refl _⟩, ⟨by (with_reducible repeat (first | apply Kd.R_alloc | apply Kd.R_drewN | apply Kd.R_drew)); exact HO418.out⟩, ⟨by (with_reducible repeat (first | apply Kd.S_alloc | apply Kd.S_drewN | apply Kd.S_drew)); exact Kd.S_mono HO424.out (fun _ hk => trivial)⟩, ⟨by (with_reducible repeat (first | apply Kd.R_alloc | apply Kd.R_drewN | apply Kd.R_drew)); exact HO418.out⟩, ⟨zk⟩, ⟨zk⟩, ⟨zb⟩⟩
  case round =>
   clear H'
   (try clear c1); (try clear c2); (try clear p2); (try clear c5); (try clear c7); (try clear c9); (try clear hcz10_0); (try clear hcz10_1); (try clear hcz11_0); (try clear hcz11_1); (try clear hcz11_2); (try clear hcz13_0); (try clear hcz13_1); (try clear hcz14_0); (try clear hcz14_1); (try clear hcz14_2); (try clear hfz10_0); (try clear hfz10_1); (try clear hfz11_0); (try clear hfz11_1); (try clear hfz11_2); (try clear hfz13_0); (try clear hfz13_1); (try clear hfz14_0); (try clear hfz14_1); (try clear hfz14_2)
   obtain ⟨x10_1, x30_1, rfl, HA, HK1, HO_8, HO_10, HO_28, BK413, BK414, HB⟩ := hrel
   cases gk with
   | zero => exact absurd HA.out (by simp [impl_BlurredPairs.l0])
   | succ k1 =>
    have H := HA.out
    clear HA
    simp only [impl_BlurredPairs.l0] at H
    by_cases c19 : x30_1 < (t416.length : Int)
    ·
     rw [if_pos c19] at H
     have c19b0 : decide (x30_1 < (t416.length : Int)) = true := decide_eq_true c19
     clear c19
     by_cases c20 : 0 ≤ x30_1
     ·
      rw [if_pos c20] at H
      have c20b0 : decide (0 ≤ x30_1) = true := decide_eq_true c20
      clear c20
      by_cases c21 : x30_1 < (t416.length : Int)
      ·
       rw [if_pos c21] at H
       have c21b0 : decide (x30_1 < (t416.length : Int)) = true := decide_eq_true c21
       clear c21
       have H' := zm H
       clear H
       have p425 : 0 ≤ (x30_1 : Int) := zd
       have q425 : x30_1 < (t416.length : Int) := zd
       obtain ⟨ad425, e425, hx425_0, hx425_1, hx425_2⟩ := at_T93 (Kd.R_reads' HO_28.out).2.2 x30_1 p425 q425
       cases e425
       replace p425 := eq_true p425
       replace q425 := eq_true q425
       go_wp2_with (first | ((with_reducible refine gate_dst (N := 12) rfl ?_); (try (refine gate_guard (by rfl) ?_; dsimp only)); refine box_event ?hg (N := 12) ?hd (cs := #[.int .i64 0, .int .i64 0, .int .i64 0]) (t := 93) ?hr ?_; (case hd => rfl); (case hg => rfl); (case hr => first | (go_simp; done) | (go_simp; rfl)); intro gb426 hg w22 hbox hb; have n0_ := zm (Kd.R_below (Kd.R_elderB (by (with_reducible repeat (first | apply Kd.R_alloc | apply Kd.R_drewN | apply Kd.R_drew)); exact HO_8.out) gb426 (Nat.le_of_eq hg.symm)) hb); have n1_ := zm (Kd.S_below (by (with_reducible repeat (first | apply Kd.S_alloc | apply Kd.S_drewN | apply Kd.S_drew)); exact HO_10.out) hb); have n2_ := zm (Kd.R_below (Kd.R_elderB (by (with_reducible repeat (first | apply Kd.R_alloc | apply Kd.R_drewN | apply Kd.R_drew)); exact HO_28.out) gb426 (Nat.le_of_eq hg.symm)) hb); have n3_ := zm (blk_below (g := gb413) zk hb); have n4_ := zm (blk_below (g := gb414) zk hb); have n5_ := zm (below_step zb hb); have n6_ := zm (hbox); have n7_ := zm (zs hg zb : w.heap.size ≤ gb426); have n8_ := zm (zs hg zb : w.heap.size ≤ gb426); have n9_ := zm (zl hg zk : gb413 ≠ gb426); have n10_ := zm (zg hg zk : gb426 ≠ gb413); have n11_ := zm (zl hg zk : gb414 ≠ gb426); have n12_ := zm (zg hg zk : gb426 ≠ gb414); clear HO_8; clear HO_10; clear HO_28; clear BK413; clear BK414; clear HB; have HO_8 := n0_; have HO_10 := n1_; have HO_28 := n2_; have BK413 := n3_; have BK414 := n4_; have HB := n5_; have BK426 := n6_; have GW426 := n7_; have GE426 := n8_; have NB413_426 := n9_; have NB426_413 := n10_; have NB414_426 := n11_; have NB426_414 := n12_; clear n0_ n1_ n2_ n3_ n4_ n5_ n6_ n7_ n8_ n9_ n10_ n11_ n12_; clear hb hbox hg; have hnb23 := NB426_413.out; have hnc23 := NB413_426.out; have hnb24 := NB426_414.out; have hnc24 := NB414_426.out; obtain ⟨hcz25_0, hcz25_1, hcz25_2, hfz25_0, hfz25_1, hfz25_2⟩ := zc3 BK426.out))
       go_loopg [10, 13] k1 (fun kq v10 v13 w' => ∃ (x10_2 : List (List Int)) (x13_2 : Int), v13 = .int .i64 x13_2 ∧ Aside0 (impl_BlurredPairs.l1 kq t416 x10_2 x30_1 x13_2 t416 (t416.length : Int) x30_1 ((rd_T93 t416 x30_1).f0) ((rd_T93 t416 x30_1).f1) ((rd_T93 t416 x30_1).f2) = some (r1, r2)) ∧ Aside0 (kq ≤ k1) ∧ Aside0 (Kd.R k93 93 w' w.heap.size (fun k_ => k_ ≠ gb426) (.slice (some ad425) t416.length co18) t416) ∧ Aside0 (Kd.S (Kd.slice 3 (Kd.int .i64)) 38 w' w.heap.size (fun _ => True) v10 x10_2) ∧ Aside0 (Kd.R k93 93 w' w.heap.size (fun k_ => k_ ≠ gb426) (.slice (some ad425) t416.length co18) t416) ∧ Aside0 (w'.heap[gb413]? = some (.cells #[(.slice A0_0 l0_0.length c0_0), .int .i64 a0_1] 45 (0, 0))) ∧ Aside0 (w'.heap[gb414]? = some (.cells #[.int .i64 a2_0, .int .i64 a2_1, .int .i64 a2_2] 31 (0, 0))) ∧ Aside0 (w'.heap[gb426]? = some (.cells #[.int .i64 ((rd_T93 t416 x30_1).f0), .int .i64 ((rd_T93 t416 x30_1).f1), .int .i64 ((rd_T93 t416 x30_1).f2)] 93 (0, 0))) ∧ Aside0 (Below w.heap.size w w'))
       case atStart => exact ⟨(x10_1), (wrap64 (x30_1 + 1)), (by first | rfl | (simp; done) | (simp [*]; done)), H', ⟨Nat.le_refl _⟩, ⟨by (with_reducible repeat (first | apply Kd.R_alloc | apply Kd.R_drewN | apply Kd.R_drew)); exact Kd.R_mono (Kd.R_far (p := ⟨gb426, 2, none⟩) (Kd.R_far (p := ⟨gb426, 1, none⟩) (Kd.R_far (p := ⟨gb426, 0, none⟩) (Kd.R_mono HO_8.out (fun k_ hk => (⟨hk, hk.2⟩ : _ ∧ k_ ≠ gb426))) (fun _ hk => hk.2) (.int .i64 ((rd_T93 t416 x30_1).f0))) (fun _ hk => hk.2) (.int .i64 ((rd_T93 t416 x30_1).f1))) (fun _ hk => hk.2) (.int .i64 ((rd_T93 t416 x30_1).f2))) (fun _ hk => hk.1.2)⟩, ⟨by (with_reducible repeat (first | apply Kd.S_alloc | apply Kd.S_drewN | apply Kd.S_drew)); exact Kd.S_mono (Kd.S_far (p := ⟨gb426, 2, none⟩) (Kd.S_far (p := ⟨gb426, 1, none⟩) (Kd.S_far (p := ⟨gb426, 0, none⟩) (Kd.S_types HO_10.out BK426.out (by decide)) (fun _ hk => hk.2) (.int .i64 ((rd_T93 t416 x30_1).f0))) (fun _ hk => hk.2) (.int .i64 ((rd_T93 t416 x30_1).f1))) (fun _ hk => hk.2) (.int .i64 ((rd_T93 t416 x30_1).f2))) (fun _ hk => trivial)⟩, ⟨by (with_reducible repeat (first | apply Kd.R_alloc | apply Kd.R_drewN | apply Kd.R_drew)); exact Kd.R_mono (Kd.R_far (p := ⟨gb426, 2, none⟩) (Kd.R_far (p := ⟨gb426, 1, none⟩) (Kd.R_far (p := ⟨gb426, 0, none⟩) (Kd.R_mono HO_28.out (fun k_ hk => (⟨hk, hk.2⟩ : _ ∧ k_ ≠ gb426))) (fun _ hk => hk.2) (.int .i64 ((rd_T93 t416 x30_1).f0))) (fun _ hk => hk.2) (.int .i64 ((rd_T93 t416 x30_1).f1))) (fun _ hk => hk.2) (.int .i64 ((rd_T93 t416 x30_1).f2))) (fun _ hk => hk.1.2)⟩, ⟨zK⟩, ⟨zK⟩, ⟨by (with_reducible repeat (first | refine blk_drewN ?_ _ | refine blk_drew ?_ | refine blk_alloc ?_ _)); refine blk_put (cs := #[.int .i64 ((rd_T93 t416 x30_1).f0), .int .i64 ((rd_T93 t416 x30_1).f1), .int .i64 0]) ?_ 2 _ rfl; (with_reducible repeat (first | refine blk_drewN ?_ _ | refine blk_drew ?_ | refine blk_alloc ?_ _)); refine blk_put (cs := #[.int .i64 ((rd_T93 t416 x30_1).f0), .int .i64 0, .int .i64 0]) ?_ 1 _ rfl; (with_reducible repeat (first | refine blk_drewN ?_ _ | refine blk_drew ?_ | refine blk_alloc ?_ _)); refine blk_put (cs := #[.int .i64 0, .int .i64 0, .int .i64 0]) ?_ 0 _ rfl; (with_reducible repeat (first | refine blk_drewN ?_ _ | refine blk_drew ?_ | refine blk_alloc ?_ _)); exact BK426.out⟩, ⟨zb⟩⟩
       case round =>
        clear H'
        (try clear c1); (try clear c2); (try clear p2); (try clear p4); (try clear q4); (try clear hx4); (try clear c5); (try clear p6); (try clear c7); (try clear c9); (try clear c19); (try clear c19b0); (try clear c20); (try clear c20b0); (try clear c21); (try clear c21b0); (try clear c23); (try clear c24); (try clear hcz10_0); (try clear hcz10_1); (try clear hcz11_0); (try clear hcz11_1); (try clear hcz11_2); (try clear hcz13_0); (try clear hcz13_1); (try clear hcz14_0); (try clear hcz14_1); (try clear hcz14_2); (try clear hcz25_0); (try clear hcz25_1); (try clear hcz25_2); (try clear hfz10_0); (try clear hfz10_1); (try clear hfz11_0); (try clear hfz11_1); (try clear hfz11_2); (try clear hfz13_0); (try clear hfz13_1); (try clear hfz14_0); (try clear hfz14_1); (try clear hfz14_2); (try clear hfz25_0); (try clear hfz25_1); (try clear hfz25_2); (try clear hx425_0); (try clear hx425_1); (try clear hx425_2); (try clear p2); (try clear p425); (try clear q425)
        obtain ⟨x10_2, x13_2, rfl, HA, HK2, HO_8, HO_10, HO_28, BK413, BK414, BK426, HB⟩ := hrel
        cases gk with
        | zero => exact absurd HA.out (by simp [impl_BlurredPairs.l1])
        | succ k2 =>
         have H := HA.out
         clear HA
         simp only [impl_BlurredPairs.l1] at H
         by_cases c26 : x13_2 < (t416.length : Int)
         ·
          rw [if_pos c26] at H
          have c26b0 : decide (x13_2 < (t416.length : Int)) = true := decide_eq_true c26
          clear c26
          by_cases c27 : 0 ≤ x13_2
          ·
           rw [if_pos c27] at H
           have c27b0 : decide (0 ≤ x13_2) = true := decide_eq_true c27
           clear c27
           by_cases c28 : ((rd_T93 t416 x30_1).f0) = ((rd_T93 t416 x13_2).f0)
           ·
            rw [if_pos c28] at H
            have c28b0 : (((rd_T93 t416 x30_1).f0) == ((rd_T93 t416 x13_2).f0)) = true := beq_iff_eq.mpr c28
            have c28b1 : (((rd_T93 t416 x30_1).f0) != ((rd_T93 t416 x13_2).f0)) = false := bne_eq_false_iff_eq.mpr c28
            clear c28
            obtain ⟨ji29, hji29⟩ : ∃ j_ : Int, (mx ((rd_T93 t416 x30_1).f1) ((rd_T93 t416 x13_2).f1)) = j_ := ⟨_, rfl⟩
            replace H : (if (ji29) < (mn ((rd_T93 t416 x30_1).f2) ((rd_T93 t416 x13_2).f2)) then (if x10_2.length < 5864062014805 then (impl_BlurredPairs.l1 k2 t416 (x10_2 ++ [(([x30_1, x13_2] : List Int))]) x30_1 (wrap64 (x13_2 + 1)) t416 (t416.length : Int) x30_1 ((rd_T93 t416 x30_1).f0) ((rd_T93 t416 x30_1).f1) ((rd_T93 t416 x30_1).f2)) else (none)) else (impl_BlurredPairs.l1 k2 t416 x10_2 x30_1 (wrap64 (x13_2 + 1)) t416 (t416.length : Int) x30_1 ((rd_T93 t416 x30_1).f0) ((rd_T93 t416 x30_1).f1) ((rd_T93 t416 x30_1).f2))) = some (r1, r2) := by first | (rw [hji29] at H; exact H) | (simp only [hji29] at H ⊢; exact H)
            have hji29_ : (if ((rd_T93 t416 x30_1).f1) < ((rd_T93 t416 x13_2).f1) then ((rd_T93 t416 x13_2).f1) else ((rd_T93 t416 x30_1).f1)) = ji29 := hji29
            obtain ⟨ji30, hji30⟩ : ∃ j_ : Int, (mn ((rd_T93 t416 x30_1).f2) ((rd_T93 t416 x13_2).f2)) = j_ := ⟨_, rfl⟩
            replace H : (if (ji29) < (ji30) then (if x10_2.length < 5864062014805 then (impl_BlurredPairs.l1 k2 t416 (x10_2 ++ [(([x30_1, x13_2] : List Int))]) x30_1 (wrap64 (x13_2 + 1)) t416 (t416.length : Int) x30_1 ((rd_T93 t416 x30_1).f0) ((rd_T93 t416 x30_1).f1) ((rd_T93 t416 x30_1).f2)) else (none)) else (impl_BlurredPairs.l1 k2 t416 x10_2 x30_1 (wrap64 (x13_2 + 1)) t416 (t416.length : Int) x30_1 ((rd_T93 t416 x30_1).f0) ((rd_T93 t416 x30_1).f1) ((rd_T93 t416 x30_1).f2))) = some (r1, r2) := by first | (rw [hji30] at H; exact H) | (simp only [hji30] at H ⊢; exact H)
            have hji30_ : (if ((rd_T93 t416 x13_2).f2) < ((rd_T93 t416 x30_1).f2) then ((rd_T93 t416 x13_2).f2) else ((rd_T93 t416 x30_1).f2)) = ji30 := hji30
            by_cases c31 : (ji29) < (ji30)
            ·
             rw [if_pos c31] at H
             have c31b0 : decide ((ji29) < (ji30)) = true := decide_eq_true c31
             clear c31
             obtain ⟨y429, hy429⟩ : ∃ y_ : List Int, y_ = (([x30_1, x13_2] : List Int)) := ⟨_, rfl⟩
             replace H : (if x10_2.length < 5864062014805 then (impl_BlurredPairs.l1 k2 t416 (x10_2 ++ [y429]) x30_1 (wrap64 (x13_2 + 1)) t416 (t416.length : Int) x30_1 ((rd_T93 t416 x30_1).f0) ((rd_T93 t416 x30_1).f1) ((rd_T93 t416 x30_1).f2)) else (none)) = some (r1, r2) := by first | (rw [hy429]; with_reducible exact H) | (have H2_ := (Option.bind_some _ _).symm.trans H; rw [hy429]; with_reducible exact H2_) | (have H2_ := (Option.bind_some _ _).symm.trans H; with_reducible exact H2_) | with_reducible exact H | (rw [hy429]; exact H) | exact H
             have Ny429 := zm hy429
             clear hy429
             by_cases c32 : x10_2.length < 5864062014805
             ·
              rw [if_pos c32] at H
              have LMc32 := zm c32
              clear c32
              obtain ⟨y432, hy432⟩ : ∃ y_ : List (List Int), y_ = (x10_2 ++ [y429]) := ⟨_, rfl⟩
              replace H : (impl_BlurredPairs.l1 k2 t416 y432 x30_1 (wrap64 (x13_2 + 1)) t416 (t416.length : Int) x30_1 ((rd_T93 t416 x30_1).f0) ((rd_T93 t416 x30_1).f1) ((rd_T93 t416 x30_1).f2)) = some (r1, r2) := by first | (rw [hy432]; with_reducible exact H) | (have H2_ := (Option.bind_some _ _).symm.trans H; rw [hy432]; with_reducible exact H2_) | (have H2_ := (Option.bind_some _ _).symm.trans H; with_reducible exact H2_) | with_reducible exact H | (rw [hy432]; exact H) | exact H
              have Ny432 := zm hy432
              clear hy432
              have H' := zm H
              clear H
              have p427 : 0 ≤ (x13_2 : Int) := zd
              have q427 : x13_2 < (t416.length : Int) := zd
              obtain ⟨ad427, e427, hx427_0, hx427_1, hx427_2⟩ := at_T93 (Kd.R_reads' HO_8.out).2.2 x13_2 p427 q427
              have hq_ : ad427 = ad425 := (by injection e427 with z_; exact z_.symm)
              subst hq_
              replace p427 := eq_true p427
              replace q427 := eq_true q427
              go_wp2_with (first | ((with_reducible refine gate_dst (N := 14) rfl ?_); (try (refine gate_guard (by rfl) ?_; dsimp only)); refine box_event ?hg (N := 14) ?hd (cs := #[.int .i64 0, .int .i64 0, .int .i64 0]) (t := 93) ?hr ?_; (case hd => rfl); (case hg => rfl); (case hr => first | (go_simp; done) | (go_simp; rfl)); intro gb428 hg w33 hbox hb; have n0_ := zm (Kd.R_below (Kd.R_elderB (by (with_reducible repeat (first | apply Kd.R_alloc | apply Kd.R_drewN | apply Kd.R_drew)); exact HO_8.out) gb428 (Nat.le_of_eq hg.symm)) hb); have n1_ := zm (Kd.S_below (by (with_reducible repeat (first | apply Kd.S_alloc | apply Kd.S_drewN | apply Kd.S_drew)); exact HO_10.out) hb); have n2_ := zm (Kd.R_below (Kd.R_elderB (by (with_reducible repeat (first | apply Kd.R_alloc | apply Kd.R_drewN | apply Kd.R_drew)); exact HO_28.out) gb428 (Nat.le_of_eq hg.symm)) hb); have n3_ := zm (blk_below (g := gb413) zk hb); have n4_ := zm (blk_below (g := gb414) zk hb); have n5_ := zm (blk_below (g := gb426) zk hb); have n6_ := zm (below_step zb hb); have n7_ := zm (hbox); have n8_ := zm (zs hg zb : w.heap.size ≤ gb428); have n9_ := zm (zs hg zb : w.heap.size ≤ gb428); have n10_ := zm (zl hg zk : gb413 ≠ gb428); have n11_ := zm (zg hg zk : gb428 ≠ gb413); have n12_ := zm (zl hg zk : gb414 ≠ gb428); have n13_ := zm (zg hg zk : gb428 ≠ gb414); have n14_ := zm (zl hg zk : gb426 ≠ gb428); have n15_ := zm (zg hg zk : gb428 ≠ gb426); clear HO_8; clear HO_10; clear HO_28; clear BK413; clear BK414; clear BK426; clear HB; have HO_8 := n0_; have HO_10 := n1_; have HO_28 := n2_; have BK413 := n3_; have BK414 := n4_; have BK426 := n5_; have HB := n6_; have BK428 := n7_; have GW428 := n8_; have GE428 := n9_; have NB413_428 := n10_; have NB428_413 := n11_; have NB414_428 := n12_; have NB428_414 := n13_; have NB426_428 := n14_; have NB428_426 := n15_; clear n0_ n1_ n2_ n3_ n4_ n5_ n6_ n7_ n8_ n9_ n10_ n11_ n12_ n13_ n14_ n15_; clear hb hbox hg; have hnb34 := NB428_413.out; have hnc34 := NB413_428.out; have hnb35 := NB428_414.out; have hnc35 := NB414_428.out; have hnb36 := NB428_426.out; have hnc36 := NB426_428.out; obtain ⟨hcz37_0, hcz37_1, hcz37_2, hfz37_0, hfz37_1, hfz37_2⟩ := zc3 BK428.out; have hnb38 := NB426_413.out; have hnc38 := NB413_426.out; have hnb39 := NB426_414.out; have hnc39 := NB414_426.out; obtain ⟨hcz40_0, hcz40_1, hcz40_2, hfz40_0, hfz40_1, hfz40_2⟩ := zc3 BK426.out) | ((with_reducible refine gate_dst (N := 68) rfl ?_); (try (refine gate_guard (by rfl) ?_; dsimp only)); refine Kd.R_lit (Kd.int .i64) _ 3 ?hg (N := 68) ?hd (xs := ([x30_1, x13_2] : List Int)) (inner := [.int .i64 x30_1, .int .i64 x13_2]) (ok := fun _ => True) (okp := fun _ => True) ?hr ?hp (fun _ hk => hk) trivial (Below.refl _ _) (Nat.le_refl _) (by simp) ?_; (case hd => rfl); (case hg => rfl); (case hr => first | (go_simp; done) | (go_simp; rfl)); (case hp => exact (Reps.one (show Kd.M (Kd.int .i64) _ _ _ x30_1 [.int .i64 x30_1] from rfl) (Reps.one (show Kd.M (Kd.int .i64) _ _ _ x13_2 [.int .i64 x13_2] from rfl) (Reps.none _ _)))); intro v430 w41 ho42 hb hg_ hnew_; clear hg_ hnew_; (first | rw [← Ny429.out] at ho42 | (simp only [Int.reduceToNat] at ho42; rw [← Ny429.out] at ho42)); have n0_ := zm (Kd.R_below (by (with_reducible repeat (first | apply Kd.R_alloc | apply Kd.R_drewN | apply Kd.R_drew)); exact (Kd.R_mono (Kd.R_far (p := ⟨gb428, 2, none⟩) (Kd.R_far (p := ⟨gb428, 1, none⟩) (Kd.R_far (p := ⟨gb428, 0, none⟩) (Kd.R_mono HO_8.out (fun k_ hk => (⟨hk, hk.2⟩ : _ ∧ k_ ≠ gb428))) (fun _ hk => hk.2) (.int .i64 ((rd_T93 t416 x13_2).f0))) (fun _ hk => hk.2) (.int .i64 ((rd_T93 t416 x13_2).f1))) (fun _ hk => hk.2) (.int .i64 ((rd_T93 t416 x13_2).f2))) (fun _ h_ => h_.1))) hb); have n1_ := zm (Kd.S_elder' (by (with_reducible repeat (first | apply Kd.S_alloc | apply Kd.S_drewN | apply Kd.S_drew)); exact (Kd.S_mono (Kd.S_far (p := ⟨gb428, 2, none⟩) (Kd.S_far (p := ⟨gb428, 1, none⟩) (Kd.S_far (p := ⟨gb428, 0, none⟩) (Kd.S_types HO_10.out BK428.out (by decide)) (fun _ hk => hk.2) (.int .i64 ((rd_T93 t416 x13_2).f0))) (fun _ hk => hk.2) (.int .i64 ((rd_T93 t416 x13_2).f1))) (fun _ hk => hk.2) (.int .i64 ((rd_T93 t416 x13_2).f2))) (fun _ h_ => h_.1))) (Kd.R_base ho42) hb); have n2_ := zm (Kd.R_below (by (with_reducible repeat (first | apply Kd.R_alloc | apply Kd.R_drewN | apply Kd.R_drew)); exact (Kd.R_mono (Kd.R_far (p := ⟨gb428, 2, none⟩) (Kd.R_far (p := ⟨gb428, 1, none⟩) (Kd.R_far (p := ⟨gb428, 0, none⟩) (Kd.R_mono HO_28.out (fun k_ hk => (⟨hk, hk.2⟩ : _ ∧ k_ ≠ gb428))) (fun _ hk => hk.2) (.int .i64 ((rd_T93 t416 x13_2).f0))) (fun _ hk => hk.2) (.int .i64 ((rd_T93 t416 x13_2).f1))) (fun _ hk => hk.2) (.int .i64 ((rd_T93 t416 x13_2).f2))) (fun _ h_ => h_.1))) hb); have n3_ := zm (Kd.R_lower ho42 (below_size zb)); have n4_ := zm (blk_below (g := gb413) (o := .cells #[.slice A0_0 l0_0.length c0_0, .int .i64 a0_1] 45 (0, 0)) zK hb); have n5_ := zm (blk_below (g := gb414) (o := .cells #[.int .i64 a2_0, .int .i64 a2_1, .int .i64 a2_2] 31 (0, 0)) zK hb); have n6_ := zm (blk_below (g := gb426) (o := .cells #[.int .i64 ((rd_T93 t416 x30_1).f0), .int .i64 ((rd_T93 t416 x30_1).f1), .int .i64 ((rd_T93 t416 x30_1).f2)] 93 (0, 0)) zK hb); have n7_ := zm (blk_below (g := gb428) (o := .cells #[.int .i64 ((rd_T93 t416 x13_2).f0), .int .i64 ((rd_T93 t416 x13_2).f1), .int .i64 ((rd_T93 t416 x13_2).f2)] 93 (0, 0)) (by (with_reducible repeat (first | refine blk_drewN ?_ _ | refine blk_drew ?_ | refine blk_alloc ?_ _)); refine blk_put (cs := #[.int .i64 ((rd_T93 t416 x13_2).f0), .int .i64 ((rd_T93 t416 x13_2).f1), .int .i64 0]) ?_ 2 _ rfl; (with_reducible repeat (first | refine blk_drewN ?_ _ | refine blk_drew ?_ | refine blk_alloc ?_ _)); refine blk_put (cs := #[.int .i64 ((rd_T93 t416 x13_2).f0), .int .i64 0, .int .i64 0]) ?_ 1 _ rfl; (with_reducible repeat (first | refine blk_drewN ?_ _ | refine blk_drew ?_ | refine blk_alloc ?_ _)); refine blk_put (cs := #[.int .i64 0, .int .i64 0, .int .i64 0]) ?_ 0 _ rfl; (with_reducible repeat (first | refine blk_drewN ?_ _ | refine blk_drew ?_ | refine blk_alloc ?_ _)); exact BK428.out) hb); have n8_ := zm (below_step zb hb); clear HO_8; clear HO_10; clear HO_28; clear BK413; clear BK414; clear BK426; clear BK428; clear HB; have HO_8 := n0_; have HO_10 := n1_; have HO_28 := n2_; have HO431 := n3_; have BK413 := n4_; have BK414 := n5_; have BK426 := n6_; have BK428 := n7_; have HB := n8_; clear n0_ n1_ n2_ n3_ n4_ n5_ n6_ n7_ n8_; clear hb ho42; obtain ⟨Ao44, co44, eo44⟩ := Kd.R_slice HO431.out; subst eo44) | ((with_reducible refine gate_builtin (b := .append) (xs := #[.tmp 65, .tmp 69]) rfl ?_); (try (refine gate_guard (by rfl) ?_; dsimp only)); at_builtin; refine Kd.S_append (Kd.slice 3 (Kd.int .i64)) (w0 := w) w.heap.size rfl (.tmp 65) (.tmp 69) 26 38 (.slice none 0 0) 24 rfl Try.underlying26 info38 rfl (by decide) (by omega) u10 x10_2 y429 [.slice Ao44 y429.length co44] (fun _ => True) (fun k_ => some k_ = (.slice Ao44 y429.length co44 : Value).ownBlock) rfl rfl ?aP (fun k_ hk_ => ((Kd.R_mono (ok' := fun k_ => ((fun _ => True)) k_ ∧ some k_ ≠ (u10 : Value).ownBlock) (Kd.R_apart' (HO431.out) (Kd.S_typed HO_10.out) (by decide)) (fun k_ hk => ⟨trivial, hk.2⟩))).1 k_ hk_.symm) ?aF ?aO ?aB ?aS ?aL ?_; (case aP => exact Kd.M_row (Kd.R_mono (Kd.R_tight rfl (Kd.R_mono (ok' := fun k_ => ((fun _ => True)) k_ ∧ some k_ ≠ (u10 : Value).ownBlock) (Kd.R_apart' (HO431.out) (Kd.S_typed HO_10.out) (by decide)) (fun k_ hk => ⟨trivial, hk.2⟩))) (fun _ h_ => h_))); (case aB => exact zb); (case aF => exact (fun _ _ => trivial)); (case aO => exact (by (with_reducible repeat (first | apply Kd.S_alloc | apply Kd.S_drewN | apply Kd.S_drew)); exact Kd.S_mono HO_10.out (fun k_ hk => ⟨trivial, fun e_ => hk.2 e_⟩))); (case aS => exact (below_size zb)); (case aL => have := LMc32.out; omega); intro v433 w43 ho hb hg hat; rw [← Ny432.out] at ho; have n0_ := zm (Kd.R_over' (by (with_reducible repeat (first | apply Kd.R_alloc | apply Kd.R_drewN | apply Kd.R_drew)); exact HO_8.out) (Kd.S_typed (by (with_reducible repeat (first | apply Kd.S_alloc | apply Kd.S_drewN | apply Kd.S_drew)); exact HO_10.out)) (by decide) hg); have n1_ := zm (Kd.R_over' (by (with_reducible repeat (first | apply Kd.R_alloc | apply Kd.R_drewN | apply Kd.R_drew)); exact HO_28.out) (Kd.S_typed (by (with_reducible repeat (first | apply Kd.S_alloc | apply Kd.S_drewN | apply Kd.S_drew)); exact HO_10.out)) (by decide) hg); have n2_ := zm (blk_grown (g := gb413) (o := .cells #[.slice A0_0 l0_0.length c0_0, .int .i64 a0_1] 45 (0, 0)) zk hg (Kd.S_ne HO_10.out BK413.out (by decide))); have n3_ := zm (blk_grown (g := gb414) (o := .cells #[.int .i64 a2_0, .int .i64 a2_1, .int .i64 a2_2] 31 (0, 0)) zk hg (Kd.S_ne HO_10.out BK414.out (by decide))); have n4_ := zm (blk_grown (g := gb426) (o := .cells #[.int .i64 ((rd_T93 t416 x30_1).f0), .int .i64 ((rd_T93 t416 x30_1).f1), .int .i64 ((rd_T93 t416 x30_1).f2)] 93 (0, 0)) zk hg (Kd.S_ne HO_10.out BK426.out (by decide))); have n5_ := zm (blk_grown (g := gb428) (o := .cells #[.int .i64 ((rd_T93 t416 x13_2).f0), .int .i64 ((rd_T93 t416 x13_2).f1), .int .i64 ((rd_T93 t416 x13_2).f2)] 93 (0, 0)) zk hg (Kd.S_ne HO_10.out BK428.out (by decide))); have n6_ := zm (hb); have n7_ := zm (ho); clear HO_8; clear HO_28; clear BK413; clear BK414; clear BK426; clear BK428; clear HB; clear HO_10; clear HO431; have HO_8 := n0_; have HO_28 := n1_; have BK413 := n2_; have BK414 := n3_; have BK426 := n4_; have BK428 := n5_; have HB := n6_; have HO434 := n7_; clear n0_ n1_ n2_ n3_ n4_ n5_ n6_ n7_; clear ho hb hg hat))
              go_roundg k2
              case measure => have := HK1.out; have := HK2.out; omega
              case rel => exact ⟨(y432), (wrap64 (x13_2 + 1)), (by first | rfl | (simp; done) | (simp [*]; done)), H', ⟨by have := HK1.out; have := HK2.out; omega⟩, ⟨by (with_reducible repeat (first | apply Kd.R_alloc | apply Kd.R_drewN | apply Kd.R_drew)); exact zM HO_8.out⟩, ⟨by (with_reducible repeat (first | apply Kd.S_alloc | apply Kd.S_drewN | apply Kd.S_drew)); exact HO434.out⟩, ⟨by (with_reducible repeat (first | apply Kd.R_alloc | apply Kd.R_drewN | apply Kd.R_drew)); exact zM HO_28.out⟩, ⟨zk⟩, ⟨zk⟩, ⟨zk⟩, ⟨zb⟩⟩
             ·
              rw [if_neg c32] at H
              exact absurd H (by simp)
            ·
             rw [if_neg c31] at H
             have c31b0 : decide ((ji29) < (ji30)) = false := decide_eq_false c31
             clear c31
             have H' := zm H
             clear H
             have p427 : 0 ≤ (x13_2 : Int) := zd
             have q427 : x13_2 < (t416.length : Int) := zd
             obtain ⟨ad427, e427, hx427_0, hx427_1, hx427_2⟩ := at_T93 (Kd.R_reads' HO_8.out).2.2 x13_2 p427 q427
             have hq_ : ad427 = ad425 := (by injection e427 with z_; exact z_.symm)
             subst hq_
             replace p427 := eq_true p427
             replace q427 := eq_true q427
             go_wp2_with (first | ((with_reducible refine gate_dst (N := 14) rfl ?_); (try (refine gate_guard (by rfl) ?_; dsimp only)); refine box_event ?hg (N := 14) ?hd (cs := #[.int .i64 0, .int .i64 0, .int .i64 0]) (t := 93) ?hr ?_; (case hd => rfl); (case hg => rfl); (case hr => first | (go_simp; done) | (go_simp; rfl)); intro gb428 hg w45 hbox hb; have n0_ := zm (Kd.R_below (Kd.R_elderB (by (with_reducible repeat (first | apply Kd.R_alloc | apply Kd.R_drewN | apply Kd.R_drew)); exact HO_8.out) gb428 (Nat.le_of_eq hg.symm)) hb); have n1_ := zm (Kd.S_below (by (with_reducible repeat (first | apply Kd.S_alloc | apply Kd.S_drewN | apply Kd.S_drew)); exact HO_10.out) hb); have n2_ := zm (Kd.R_below (Kd.R_elderB (by (with_reducible repeat (first | apply Kd.R_alloc | apply Kd.R_drewN | apply Kd.R_drew)); exact HO_28.out) gb428 (Nat.le_of_eq hg.symm)) hb); have n3_ := zm (blk_below (g := gb413) zk hb); have n4_ := zm (blk_below (g := gb414) zk hb); have n5_ := zm (blk_below (g := gb426) zk hb); have n6_ := zm (below_step zb hb); have n7_ := zm (hbox); have n8_ := zm (zs hg zb : w.heap.size ≤ gb428); have n9_ := zm (zs hg zb : w.heap.size ≤ gb428); have n10_ := zm (zl hg zk : gb413 ≠ gb428); have n11_ := zm (zg hg zk : gb428 ≠ gb413); have n12_ := zm (zl hg zk : gb414 ≠ gb428); have n13_ := zm (zg hg zk : gb428 ≠ gb414); have n14_ := zm (zl hg zk : gb426 ≠ gb428); have n15_ := zm (zg hg zk : gb428 ≠ gb426); clear HO_8; clear HO_10; clear HO_28; clear BK413; clear BK414; clear BK426; clear HB; have HO_8 := n0_; have HO_10 := n1_; have HO_28 := n2_; have BK413 := n3_; have BK414 := n4_; have BK426 := n5_; have HB := n6_; have BK428 := n7_; have GW428 := n8_; have GE428 := n9_; have NB413_428 := n10_; have NB428_413 := n11_; have NB414_428 := n12_; have NB428_414 := n13_; have NB426_428 := n14_; have NB428_426 := n15_; clear n0_ n1_ n2_ n3_ n4_ n5_ n6_ n7_ n8_ n9_ n10_ n11_ n12_ n13_ n14_ n15_; clear hb hbox hg; have hnb46 := NB428_413.out; have hnc46 := NB413_428.out; have hnb47 := NB428_414.out; have hnc47 := NB414_428.out; have hnb48 := NB428_426.out; have hnc48 := NB426_428.out; obtain ⟨hcz49_0, hcz49_1, hcz49_2, hfz49_0, hfz49_1, hfz49_2⟩ := zc3 BK428.out; have hnb50 := NB426_413.out; have hnc50 := NB413_426.out; have hnb51 := NB426_414.out; have hnc51 := NB414_426.out; obtain ⟨hcz52_0, hcz52_1, hcz52_2, hfz52_0, hfz52_1, hfz52_2⟩ := zc3 BK426.out))
             go_roundg k2
             case measure => have := HK1.out; have := HK2.out; omega
             case rel => exact ⟨(x10_2), (wrap64 (x13_2 + 1)), (by first | rfl | (simp; done) | (simp [*]; done)), H', ⟨by have := HK1.out; have := HK2.out; omega⟩, ⟨by (with_reducible repeat (first | apply Kd.R_alloc | apply Kd.R_drewN | apply Kd.R_drew)); exact Kd.R_mono (Kd.R_far (p := ⟨gb428, 2, none⟩) (Kd.R_far (p := ⟨gb428, 1, none⟩) (Kd.R_far (p := ⟨gb428, 0, none⟩) (Kd.R_mono HO_8.out (fun k_ hk => (⟨hk, hk.2⟩ : _ ∧ k_ ≠ gb428))) (fun _ hk => hk.2) (.int .i64 ((rd_T93 t416 x13_2).f0))) (fun _ hk => hk.2) (.int .i64 ((rd_T93 t416 x13_2).f1))) (fun _ hk => hk.2) (.int .i64 ((rd_T93 t416 x13_2).f2))) (fun _ hk => hk.1.1)⟩, ⟨by (with_reducible repeat (first | apply Kd.S_alloc | apply Kd.S_drewN | apply Kd.S_drew)); exact Kd.S_mono (Kd.S_far (p := ⟨gb428, 2, none⟩) (Kd.S_far (p := ⟨gb428, 1, none⟩) (Kd.S_far (p := ⟨gb428, 0, none⟩) (Kd.S_types HO_10.out BK428.out (by decide)) (fun _ hk => hk.2) (.int .i64 ((rd_T93 t416 x13_2).f0))) (fun _ hk => hk.2) (.int .i64 ((rd_T93 t416 x13_2).f1))) (fun _ hk => hk.2) (.int .i64 ((rd_T93 t416 x13_2).f2))) (fun _ hk => trivial)⟩, ⟨by (with_reducible repeat (first | apply Kd.R_alloc | apply Kd.R_drewN | apply Kd.R_drew)); exact Kd.R_mono (Kd.R_far (p := ⟨gb428, 2, none⟩) (Kd.R_far (p := ⟨gb428, 1, none⟩) (Kd.R_far (p := ⟨gb428, 0, none⟩) (Kd.R_mono HO_28.out (fun k_ hk => (⟨hk, hk.2⟩ : _ ∧ k_ ≠ gb428))) (fun _ hk => hk.2) (.int .i64 ((rd_T93 t416 x13_2).f0))) (fun _ hk => hk.2) (.int .i64 ((rd_T93 t416 x13_2).f1))) (fun _ hk => hk.2) (.int .i64 ((rd_T93 t416 x13_2).f2))) (fun _ hk => hk.1.1)⟩, ⟨zK⟩, ⟨zK⟩, ⟨zK⟩, ⟨zb⟩⟩
           ·
            rw [if_neg c28] at H
            have c28b0 : (((rd_T93 t416 x30_1).f0) == ((rd_T93 t416 x13_2).f0)) = false := beq_eq_false_iff_ne.mpr c28
            have c28b1 : (((rd_T93 t416 x30_1).f0) != ((rd_T93 t416 x13_2).f0)) = true := bne_iff_ne.mpr c28
            have H' := zm H
            clear H
            have p427 : 0 ≤ (x13_2 : Int) := zd
            have q427 : x13_2 < (t416.length : Int) := zd
            obtain ⟨ad427, e427, hx427_0, hx427_1, hx427_2⟩ := at_T93 (Kd.R_reads' HO_8.out).2.2 x13_2 p427 q427
            obtain rfl : ad425 = ad427 := (by injection e427)
            skip
            replace p427 := eq_true p427
            replace q427 := eq_true q427
            go_wp2_with (first | ((with_reducible refine gate_dst (N := 14) rfl ?_); (try (refine gate_guard (by rfl) ?_; dsimp only)); refine box_event ?hg (N := 14) ?hd (cs := #[.int .i64 0, .int .i64 0, .int .i64 0]) (t := 93) ?hr ?_; (case hd => rfl); (case hg => rfl); (case hr => first | (go_simp; done) | (go_simp; rfl)); intro gb428 hg w53 hbox hb; have n0_ := zm (Kd.R_below (Kd.R_elderB (by (with_reducible repeat (first | apply Kd.R_alloc | apply Kd.R_drewN | apply Kd.R_drew)); exact HO_8.out) gb428 (Nat.le_of_eq hg.symm)) hb); have n1_ := zm (Kd.S_below (by (with_reducible repeat (first | apply Kd.S_alloc | apply Kd.S_drewN | apply Kd.S_drew)); exact HO_10.out) hb); have n2_ := zm (Kd.R_below (Kd.R_elderB (by (with_reducible repeat (first | apply Kd.R_alloc | apply Kd.R_drewN | apply Kd.R_drew)); exact HO_28.out) gb428 (Nat.le_of_eq hg.symm)) hb); have n3_ := zm (blk_below (g := gb413) zk hb); have n4_ := zm (blk_below (g := gb414) zk hb); have n5_ := zm (blk_below (g := gb426) zk hb); have n6_ := zm (below_step zb hb); have n7_ := zm (hbox); have n8_ := zm (zs hg zb : w.heap.size ≤ gb428); have n9_ := zm (zs hg zb : w.heap.size ≤ gb428); have n10_ := zm (zl hg zk : gb413 ≠ gb428); have n11_ := zm (zg hg zk : gb428 ≠ gb413); have n12_ := zm (zl hg zk : gb414 ≠ gb428); have n13_ := zm (zg hg zk : gb428 ≠ gb414); have n14_ := zm (zl hg zk : gb426 ≠ gb428); have n15_ := zm (zg hg zk : gb428 ≠ gb426); clear HO_8; clear HO_10; clear HO_28; clear BK413; clear BK414; clear BK426; clear HB; have HO_8 := n0_; have HO_10 := n1_; have HO_28 := n2_; have BK413 := n3_; have BK414 := n4_; have BK426 := n5_; have HB := n6_; have BK428 := n7_; have GW428 := n8_; have GE428 := n9_; have NB413_428 := n10_; have NB428_413 := n11_; have NB414_428 := n12_; have NB428_414 := n13_; have NB426_428 := n14_; have NB428_426 := n15_; clear n0_ n1_ n2_ n3_ n4_ n5_ n6_ n7_ n8_ n9_ n10_ n11_ n12_ n13_ n14_ n15_; clear hb hbox hg; have hnb54 := NB428_413.out; have hnc54 := NB413_428.out; have hnb55 := NB428_414.out; have hnc55 := NB414_428.out; have hnb56 := NB428_426.out; have hnc56 := NB426_428.out; obtain ⟨hcz57_0, hcz57_1, hcz57_2, hfz57_0, hfz57_1, hfz57_2⟩ := zc3 BK428.out; have hnb58 := NB426_413.out; have hnc58 := NB413_426.out; have hnb59 := NB426_414.out; have hnc59 := NB414_426.out; obtain ⟨hcz60_0, hcz60_1, hcz60_2, hfz60_0, hfz60_1, hfz60_2⟩ := zc3 BK426.out))
            go_roundg k2
            case measure => have := HK1.out; have := HK2.out; omega
            case rel => exact ⟨(x10_2), (wrap64 (x13_2 + 1)), (by first | rfl | (simp; done) | (simp [*]; done)), H', ⟨by have := HK1.out; have := HK2.out; omega⟩, ⟨by (with_reducible repeat (first | apply Kd.R_alloc | apply Kd.R_drewN | apply Kd.R_drew)); exact Kd.R_mono (Kd.R_far (p := ⟨gb428, 2, none⟩) (Kd.R_far (p := ⟨gb428, 1, none⟩) (Kd.R_far (p := ⟨gb428, 0, none⟩) (Kd.R_mono HO_8.out (fun k_ hk => (⟨hk, hk.2⟩ : _ ∧ k_ ≠ gb428))) (fun _ hk => hk.2) (.int .i64 ((rd_T93 t416 x13_2).f0))) (fun _ hk => hk.2) (.int .i64 ((rd_T93 t416 x13_2).f1))) (fun _ hk => hk.2) (.int .i64 ((rd_T93 t416 x13_2).f2))) (fun _ hk => hk.1.1)⟩, ⟨by (with_reducible repeat (first | apply Kd.S_alloc | apply Kd.S_drewN | apply Kd.S_drew)); exact Kd.S_mono (Kd.S_far (p := ⟨gb428, 2, none⟩) (Kd.S_far (p := ⟨gb428, 1, none⟩) (Kd.S_far (p := ⟨gb428, 0, none⟩) (Kd.S_types HO_10.out BK428.out (by decide)) (fun _ hk => hk.2) (.int .i64 ((rd_T93 t416 x13_2).f0))) (fun _ hk => hk.2) (.int .i64 ((rd_T93 t416 x13_2).f1))) (fun _ hk => hk.2) (.int .i64 ((rd_T93 t416 x13_2).f2))) (fun _ hk => trivial)⟩, ⟨by (with_reducible repeat (first | apply Kd.R_alloc | apply Kd.R_drewN | apply Kd.R_drew)); exact Kd.R_mono (Kd.R_far (p := ⟨gb428, 2, none⟩) (Kd.R_far (p := ⟨gb428, 1, none⟩) (Kd.R_far (p := ⟨gb428, 0, none⟩) (Kd.R_mono HO_28.out (fun k_ hk => (⟨hk, hk.2⟩ : _ ∧ k_ ≠ gb428))) (fun _ hk => hk.2) (.int .i64 ((rd_T93 t416 x13_2).f0))) (fun _ hk => hk.2) (.int .i64 ((rd_T93 t416 x13_2).f1))) (fun _ hk => hk.2) (.int .i64 ((rd_T93 t416 x13_2).f2))) (fun _ hk => hk.1.1)⟩, ⟨zK⟩, ⟨zK⟩, ⟨zK⟩, ⟨zb⟩⟩
          ·
           rw [if_neg c27] at H
           exact absurd H (by simp)
         ·
          rw [if_neg c26] at H
          have c26b0 : decide (x13_2 < (t416.length : Int)) = false := decide_eq_false c26
          clear c26
          have H' := zm H
          clear H
          go_wp2
          go_roundg k2
          case measure => have := HK1.out; have := HK2.out; omega
          case rel => exact ⟨(x10_2), (wrap64 (x30_1 + 1)), (by first | rfl | (simp; done) | (simp [*]; done)), H', ⟨by have := HK1.out; have := HK2.out; omega⟩, ⟨by (with_reducible repeat (first | apply Kd.R_alloc | apply Kd.R_drewN | apply Kd.R_drew)); exact Kd.R_mono HO_8.out (fun _ hk => trivial)⟩, ⟨by (with_reducible repeat (first | apply Kd.S_alloc | apply Kd.S_drewN | apply Kd.S_drew)); exact HO_10.out⟩, ⟨by (with_reducible repeat (first | apply Kd.R_alloc | apply Kd.R_drewN | apply Kd.R_drew)); exact Kd.R_mono HO_28.out (fun _ hk => trivial)⟩, ⟨zk⟩, ⟨zk⟩, ⟨zb⟩⟩
      ·
       rw [if_neg c21] at H
       exact absurd H (by simp)
     ·
      rw [if_neg c20] at H
      exact absurd H (by simp)
    ·
     rw [if_neg c19] at H
     have c19b0 : decide (x30_1 < (t416.length : Int)) = false := decide_eq_false c19
     clear c19
     simp only [Option.some.injEq, Prod.mk.injEq] at H
     obtain ⟨rfl, rfl⟩ := H
     go_wp2
     go_ret2
     exact ⟨_, zr, by (with_reducible repeat (first | apply Kd.S_alloc | apply Kd.S_drewN | apply Kd.S_drew)); exact HO_10.out, zb⟩
 ·
  replace c5 := Bool.eq_false_iff.mpr c5
  subst c5
  have H1 : (some (([] : List (List Int)), false)) = some (r1, r2) := by rw [if_neg (show ¬ (false = true) by decide)] at H; exact H
  clear H
  have H := H1
  clear H1
  simp only [Option.some.injEq, Prod.mk.injEq] at H
  obtain ⟨rfl, rfl⟩ := H
  go_enter Try.func26, Try.ntmps26
  go_wp2_with (first | ((with_reducible refine gate_dst (N := 3) rfl ?_); (try (refine gate_guard (by rfl) ?_; dsimp only)); refine box_event ?hg (N := 3) ?hd (cs := #[.slice A0_0 l0_0.length c0_0, .int .i64 a0_1]) (t := 45) ?hr ?_; (case hd => rfl); (case hg => rfl); (case hr => first | (go_simp; done) | (go_simp; rfl)); intro gb413 hg w61 hbox hb; have n0_ := zm (below_step zb hb); have n1_ := zm (hbox); have n2_ := zm (zs hg zb : w.heap.size ≤ gb413); have n3_ := zm (zs hg zb : w.heap.size ≤ gb413); clear HB; have HB := n0_; have BK413 := n1_; have GW413 := n2_; have GE413 := n3_; clear n0_ n1_ n2_ n3_; clear hb hbox hg) | ((with_reducible refine gate_dst (N := 5) rfl ?_); (try (refine gate_guard (by rfl) ?_; dsimp only)); refine box_event ?hg (N := 5) ?hd (cs := #[.int .i64 a2_0, .int .i64 a2_1, .int .i64 a2_2]) (t := 31) ?hr ?_; (case hd => rfl); (case hg => rfl); (case hr => first | (go_simp; done) | (go_simp; rfl)); intro gb414 hg w62 hbox hb; have n0_ := zm (blk_below (g := gb413) zk hb); have n1_ := zm (below_step zb hb); have n2_ := zm (hbox); have n3_ := zm (zs hg zb : w.heap.size ≤ gb414); have n4_ := zm (zs hg zb : w.heap.size ≤ gb414); have n5_ := zm (zl hg zk : gb413 ≠ gb414); have n6_ := zm (zg hg zk : gb414 ≠ gb413); clear BK413; clear HB; have BK413 := n0_; have HB := n1_; have BK414 := n2_; have GW414 := n3_; have GE414 := n4_; have NB413_414 := n5_; have NB414_413 := n6_; clear n0_ n1_ n2_ n3_ n4_ n5_ n6_; clear hb hbox hg; have hnb63 := NB413_414.out; have hnc63 := NB414_413.out; obtain ⟨hcz64_0, hcz64_1, hfz64_0, hfz64_1⟩ := zc2 BK413.out; obtain ⟨hcz65_0, hcz65_1, hcz65_2, hfz65_0, hfz65_1, hfz65_2⟩ := zc3 BK414.out) | ((with_reducible refine gate_callee (f := 72) rfl ?_); refine goesA_ (some 18) Try.func72 #[.agg #[.slice A0_0 l0_0.length c0_0, .int .i64 a0_1], .slice A1 l1.length c1, .agg #[.int .i64 a2_0, .int .i64 a2_1, .int .i64 a2_2]] rfl ?_; (with_reducible refine (impl_canBePlayed.calls k _ _ l0_0 a0_1 _ _ l1 a2_0 a2_1 a2_2 false _ ?side1 ?side2 ?side3 ?side4 A4.out).mono ?_); (case side1 => repeat (first | exact (Kd.C_below HR0_0.out HB.out) | (with_reducible refine Kd.C_alloc ?_ _) | (with_reducible refine Kd.C_drewN ?_ _) | (with_reducible refine Kd.C_drew ?_))); (case side2 => exact HC0_0.out); (case side3 => repeat (first | exact (Kd.C_below HR1.out HB.out) | (with_reducible refine Kd.C_alloc ?_ _) | (with_reducible refine Kd.C_drewN ?_ _) | (with_reducible refine Kd.C_drew ?_))); (case side4 => exact HC1.out); rintro e w66 ⟨rfl, hb⟩; refine ⟨_, rfl, ?_⟩; have n0_ := zm (blk_below (g := gb413) zk hb); have n1_ := zm (blk_below (g := gb414) zk hb); have n2_ := zm (below_step zb hb); clear BK413; clear BK414; clear HB; have BK413 := n0_; have BK414 := n1_; have HB := n2_; clear n0_ n1_ n2_; (try clear hb); (try clear hb2); (try clear hk); (try clear hi)))
  go_ret2
  exact ⟨_, zr, by first | exact Kd.S_nil _ _ _ _ _ | exact Kd.N_nil _ _ _ _ _ | exact Kd.V_nil _ _ _ _ _ | exact Kd.Q_nil _ _ _ _ _ | exact Kd.R_nil _ _ _ _ _, zb⟩

/-! ### laws_eqInstrument: function 27 -/
def laws_eqInstrument.f (k : Nat) (l0_0 : List Int) (a0_1 : Int) (l1_0 : List Int) (a1_1 : Int) : Option (Bool) := (laws_eqIntS.f k l0_0 l1_0).bind fun t437 => (if t437 = true then (if a0_1 = a1_1 then (some true) else (some false)) else (some false))
theorem laws_eqInstrument.mono : ∀ a0 a1 a2 a3 k, LeO (laws_eqInstrument.f k a0 a1 a2 a3) (laws_eqInstrument.f (k + 1) a0 a1 a2 a3) := by
  intro a0 a1 a2 a3 k
  unfold laws_eqInstrument.f
  repeat' first
      | (with_reducible exact laws_eqIntS.mono _ _ _)
      | (with_reducible exact LeO.refl _)
      | (with_reducible exact LeO.none _)
      | (with_reducible refine LeO.ite ?_ ?_)
      | (with_reducible refine LeO.bind ?_ (fun _ => ?_))
      | exact laws_eqIntS.mono _ _ _
      | exact LeO.none _
      | refine LeO.ite ?_ ?_
      | refine LeO.bind ?_ (fun _ => ?_)
set_option maxHeartbeats 8000000 in
set_option maxRecDepth 100000 in
theorem laws_eqInstrument.calls (k : Nat) (A0_0 : Option Addr) (c0_0 : Nat) (l0_0 : List Int) (a0_1 : Int) (A1_0 : Option Addr) (c1_0 : Nat) (l1_0 : List Int) (a1_1 : Int) (r : Bool) (w : World) (hr0_0 : Kd.C (Kd.int .i64) w A0_0 l0_0.length l0_0) (hc0_0 : l0_0.length ≤ c0_0) (hr1_0 : Kd.C (Kd.int .i64) w A1_0 l1_0.length l1_0) (hc1_0 : l1_0.length ≤ c1_0) (h : laws_eqInstrument.f k l0_0 a0_1 l1_0 a1_1 = some r) :
  Calls Try.prog 27 #[.agg #[.slice A0_0 l0_0.length c0_0, .int .i64 a0_1], .agg #[.slice A1_0 l1_0.length c1_0, .int .i64 a1_1]] w fun e w' => e = .returned (.bool r) ∧ Below w.heap.size w w' := by
 have hu45 := Try.underlying45
 have HR0_0 := zm hr0_0
 have HC0_0 := zm hc0_0
 clear hr0_0 hc0_0
 have HR1_0 := zm hr1_0
 have HC1_0 := zm hc1_0
 clear hr1_0 hc1_0
 have HB := zm (Below.refl w.heap.size w)
 have H : ((laws_eqIntS.f k l0_0 l1_0).bind fun t437 => (if t437 = true then (if a0_1 = a1_1 then (some true) else (some false)) else (some false))) = some r := h
 clear h
 replace H := Option.bind_eq_some_iff.mp H
 obtain ⟨t437, A30, H⟩ := H
 (try dsimp only at H)
 have A3 := zm A30
 clear A30
 by_cases c4 : t437 = true
 ·
  subst c4
  have H1 : (if a0_1 = a1_1 then (some true) else (some false)) = some r := by rw [if_pos rfl] at H; exact H
  clear H
  have H := H1
  clear H1
  by_cases c5 : a0_1 = a1_1
  ·
   rw [if_pos c5] at H
   have c5b0 : (a0_1 == a1_1) = true := beq_iff_eq.mpr c5
   have c5b1 : (a0_1 != a1_1) = false := bne_eq_false_iff_eq.mpr c5
   clear c5
   obtain rfl := Option.some.inj H
   go_enter Try.func27, Try.ntmps27
   go_wp2_with (first | ((with_reducible refine gate_dst (N := 2) rfl ?_); refine box_event ?hg (N := 2) ?hd (cs := #[.slice A0_0 l0_0.length c0_0, .int .i64 a0_1]) (t := 45) ?hr ?_; (case hd => rfl); (case hg => rfl); (case hr => first | (go_simp; done) | (go_simp; rfl)); intro gb435 hg w6 hbox hb; have n0_ := zm (below_step zb hb); have n1_ := zm (hbox); have n2_ := zm (zs hg zb : w.heap.size ≤ gb435); have n3_ := zm (zs hg zb : w.heap.size ≤ gb435); clear HB; have HB := n0_; have BK435 := n1_; have GW435 := n2_; have GE435 := n3_; clear n0_ n1_ n2_ n3_; clear hb hbox hg) | ((with_reducible refine gate_dst (N := 3) rfl ?_); refine box_event ?hg (N := 3) ?hd (cs := #[.slice A1_0 l1_0.length c1_0, .int .i64 a1_1]) (t := 45) ?hr ?_; (case hd => rfl); (case hg => rfl); (case hr => first | (go_simp; done) | (go_simp; rfl)); intro gb436 hg w7 hbox hb; have n0_ := zm (blk_below (g := gb435) zk hb); have n1_ := zm (below_step zb hb); have n2_ := zm (hbox); have n3_ := zm (zs hg zb : w.heap.size ≤ gb436); have n4_ := zm (zs hg zb : w.heap.size ≤ gb436); have n5_ := zm (zl hg zk : gb435 ≠ gb436); have n6_ := zm (zg hg zk : gb436 ≠ gb435); clear BK435; clear HB; have BK435 := n0_; have HB := n1_; have BK436 := n2_; have GW436 := n3_; have GE436 := n4_; have NB435_436 := n5_; have NB436_435 := n6_; clear n0_ n1_ n2_ n3_ n4_ n5_ n6_; clear hb hbox hg; have hnb8 := NB435_436.out; have hnc8 := NB436_435.out; obtain ⟨hcz9_0, hcz9_1, hfz9_0, hfz9_1⟩ := zc2 BK435.out; obtain ⟨hcz10_0, hcz10_1, hfz10_0, hfz10_1⟩ := zc2 BK436.out) | ((with_reducible refine gate_callee (f := 63) rfl ?_); refine goesA_ (some 9) Try.func63 #[.slice A0_0 l0_0.length c0_0, .slice A1_0 l1_0.length c1_0] rfl ?_; (with_reducible refine (laws_eqIntS.calls k _ _ l0_0 _ _ l1_0 true _ ?side1 ?side2 ?side3 ?side4 A3.out).mono ?_); (case side1 => repeat (first | exact (Kd.C_below HR0_0.out HB.out) | (with_reducible refine Kd.C_alloc ?_ _) | (with_reducible refine Kd.C_drewN ?_ _) | (with_reducible refine Kd.C_drew ?_))); (case side2 => exact HC0_0.out); (case side3 => repeat (first | exact (Kd.C_below HR1_0.out HB.out) | (with_reducible refine Kd.C_alloc ?_ _) | (with_reducible refine Kd.C_drewN ?_ _) | (with_reducible refine Kd.C_drew ?_))); (case side4 => exact HC1_0.out); rintro e w' ⟨rfl, ⟨nd, rfl⟩⟩; refine ⟨_, rfl, ?_⟩))
   go_ret
   exact ⟨zr, zb⟩
  ·
   rw [if_neg c5] at H
   have c5b0 : (a0_1 == a1_1) = false := beq_eq_false_iff_ne.mpr c5
   have c5b1 : (a0_1 != a1_1) = true := bne_iff_ne.mpr c5
   obtain rfl := Option.some.inj H
   go_enter Try.func27, Try.ntmps27
   go_wp2_with (first | ((with_reducible refine gate_dst (N := 2) rfl ?_); refine box_event ?hg (N := 2) ?hd (cs := #[.slice A0_0 l0_0.length c0_0, .int .i64 a0_1]) (t := 45) ?hr ?_; (case hd => rfl); (case hg => rfl); (case hr => first | (go_simp; done) | (go_simp; rfl)); intro gb435 hg w11 hbox hb; have n0_ := zm (below_step zb hb); have n1_ := zm (hbox); have n2_ := zm (zs hg zb : w.heap.size ≤ gb435); have n3_ := zm (zs hg zb : w.heap.size ≤ gb435); clear HB; have HB := n0_; have BK435 := n1_; have GW435 := n2_; have GE435 := n3_; clear n0_ n1_ n2_ n3_; clear hb hbox hg) | ((with_reducible refine gate_dst (N := 3) rfl ?_); refine box_event ?hg (N := 3) ?hd (cs := #[.slice A1_0 l1_0.length c1_0, .int .i64 a1_1]) (t := 45) ?hr ?_; (case hd => rfl); (case hg => rfl); (case hr => first | (go_simp; done) | (go_simp; rfl)); intro gb436 hg w12 hbox hb; have n0_ := zm (blk_below (g := gb435) zk hb); have n1_ := zm (below_step zb hb); have n2_ := zm (hbox); have n3_ := zm (zs hg zb : w.heap.size ≤ gb436); have n4_ := zm (zs hg zb : w.heap.size ≤ gb436); have n5_ := zm (zl hg zk : gb435 ≠ gb436); have n6_ := zm (zg hg zk : gb436 ≠ gb435); clear BK435; clear HB; have BK435 := n0_; have HB := n1_; have BK436 := n2_; have GW436 := n3_; have GE436 := n4_; have NB435_436 := n5_; have NB436_435 := n6_; clear n0_ n1_ n2_ n3_ n4_ n5_ n6_; clear hb hbox hg; have hnb13 := NB435_436.out; have hnc13 := NB436_435.out; obtain ⟨hcz14_0, hcz14_1, hfz14_0, hfz14_1⟩ := zc2 BK435.out; obtain ⟨hcz15_0, hcz15_1, hfz15_0, hfz15_1⟩ := zc2 BK436.out) | ((with_reducible refine gate_callee (f := 63) rfl ?_); refine goesA_ (some 9) Try.func63 #[.slice A0_0 l0_0.length c0_0, .slice A1_0 l1_0.length c1_0] rfl ?_; (with_reducible refine (laws_eqIntS.calls k _ _ l0_0 _ _ l1_0 true _ ?side1 ?side2 ?side3 ?side4 A3.out).mono ?_); (case side1 => repeat (first | exact (Kd.C_below HR0_0.out HB.out) | (with_reducible refine Kd.C_alloc ?_ _) | (with_reducible refine Kd.C_drewN ?_ _) | (with_reducible refine Kd.C_drew ?_))); (case side2 => exact HC0_0.out); (case side3 => repeat (first | exact (Kd.C_below HR1_0.out HB.out) | (with_reducible refine Kd.C_alloc ?_ _) | (with_reducible refine Kd.C_drewN ?_ _) | (with_reducible refine Kd.C_drew ?_))); (case side4 => exact HC1_0.out); rintro e w' ⟨rfl, ⟨nd, rfl⟩⟩; refine ⟨_, rfl, ?_⟩))
   go_ret
   exact ⟨zr, zb⟩
 ·
  replace c4 := Bool.eq_false_iff.mpr c4
  subst c4
  have H1 : (some false) = some r := by rw [if_neg (show ¬ (false = true) by decide)] at H; exact H
  clear H
  have H := H1
  clear H1
  obtain rfl := Option.some.inj H
  go_enter Try.func27, Try.ntmps27
  go_wp2_with (first | ((with_reducible refine gate_dst (N := 2) rfl ?_); refine box_event ?hg (N := 2) ?hd (cs := #[.slice A0_0 l0_0.length c0_0, .int .i64 a0_1]) (t := 45) ?hr ?_; (case hd => rfl); (case hg => rfl); (case hr => first | (go_simp; done) | (go_simp; rfl)); intro gb435 hg w16 hbox hb; have n0_ := zm (below_step zb hb); have n1_ := zm (hbox); have n2_ := zm (zs hg zb : w.heap.size ≤ gb435); have n3_ := zm (zs hg zb : w.heap.size ≤ gb435); clear HB; have HB := n0_; have BK435 := n1_; have GW435 := n2_; have GE435 := n3_; clear n0_ n1_ n2_ n3_; clear hb hbox hg) | ((with_reducible refine gate_dst (N := 3) rfl ?_); refine box_event ?hg (N := 3) ?hd (cs := #[.slice A1_0 l1_0.length c1_0, .int .i64 a1_1]) (t := 45) ?hr ?_; (case hd => rfl); (case hg => rfl); (case hr => first | (go_simp; done) | (go_simp; rfl)); intro gb436 hg w17 hbox hb; have n0_ := zm (blk_below (g := gb435) zk hb); have n1_ := zm (below_step zb hb); have n2_ := zm (hbox); have n3_ := zm (zs hg zb : w.heap.size ≤ gb436); have n4_ := zm (zs hg zb : w.heap.size ≤ gb436); have n5_ := zm (zl hg zk : gb435 ≠ gb436); have n6_ := zm (zg hg zk : gb436 ≠ gb435); clear BK435; clear HB; have BK435 := n0_; have HB := n1_; have BK436 := n2_; have GW436 := n3_; have GE436 := n4_; have NB435_436 := n5_; have NB436_435 := n6_; clear n0_ n1_ n2_ n3_ n4_ n5_ n6_; clear hb hbox hg; have hnb18 := NB435_436.out; have hnc18 := NB436_435.out; obtain ⟨hcz19_0, hcz19_1, hfz19_0, hfz19_1⟩ := zc2 BK435.out; obtain ⟨hcz20_0, hcz20_1, hfz20_0, hfz20_1⟩ := zc2 BK436.out) | ((with_reducible refine gate_callee (f := 63) rfl ?_); refine goesA_ (some 9) Try.func63 #[.slice A0_0 l0_0.length c0_0, .slice A1_0 l1_0.length c1_0] rfl ?_; (with_reducible refine (laws_eqIntS.calls k _ _ l0_0 _ _ l1_0 false _ ?side1 ?side2 ?side3 ?side4 A3.out).mono ?_); (case side1 => repeat (first | exact (Kd.C_below HR0_0.out HB.out) | (with_reducible refine Kd.C_alloc ?_ _) | (with_reducible refine Kd.C_drewN ?_ _) | (with_reducible refine Kd.C_drew ?_))); (case side2 => exact HC0_0.out); (case side3 => repeat (first | exact (Kd.C_below HR1_0.out HB.out) | (with_reducible refine Kd.C_alloc ?_ _) | (with_reducible refine Kd.C_drewN ?_ _) | (with_reducible refine Kd.C_drew ?_))); (case side4 => exact HC1_0.out); rintro e w' ⟨rfl, ⟨nd, rfl⟩⟩; refine ⟨_, rfl, ?_⟩))
  go_ret
  exact ⟨zr, zb⟩

/-! ### laws_eqHole: function 74 -/
def laws_eqHole.f (a0_0 : Int) (a0_1 : Int) (a0_2 : Int) (a1_0 : Int) (a1_1 : Int) (a1_2 : Int) : Option (Bool) := if a0_0 = a1_0 then (if a0_1 = a1_1 then (if a0_2 = a1_2 then (some true) else (some false)) else (some false)) else (some false)
set_option maxHeartbeats 8000000 in
set_option maxRecDepth 100000 in
theorem laws_eqHole.calls (a0_0 : Int) (a0_1 : Int) (a0_2 : Int) (a1_0 : Int) (a1_1 : Int) (a1_2 : Int) (r : Bool) (w : World) (h : laws_eqHole.f a0_0 a0_1 a0_2 a1_0 a1_1 a1_2 = some r) :
  Calls Try.prog 74 #[.agg #[.int .i64 a0_0, .int .i64 a0_1, .int .i64 a0_2], .agg #[.int .i64 a1_0, .int .i64 a1_1, .int .i64 a1_2]] w fun e w' => e = .returned (.bool r) ∧ Below w.heap.size w w' := by
 have hu96 := Try.underlying96
 have HB := zm (Below.refl w.heap.size w)
 have H : (if a0_0 = a1_0 then (if a0_1 = a1_1 then (if a0_2 = a1_2 then (some true) else (some false)) else (some false)) else (some false)) = some r := h
 clear h
 by_cases c3 : a0_0 = a1_0
 ·
  rw [if_pos c3] at H
  have c3b0 : (a0_0 == a1_0) = true := beq_iff_eq.mpr c3
  have c3b1 : (a0_0 != a1_0) = false := bne_eq_false_iff_eq.mpr c3
  clear c3
  by_cases c4 : a0_1 = a1_1
  ·
   rw [if_pos c4] at H
   have c4b0 : (a0_1 == a1_1) = true := beq_iff_eq.mpr c4
   have c4b1 : (a0_1 != a1_1) = false := bne_eq_false_iff_eq.mpr c4
   clear c4
   by_cases c5 : a0_2 = a1_2
   ·
    rw [if_pos c5] at H
    have c5b0 : (a0_2 == a1_2) = true := beq_iff_eq.mpr c5
    have c5b1 : (a0_2 != a1_2) = false := bne_eq_false_iff_eq.mpr c5
    clear c5
    obtain rfl := Option.some.inj H
    go_enter Try.func74, Try.ntmps74
    go_wp2_with (first | ((with_reducible refine gate_dst (N := 2) rfl ?_); refine box_event ?hg (N := 2) ?hd (cs := #[.int .i64 a0_0, .int .i64 a0_1, .int .i64 a0_2]) (t := 96) ?hr ?_; (case hd => rfl); (case hg => rfl); (case hr => first | (go_simp; done) | (go_simp; rfl)); intro gb438 hg w6 hbox hb; have n0_ := zm (below_step zb hb); have n1_ := zm (hbox); have n2_ := zm (zs hg zb : w.heap.size ≤ gb438); have n3_ := zm (zs hg zb : w.heap.size ≤ gb438); clear HB; have HB := n0_; have BK438 := n1_; have GW438 := n2_; have GE438 := n3_; clear n0_ n1_ n2_ n3_; clear hb hbox hg) | ((with_reducible refine gate_dst (N := 3) rfl ?_); refine box_event ?hg (N := 3) ?hd (cs := #[.int .i64 a1_0, .int .i64 a1_1, .int .i64 a1_2]) (t := 96) ?hr ?_; (case hd => rfl); (case hg => rfl); (case hr => first | (go_simp; done) | (go_simp; rfl)); intro gb439 hg w7 hbox hb; have n0_ := zm (blk_below (g := gb438) zk hb); have n1_ := zm (below_step zb hb); have n2_ := zm (hbox); have n3_ := zm (zs hg zb : w.heap.size ≤ gb439); have n4_ := zm (zs hg zb : w.heap.size ≤ gb439); have n5_ := zm (zl hg zk : gb438 ≠ gb439); have n6_ := zm (zg hg zk : gb439 ≠ gb438); clear BK438; clear HB; have BK438 := n0_; have HB := n1_; have BK439 := n2_; have GW439 := n3_; have GE439 := n4_; have NB438_439 := n5_; have NB439_438 := n6_; clear n0_ n1_ n2_ n3_ n4_ n5_ n6_; clear hb hbox hg; have hnb8 := NB438_439.out; have hnc8 := NB439_438.out; obtain ⟨hcz9_0, hcz9_1, hcz9_2, hfz9_0, hfz9_1, hfz9_2⟩ := zc3 BK438.out; obtain ⟨hcz10_0, hcz10_1, hcz10_2, hfz10_0, hfz10_1, hfz10_2⟩ := zc3 BK439.out))
    go_ret
    exact ⟨zr, zb⟩
   ·
    rw [if_neg c5] at H
    have c5b0 : (a0_2 == a1_2) = false := beq_eq_false_iff_ne.mpr c5
    have c5b1 : (a0_2 != a1_2) = true := bne_iff_ne.mpr c5
    obtain rfl := Option.some.inj H
    go_enter Try.func74, Try.ntmps74
    go_wp2_with (first | ((with_reducible refine gate_dst (N := 2) rfl ?_); refine box_event ?hg (N := 2) ?hd (cs := #[.int .i64 a0_0, .int .i64 a0_1, .int .i64 a0_2]) (t := 96) ?hr ?_; (case hd => rfl); (case hg => rfl); (case hr => first | (go_simp; done) | (go_simp; rfl)); intro gb438 hg w11 hbox hb; have n0_ := zm (below_step zb hb); have n1_ := zm (hbox); have n2_ := zm (zs hg zb : w.heap.size ≤ gb438); have n3_ := zm (zs hg zb : w.heap.size ≤ gb438); clear HB; have HB := n0_; have BK438 := n1_; have GW438 := n2_; have GE438 := n3_; clear n0_ n1_ n2_ n3_; clear hb hbox hg) | ((with_reducible refine gate_dst (N := 3) rfl ?_); refine box_event ?hg (N := 3) ?hd (cs := #[.int .i64 a1_0, .int .i64 a1_1, .int .i64 a1_2]) (t := 96) ?hr ?_; (case hd => rfl); (case hg => rfl); (case hr => first | (go_simp; done) | (go_simp; rfl)); intro gb439 hg w12 hbox hb; have n0_ := zm (blk_below (g := gb438) zk hb); have n1_ := zm (below_step zb hb); have n2_ := zm (hbox); have n3_ := zm (zs hg zb : w.heap.size ≤ gb439); have n4_ := zm (zs hg zb : w.heap.size ≤ gb439); have n5_ := zm (zl hg zk : gb438 ≠ gb439); have n6_ := zm (zg hg zk : gb439 ≠ gb438); clear BK438; clear HB; have BK438 := n0_; have HB := n1_; have BK439 := n2_; have GW439 := n3_; have GE439 := n4_; have NB438_439 := n5_; have NB439_438 := n6_; clear n0_ n1_ n2_ n3_ n4_ n5_ n6_; clear hb hbox hg; have hnb13 := NB438_439.out; have hnc13 := NB439_438.out; obtain ⟨hcz14_0, hcz14_1, hcz14_2, hfz14_0, hfz14_1, hfz14_2⟩ := zc3 BK438.out; obtain ⟨hcz15_0, hcz15_1, hcz15_2, hfz15_0, hfz15_1, hfz15_2⟩ := zc3 BK439.out))
    go_ret
    exact ⟨zr, zb⟩
  ·
   rw [if_neg c4] at H
   have c4b0 : (a0_1 == a1_1) = false := beq_eq_false_iff_ne.mpr c4
   have c4b1 : (a0_1 != a1_1) = true := bne_iff_ne.mpr c4
   obtain rfl := Option.some.inj H
   go_enter Try.func74, Try.ntmps74
   go_wp2_with (first | ((with_reducible refine gate_dst (N := 2) rfl ?_); refine box_event ?hg (N := 2) ?hd (cs := #[.int .i64 a0_0, .int .i64 a0_1, .int .i64 a0_2]) (t := 96) ?hr ?_; (case hd => rfl); (case hg => rfl); (case hr => first | (go_simp; done) | (go_simp; rfl)); intro gb438 hg w16 hbox hb; have n0_ := zm (below_step zb hb); have n1_ := zm (hbox); have n2_ := zm (zs hg zb : w.heap.size ≤ gb438); have n3_ := zm (zs hg zb : w.heap.size ≤ gb438); clear HB; have HB := n0_; have BK438 := n1_; have GW438 := n2_; have GE438 := n3_; clear n0_ n1_ n2_ n3_; clear hb hbox hg) | ((with_reducible refine gate_dst (N := 3) rfl ?_); refine box_event ?hg (N := 3) ?hd (cs := #[.int .i64 a1_0, .int .i64 a1_1, .int .i64 a1_2]) (t := 96) ?hr ?_; (case hd => rfl); (case hg => rfl); (case hr => first | (go_simp; done) | (go_simp; rfl)); intro gb439 hg w17 hbox hb; have n0_ := zm (blk_below (g := gb438) zk hb); have n1_ := zm (below_step zb hb); have n2_ := zm (hbox); have n3_ := zm (zs hg zb : w.heap.size ≤ gb439); have n4_ := zm (zs hg zb : w.heap.size ≤ gb439); have n5_ := zm (zl hg zk : gb438 ≠ gb439); have n6_ := zm (zg hg zk : gb439 ≠ gb438); clear BK438; clear HB; have BK438 := n0_; have HB := n1_; have BK439 := n2_; have GW439 := n3_; have GE439 := n4_; have NB438_439 := n5_; have NB439_438 := n6_; clear n0_ n1_ n2_ n3_ n4_ n5_ n6_; clear hb hbox hg; have hnb18 := NB438_439.out; have hnc18 := NB439_438.out; obtain ⟨hcz19_0, hcz19_1, hcz19_2, hfz19_0, hfz19_1, hfz19_2⟩ := zc3 BK438.out; obtain ⟨hcz20_0, hcz20_1, hcz20_2, hfz20_0, hfz20_1, hfz20_2⟩ := zc3 BK439.out))
   go_ret
   exact ⟨zr, zb⟩
 ·
  rw [if_neg c3] at H
  have c3b0 : (a0_0 == a1_0) = false := beq_eq_false_iff_ne.mpr c3
  have c3b1 : (a0_0 != a1_0) = true := bne_iff_ne.mpr c3
  obtain rfl := Option.some.inj H
  go_enter Try.func74, Try.ntmps74
  go_wp2_with (first | ((with_reducible refine gate_dst (N := 2) rfl ?_); refine box_event ?hg (N := 2) ?hd (cs := #[.int .i64 a0_0, .int .i64 a0_1, .int .i64 a0_2]) (t := 96) ?hr ?_; (case hd => rfl); (case hg => rfl); (case hr => first | (go_simp; done) | (go_simp; rfl)); intro gb438 hg w21 hbox hb; have n0_ := zm (below_step zb hb); have n1_ := zm (hbox); have n2_ := zm (zs hg zb : w.heap.size ≤ gb438); have n3_ := zm (zs hg zb : w.heap.size ≤ gb438); clear HB; have HB := n0_; have BK438 := n1_; have GW438 := n2_; have GE438 := n3_; clear n0_ n1_ n2_ n3_; clear hb hbox hg) | ((with_reducible refine gate_dst (N := 3) rfl ?_); refine box_event ?hg (N := 3) ?hd (cs := #[.int .i64 a1_0, .int .i64 a1_1, .int .i64 a1_2]) (t := 96) ?hr ?_; (case hd => rfl); (case hg => rfl); (case hr => first | (go_simp; done) | (go_simp; rfl)); intro gb439 hg w22 hbox hb; have n0_ := zm (blk_below (g := gb438) zk hb); have n1_ := zm (below_step zb hb); have n2_ := zm (hbox); have n3_ := zm (zs hg zb : w.heap.size ≤ gb439); have n4_ := zm (zs hg zb : w.heap.size ≤ gb439); have n5_ := zm (zl hg zk : gb438 ≠ gb439); have n6_ := zm (zg hg zk : gb439 ≠ gb438); clear BK438; clear HB; have BK438 := n0_; have HB := n1_; have BK439 := n2_; have GW439 := n3_; have GE439 := n4_; have NB438_439 := n5_; have NB439_438 := n6_; clear n0_ n1_ n2_ n3_ n4_ n5_ n6_; clear hb hbox hg; have hnb23 := NB438_439.out; have hnc23 := NB439_438.out; obtain ⟨hcz24_0, hcz24_1, hcz24_2, hfz24_0, hfz24_1, hfz24_2⟩ := zc3 BK438.out; obtain ⟨hcz25_0, hcz25_1, hcz25_2, hfz25_0, hfz25_1, hfz25_2⟩ := zc3 BK439.out))
  go_ret
  exact ⟨zr, zb⟩

end Go.Proofs.Ytjjjikdpegogcaa.PRr
