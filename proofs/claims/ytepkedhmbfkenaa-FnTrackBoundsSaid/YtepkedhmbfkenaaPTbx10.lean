-- Written for this claim by a program of this session (wip/tpl/patchprint.py), not by print.sh.
import Derived.Test.YtepkedhmbfkenaaPTbx0
import Derived.Test.YtepkedhmbfkenaaPTbx1
import Derived.Test.YtepkedhmbfkenaaPTbx4
import Derived.Test.YtepkedhmbfkenaaPTbx9
namespace Go.Proofs.Ytepkedhmbfkenaa.PTb
open Go.RowKit Go.Proofs.YtepkedhmbfkenaaW.PrintWords Go.Proofs.YtepkedhmbfkenaaW.PrintLast Go.Proofs.YtepkedhmbfkenaaW.PrintMore
attribute [local go_sem] max2_int min2_int max_two min_two max_three min_three max_four min_four   -- for this text's walks alone
set_option linter.unusedVariables false
set_option linter.unusedSimpArgs false

/-! ### spec_tkRun: function 118 -/
mutual
def spec_tkRun.l0 : Nat → Int → List Int → List Int → List Int → Int → Int → Int → Int → Option (List Int × List Int × Bool)
  | 0, _, _, _, _, _, _, _, _ => none
  | k + 1, x1, x9, x10, x16, x17, x18, x338000, x338001 => if x18 < x17 then (if 0 ≤ x18 then (if x18 < (x16.length : Int) then ((spec_tkStep.f x338000 x338001 x1 (rd x16 x18)).bind fun bt342 => (if bt342.2 < 0 then (if 0 < (x10.length : Int) then (spec_tkRun.j1 k x9 (x10.set (0 : Int).toNat (wrap64 ((rd x10 0) + 1))) bt342.1 bt342.2 x16 x17 x18 x338000 x338001) else (none)) else (spec_tkRun.j1 k x9 x10 bt342.1 bt342.2 x16 x17 x18 x338000 x338001))) else (none)) else (none)) else (some (x9, x10, true))
def spec_tkRun.j1 : Nat → List Int → List Int → Int → Int → List Int → Int → Int → Int → Int → Option (List Int × List Int × Bool)
  | 0, _, _, _, _, _, _, _, _, _ => none
  | k + 1, x9, x10, x13, x14, x16, x17, x18, x338000, x338001 => if x14 > 0 then (if 1 < (x10.length : Int) then ((spec_tkOffset.f x13).bind fun t348 => (if t348 = true then (if x9.length < 17592186044416 then (spec_tkRun.l0 k x13 (x9 ++ [x13]) (x10.set (1 : Int).toNat (wrap64 ((rd x10 1) + 1))) x16 x17 (wrap64 (x18 + 1)) x338000 x338001) else (none)) else (some (([] : List Int), ([] : List Int), false)))) else (none)) else ((spec_tkOffset.f x13).bind fun t352 => (if t352 = true then (if x9.length < 17592186044416 then (spec_tkRun.l0 k x13 (x9 ++ [x13]) x10 x16 x17 (wrap64 (x18 + 1)) x338000 x338001) else (none)) else (some (([] : List Int), ([] : List Int), false))))
end
def spec_tkRun.f (k : Nat) (a0_0 : Int) (a0_1 : Int) (a1 : Int) (l2 : List Int) : Option (List Int × List Int × Bool) := spec_tkRun.l0 k a1 ([] : List Int) (([0, 0] : List Int)) l2 (l2.length : Int) 0 a0_0 a0_1
theorem spec_tkRun.mono_l : ∀ k, (∀ y0 y1 y2 y3 y4 y5 y6 y7, LeO (spec_tkRun.l0 k y0 y1 y2 y3 y4 y5 y6 y7) (spec_tkRun.l0 (k + 1) y0 y1 y2 y3 y4 y5 y6 y7)) ∧ (∀ y0 y1 y2 y3 y4 y5 y6 y7 y8, LeO (spec_tkRun.j1 k y0 y1 y2 y3 y4 y5 y6 y7 y8) (spec_tkRun.j1 (k + 1) y0 y1 y2 y3 y4 y5 y6 y7 y8))
  | 0 => ⟨fun _ _ _ _ _ _ _ _ r h => by simp [spec_tkRun.l0] at h, fun _ _ _ _ _ _ _ _ _ r h => by simp [spec_tkRun.j1] at h⟩
  | k + 1 => by
    obtain ⟨ih0, ih1⟩ := spec_tkRun.mono_l k
    refine ⟨?_, ?_⟩
    · intro y0 y1 y2 y3 y4 y5 y6 y7
      unfold spec_tkRun.l0
      repeat' first
      | (with_reducible exact ih0 _ _ _ _ _ _ _ _)
      | (with_reducible exact ih1 _ _ _ _ _ _ _ _ _)
      | (with_reducible exact LeO.refl _)
      | (with_reducible exact LeO.none _)
      | (with_reducible refine LeO.ite ?_ ?_)
      | (with_reducible refine LeO.bind ?_ (fun _ => ?_))
      | exact ih0 _ _ _ _ _ _ _ _
      | exact ih1 _ _ _ _ _ _ _ _ _
      | exact LeO.none _
      | refine LeO.ite ?_ ?_
      | refine LeO.bind ?_ (fun _ => ?_)
    · intro y0 y1 y2 y3 y4 y5 y6 y7 y8
      unfold spec_tkRun.j1
      repeat' first
      | (with_reducible exact ih0 _ _ _ _ _ _ _ _)
      | (with_reducible exact ih1 _ _ _ _ _ _ _ _ _)
      | (with_reducible exact LeO.refl _)
      | (with_reducible exact LeO.none _)
      | (with_reducible refine LeO.ite ?_ ?_)
      | (with_reducible refine LeO.bind ?_ (fun _ => ?_))
      | exact ih0 _ _ _ _ _ _ _ _
      | exact ih1 _ _ _ _ _ _ _ _ _
      | exact LeO.none _
      | refine LeO.ite ?_ ?_
      | refine LeO.bind ?_ (fun _ => ?_)
theorem spec_tkRun.mono : ∀ a0 a1 a2 a3 k, LeO (spec_tkRun.f k a0 a1 a2 a3) (spec_tkRun.f (k + 1) a0 a1 a2 a3) := by
  intro a0 a1 a2 a3 k
  obtain ⟨ih0, ih1⟩ := spec_tkRun.mono_l k
  unfold spec_tkRun.f
  repeat' first
      | (with_reducible exact ih0 _ _ _ _ _ _ _ _)
      | (with_reducible exact ih1 _ _ _ _ _ _ _ _ _)
      | (with_reducible exact LeO.refl _)
      | (with_reducible exact LeO.none _)
      | (with_reducible refine LeO.ite ?_ ?_)
      | (with_reducible refine LeO.bind ?_ (fun _ => ?_))
      | exact ih0 _ _ _ _ _ _ _ _
      | exact ih1 _ _ _ _ _ _ _ _ _
      | exact LeO.none _
      | refine LeO.ite ?_ ?_
      | refine LeO.bind ?_ (fun _ => ?_)
set_option maxHeartbeats 8000000 in
set_option maxRecDepth 100000 in
theorem spec_tkRun.calls (k : Nat) (a0_0 : Int) (a0_1 : Int) (a1 : Int) (A2 : Option Addr) (c2 : Nat) (l2 : List Int) (r1 : List Int) (r2 : List Int) (r3 : Bool) (w : World) (hr2 : Kd.C (Kd.int .i64) w A2 l2.length l2) (hc2 : l2.length ≤ c2) (h : spec_tkRun.f k a0_0 a0_1 a1 l2 = some (r1, r2, r3)) :
  Calls Try.prog 118 #[.agg #[.int .i64 a0_0, .int .i64 a0_1], .int .i64 a1, .slice A2 l2.length c2] w fun e w' => ∃ v0_ v1_ : Value, e = .returned (.tuple #[v0_, v1_, .bool r3]) ∧ Kd.R (Kd.int .i64) 3 w' w.heap.size (fun k_ => some k_ ≠ (v1_ : Value).ownBlock) v0_ r1 ∧ Kd.R (Kd.int .i64) 3 w' w.heap.size (fun k_ => some k_ ≠ (v0_ : Value).ownBlock) v1_ r2 ∧ Below w.heap.size w w' := by
 have hu47 := Try.underlying47
 have HR2 := zm hr2
 have HC2 := zm hc2
 clear hr2 hc2
 have HB := zm (Below.refl w.heap.size w)
 have H : (spec_tkRun.l0 k a1 ([] : List Int) (([0, 0] : List Int)) l2 (l2.length : Int) 0 a0_0 a0_1) = some (r1, r2, r3) := h
 clear h
 obtain ⟨y338, hy338⟩ : ∃ y_ : List Int, y_ = (([0, 0] : List Int)) := ⟨_, rfl⟩
 replace H : (spec_tkRun.l0 k a1 ([] : List Int) y338 l2 (l2.length : Int) 0 a0_0 a0_1) = some (r1, r2, r3) := by first | (rw [hy338]; with_reducible exact H) | (have H2_ := (Option.bind_some _ _).symm.trans H; rw [hy338]; with_reducible exact H2_) | (have H2_ := (Option.bind_some _ _).symm.trans H; with_reducible exact H2_) | with_reducible exact H | (rw [hy338]; exact H) | exact H
 have Ny338 := zm hy338
 clear hy338
 have H' := zm H
 clear H
 go_enter Try.func118, Try.ntmps118
 go_wp2_with (first | ((with_reducible refine gate_dst (N := 3) rfl ?_); refine box_event ?hg (N := 3) ?hd (cs := #[.int .i64 a0_0, .int .i64 a0_1]) (t := 47) ?hr ?_; (case hd => rfl); (case hg => rfl); (case hr => first | (go_simp; done) | (go_simp; rfl)); intro gb337 hg w4 hbox hb; have n0_ := zm (below_step zb hb); have n1_ := zm (hbox); have n2_ := zm (zs hg zb : w.heap.size ≤ gb337); have n3_ := zm (zs hg zb : w.heap.size ≤ gb337); clear HB; have HB := n0_; have BK337 := n1_; have GW337 := n2_; have GE337 := n3_; clear n0_ n1_ n2_ n3_; clear hb hbox hg) | ((with_reducible refine gate_dst (N := 15) rfl ?_); refine Kd.R_lit (Kd.int .i64) _ 3 ?hg (N := 15) ?hd (xs := ([0, 0] : List Int)) (inner := [.int .i64 0, .int .i64 0]) (ok := fun _ => True) (okp := fun _ => True) ?hr ?hp (fun _ hk => hk) trivial (Below.refl _ _) (Nat.le_refl _) (by simp) ?_; (case hd => rfl); (case hg => rfl); (case hr => first | (go_simp; done) | (go_simp; rfl)); (case hp => exact (Reps.one (show Kd.M (Kd.int .i64) _ _ _ 0 [.int .i64 0] from rfl) (Reps.one (show Kd.M (Kd.int .i64) _ _ _ 0 [.int .i64 0] from rfl) (Reps.none _ _)))); intro v339 w5 ho6 hb hg_ hnew_; clear hg_ hnew_; (first | rw [← Ny338.out] at ho6 | (simp only [Int.reduceToNat] at ho6; rw [← Ny338.out] at ho6)); have n0_ := zm (Kd.R_lower ho6 (below_size zb)); have n1_ := zm (blk_below (g := gb337) zk hb); have n2_ := zm (below_step zb hb); clear BK337; clear HB; have HO340 := n0_; have BK337 := n1_; have HB := n2_; clear n0_ n1_ n2_; clear hb ho6))
 go_loopg [1, 9, 18] k (fun kq v1 v9 v18 w' => ∃ (x1_1 : Int) (x9_1 : List Int) (x10_1 : List Int) (x18_1 : Int), v1 = .int .i64 x1_1 ∧ v18 = .int .i64 x18_1 ∧ Aside0 (spec_tkRun.l0 kq x1_1 x9_1 x10_1 l2 (l2.length : Int) x18_1 a0_0 a0_1 = some (r1, r2, r3)) ∧ Aside0 (kq ≤ k) ∧ Aside0 (Kd.R (Kd.int .i64) 3 w' w.heap.size (fun k_ => some k_ ≠ (v339 : Value).ownBlock) v9 x9_1) ∧ Aside0 (Kd.R (Kd.int .i64) 3 w' w.heap.size (fun k_ => some k_ ≠ (v9 : Value).ownBlock) v339 x10_1) ∧ Aside0 (w'.heap[gb337]? = some (.cells #[.int .i64 a0_0, .int .i64 a0_1] 47 (0, 0))) ∧ Aside0 (Below w.heap.size w w'))
 case atStart => exact ⟨(a1), (([] : List Int)), (y338), (0), (by first | rfl | (simp; done) | (simp [*]; done)), (by first | rfl | (simp; done) | (simp [*]; done)), H', ⟨Nat.le_refl _⟩, ⟨by first | exact Kd.R_nil _ _ _ _ _ | exact Kd.N_nil _ _ _ _ _ | exact Kd.V_nil _ _ _ _ _ | exact Kd.Q_nil _ _ _ _ _ | exact Kd.S_nil _ _ _ _ _⟩, ⟨by (with_reducible repeat (first | apply Kd.R_alloc | apply Kd.R_drewN | apply Kd.R_drew)); exact Kd.R_mono HO340.out (fun _ hk => (by simp [Value.ownBlock]))⟩, ⟨zk⟩, ⟨zb⟩⟩
 case round =>
  clear H'
  (try clear c1); (try clear c2); (try clear p2)
  obtain ⟨x1_1, x9_1, x10_1, x18_1, rfl, rfl, HA, HK1, HO_9, HO_10, BK337, HB⟩ := hrel
  cases gk with
  | zero => exact absurd HA.out (by simp [spec_tkRun.l0])
  | succ k1 =>
   have H := HA.out
   clear HA
   simp only [spec_tkRun.l0] at H
   by_cases c7 : x18_1 < (l2.length : Int)
   ·
    rw [if_pos c7] at H
    have c7b0 : decide (x18_1 < (l2.length : Int)) = true := decide_eq_true c7
    clear c7
    by_cases c8 : 0 ≤ x18_1
    ·
     rw [if_pos c8] at H
     have c8b0 : decide (0 ≤ x18_1) = true := decide_eq_true c8
     clear c8
     by_cases c9 : x18_1 < (l2.length : Int)
     ·
      rw [if_pos c9] at H
      have c9b0 : decide (x18_1 < (l2.length : Int)) = true := decide_eq_true c9
      clear c9
      replace H := Option.bind_eq_some_iff.mp H
      obtain ⟨⟨t342, t343⟩, A100, H⟩ := H
      (try dsimp only at H)
      have A10 := zm A100
      clear A100
      have HC11 := zm H
      clear H
      have p341 : 0 ≤ (x18_1 : Int) := zd
      have q341 : x18_1 < (l2.length : Int) := zd
      obtain ⟨ad341, e341, hx341_0⟩ := Kd.at_int HR2.out x18_1 p341 q341
      cases e341
      replace hx341_0 := zx HB.out hx341_0
      replace p341 := eq_true p341
      replace q341 := eq_true q341
      obtain ⟨hcz12_0, hcz12_1, hfz12_0, hfz12_1⟩ := zc2 BK337.out
      go_upto_if 30 with (first | ((with_reducible refine gate_callee (f := 95) rfl ?_); refine goesA_ (some 26) Try.func95 #[.agg #[.int .i64 a0_0, .int .i64 a0_1], .int .i64 x1_1, .int .i64 (rd l2 x18_1)] rfl ?_; (with_reducible refine (spec_tkStep.calls a0_0 a0_1 x1_1 (rd l2 x18_1) t342 t343 _ A10.out).mono ?_); rintro e w13 ⟨rfl, hb⟩; refine ⟨_, rfl, ?_⟩; have n0_ := zm (Kd.R_below (by (with_reducible repeat (first | apply Kd.R_alloc | apply Kd.R_drewN | apply Kd.R_drew)); exact HO_9.out) hb); have n1_ := zm (Kd.R_below (by (with_reducible repeat (first | apply Kd.R_alloc | apply Kd.R_drewN | apply Kd.R_drew)); exact HO_10.out) hb); have n2_ := zm (blk_below (g := gb337) zk hb); have n3_ := zm (below_step zb hb); clear HO_9; clear HO_10; clear BK337; clear HB; have HO_9 := n0_; have HO_10 := n1_; have BK337 := n2_; have HB := n3_; clear n0_ n1_ n2_ n3_; (try clear hb); (try clear hb2); (try clear hk); (try clear hi)))
      (try simp only [Act.put, List.setIfInBounds_toArray, List.set_cons_zero, List.set_cons_succ])
      go_cut [] (fun wc => ∃ (kq : Nat) (x10_10 : List Int), Aside0 (spec_tkRun.j1 kq x9_1 x10_10 t342 t343 l2 (l2.length : Int) x18_1 a0_0 a0_1 = some (r1, r2, r3)) ∧ Aside0 (kq ≤ k1) ∧ Aside0 (Kd.R (Kd.int .i64) 3 wc w.heap.size (fun k_ => some k_ ≠ (v339 : Value).ownBlock) u9 x9_1) ∧ Aside0 (Kd.R (Kd.int .i64) 3 wc w.heap.size (fun k_ => some k_ ≠ (u9 : Value).ownBlock) v339 x10_10) ∧ Aside0 (wc.heap[gb337]? = some (.cells #[.int .i64 a0_0, .int .i64 a0_1] 47 (0, 0))) ∧ Aside0 (Below w.heap.size w wc))
      case first =>
       have H := HC11.out
       clear HC11
       by_cases c14 : t343 < 0
       ·
        rw [if_pos c14] at H
        have c14b0 : decide (t343 < 0) = true := decide_eq_true c14
        clear c14
        (first | rw [c14b0] | (simp only [i64_w, i32_w]; rw [c14b0]) | skip)
        by_cases c15 : 0 < (x10_1.length : Int)
        ·
         rw [if_pos c15] at H
         have c15b0 : decide (0 < (x10_1.length : Int)) = true := decide_eq_true c15
         have c15b1 : decide (0 < x10_1.length) = true := decide_eq_true (by omega)
         clear c15
         obtain ⟨y345, hy345⟩ : ∃ y_ : List Int, y_ = (x10_1.set (0 : Int).toNat (wrap64 ((rd x10_1 0) + 1))) := ⟨_, rfl⟩
         replace H : (spec_tkRun.j1 k1 x9_1 y345 t342 t343 l2 (l2.length : Int) x18_1 a0_0 a0_1) = some (r1, r2, r3) := by first | (rw [hy345]; with_reducible exact H) | (have H2_ := (Option.bind_some _ _).symm.trans H; rw [hy345]; with_reducible exact H2_) | (have H2_ := (Option.bind_some _ _).symm.trans H; with_reducible exact H2_) | with_reducible exact H | (rw [hy345]; exact H) | exact H
         have Ny345 := zm hy345
         clear hy345
         have H' := zm H
         clear H
         obtain ⟨Ao17, co17, eo17⟩ := Kd.R_slice HO_10.out
         subst eo17
         have p344 : 0 ≤ (0 : Int) := (by omega)
         have q344 : 0 < (x10_1.length : Int) := zd
         obtain ⟨ad344, e344, hx344_0⟩ := Kd.at_int (Kd.R_reads' HO_10.out).2.2 0 p344 q344
         cases e344
         have qi344 : (0 < x10_1.length) = True := eq_true (by omega)
         (try rw [show ((0 : Int)).toNat = 0 from rfl] at hx344_0)
         (try rw [Addr.add_zero'] at hx344_0)
         replace p344 := eq_true p344
         replace q344 := eq_true q344
         have p16 : 0 ≤ (0 : Int) := (by omega)
         have q16 : (0 : Int) < ((x10_1.length : Int) : Int) := zd
         have qi16 : (0 < x10_1.length) = True := eq_true (by omega)
         obtain ⟨go16, co16, eo16, gb16, gl16, cl16, HG16⟩ := Kd.R_form HO_10.out (by omega)
         (first | cases eo16 | (injection eo16 with ea_ en_ ec_; (first | subst ea_ | (injection ea_ with ea_; subst ea_)); subst ec_; clear en_))
         have GB16 := zm gb16
         have GG16 := zm HG16
         clear gb16 gl16 HG16
         (first | simp only [add_plain] at hx344_0 | skip)
         obtain ⟨hx16_0, hf16_0⟩ := Kd.R_celln 0 HO_10.out (0 : Int) p16 q16
         (try rw [show ((0 : Int)).toNat = 0 from rfl] at hx16_0)
         (try simp only [Nat.reduceMul, Nat.zero_mul, Nat.zero_add, Nat.reduceAdd] at hx16_0)
         (try rw [show ((0 : Int)).toNat = 0 from rfl] at hf16_0)
         (try simp only [Nat.reduceMul, Nat.zero_mul, Nat.zero_add, Nat.reduceAdd] at hf16_0)
         replace p16 := eq_true p16
         replace q16 := eq_true q16
         have HP18 := Kd.R_putg HO_10.out (0 : Int) (wrap64 ((rd x10_1 0) + 1))
         go_wp2_with (first | ((with_reducible refine gate_store (t := 3) (p := 35) rfl ?_); refine store_event (t := 3) (p := 35) (v := ?vo_w19) (w1 := (w13.setCell ⟨go16, (0 : Int).toNat, none⟩ (.int .i64 (wrap64 ((rd x10_1 0) + 1))))) ?hg ?ho ?hn ?hr ?_; (case ho => rfl); (case hg => rfl); (case hn => rfl); (case hr => first | (go_simp; done) | (go_simp; rfl)); intro w19 hw; have hg : w13.grownBy w19 (some go16) := (by rw [hw]; exact HP18.2); have hp_ : Kd.R (Kd.int .i64) 3 w19 w.heap.size (fun k_ => some k_ ≠ (u9 : Value).ownBlock) (.slice (some ⟨go16, 0, none⟩) x10_1.length co17) y345 := (by rw [hw, Ny345.out]; exact HP18.1); clear HP18; have n0_ := zm (Kd.R_after (v := (.slice (some ⟨go16, 0, none⟩) x10_1.length co17)) (v1 := (.slice (some ⟨go16, 0, none⟩) x10_1.length co17)) (ok := (fun _ => True)) (by (with_reducible repeat (first | apply Kd.R_alloc | apply Kd.R_drewN | apply Kd.R_drew)); exact Kd.R_mono HO_9.out (fun _ hk => ⟨trivial, hk⟩)) hg (.inl rfl)); have n1_ := zm (hp_); have n2_ := zm (blk_grown (g := gb337) (o := .cells #[.int .i64 a0_0, .int .i64 a0_1] 47 (0, 0)) zk hg (Kd.R_ne HO_10.out BK337.out (by decide))); have n3_ := zm ((by rw [hw]; exact below_set (HB.out) GB16.out : Below w.heap.size w w19)); clear HO_9; clear HO_10; clear BK337; clear HB; have HO_9 := n0_; have HO_10 := n1_; have BK337 := n2_; have HB := n3_; clear n0_ n1_ n2_ n3_; clear hg hw hp_))
         go_meet
         case rel => exact ⟨_, (y345), H', ⟨by have := HK1.out; first | omega | exact Nat.le_refl _⟩, ⟨by (with_reducible repeat (first | apply Kd.R_alloc | apply Kd.R_drewN | apply Kd.R_drew)); exact zM HO_9.out⟩, ⟨by (with_reducible repeat (first | apply Kd.R_alloc | apply Kd.R_drewN | apply Kd.R_drew)); exact HO_10.out⟩, ⟨zk⟩, ⟨zb⟩⟩
        ·
         rw [if_neg c15] at H
         exact absurd H (by simp)
       ·
        rw [if_neg c14] at H
        have c14b0 : decide (t343 < 0) = false := decide_eq_false c14
        clear c14
        (first | rw [c14b0] | (simp only [i64_w, i32_w]; rw [c14b0]) | skip)
        have H' := zm H
        clear H
        go_wp2
        go_meet
        case rel => exact ⟨_, (x10_1), H', ⟨by have := HK1.out; first | omega | exact Nat.le_refl _⟩, ⟨by (with_reducible repeat (first | apply Kd.R_alloc | apply Kd.R_drewN | apply Kd.R_drew)); exact HO_9.out⟩, ⟨by (with_reducible repeat (first | apply Kd.R_alloc | apply Kd.R_drewN | apply Kd.R_drew)); exact HO_10.out⟩, ⟨zk⟩, ⟨zb⟩⟩
      case rest =>
       clear HC11
       (try clear c1); (try clear p1); (try clear q1); (try clear hx1); (try clear qi1); (try clear c2); (try clear p2); (try clear p3); (try clear q3); (try clear hx3); (try clear qi3); (try clear p6); (try clear c7); (try clear c7b0); (try clear c8); (try clear c8b0); (try clear c9); (try clear c9b0); (try clear c11); (try clear c14); (try clear c14b0); (try clear c15); (try clear c15b0); (try clear c15b1); (try clear p16); (try clear q16); (try clear hx16); (try clear qi16); (try clear hf16); (try clear hcz12_0); (try clear hcz12_1); (try clear hfz12_0); (try clear hfz12_1); (try clear hx16_0); (try clear hx341_0); (try clear hx344_0); (try clear p16); (try clear p2); (try clear p341); (try clear p344); (try clear q16); (try clear q341); (try clear q344)
       obtain ⟨kq, x10_10, HA, HJ10, HO_9, HO_10, BK337, HB⟩ := hcut
       cases kq with
       | zero => exact absurd HA.out (by simp [spec_tkRun.j1])
       | succ kj10 =>
        have H := HA.out
        clear HA
        simp only [spec_tkRun.j1] at H
        by_cases c20 : t343 > 0
        ·
         rw [if_pos c20] at H
         have c20b0 : decide (0 < t343) = true := decide_eq_true c20
         clear c20
         by_cases c21 : 1 < (x10_10.length : Int)
         ·
          rw [if_pos c21] at H
          have c21b0 : decide (1 < (x10_10.length : Int)) = true := decide_eq_true c21
          have c21b1 : decide (1 < x10_10.length) = true := decide_eq_true (by omega)
          clear c21
          obtain ⟨y347, hy347⟩ : ∃ y_ : List Int, y_ = (x10_10.set (1 : Int).toNat (wrap64 ((rd x10_10 1) + 1))) := ⟨_, rfl⟩
          replace H : ((spec_tkOffset.f t342).bind fun t348 => (if t348 = true then (if x9_1.length < 17592186044416 then (spec_tkRun.l0 kj10 t342 (x9_1 ++ [t342]) y347 l2 (l2.length : Int) (wrap64 (x18_1 + 1)) a0_0 a0_1) else (none)) else (some (([] : List Int), ([] : List Int), false)))) = some (r1, r2, r3) := by first | (rw [hy347]; with_reducible exact H) | (have H2_ := (Option.bind_some _ _).symm.trans H; rw [hy347]; with_reducible exact H2_) | (have H2_ := (Option.bind_some _ _).symm.trans H; with_reducible exact H2_) | with_reducible exact H | (rw [hy347]; exact H) | exact H
          have Ny347 := zm hy347
          clear hy347
          replace H := Option.bind_eq_some_iff.mp H
          obtain ⟨t348, A230, H⟩ := H
          (try dsimp only at H)
          have A23 := zm A230
          clear A230
          by_cases c24 : t348 = true
          ·
           subst c24
           have H1 : (if x9_1.length < 17592186044416 then (spec_tkRun.l0 kj10 t342 (x9_1 ++ [t342]) y347 l2 (l2.length : Int) (wrap64 (x18_1 + 1)) a0_0 a0_1) else (none)) = some (r1, r2, r3) := by rw [if_pos rfl] at H; exact H
           clear H
           have H := H1
           clear H1
           by_cases c25 : x9_1.length < 17592186044416
           ·
            rw [if_pos c25] at H
            have LMc25 := zm c25
            clear c25
            obtain ⟨y349, hy349⟩ : ∃ y_ : List Int, y_ = (x9_1 ++ [t342]) := ⟨_, rfl⟩
            replace H : (spec_tkRun.l0 kj10 t342 y349 y347 l2 (l2.length : Int) (wrap64 (x18_1 + 1)) a0_0 a0_1) = some (r1, r2, r3) := by first | (rw [hy349]; with_reducible exact H) | (have H2_ := (Option.bind_some _ _).symm.trans H; rw [hy349]; with_reducible exact H2_) | (have H2_ := (Option.bind_some _ _).symm.trans H; with_reducible exact H2_) | with_reducible exact H | (rw [hy349]; exact H) | exact H
            have Ny349 := zm hy349
            clear hy349
            have H' := zm H
            clear H
            obtain ⟨Ao26, co26, eo26⟩ := Kd.R_slice HO_10.out
            subst eo26
            have p346 : 0 ≤ (1 : Int) := (by omega)
            have q346 : 1 < (x10_10.length : Int) := zd
            obtain ⟨ad346, e346, hx346_0⟩ := Kd.at_int (Kd.R_reads' HO_10.out).2.2 1 p346 q346
            cases e346
            (try simp only [show (1 : Int).toNat = 1 from rfl, Nat.reduceMul, Nat.reduceEqDiff, Go.Addr.add, ↓reduceIte] at hx346_0)
            have qi346 : (1 < x10_10.length) = True := eq_true (by omega)
            (try rw [show ((1 : Int)).toNat = 1 from rfl] at hx346_0)
            replace p346 := eq_true p346
            replace q346 := eq_true q346
            have p22 : 0 ≤ (1 : Int) := (by omega)
            have q22 : (1 : Int) < ((x10_10.length : Int) : Int) := zd
            have qi22 : (1 < x10_10.length) = True := eq_true (by omega)
            obtain ⟨go22, co22, eo22, gb22, gl22, cl22, HG22⟩ := Kd.R_form HO_10.out (by omega)
            (first | cases eo22 | (injection eo22 with ea_ en_ ec_; (first | subst ea_ | (injection ea_ with ea_; subst ea_)); subst ec_; clear en_))
            have GB22 := zm gb22
            have GG22 := zm HG22
            clear gb22 gl22 HG22
            (first | simp only [add_plain] at hx346_0 | skip)
            obtain ⟨hx22_0, hf22_0⟩ := Kd.R_celln 0 HO_10.out (1 : Int) p22 q22
            (try rw [show ((1 : Int)).toNat = 1 from rfl] at hx22_0)
            (try simp only [Nat.reduceMul, Nat.zero_mul, Nat.zero_add, Nat.reduceAdd] at hx22_0)
            (try rw [show ((1 : Int)).toNat = 1 from rfl] at hf22_0)
            (try simp only [Nat.reduceMul, Nat.zero_mul, Nat.zero_add, Nat.reduceAdd] at hf22_0)
            replace p22 := eq_true p22
            replace q22 := eq_true q22
            have HP27 := Kd.R_putg HO_10.out (1 : Int) (wrap64 ((rd x10_10 1) + 1))
            go_wp2_with (first | ((with_reducible refine gate_store (t := 3) (p := 42) rfl ?_); refine store_event (t := 3) (p := 42) (v := ?vo_w28) (w1 := (wc.setCell ⟨go22, (1 : Int).toNat, none⟩ (.int .i64 (wrap64 ((rd x10_10 1) + 1))))) ?hg ?ho ?hn ?hr ?_; (case ho => rfl); (case hg => rfl); (case hn => rfl); (case hr => first | (go_simp; done) | (go_simp; rfl)); intro w28 hw; have hg : wc.grownBy w28 (some go22) := (by rw [hw]; exact HP27.2); have hp_ : Kd.R (Kd.int .i64) 3 w28 w.heap.size (fun k_ => some k_ ≠ (u9 : Value).ownBlock) (.slice (some ⟨go22, 0, none⟩) x10_10.length co26) y347 := (by rw [hw, Ny347.out]; exact HP27.1); clear HP27; have n0_ := zm (Kd.R_after (v := (.slice (some ⟨go22, 0, none⟩) x10_10.length co26)) (v1 := (.slice (some ⟨go22, 0, none⟩) x10_10.length co26)) (ok := (fun _ => True)) (by (with_reducible repeat (first | apply Kd.R_alloc | apply Kd.R_drewN | apply Kd.R_drew)); exact Kd.R_mono HO_9.out (fun _ hk => ⟨trivial, hk⟩)) hg (.inl rfl)); have n1_ := zm (hp_); have n2_ := zm (blk_grown (g := gb337) (o := .cells #[.int .i64 a0_0, .int .i64 a0_1] 47 (0, 0)) zk hg (Kd.R_ne HO_10.out BK337.out (by decide))); have n3_ := zm ((by rw [hw]; exact below_set (HB.out) GB22.out : Below w.heap.size w w28)); clear HO_9; clear HO_10; clear BK337; clear HB; have HO_9 := n0_; have HO_10 := n1_; have BK337 := n2_; have HB := n3_; clear n0_ n1_ n2_ n3_; clear hg hw hp_) | ((with_reducible refine gate_callee (f := 124) rfl ?_); refine goesA_ (some 44) Try.func124 #[.int .i64 t342] rfl ?_; (with_reducible refine (spec_tkOffset.calls t342 true _ A23.out).mono ?_); rintro e w' ⟨rfl, ⟨nd, rfl⟩⟩; refine ⟨_, rfl, ?_⟩) | ((with_reducible refine gate_builtin (b := .append) (xs := #[.tmp 46, .tmp 48]) rfl ?_); at_builtin; refine Kd.R_append (Kd.int .i64) (w0 := w) w.heap.size rfl (.tmp 46) (.tmp 48) 23 3 (.int .i64 0) 8 rfl Try.underlying23 info3 rfl (by decide) (by omega) u9 x9_1 t342 [.int .i64 t342] (fun k_ => some k_ ≠ (.slice (some ⟨go22, 0, none⟩) x10_10.length co26 : Value).ownBlock) (fun _ => False) rfl rfl ?aP (fun _ hk => hk.elim) ?aF ?aO ?aB ?aS ?aL ?_; (case aP => exact rfl); (case aB => exact zb); (case aF => exact (fun k_ hk => Kd.fresh' (Kd.R_lt (by (with_reducible repeat (first | apply Kd.R_alloc | apply Kd.R_drewN | apply Kd.R_drew)); exact HO_10.out)) k_ hk)); (case aO => exact (by (with_reducible repeat (first | apply Kd.R_alloc | apply Kd.R_drewN | apply Kd.R_drew)); exact zM HO_9.out)); (case aS => exact (below_size zb)); (case aL => have := LMc25.out; omega); intro v350 w29 ho hb hg hat; rw [← Ny349.out] at ho; have n0_ := zm (Kd.R_after (ok := (fun _ => True)) (by (with_reducible repeat (first | apply Kd.R_alloc | apply Kd.R_drewN | apply Kd.R_drew)); exact Kd.R_mono HO_10.out (fun _ hk => ⟨trivial, hk⟩)) hg hat); have n1_ := zm (blk_grown (g := gb337) (o := .cells #[.int .i64 a0_0, .int .i64 a0_1] 47 (0, 0)) zk hg (Kd.R_ne HO_9.out BK337.out (by decide))); have n2_ := zm (hb); have n3_ := zm (ho); clear HO_10; clear BK337; clear HB; clear HO_9; have HO_10 := n0_; have BK337 := n1_; have HB := n2_; have HO351 := n3_; clear n0_ n1_ n2_ n3_; clear ho hb hg hat))
            go_roundg kj10
            case measure => have := HK1.out; have := HJ10.out; omega
            case rel => exact ⟨(t342), (y349), (y347), (wrap64 (x18_1 + 1)), (by first | rfl | (simp; done) | (simp [*]; done)), (by first | rfl | (simp; done) | (simp [*]; done)), H', ⟨by have := HK1.out; have := HJ10.out; omega⟩, ⟨by (with_reducible repeat (first | apply Kd.R_alloc | apply Kd.R_drewN | apply Kd.R_drew)); exact HO351.out⟩, ⟨by (with_reducible repeat (first | apply Kd.R_alloc | apply Kd.R_drewN | apply Kd.R_drew)); exact zM HO_10.out⟩, ⟨zk⟩, ⟨zb⟩⟩
           ·
            rw [if_neg c25] at H
            exact absurd H (by simp)
          ·
           replace c24 := Bool.eq_false_iff.mpr c24
           subst c24
           have H1 : (some (([] : List Int), ([] : List Int), false)) = some (r1, r2, r3) := by rw [if_neg (show ¬ (false = true) by decide)] at H; exact H
           clear H
           have H := H1
           clear H1
           simp only [Option.some.injEq, Prod.mk.injEq] at H
           obtain ⟨rfl, rfl, rfl⟩ := H
           obtain ⟨Ao30, co30, eo30⟩ := Kd.R_slice HO_10.out
           subst eo30
           have p346 : 0 ≤ (1 : Int) := (by omega)
           have q346 : 1 < (x10_10.length : Int) := zd
           obtain ⟨ad346, e346, hx346_0⟩ := Kd.at_int (Kd.R_reads' HO_10.out).2.2 1 p346 q346
           cases e346
           (try simp only [show (1 : Int).toNat = 1 from rfl, Nat.reduceMul, Nat.reduceEqDiff, Go.Addr.add, ↓reduceIte] at hx346_0)
           have qi346 : (1 < x10_10.length) = True := eq_true (by omega)
           (try rw [show ((1 : Int)).toNat = 1 from rfl] at hx346_0)
           replace p346 := eq_true p346
           replace q346 := eq_true q346
           have p22 : 0 ≤ (1 : Int) := (by omega)
           have q22 : (1 : Int) < ((x10_10.length : Int) : Int) := zd
           have qi22 : (1 < x10_10.length) = True := eq_true (by omega)
           obtain ⟨go22, co22, eo22, gb22, gl22, cl22, HG22⟩ := Kd.R_form HO_10.out (by omega)
           (first | cases eo22 | (injection eo22 with ea_ en_ ec_; (first | subst ea_ | (injection ea_ with ea_; subst ea_)); subst ec_; clear en_))
           have GB22 := zm gb22
           have GG22 := zm HG22
           clear gb22 gl22 HG22
           (first | simp only [add_plain] at hx346_0 | skip)
           obtain ⟨hx22_0, hf22_0⟩ := Kd.R_celln 0 HO_10.out (1 : Int) p22 q22
           (try rw [show ((1 : Int)).toNat = 1 from rfl] at hx22_0)
           (try simp only [Nat.reduceMul, Nat.zero_mul, Nat.zero_add, Nat.reduceAdd] at hx22_0)
           (try rw [show ((1 : Int)).toNat = 1 from rfl] at hf22_0)
           (try simp only [Nat.reduceMul, Nat.zero_mul, Nat.zero_add, Nat.reduceAdd] at hf22_0)
           replace p22 := eq_true p22
           replace q22 := eq_true q22
           have HP31 := Kd.R_putg HO_10.out (1 : Int) (wrap64 ((rd x10_10 1) + 1))
           go_wp2_with (first | ((with_reducible refine gate_store (t := 3) (p := 42) rfl ?_); refine store_event (t := 3) (p := 42) (v := ?vo_w32) (w1 := (wc.setCell ⟨go22, (1 : Int).toNat, none⟩ (.int .i64 (wrap64 ((rd x10_10 1) + 1))))) ?hg ?ho ?hn ?hr ?_; (case ho => rfl); (case hg => rfl); (case hn => rfl); (case hr => first | (go_simp; done) | (go_simp; rfl)); intro w32 hw; have hg : wc.grownBy w32 (some go22) := (by rw [hw]; exact HP31.2); have hp_ : Kd.R (Kd.int .i64) 3 w32 w.heap.size (fun k_ => some k_ ≠ (u9 : Value).ownBlock) (.slice (some ⟨go22, 0, none⟩) x10_10.length co30) y347 := (by rw [hw, Ny347.out]; exact HP31.1); clear HP31; have n0_ := zm (Kd.R_after (v := (.slice (some ⟨go22, 0, none⟩) x10_10.length co30)) (v1 := (.slice (some ⟨go22, 0, none⟩) x10_10.length co30)) (ok := (fun _ => True)) (by (with_reducible repeat (first | apply Kd.R_alloc | apply Kd.R_drewN | apply Kd.R_drew)); exact Kd.R_mono HO_9.out (fun _ hk => ⟨trivial, hk⟩)) hg (.inl rfl)); have n1_ := zm (hp_); have n2_ := zm (blk_grown (g := gb337) (o := .cells #[.int .i64 a0_0, .int .i64 a0_1] 47 (0, 0)) zk hg (Kd.R_ne HO_10.out BK337.out (by decide))); have n3_ := zm ((by rw [hw]; exact below_set (HB.out) GB22.out : Below w.heap.size w w32)); clear HO_9; clear HO_10; clear BK337; clear HB; have HO_9 := n0_; have HO_10 := n1_; have BK337 := n2_; have HB := n3_; clear n0_ n1_ n2_ n3_; clear hg hw hp_) | ((with_reducible refine gate_callee (f := 124) rfl ?_); refine goesA_ (some 44) Try.func124 #[.int .i64 t342] rfl ?_; (with_reducible refine (spec_tkOffset.calls t342 false _ A23.out).mono ?_); rintro e w' ⟨rfl, ⟨nd, rfl⟩⟩; refine ⟨_, rfl, ?_⟩))
           go_ret3
           exact ⟨_, _, zr, by first | exact Kd.R_nil _ _ _ _ _ | exact Kd.N_nil _ _ _ _ _ | exact Kd.V_nil _ _ _ _ _ | exact Kd.Q_nil _ _ _ _ _ | exact Kd.S_nil _ _ _ _ _, by first | exact Kd.R_nil _ _ _ _ _ | exact Kd.N_nil _ _ _ _ _ | exact Kd.V_nil _ _ _ _ _ | exact Kd.Q_nil _ _ _ _ _ | exact Kd.S_nil _ _ _ _ _, zb⟩
         ·
          rw [if_neg c21] at H
          exact absurd H (by simp)
        ·
         rw [if_neg c20] at H
         have c20b0 : decide (0 < t343) = false := decide_eq_false c20
         clear c20
         replace H := Option.bind_eq_some_iff.mp H
         obtain ⟨t352, A330, H⟩ := H
         (try dsimp only at H)
         have A33 := zm A330
         clear A330
         by_cases c34 : t352 = true
         ·
          subst c34
          have H1 : (if x9_1.length < 17592186044416 then (spec_tkRun.l0 kj10 t342 (x9_1 ++ [t342]) x10_10 l2 (l2.length : Int) (wrap64 (x18_1 + 1)) a0_0 a0_1) else (none)) = some (r1, r2, r3) := by rw [if_pos rfl] at H; exact H
          clear H
          have H := H1
          clear H1
          by_cases c35 : x9_1.length < 17592186044416
          ·
           rw [if_pos c35] at H
           have LMc35 := zm c35
           clear c35
           obtain ⟨y353, hy353⟩ : ∃ y_ : List Int, y_ = (x9_1 ++ [t342]) := ⟨_, rfl⟩
           replace H : (spec_tkRun.l0 kj10 t342 y353 x10_10 l2 (l2.length : Int) (wrap64 (x18_1 + 1)) a0_0 a0_1) = some (r1, r2, r3) := by first | (rw [hy353]; with_reducible exact H) | (have H2_ := (Option.bind_some _ _).symm.trans H; rw [hy353]; with_reducible exact H2_) | (have H2_ := (Option.bind_some _ _).symm.trans H; with_reducible exact H2_) | with_reducible exact H | (rw [hy353]; exact H) | exact H
           have Ny353 := zm hy353
           clear hy353
           have H' := zm H
           clear H
           go_wp2_with (first | ((with_reducible refine gate_callee (f := 124) rfl ?_); refine goesA_ (some 44) Try.func124 #[.int .i64 t342] rfl ?_; (with_reducible refine (spec_tkOffset.calls t342 true _ A33.out).mono ?_); rintro e w' ⟨rfl, ⟨nd, rfl⟩⟩; refine ⟨_, rfl, ?_⟩) | ((with_reducible refine gate_builtin (b := .append) (xs := #[.tmp 46, .tmp 48]) rfl ?_); at_builtin; refine Kd.R_append (Kd.int .i64) (w0 := w) w.heap.size rfl (.tmp 46) (.tmp 48) 23 3 (.int .i64 0) 8 rfl Try.underlying23 info3 rfl (by decide) (by omega) u9 x9_1 t342 [.int .i64 t342] (fun k_ => some k_ ≠ (v339 : Value).ownBlock) (fun _ => False) rfl rfl ?aP (fun _ hk => hk.elim) ?aF ?aO ?aB ?aS ?aL ?_; (case aP => exact rfl); (case aB => exact zb); (case aF => exact (fun k_ hk => Kd.fresh' (Kd.R_lt (by (with_reducible repeat (first | apply Kd.R_alloc | apply Kd.R_drewN | apply Kd.R_drew)); exact HO_10.out)) k_ hk)); (case aO => exact (by (with_reducible repeat (first | apply Kd.R_alloc | apply Kd.R_drewN | apply Kd.R_drew)); exact HO_9.out)); (case aS => exact (below_size zb)); (case aL => have := LMc35.out; omega); intro v354 w36 ho hb hg hat; rw [← Ny353.out] at ho; have n0_ := zm (Kd.R_after (ok := (fun _ => True)) (by (with_reducible repeat (first | apply Kd.R_alloc | apply Kd.R_drewN | apply Kd.R_drew)); exact Kd.R_mono HO_10.out (fun _ hk => ⟨trivial, hk⟩)) hg hat); have n1_ := zm (blk_grown (g := gb337) (o := .cells #[.int .i64 a0_0, .int .i64 a0_1] 47 (0, 0)) zk hg (Kd.R_ne HO_9.out BK337.out (by decide))); have n2_ := zm (hb); have n3_ := zm (ho); clear HO_10; clear BK337; clear HB; clear HO_9; have HO_10 := n0_; have BK337 := n1_; have HB := n2_; have HO355 := n3_; clear n0_ n1_ n2_ n3_; clear ho hb hg hat))
           go_roundg kj10
           case measure => have := HK1.out; have := HJ10.out; omega
           case rel => exact ⟨(t342), (y353), (x10_10), (wrap64 (x18_1 + 1)), (by first | rfl | (simp; done) | (simp [*]; done)), (by first | rfl | (simp; done) | (simp [*]; done)), H', ⟨by have := HK1.out; have := HJ10.out; omega⟩, ⟨by (with_reducible repeat (first | apply Kd.R_alloc | apply Kd.R_drewN | apply Kd.R_drew)); exact HO355.out⟩, ⟨by (with_reducible repeat (first | apply Kd.R_alloc | apply Kd.R_drewN | apply Kd.R_drew)); exact zM HO_10.out⟩, ⟨zk⟩, ⟨zb⟩⟩
          ·
           rw [if_neg c35] at H
           exact absurd H (by simp)
         ·
          replace c34 := Bool.eq_false_iff.mpr c34
          subst c34
          have H1 : (some (([] : List Int), ([] : List Int), false)) = some (r1, r2, r3) := by rw [if_neg (show ¬ (false = true) by decide)] at H; exact H
          clear H
          have H := H1
          clear H1
          simp only [Option.some.injEq, Prod.mk.injEq] at H
          obtain ⟨rfl, rfl, rfl⟩ := H
          go_wp2_with (first | ((with_reducible refine gate_callee (f := 124) rfl ?_); refine goesA_ (some 44) Try.func124 #[.int .i64 t342] rfl ?_; (with_reducible refine (spec_tkOffset.calls t342 false _ A33.out).mono ?_); rintro e w' ⟨rfl, ⟨nd, rfl⟩⟩; refine ⟨_, rfl, ?_⟩))
          go_ret3
          exact ⟨_, _, zr, by first | exact Kd.R_nil _ _ _ _ _ | exact Kd.N_nil _ _ _ _ _ | exact Kd.V_nil _ _ _ _ _ | exact Kd.Q_nil _ _ _ _ _ | exact Kd.S_nil _ _ _ _ _, by first | exact Kd.R_nil _ _ _ _ _ | exact Kd.N_nil _ _ _ _ _ | exact Kd.V_nil _ _ _ _ _ | exact Kd.Q_nil _ _ _ _ _ | exact Kd.S_nil _ _ _ _ _, zb⟩
     ·
      rw [if_neg c9] at H
      exact absurd H (by simp)
    ·
     rw [if_neg c8] at H
     exact absurd H (by simp)
   ·
    rw [if_neg c7] at H
    have c7b0 : decide (x18_1 < (l2.length : Int)) = false := decide_eq_false c7
    clear c7
    simp only [Option.some.injEq, Prod.mk.injEq] at H
    obtain ⟨rfl, rfl, rfl⟩ := H
    go_wp2
    go_ret3
    exact ⟨_, _, zr, by (with_reducible repeat (first | apply Kd.R_alloc | apply Kd.R_drewN | apply Kd.R_drew)); exact HO_9.out, by (with_reducible repeat (first | apply Kd.R_alloc | apply Kd.R_drewN | apply Kd.R_drew)); exact HO_10.out, zb⟩

/-! ### spec_TrackRun: function 38 -/
def spec_TrackRun.f (k : Nat) (a0_0 : Int) (a0_1 : Int) (a1 : Int) (l2 : List Int) : Option (List Int × Bool) := (spec_tkAsked.f k a0_0 a0_1 a1 l2).bind fun t357 => (if t357 = true then ((spec_tkRun.f k a0_0 a0_1 a1 l2).bind fun bt358 => (some (bt358.1, bt358.2.2))) else (some (([] : List Int), false)))
theorem spec_TrackRun.mono : ∀ a0 a1 a2 a3 k, LeO (spec_TrackRun.f k a0 a1 a2 a3) (spec_TrackRun.f (k + 1) a0 a1 a2 a3) := by
  intro a0 a1 a2 a3 k
  unfold spec_TrackRun.f
  repeat' first
      | (with_reducible exact spec_tkAsked.mono _ _ _ _ _)
      | (with_reducible exact spec_tkRun.mono _ _ _ _ _)
      | (with_reducible exact LeO.refl _)
      | (with_reducible exact LeO.none _)
      | (with_reducible refine LeO.ite ?_ ?_)
      | (with_reducible refine LeO.bind ?_ (fun _ => ?_))
      | exact spec_tkAsked.mono _ _ _ _ _
      | exact spec_tkRun.mono _ _ _ _ _
      | exact LeO.none _
      | refine LeO.ite ?_ ?_
      | refine LeO.bind ?_ (fun _ => ?_)
set_option maxHeartbeats 8000000 in
set_option maxRecDepth 100000 in
theorem spec_TrackRun.calls (k : Nat) (a0_0 : Int) (a0_1 : Int) (a1 : Int) (A2 : Option Addr) (c2 : Nat) (l2 : List Int) (r1 : List Int) (r2 : Bool) (w : World) (hr2 : Kd.C (Kd.int .i64) w A2 l2.length l2) (hc2 : l2.length ≤ c2) (h : spec_TrackRun.f k a0_0 a0_1 a1 l2 = some (r1, r2)) :
  Calls Try.prog 38 #[.agg #[.int .i64 a0_0, .int .i64 a0_1], .int .i64 a1, .slice A2 l2.length c2] w fun e w' => ∃ v0_ : Value, e = .returned (.tuple #[v0_, .bool r2]) ∧ Kd.R (Kd.int .i64) 3 w' w.heap.size (fun _ => True) v0_ r1 ∧ Below w.heap.size w w' := by
 have hu47 := Try.underlying47
 have HR2 := zm hr2
 have HC2 := zm hc2
 clear hr2 hc2
 have HB := zm (Below.refl w.heap.size w)
 have H : ((spec_tkAsked.f k a0_0 a0_1 a1 l2).bind fun t357 => (if t357 = true then ((spec_tkRun.f k a0_0 a0_1 a1 l2).bind fun bt358 => (some (bt358.1, bt358.2.2))) else (some (([] : List Int), false)))) = some (r1, r2) := h
 clear h
 replace H := Option.bind_eq_some_iff.mp H
 obtain ⟨t357, A40, H⟩ := H
 (try dsimp only at H)
 have A4 := zm A40
 clear A40
 by_cases c5 : t357 = true
 ·
  subst c5
  have H1 : ((spec_tkRun.f k a0_0 a0_1 a1 l2).bind fun bt358 => (some (bt358.1, bt358.2.2))) = some (r1, r2) := by rw [if_pos rfl] at H; exact H
  clear H
  have H := H1
  clear H1
  replace H := Option.bind_eq_some_iff.mp H
  obtain ⟨⟨t358, t361, t364⟩, A60, H⟩ := H
  (try dsimp only at H)
  have A6 := zm A60
  clear A60
  simp only [Option.some.injEq, Prod.mk.injEq] at H
  obtain ⟨rfl, rfl⟩ := H
  go_enter Try.func38, Try.ntmps38
  go_wp2_with (first | ((with_reducible refine gate_dst (N := 3) rfl ?_); refine box_event ?hg (N := 3) ?hd (cs := #[.int .i64 a0_0, .int .i64 a0_1]) (t := 47) ?hr ?_; (case hd => rfl); (case hg => rfl); (case hr => first | (go_simp; done) | (go_simp; rfl)); intro gb356 hg w7 hbox hb; have n0_ := zm (below_step zb hb); have n1_ := zm (hbox); have n2_ := zm (zs hg zb : w.heap.size ≤ gb356); have n3_ := zm (zs hg zb : w.heap.size ≤ gb356); clear HB; have HB := n0_; have BK356 := n1_; have GW356 := n2_; have GE356 := n3_; clear n0_ n1_ n2_ n3_; clear hb hbox hg; obtain ⟨hcz8_0, hcz8_1, hfz8_0, hfz8_1⟩ := zc2 BK356.out) | ((with_reducible refine gate_callee (f := 117) rfl ?_); refine goesA_ (some 14) Try.func117 #[.agg #[.int .i64 a0_0, .int .i64 a0_1], .int .i64 a1, .slice A2 l2.length c2] rfl ?_; (with_reducible refine (spec_tkAsked.calls k a0_0 a0_1 a1 _ _ l2 true _ ?side1 ?side2 A4.out).mono ?_); (case side1 => repeat (first | exact (Kd.C_below HR2.out HB.out) | (with_reducible refine Kd.C_alloc ?_ _) | (with_reducible refine Kd.C_drewN ?_ _) | (with_reducible refine Kd.C_drew ?_))); (case side2 => exact HC2.out); rintro e w9 ⟨rfl, hb⟩; refine ⟨_, rfl, ?_⟩; have n0_ := zm (blk_below (g := gb356) zk hb); have n1_ := zm (below_step zb hb); clear BK356; clear HB; have BK356 := n0_; have HB := n1_; clear n0_ n1_; (try clear hb); (try clear hb2); (try clear hk); (try clear hi); obtain ⟨hcz10_0, hcz10_1, hfz10_0, hfz10_1⟩ := zc2 BK356.out) | ((with_reducible refine gate_callee (f := 118) rfl ?_); refine goesA_ (some 20) Try.func118 #[.agg #[.int .i64 a0_0, .int .i64 a0_1], .int .i64 a1, .slice A2 l2.length c2] rfl ?_; (with_reducible refine (spec_tkRun.calls k a0_0 a0_1 a1 _ _ l2 t358 t361 t364 _ ?side1 ?side2 A6.out).mono ?_); (case side1 => repeat (first | exact (Kd.C_below HR2.out HB.out) | (with_reducible refine Kd.C_alloc ?_ _) | (with_reducible refine Kd.C_drewN ?_ _) | (with_reducible refine Kd.C_drew ?_))); (case side2 => exact HC2.out); rintro e w11 ⟨v359, v362, rfl, ho0, ho1, hb⟩; refine ⟨_, rfl, ?_⟩; have n0_ := zm (Kd.R_lower ho0 (below_size zb)); have n1_ := zm (Kd.R_lower ho1 (below_size zb)); have n2_ := zm (blk_below (g := gb356) zk hb); have n3_ := zm (below_step zb hb); clear BK356; clear HB; have HO360 := n0_; have HO363 := n1_; have BK356 := n2_; have HB := n3_; clear n0_ n1_ n2_ n3_; (try clear hb); (try clear hb2); (try clear hk); (try clear hi); (try clear ho0); (try clear ho1)))
  go_ret2
  exact ⟨_, zr, by (with_reducible repeat (first | apply Kd.R_alloc | apply Kd.R_drewN | apply Kd.R_drew)); exact Kd.R_mono HO360.out (fun _ hk => trivial), zb⟩
 ·
  replace c5 := Bool.eq_false_iff.mpr c5
  subst c5
  have H1 : (some (([] : List Int), false)) = some (r1, r2) := by rw [if_neg (show ¬ (false = true) by decide)] at H; exact H
  clear H
  have H := H1
  clear H1
  simp only [Option.some.injEq, Prod.mk.injEq] at H
  obtain ⟨rfl, rfl⟩ := H
  go_enter Try.func38, Try.ntmps38
  go_wp2_with (first | ((with_reducible refine gate_dst (N := 3) rfl ?_); refine box_event ?hg (N := 3) ?hd (cs := #[.int .i64 a0_0, .int .i64 a0_1]) (t := 47) ?hr ?_; (case hd => rfl); (case hg => rfl); (case hr => first | (go_simp; done) | (go_simp; rfl)); intro gb356 hg w12 hbox hb; have n0_ := zm (below_step zb hb); have n1_ := zm (hbox); have n2_ := zm (zs hg zb : w.heap.size ≤ gb356); have n3_ := zm (zs hg zb : w.heap.size ≤ gb356); clear HB; have HB := n0_; have BK356 := n1_; have GW356 := n2_; have GE356 := n3_; clear n0_ n1_ n2_ n3_; clear hb hbox hg; obtain ⟨hcz13_0, hcz13_1, hfz13_0, hfz13_1⟩ := zc2 BK356.out) | ((with_reducible refine gate_callee (f := 117) rfl ?_); refine goesA_ (some 14) Try.func117 #[.agg #[.int .i64 a0_0, .int .i64 a0_1], .int .i64 a1, .slice A2 l2.length c2] rfl ?_; (with_reducible refine (spec_tkAsked.calls k a0_0 a0_1 a1 _ _ l2 false _ ?side1 ?side2 A4.out).mono ?_); (case side1 => repeat (first | exact (Kd.C_below HR2.out HB.out) | (with_reducible refine Kd.C_alloc ?_ _) | (with_reducible refine Kd.C_drewN ?_ _) | (with_reducible refine Kd.C_drew ?_))); (case side2 => exact HC2.out); rintro e w14 ⟨rfl, hb⟩; refine ⟨_, rfl, ?_⟩; have n0_ := zm (blk_below (g := gb356) zk hb); have n1_ := zm (below_step zb hb); clear BK356; clear HB; have BK356 := n0_; have HB := n1_; clear n0_ n1_; (try clear hb); (try clear hb2); (try clear hk); (try clear hi)))
  go_ret2
  exact ⟨_, zr, by first | exact Kd.R_nil _ _ _ _ _ | exact Kd.N_nil _ _ _ _ _ | exact Kd.V_nil _ _ _ _ _ | exact Kd.Q_nil _ _ _ _ _ | exact Kd.S_nil _ _ _ _ _, zb⟩

/-! ### impl_WorstOffset: function 39 -/
def impl_WorstOffset.l0 : Nat → Int → List Int → Int → Int → Option (Int × Bool)
  | 0, _, _, _, _ => none
  | k + 1, x10, x24, x25, x26 => if x26 < x25 then (if 0 ≤ x26 then (if x26 < (x24.length : Int) then ((impl_distance.f (rd x24 x26) 0).bind fun t372 => (impl_WorstOffset.l0 k (mx x10 t372) x24 x25 (wrap64 (x26 + 1)))) else (none)) else (none)) else (some (x10, true))
def impl_WorstOffset.f (k : Nat) (a0_0 : Int) (a0_1 : Int) (a1 : Int) (l2 : List Int) : Option (Int × Bool) := (impl_TrackRun.f k a0_0 a0_1 a1 l2).bind fun bt366 => (if bt366.2 = true then ((impl_distance.f a1 0).bind fun t370 => (impl_WorstOffset.l0 k t370 bt366.1 (bt366.1.length : Int) 0)) else (some (0, false)))
theorem impl_WorstOffset.mono_l : ∀ k, (∀ y0 y1 y2 y3, LeO (impl_WorstOffset.l0 k y0 y1 y2 y3) (impl_WorstOffset.l0 (k + 1) y0 y1 y2 y3))
  | 0 => fun _ _ _ _ r h => by simp [impl_WorstOffset.l0] at h
  | k + 1 => by
    have ih0 := impl_WorstOffset.mono_l k
    · intro y0 y1 y2 y3
      unfold impl_WorstOffset.l0
      repeat' first
      | (with_reducible exact ih0 _ _ _ _)
      | (with_reducible exact impl_TrackRun.mono _ _ _ _ _)
      | (with_reducible exact LeO.refl _)
      | (with_reducible exact LeO.none _)
      | (with_reducible refine LeO.ite ?_ ?_)
      | (with_reducible refine LeO.bind ?_ (fun _ => ?_))
      | exact ih0 _ _ _ _
      | exact impl_TrackRun.mono _ _ _ _ _
      | exact LeO.none _
      | refine LeO.ite ?_ ?_
      | refine LeO.bind ?_ (fun _ => ?_)
theorem impl_WorstOffset.mono : ∀ a0 a1 a2 a3 k, LeO (impl_WorstOffset.f k a0 a1 a2 a3) (impl_WorstOffset.f (k + 1) a0 a1 a2 a3) := by
  intro a0 a1 a2 a3 k
  have ih0 := impl_WorstOffset.mono_l k
  unfold impl_WorstOffset.f
  repeat' first
      | (with_reducible exact ih0 _ _ _ _)
      | (with_reducible exact impl_TrackRun.mono _ _ _ _ _)
      | (with_reducible exact LeO.refl _)
      | (with_reducible exact LeO.none _)
      | (with_reducible refine LeO.ite ?_ ?_)
      | (with_reducible refine LeO.bind ?_ (fun _ => ?_))
      | exact ih0 _ _ _ _
      | exact impl_TrackRun.mono _ _ _ _ _
      | exact LeO.none _
      | refine LeO.ite ?_ ?_
      | refine LeO.bind ?_ (fun _ => ?_)
set_option maxHeartbeats 8000000 in
set_option maxRecDepth 100000 in
theorem impl_WorstOffset.calls (k : Nat) (a0_0 : Int) (a0_1 : Int) (a1 : Int) (A2 : Option Addr) (c2 : Nat) (l2 : List Int) (r1 : Int) (r2 : Bool) (w : World) (hr2 : Kd.C (Kd.int .i64) w A2 l2.length l2) (hc2 : l2.length ≤ c2) (h : impl_WorstOffset.f k a0_0 a0_1 a1 l2 = some (r1, r2)) :
  Calls Try.prog 39 #[.agg #[.int .i64 a0_0, .int .i64 a0_1], .int .i64 a1, .slice A2 l2.length c2] w fun e w' => e = .returned (.tuple #[.int .i64 r1, .bool r2]) ∧ Below w.heap.size w w' := by
 have hu47 := Try.underlying47
 have HR2 := zm hr2
 have HC2 := zm hc2
 clear hr2 hc2
 have HB := zm (Below.refl w.heap.size w)
 have H : ((impl_TrackRun.f k a0_0 a0_1 a1 l2).bind fun bt366 => (if bt366.2 = true then ((impl_distance.f a1 0).bind fun t370 => (impl_WorstOffset.l0 k t370 bt366.1 (bt366.1.length : Int) 0)) else (some (0, false)))) = some (r1, r2) := h
 clear h
 replace H := Option.bind_eq_some_iff.mp H
 obtain ⟨⟨t366, t369⟩, A40, H⟩ := H
 (try dsimp only at H)
 have A4 := zm A40
 clear A40
 by_cases c5 : t369 = true
 ·
  subst c5
  have H1 : ((impl_distance.f a1 0).bind fun t370 => (impl_WorstOffset.l0 k t370 t366 (t366.length : Int) 0)) = some (r1, r2) := by rw [if_pos rfl] at H; exact H
  clear H
  have H := H1
  clear H1
  replace H := Option.bind_eq_some_iff.mp H
  obtain ⟨t370, A60, H⟩ := H
  (try dsimp only at H)
  have A6 := zm A60
  clear A60
  have H' := zm H
  clear H
  go_enter Try.func39, Try.ntmps39
  go_wp2_with (first | ((with_reducible refine gate_dst (N := 3) rfl ?_); refine box_event ?hg (N := 3) ?hd (cs := #[.int .i64 a0_0, .int .i64 a0_1]) (t := 47) ?hr ?_; (case hd => rfl); (case hg => rfl); (case hr => first | (go_simp; done) | (go_simp; rfl)); intro gb365 hg w7 hbox hb; have n0_ := zm (below_step zb hb); have n1_ := zm (hbox); have n2_ := zm (zs hg zb : w.heap.size ≤ gb365); have n3_ := zm (zs hg zb : w.heap.size ≤ gb365); clear HB; have HB := n0_; have BK365 := n1_; have GW365 := n2_; have GE365 := n3_; clear n0_ n1_ n2_ n3_; clear hb hbox hg; obtain ⟨hcz8_0, hcz8_1, hfz8_0, hfz8_1⟩ := zc2 BK365.out) | ((with_reducible refine gate_callee (f := 37) rfl ?_); refine goesA_ (some 17) Try.func37 #[.agg #[.int .i64 a0_0, .int .i64 a0_1], .int .i64 a1, .slice A2 l2.length c2] rfl ?_; (with_reducible refine (impl_TrackRun.calls k a0_0 a0_1 a1 _ _ l2 t366 true _ ?side1 ?side2 A4.out).mono ?_); (case side1 => repeat (first | exact (Kd.C_below HR2.out HB.out) | (with_reducible refine Kd.C_alloc ?_ _) | (with_reducible refine Kd.C_drewN ?_ _) | (with_reducible refine Kd.C_drew ?_))); (case side2 => exact HC2.out); rintro e w9 ⟨v367, rfl, ho0, hb⟩; refine ⟨_, rfl, ?_⟩; have n0_ := zm (Kd.R_lower ho0 (below_size zb)); have n1_ := zm (blk_below (g := gb365) zk hb); have n2_ := zm (below_step zb hb); clear BK365; clear HB; have HO368 := n0_; have BK365 := n1_; have HB := n2_; clear n0_ n1_ n2_; (try clear hb); (try clear hb2); (try clear hk); (try clear hi); (try clear ho0)) | ((with_reducible refine gate_callee (f := 99) rfl ?_); refine goesA_ (some 23) Try.func99 #[.int .i64 a1, .int .i64 0] rfl ?_; (with_reducible refine (impl_distance.calls a1 0 t370 _ A6.out).mono ?_); rintro e w10 ⟨rfl, hb⟩; refine ⟨_, rfl, ?_⟩; have n0_ := zm (Kd.R_below (by (with_reducible repeat (first | apply Kd.R_alloc | apply Kd.R_drewN | apply Kd.R_drew)); exact HO368.out) hb); have n1_ := zm (blk_below (g := gb365) zk hb); have n2_ := zm (below_step zb hb); clear HO368; clear BK365; clear HB; have HO368 := n0_; have BK365 := n1_; have HB := n2_; clear n0_ n1_ n2_; (try clear hb); (try clear hb2); (try clear hk); (try clear hi); obtain ⟨Ao11, co11, eo11⟩ := Kd.R_slice HO368.out; subst eo11))
  go_loopg [10, 26] k (fun kq v10 v26 w' => ∃ (x10_1 : Int) (x26_1 : Int), v10 = .int .i64 x10_1 ∧ v26 = .int .i64 x26_1 ∧ Aside0 (impl_WorstOffset.l0 kq x10_1 t366 (t366.length : Int) x26_1 = some (r1, r2)) ∧ Aside0 (kq ≤ k) ∧ Aside0 (Kd.R (Kd.int .i64) 3 w' w.heap.size (fun _ => True) (.slice Ao11 t366.length co11) t366) ∧ Aside0 (w'.heap[gb365]? = some (.cells #[.int .i64 a0_0, .int .i64 a0_1] 47 (0, 0))) ∧ Aside0 (Below w.heap.size w w'))
  case atStart => exact ⟨(t370), (0), (by first | rfl | (simp; done) | (simp [*]; done)), (by first | rfl | (simp; done) | (simp [*]; done)), H', ⟨Nat.le_refl _⟩, ⟨by (with_reducible repeat (first | apply Kd.R_alloc | apply Kd.R_drewN | apply Kd.R_drew)); exact HO368.out⟩, ⟨zk⟩, ⟨zb⟩⟩
  case round =>
   clear H'
   (try clear c2); (try clear p2); (try clear c3); (try clear c5); (try clear c9); (try clear hcz8_0); (try clear hcz8_1); (try clear hfz8_0); (try clear hfz8_1)
   obtain ⟨x10_1, x26_1, rfl, rfl, HA, HK1, HO_24, BK365, HB⟩ := hrel
   cases gk with
   | zero => exact absurd HA.out (by simp [impl_WorstOffset.l0])
   | succ k1 =>
    have H := HA.out
    clear HA
    simp only [impl_WorstOffset.l0] at H
    by_cases c12 : x26_1 < (t366.length : Int)
    ·
     rw [if_pos c12] at H
     have c12b0 : decide (x26_1 < (t366.length : Int)) = true := decide_eq_true c12
     clear c12
     by_cases c13 : 0 ≤ x26_1
     ·
      rw [if_pos c13] at H
      have c13b0 : decide (0 ≤ x26_1) = true := decide_eq_true c13
      clear c13
      by_cases c14 : x26_1 < (t366.length : Int)
      ·
       rw [if_pos c14] at H
       have c14b0 : decide (x26_1 < (t366.length : Int)) = true := decide_eq_true c14
       clear c14
       replace H := Option.bind_eq_some_iff.mp H
       obtain ⟨t372, A150, H⟩ := H
       (try dsimp only at H)
       have A15 := zm A150
       clear A150
       obtain ⟨ji16, hji16⟩ : ∃ j_ : Int, (mx x10_1 t372) = j_ := ⟨_, rfl⟩
       replace H : (impl_WorstOffset.l0 k1 ji16 t366 (t366.length : Int) (wrap64 (x26_1 + 1))) = some (r1, r2) := by first | (rw [hji16] at H; exact H) | (simp only [hji16] at H ⊢; exact H)
       (try rw [hji16] at A15)
       have hji16_ : (if x10_1 < t372 then t372 else x10_1) = ji16 := hji16
       have H' := zm H
       clear H
       have p371 : 0 ≤ (x26_1 : Int) := zd
       have q371 : x26_1 < (t366.length : Int) := zd
       obtain ⟨ad371, e371, hx371_0⟩ := Kd.at_int (Kd.R_reads' HO_24.out).2.2 x26_1 p371 q371
       cases e371
       replace p371 := eq_true p371
       replace q371 := eq_true q371
       go_wp2_with (first | ((with_reducible refine gate_callee (f := 99) rfl ?_); refine goesA_ (some 32) Try.func99 #[.int .i64 (rd t366 x26_1), .int .i64 0] rfl ?_; (with_reducible refine (impl_distance.calls (rd t366 x26_1) 0 t372 _ A15.out).mono ?_); rintro e w17 ⟨rfl, hb⟩; refine ⟨_, rfl, ?_⟩; have n0_ := zm (Kd.R_below (by (with_reducible repeat (first | apply Kd.R_alloc | apply Kd.R_drewN | apply Kd.R_drew)); exact HO_24.out) hb); have n1_ := zm (blk_below (g := gb365) zk hb); have n2_ := zm (below_step zb hb); clear HO_24; clear BK365; clear HB; have HO_24 := n0_; have BK365 := n1_; have HB := n2_; clear n0_ n1_ n2_; (try clear hb); (try clear hb2); (try clear hk); (try clear hi)))
       go_roundg k1
       case measure => have := HK1.out; omega
       case rel => exact ⟨(ji16), (wrap64 (x26_1 + 1)), (by first | rfl | (simp; done) | (simp only [← hji16] <;> (first | rfl | simp)) | (simp [*]; done)), (by first | rfl | (simp; done) | (simp [*]; done)), H', ⟨by have := HK1.out; omega⟩, ⟨by (with_reducible repeat (first | apply Kd.R_alloc | apply Kd.R_drewN | apply Kd.R_drew)); exact HO_24.out⟩, ⟨zk⟩, ⟨zb⟩⟩
      ·
       rw [if_neg c14] at H
       exact absurd H (by simp)
     ·
      rw [if_neg c13] at H
      exact absurd H (by simp)
    ·
     rw [if_neg c12] at H
     have c12b0 : decide (x26_1 < (t366.length : Int)) = false := decide_eq_false c12
     clear c12
     simp only [Option.some.injEq, Prod.mk.injEq] at H
     obtain ⟨rfl, rfl⟩ := H
     go_wp2
     go_ret2
     exact ⟨zr, zb⟩
 ·
  replace c5 := Bool.eq_false_iff.mpr c5
  subst c5
  have H1 : (some (0, false)) = some (r1, r2) := by rw [if_neg (show ¬ (false = true) by decide)] at H; exact H
  clear H
  have H := H1
  clear H1
  simp only [Option.some.injEq, Prod.mk.injEq] at H
  obtain ⟨rfl, rfl⟩ := H
  go_enter Try.func39, Try.ntmps39
  go_wp2_with (first | ((with_reducible refine gate_dst (N := 3) rfl ?_); refine box_event ?hg (N := 3) ?hd (cs := #[.int .i64 a0_0, .int .i64 a0_1]) (t := 47) ?hr ?_; (case hd => rfl); (case hg => rfl); (case hr => first | (go_simp; done) | (go_simp; rfl)); intro gb365 hg w18 hbox hb; have n0_ := zm (below_step zb hb); have n1_ := zm (hbox); have n2_ := zm (zs hg zb : w.heap.size ≤ gb365); have n3_ := zm (zs hg zb : w.heap.size ≤ gb365); clear HB; have HB := n0_; have BK365 := n1_; have GW365 := n2_; have GE365 := n3_; clear n0_ n1_ n2_ n3_; clear hb hbox hg; obtain ⟨hcz19_0, hcz19_1, hfz19_0, hfz19_1⟩ := zc2 BK365.out) | ((with_reducible refine gate_callee (f := 37) rfl ?_); refine goesA_ (some 17) Try.func37 #[.agg #[.int .i64 a0_0, .int .i64 a0_1], .int .i64 a1, .slice A2 l2.length c2] rfl ?_; (with_reducible refine (impl_TrackRun.calls k a0_0 a0_1 a1 _ _ l2 t366 false _ ?side1 ?side2 A4.out).mono ?_); (case side1 => repeat (first | exact (Kd.C_below HR2.out HB.out) | (with_reducible refine Kd.C_alloc ?_ _) | (with_reducible refine Kd.C_drewN ?_ _) | (with_reducible refine Kd.C_drew ?_))); (case side2 => exact HC2.out); rintro e w20 ⟨v367, rfl, ho0, hb⟩; refine ⟨_, rfl, ?_⟩; have n0_ := zm (Kd.R_lower ho0 (below_size zb)); have n1_ := zm (blk_below (g := gb365) zk hb); have n2_ := zm (below_step zb hb); clear BK365; clear HB; have HO368 := n0_; have BK365 := n1_; have HB := n2_; clear n0_ n1_ n2_; (try clear hb); (try clear hb2); (try clear hk); (try clear hi); (try clear ho0)))
  go_ret2
  exact ⟨zr, zb⟩

/-! ### spec_tkWorst: function 119 -/
def spec_tkWorst.l0 : Nat → Int → List Int → Int → Int → Option (Int × Bool)
  | 0, _, _, _, _ => none
  | k + 1, x11, x26, x27, x28 => if x28 < x27 then (if 0 ≤ x28 then (if x28 < (x26.length : Int) then ((spec_l1Abs.f (rd x26 x28)).bind fun t383 => ((spec_l1Most.f x11 t383).bind fun t384 => (spec_tkWorst.l0 k t384 x26 x27 (wrap64 (x28 + 1))))) else (none)) else (none)) else (some (x11, true))
def spec_tkWorst.f (k : Nat) (a0_0 : Int) (a0_1 : Int) (a1 : Int) (l2 : List Int) : Option (Int × Bool) := (spec_tkRun.f k a0_0 a0_1 a1 l2).bind fun bt374 => (if bt374.2.2 = true then ((spec_l1Abs.f a1).bind fun t381 => (spec_tkWorst.l0 k t381 bt374.1 (bt374.1.length : Int) 0)) else (some (0, false)))
theorem spec_tkWorst.mono_l : ∀ k, (∀ y0 y1 y2 y3, LeO (spec_tkWorst.l0 k y0 y1 y2 y3) (spec_tkWorst.l0 (k + 1) y0 y1 y2 y3))
  | 0 => fun _ _ _ _ r h => by simp [spec_tkWorst.l0] at h
  | k + 1 => by
    have ih0 := spec_tkWorst.mono_l k
    · intro y0 y1 y2 y3
      unfold spec_tkWorst.l0
      repeat' first
      | (with_reducible exact ih0 _ _ _ _)
      | (with_reducible exact spec_tkRun.mono _ _ _ _ _)
      | (with_reducible exact LeO.refl _)
      | (with_reducible exact LeO.none _)
      | (with_reducible refine LeO.ite ?_ ?_)
      | (with_reducible refine LeO.bind ?_ (fun _ => ?_))
      | exact ih0 _ _ _ _
      | exact spec_tkRun.mono _ _ _ _ _
      | exact LeO.none _
      | refine LeO.ite ?_ ?_
      | refine LeO.bind ?_ (fun _ => ?_)
theorem spec_tkWorst.mono : ∀ a0 a1 a2 a3 k, LeO (spec_tkWorst.f k a0 a1 a2 a3) (spec_tkWorst.f (k + 1) a0 a1 a2 a3) := by
  intro a0 a1 a2 a3 k
  have ih0 := spec_tkWorst.mono_l k
  unfold spec_tkWorst.f
  repeat' first
      | (with_reducible exact ih0 _ _ _ _)
      | (with_reducible exact spec_tkRun.mono _ _ _ _ _)
      | (with_reducible exact LeO.refl _)
      | (with_reducible exact LeO.none _)
      | (with_reducible refine LeO.ite ?_ ?_)
      | (with_reducible refine LeO.bind ?_ (fun _ => ?_))
      | exact ih0 _ _ _ _
      | exact spec_tkRun.mono _ _ _ _ _
      | exact LeO.none _
      | refine LeO.ite ?_ ?_
      | refine LeO.bind ?_ (fun _ => ?_)
set_option maxHeartbeats 8000000 in
set_option maxRecDepth 100000 in
theorem spec_tkWorst.calls (k : Nat) (a0_0 : Int) (a0_1 : Int) (a1 : Int) (A2 : Option Addr) (c2 : Nat) (l2 : List Int) (r1 : Int) (r2 : Bool) (w : World) (hr2 : Kd.C (Kd.int .i64) w A2 l2.length l2) (hc2 : l2.length ≤ c2) (h : spec_tkWorst.f k a0_0 a0_1 a1 l2 = some (r1, r2)) :
  Calls Try.prog 119 #[.agg #[.int .i64 a0_0, .int .i64 a0_1], .int .i64 a1, .slice A2 l2.length c2] w fun e w' => e = .returned (.tuple #[.int .i64 r1, .bool r2]) ∧ Below w.heap.size w w' := by
 have hu47 := Try.underlying47
 have HR2 := zm hr2
 have HC2 := zm hc2
 clear hr2 hc2
 have HB := zm (Below.refl w.heap.size w)
 have H : ((spec_tkRun.f k a0_0 a0_1 a1 l2).bind fun bt374 => (if bt374.2.2 = true then ((spec_l1Abs.f a1).bind fun t381 => (spec_tkWorst.l0 k t381 bt374.1 (bt374.1.length : Int) 0)) else (some (0, false)))) = some (r1, r2) := h
 clear h
 replace H := Option.bind_eq_some_iff.mp H
 obtain ⟨⟨t374, t377, t380⟩, A40, H⟩ := H
 (try dsimp only at H)
 have A4 := zm A40
 clear A40
 by_cases c5 : t380 = true
 ·
  subst c5
  have H1 : ((spec_l1Abs.f a1).bind fun t381 => (spec_tkWorst.l0 k t381 t374 (t374.length : Int) 0)) = some (r1, r2) := by rw [if_pos rfl] at H; exact H
  clear H
  have H := H1
  clear H1
  replace H := Option.bind_eq_some_iff.mp H
  obtain ⟨t381, A60, H⟩ := H
  (try dsimp only at H)
  have A6 := zm A60
  clear A60
  have H' := zm H
  clear H
  go_enter Try.func119, Try.ntmps119
  go_wp2_with (first | ((with_reducible refine gate_dst (N := 3) rfl ?_); refine box_event ?hg (N := 3) ?hd (cs := #[.int .i64 a0_0, .int .i64 a0_1]) (t := 47) ?hr ?_; (case hd => rfl); (case hg => rfl); (case hr => first | (go_simp; done) | (go_simp; rfl)); intro gb373 hg w7 hbox hb; have n0_ := zm (below_step zb hb); have n1_ := zm (hbox); have n2_ := zm (zs hg zb : w.heap.size ≤ gb373); have n3_ := zm (zs hg zb : w.heap.size ≤ gb373); clear HB; have HB := n0_; have BK373 := n1_; have GW373 := n2_; have GE373 := n3_; clear n0_ n1_ n2_ n3_; clear hb hbox hg; obtain ⟨hcz8_0, hcz8_1, hfz8_0, hfz8_1⟩ := zc2 BK373.out) | ((with_reducible refine gate_callee (f := 118) rfl ?_); refine goesA_ (some 18) Try.func118 #[.agg #[.int .i64 a0_0, .int .i64 a0_1], .int .i64 a1, .slice A2 l2.length c2] rfl ?_; (with_reducible refine (spec_tkRun.calls k a0_0 a0_1 a1 _ _ l2 t374 t377 true _ ?side1 ?side2 A4.out).mono ?_); (case side1 => repeat (first | exact (Kd.C_below HR2.out HB.out) | (with_reducible refine Kd.C_alloc ?_ _) | (with_reducible refine Kd.C_drewN ?_ _) | (with_reducible refine Kd.C_drew ?_))); (case side2 => exact HC2.out); rintro e w9 ⟨v375, v378, rfl, ho0, ho1, hb⟩; refine ⟨_, rfl, ?_⟩; have n0_ := zm (Kd.R_lower ho0 (below_size zb)); have n1_ := zm (Kd.R_lower ho1 (below_size zb)); have n2_ := zm (blk_below (g := gb373) zk hb); have n3_ := zm (below_step zb hb); clear BK373; clear HB; have HO376 := n0_; have HO379 := n1_; have BK373 := n2_; have HB := n3_; clear n0_ n1_ n2_ n3_; (try clear hb); (try clear hb2); (try clear hk); (try clear hi); (try clear ho0); (try clear ho1)) | ((with_reducible refine gate_callee (f := 97) rfl ?_); refine goesA_ (some 25) Try.func97 #[.int .i64 a1] rfl ?_; (with_reducible refine (spec_l1Abs.calls a1 t381 _ A6.out).mono ?_); rintro e w' ⟨rfl, ⟨nd, rfl⟩⟩; refine ⟨_, rfl, ?_⟩; obtain ⟨Ao10, co10, eo10⟩ := Kd.R_slice HO376.out; subst eo10))
  go_loopg [11, 28] k (fun kq v11 v28 w' => ∃ (x11_1 : Int) (x28_1 : Int), v11 = .int .i64 x11_1 ∧ v28 = .int .i64 x28_1 ∧ Aside0 (spec_tkWorst.l0 kq x11_1 t374 (t374.length : Int) x28_1 = some (r1, r2)) ∧ Aside0 (kq ≤ k) ∧ Aside0 (Kd.R (Kd.int .i64) 3 w' w.heap.size (fun _ => True) (.slice Ao10 t374.length co10) t374) ∧ Aside0 (w'.heap[gb373]? = some (.cells #[.int .i64 a0_0, .int .i64 a0_1] 47 (0, 0))) ∧ Aside0 (Below w.heap.size w w'))
  case atStart => exact ⟨(t381), (0), (by first | rfl | (simp; done) | (simp [*]; done)), (by first | rfl | (simp; done) | (simp [*]; done)), H', ⟨Nat.le_refl _⟩, ⟨by (with_reducible repeat (first | apply Kd.R_alloc | apply Kd.R_drewN | apply Kd.R_drew)); exact Kd.R_mono HO376.out (fun _ hk => trivial)⟩, ⟨zk⟩, ⟨zb⟩⟩
  case round =>
   clear H'
   (try clear c1); (try clear c2); (try clear p2); (try clear c5); (try clear c9); (try clear hcz8_0); (try clear hcz8_1); (try clear hfz8_0); (try clear hfz8_1)
   obtain ⟨x11_1, x28_1, rfl, rfl, HA, HK1, HO_26, BK373, HB⟩ := hrel
   cases gk with
   | zero => exact absurd HA.out (by simp [spec_tkWorst.l0])
   | succ k1 =>
    have H := HA.out
    clear HA
    simp only [spec_tkWorst.l0] at H
    by_cases c11 : x28_1 < (t374.length : Int)
    ·
     rw [if_pos c11] at H
     have c11b0 : decide (x28_1 < (t374.length : Int)) = true := decide_eq_true c11
     clear c11
     by_cases c12 : 0 ≤ x28_1
     ·
      rw [if_pos c12] at H
      have c12b0 : decide (0 ≤ x28_1) = true := decide_eq_true c12
      clear c12
      by_cases c13 : x28_1 < (t374.length : Int)
      ·
       rw [if_pos c13] at H
       have c13b0 : decide (x28_1 < (t374.length : Int)) = true := decide_eq_true c13
       clear c13
       replace H := Option.bind_eq_some_iff.mp H
       obtain ⟨t383, A140, H⟩ := H
       (try dsimp only at H)
       have A14 := zm A140
       clear A140
       replace H := Option.bind_eq_some_iff.mp H
       obtain ⟨t384, A150, H⟩ := H
       (try dsimp only at H)
       have A15 := zm A150
       clear A150
       have H' := zm H
       clear H
       have p382 : 0 ≤ (x28_1 : Int) := zd
       have q382 : x28_1 < (t374.length : Int) := zd
       obtain ⟨ad382, e382, hx382_0⟩ := Kd.at_int (Kd.R_reads' HO_26.out).2.2 x28_1 p382 q382
       cases e382
       replace p382 := eq_true p382
       replace q382 := eq_true q382
       go_wp2_with (first | ((with_reducible refine gate_callee (f := 97) rfl ?_); refine goesA_ (some 34) Try.func97 #[.int .i64 (rd t374 x28_1)] rfl ?_; (with_reducible refine (spec_l1Abs.calls (rd t374 x28_1) t383 _ A14.out).mono ?_); rintro e w' ⟨rfl, ⟨nd, rfl⟩⟩; refine ⟨_, rfl, ?_⟩) | ((with_reducible refine gate_callee (f := 96) rfl ?_); refine goesA_ (some 35) Try.func96 #[.int .i64 x11_1, .int .i64 t383] rfl ?_; (with_reducible refine (spec_l1Most.calls x11_1 t383 t384 _ A15.out).mono ?_); rintro e w' ⟨rfl, ⟨nd, rfl⟩⟩; refine ⟨_, rfl, ?_⟩))
       go_roundg k1
       case measure => have := HK1.out; omega
       case rel => exact ⟨(t384), (wrap64 (x28_1 + 1)), (by first | rfl | (simp; done) | (simp [*]; done)), (by first | rfl | (simp; done) | (simp [*]; done)), H', ⟨by have := HK1.out; omega⟩, ⟨by (with_reducible repeat (first | apply Kd.R_alloc | apply Kd.R_drewN | apply Kd.R_drew)); exact HO_26.out⟩, ⟨zk⟩, ⟨zb⟩⟩
      ·
       rw [if_neg c13] at H
       exact absurd H (by simp)
     ·
      rw [if_neg c12] at H
      exact absurd H (by simp)
    ·
     rw [if_neg c11] at H
     have c11b0 : decide (x28_1 < (t374.length : Int)) = false := decide_eq_false c11
     clear c11
     simp only [Option.some.injEq, Prod.mk.injEq] at H
     obtain ⟨rfl, rfl⟩ := H
     go_wp2
     go_ret2
     exact ⟨zr, zb⟩
 ·
  replace c5 := Bool.eq_false_iff.mpr c5
  subst c5
  have H1 : (some (0, false)) = some (r1, r2) := by rw [if_neg (show ¬ (false = true) by decide)] at H; exact H
  clear H
  have H := H1
  clear H1
  simp only [Option.some.injEq, Prod.mk.injEq] at H
  obtain ⟨rfl, rfl⟩ := H
  go_enter Try.func119, Try.ntmps119
  go_wp2_with (first | ((with_reducible refine gate_dst (N := 3) rfl ?_); refine box_event ?hg (N := 3) ?hd (cs := #[.int .i64 a0_0, .int .i64 a0_1]) (t := 47) ?hr ?_; (case hd => rfl); (case hg => rfl); (case hr => first | (go_simp; done) | (go_simp; rfl)); intro gb373 hg w16 hbox hb; have n0_ := zm (below_step zb hb); have n1_ := zm (hbox); have n2_ := zm (zs hg zb : w.heap.size ≤ gb373); have n3_ := zm (zs hg zb : w.heap.size ≤ gb373); clear HB; have HB := n0_; have BK373 := n1_; have GW373 := n2_; have GE373 := n3_; clear n0_ n1_ n2_ n3_; clear hb hbox hg; obtain ⟨hcz17_0, hcz17_1, hfz17_0, hfz17_1⟩ := zc2 BK373.out) | ((with_reducible refine gate_callee (f := 118) rfl ?_); refine goesA_ (some 18) Try.func118 #[.agg #[.int .i64 a0_0, .int .i64 a0_1], .int .i64 a1, .slice A2 l2.length c2] rfl ?_; (with_reducible refine (spec_tkRun.calls k a0_0 a0_1 a1 _ _ l2 t374 t377 false _ ?side1 ?side2 A4.out).mono ?_); (case side1 => repeat (first | exact (Kd.C_below HR2.out HB.out) | (with_reducible refine Kd.C_alloc ?_ _) | (with_reducible refine Kd.C_drewN ?_ _) | (with_reducible refine Kd.C_drew ?_))); (case side2 => exact HC2.out); rintro e w18 ⟨v375, v378, rfl, ho0, ho1, hb⟩; refine ⟨_, rfl, ?_⟩; have n0_ := zm (Kd.R_lower ho0 (below_size zb)); have n1_ := zm (Kd.R_lower ho1 (below_size zb)); have n2_ := zm (blk_below (g := gb373) zk hb); have n3_ := zm (below_step zb hb); clear BK373; clear HB; have HO376 := n0_; have HO379 := n1_; have BK373 := n2_; have HB := n3_; clear n0_ n1_ n2_ n3_; (try clear hb); (try clear hb2); (try clear hk); (try clear hi); (try clear ho0); (try clear ho1)))
  go_ret2
  exact ⟨zr, zb⟩

/-! ### spec_WorstOffset: function 40 -/
def spec_WorstOffset.f (k : Nat) (a0_0 : Int) (a0_1 : Int) (a1 : Int) (l2 : List Int) : Option (Int × Bool) := (spec_tkAsked.f k a0_0 a0_1 a1 l2).bind fun t386 => (if t386 = true then ((spec_tkWorst.f k a0_0 a0_1 a1 l2).bind fun bt387 => (some (bt387.1, bt387.2))) else (some (0, false)))
theorem spec_WorstOffset.mono : ∀ a0 a1 a2 a3 k, LeO (spec_WorstOffset.f k a0 a1 a2 a3) (spec_WorstOffset.f (k + 1) a0 a1 a2 a3) := by
  intro a0 a1 a2 a3 k
  unfold spec_WorstOffset.f
  repeat' first
      | (with_reducible exact spec_tkAsked.mono _ _ _ _ _)
      | (with_reducible exact spec_tkWorst.mono _ _ _ _ _)
      | (with_reducible exact LeO.refl _)
      | (with_reducible exact LeO.none _)
      | (with_reducible refine LeO.ite ?_ ?_)
      | (with_reducible refine LeO.bind ?_ (fun _ => ?_))
      | exact spec_tkAsked.mono _ _ _ _ _
      | exact spec_tkWorst.mono _ _ _ _ _
      | exact LeO.none _
      | refine LeO.ite ?_ ?_
      | refine LeO.bind ?_ (fun _ => ?_)
set_option maxHeartbeats 8000000 in
set_option maxRecDepth 100000 in
theorem spec_WorstOffset.calls (k : Nat) (a0_0 : Int) (a0_1 : Int) (a1 : Int) (A2 : Option Addr) (c2 : Nat) (l2 : List Int) (r1 : Int) (r2 : Bool) (w : World) (hr2 : Kd.C (Kd.int .i64) w A2 l2.length l2) (hc2 : l2.length ≤ c2) (h : spec_WorstOffset.f k a0_0 a0_1 a1 l2 = some (r1, r2)) :
  Calls Try.prog 40 #[.agg #[.int .i64 a0_0, .int .i64 a0_1], .int .i64 a1, .slice A2 l2.length c2] w fun e w' => e = .returned (.tuple #[.int .i64 r1, .bool r2]) ∧ Below w.heap.size w w' := by
 have hu47 := Try.underlying47
 have HR2 := zm hr2
 have HC2 := zm hc2
 clear hr2 hc2
 have HB := zm (Below.refl w.heap.size w)
 have H : ((spec_tkAsked.f k a0_0 a0_1 a1 l2).bind fun t386 => (if t386 = true then ((spec_tkWorst.f k a0_0 a0_1 a1 l2).bind fun bt387 => (some (bt387.1, bt387.2))) else (some (0, false)))) = some (r1, r2) := h
 clear h
 replace H := Option.bind_eq_some_iff.mp H
 obtain ⟨t386, A40, H⟩ := H
 (try dsimp only at H)
 have A4 := zm A40
 clear A40
 by_cases c5 : t386 = true
 ·
  subst c5
  have H1 : ((spec_tkWorst.f k a0_0 a0_1 a1 l2).bind fun bt387 => (some (bt387.1, bt387.2))) = some (r1, r2) := by rw [if_pos rfl] at H; exact H
  clear H
  have H := H1
  clear H1
  replace H := Option.bind_eq_some_iff.mp H
  obtain ⟨⟨t387, t388⟩, A60, H⟩ := H
  (try dsimp only at H)
  have A6 := zm A60
  clear A60
  simp only [Option.some.injEq, Prod.mk.injEq] at H
  obtain ⟨rfl, rfl⟩ := H
  go_enter Try.func40, Try.ntmps40
  go_wp2_with (first | ((with_reducible refine gate_dst (N := 3) rfl ?_); refine box_event ?hg (N := 3) ?hd (cs := #[.int .i64 a0_0, .int .i64 a0_1]) (t := 47) ?hr ?_; (case hd => rfl); (case hg => rfl); (case hr => first | (go_simp; done) | (go_simp; rfl)); intro gb385 hg w7 hbox hb; have n0_ := zm (below_step zb hb); have n1_ := zm (hbox); have n2_ := zm (zs hg zb : w.heap.size ≤ gb385); have n3_ := zm (zs hg zb : w.heap.size ≤ gb385); clear HB; have HB := n0_; have BK385 := n1_; have GW385 := n2_; have GE385 := n3_; clear n0_ n1_ n2_ n3_; clear hb hbox hg; obtain ⟨hcz8_0, hcz8_1, hfz8_0, hfz8_1⟩ := zc2 BK385.out) | ((with_reducible refine gate_callee (f := 117) rfl ?_); refine goesA_ (some 11) Try.func117 #[.agg #[.int .i64 a0_0, .int .i64 a0_1], .int .i64 a1, .slice A2 l2.length c2] rfl ?_; (with_reducible refine (spec_tkAsked.calls k a0_0 a0_1 a1 _ _ l2 true _ ?side1 ?side2 A4.out).mono ?_); (case side1 => repeat (first | exact (Kd.C_below HR2.out HB.out) | (with_reducible refine Kd.C_alloc ?_ _) | (with_reducible refine Kd.C_drewN ?_ _) | (with_reducible refine Kd.C_drew ?_))); (case side2 => exact HC2.out); rintro e w9 ⟨rfl, hb⟩; refine ⟨_, rfl, ?_⟩; have n0_ := zm (blk_below (g := gb385) zk hb); have n1_ := zm (below_step zb hb); clear BK385; clear HB; have BK385 := n0_; have HB := n1_; clear n0_ n1_; (try clear hb); (try clear hb2); (try clear hk); (try clear hi); obtain ⟨hcz10_0, hcz10_1, hfz10_0, hfz10_1⟩ := zc2 BK385.out) | ((with_reducible refine gate_callee (f := 119) rfl ?_); refine goesA_ (some 16) Try.func119 #[.agg #[.int .i64 a0_0, .int .i64 a0_1], .int .i64 a1, .slice A2 l2.length c2] rfl ?_; (with_reducible refine (spec_tkWorst.calls k a0_0 a0_1 a1 _ _ l2 t387 t388 _ ?side1 ?side2 A6.out).mono ?_); (case side1 => repeat (first | exact (Kd.C_below HR2.out HB.out) | (with_reducible refine Kd.C_alloc ?_ _) | (with_reducible refine Kd.C_drewN ?_ _) | (with_reducible refine Kd.C_drew ?_))); (case side2 => exact HC2.out); rintro e w11 ⟨rfl, hb⟩; refine ⟨_, rfl, ?_⟩; have n0_ := zm (blk_below (g := gb385) zk hb); have n1_ := zm (below_step zb hb); clear BK385; clear HB; have BK385 := n0_; have HB := n1_; clear n0_ n1_; (try clear hb); (try clear hb2); (try clear hk); (try clear hi)))
  go_ret2
  exact ⟨zr, zb⟩
 ·
  replace c5 := Bool.eq_false_iff.mpr c5
  subst c5
  have H1 : (some (0, false)) = some (r1, r2) := by rw [if_neg (show ¬ (false = true) by decide)] at H; exact H
  clear H
  have H := H1
  clear H1
  simp only [Option.some.injEq, Prod.mk.injEq] at H
  obtain ⟨rfl, rfl⟩ := H
  go_enter Try.func40, Try.ntmps40
  go_wp2_with (first | ((with_reducible refine gate_dst (N := 3) rfl ?_); refine box_event ?hg (N := 3) ?hd (cs := #[.int .i64 a0_0, .int .i64 a0_1]) (t := 47) ?hr ?_; (case hd => rfl); (case hg => rfl); (case hr => first | (go_simp; done) | (go_simp; rfl)); intro gb385 hg w12 hbox hb; have n0_ := zm (below_step zb hb); have n1_ := zm (hbox); have n2_ := zm (zs hg zb : w.heap.size ≤ gb385); have n3_ := zm (zs hg zb : w.heap.size ≤ gb385); clear HB; have HB := n0_; have BK385 := n1_; have GW385 := n2_; have GE385 := n3_; clear n0_ n1_ n2_ n3_; clear hb hbox hg; obtain ⟨hcz13_0, hcz13_1, hfz13_0, hfz13_1⟩ := zc2 BK385.out) | ((with_reducible refine gate_callee (f := 117) rfl ?_); refine goesA_ (some 11) Try.func117 #[.agg #[.int .i64 a0_0, .int .i64 a0_1], .int .i64 a1, .slice A2 l2.length c2] rfl ?_; (with_reducible refine (spec_tkAsked.calls k a0_0 a0_1 a1 _ _ l2 false _ ?side1 ?side2 A4.out).mono ?_); (case side1 => repeat (first | exact (Kd.C_below HR2.out HB.out) | (with_reducible refine Kd.C_alloc ?_ _) | (with_reducible refine Kd.C_drewN ?_ _) | (with_reducible refine Kd.C_drew ?_))); (case side2 => exact HC2.out); rintro e w14 ⟨rfl, hb⟩; refine ⟨_, rfl, ?_⟩; have n0_ := zm (blk_below (g := gb385) zk hb); have n1_ := zm (below_step zb hb); clear BK385; clear HB; have BK385 := n0_; have HB := n1_; clear n0_ n1_; (try clear hb); (try clear hb2); (try clear hk); (try clear hi)))
  go_ret2
  exact ⟨zr, zb⟩

end Go.Proofs.Ytepkedhmbfkenaa.PTb
