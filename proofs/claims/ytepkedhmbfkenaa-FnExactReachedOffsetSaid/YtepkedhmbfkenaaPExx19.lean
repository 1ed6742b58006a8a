-- Written for this claim by a program of this session (wip/tpl/patchprint.py), not by print.sh.
import Derived.Test.YtepkedhmbfkenaaPExx0
namespace Go.Proofs.Ytepkedhmbfkenaa.PEx
open Go.RowKit Go.Proofs.YtepkedhmbfkenaaW.PrintWords Go.Proofs.YtepkedhmbfkenaaW.PrintLast Go.Proofs.YtepkedhmbfkenaaW.PrintMore
attribute [local go_sem] max2_int min2_int max_two min_two max_three min_three max_four min_four   -- for this text's walks alone
set_option linter.unusedVariables false
set_option linter.unusedSimpArgs false

/-! ### impl_IsController: function 76 -/
def impl_IsController.f (a0_0 : Int) (a0_1 : Int) : Option (Bool) := if a0_0 ≥ 0 then (if a0_0 ≤ 200 then (if a0_1 ≥ 1 then (some (decide (a0_1 ≤ 100))) else (some false)) else (some false)) else (some false)
set_option maxHeartbeats 8000000 in
set_option maxRecDepth 100000 in
theorem impl_IsController.calls (a0_0 : Int) (a0_1 : Int) (r : Bool) (w : World) (h : impl_IsController.f a0_0 a0_1 = some r) :
  Calls Try.prog 76 #[.agg #[.int .i64 a0_0, .int .i64 a0_1]] w fun e w' => e = .returned (.bool r) ∧ Below w.heap.size w w' := by
 have hu47 := Try.underlying47
 have HB := zm (Below.refl w.heap.size w)
 have H : (if a0_0 ≥ 0 then (if a0_0 ≤ 200 then (if a0_1 ≥ 1 then (some (decide (a0_1 ≤ 100))) else (some false)) else (some false)) else (some false)) = some r := h
 clear h
 by_cases c2 : a0_0 ≥ 0
 ·
  rw [if_pos c2] at H
  have c2b0 : decide (0 ≤ a0_0) = true := decide_eq_true c2
  clear c2
  by_cases c3 : a0_0 ≤ 200
  ·
   rw [if_pos c3] at H
   have c3b0 : decide (a0_0 ≤ 200) = true := decide_eq_true c3
   clear c3
   by_cases c4 : a0_1 ≥ 1
   ·
    rw [if_pos c4] at H
    have c4b0 : decide (1 ≤ a0_1) = true := decide_eq_true c4
    clear c4
    obtain rfl := Option.some.inj H
    go_enter Try.func76, Try.ntmps76
    go_wp2_with (first | ((with_reducible refine gate_dst (N := 1) rfl ?_); refine box_event ?hg (N := 1) ?hd (cs := #[.int .i64 a0_0, .int .i64 a0_1]) (t := 47) ?hr ?_; (case hd => rfl); (case hg => rfl); (case hr => first | (go_simp; done) | (go_simp; rfl)); intro gb662 hg w5 hbox hb; have n0_ := zm (below_step zb hb); have n1_ := zm (hbox); have n2_ := zm (zs hg zb : w.heap.size ≤ gb662); have n3_ := zm (zs hg zb : w.heap.size ≤ gb662); clear HB; have HB := n0_; have BK662 := n1_; have GW662 := n2_; have GE662 := n3_; clear n0_ n1_ n2_ n3_; clear hb hbox hg; obtain ⟨hcz6_0, hcz6_1, hfz6_0, hfz6_1⟩ := zc2 BK662.out))
    go_ret
    exact ⟨zr, zb⟩
   ·
    rw [if_neg c4] at H
    have c4b0 : decide (1 ≤ a0_1) = false := decide_eq_false c4
    clear c4
    obtain rfl := Option.some.inj H
    go_enter Try.func76, Try.ntmps76
    go_wp2_with (first | ((with_reducible refine gate_dst (N := 1) rfl ?_); refine box_event ?hg (N := 1) ?hd (cs := #[.int .i64 a0_0, .int .i64 a0_1]) (t := 47) ?hr ?_; (case hd => rfl); (case hg => rfl); (case hr => first | (go_simp; done) | (go_simp; rfl)); intro gb662 hg w7 hbox hb; have n0_ := zm (below_step zb hb); have n1_ := zm (hbox); have n2_ := zm (zs hg zb : w.heap.size ≤ gb662); have n3_ := zm (zs hg zb : w.heap.size ≤ gb662); clear HB; have HB := n0_; have BK662 := n1_; have GW662 := n2_; have GE662 := n3_; clear n0_ n1_ n2_ n3_; clear hb hbox hg; obtain ⟨hcz8_0, hcz8_1, hfz8_0, hfz8_1⟩ := zc2 BK662.out))
    go_ret
    exact ⟨zr, zb⟩
  ·
   rw [if_neg c3] at H
   have c3b0 : decide (a0_0 ≤ 200) = false := decide_eq_false c3
   clear c3
   obtain rfl := Option.some.inj H
   go_enter Try.func76, Try.ntmps76
   go_wp2_with (first | ((with_reducible refine gate_dst (N := 1) rfl ?_); refine box_event ?hg (N := 1) ?hd (cs := #[.int .i64 a0_0, .int .i64 a0_1]) (t := 47) ?hr ?_; (case hd => rfl); (case hg => rfl); (case hr => first | (go_simp; done) | (go_simp; rfl)); intro gb662 hg w9 hbox hb; have n0_ := zm (below_step zb hb); have n1_ := zm (hbox); have n2_ := zm (zs hg zb : w.heap.size ≤ gb662); have n3_ := zm (zs hg zb : w.heap.size ≤ gb662); clear HB; have HB := n0_; have BK662 := n1_; have GW662 := n2_; have GE662 := n3_; clear n0_ n1_ n2_ n3_; clear hb hbox hg; obtain ⟨hcz10_0, hcz10_1, hfz10_0, hfz10_1⟩ := zc2 BK662.out))
   go_ret
   exact ⟨zr, zb⟩
 ·
  rw [if_neg c2] at H
  have c2b0 : decide (0 ≤ a0_0) = false := decide_eq_false c2
  clear c2
  obtain rfl := Option.some.inj H
  go_enter Try.func76, Try.ntmps76
  go_wp2_with (first | ((with_reducible refine gate_dst (N := 1) rfl ?_); refine box_event ?hg (N := 1) ?hd (cs := #[.int .i64 a0_0, .int .i64 a0_1]) (t := 47) ?hr ?_; (case hd => rfl); (case hg => rfl); (case hr => first | (go_simp; done) | (go_simp; rfl)); intro gb662 hg w11 hbox hb; have n0_ := zm (below_step zb hb); have n1_ := zm (hbox); have n2_ := zm (zs hg zb : w.heap.size ≤ gb662); have n3_ := zm (zs hg zb : w.heap.size ≤ gb662); clear HB; have HB := n0_; have BK662 := n1_; have GW662 := n2_; have GE662 := n3_; clear n0_ n1_ n2_ n3_; clear hb hbox hg; obtain ⟨hcz12_0, hcz12_1, hfz12_0, hfz12_1⟩ := zc2 BK662.out))
  go_ret
  exact ⟨zr, zb⟩

/-! ### impl_isMostDrift: function 98 -/
def impl_isMostDrift.f (a0 : Int) : Option (Bool) := if a0 ≥ 0 then (some (decide (a0 ≤ 50))) else (some false)
set_option maxHeartbeats 8000000 in
set_option maxRecDepth 100000 in
theorem impl_isMostDrift.calls (a0 : Int) (r : Bool) (w : World) (h : impl_isMostDrift.f a0 = some r) :
  Calls Try.prog 98 #[.int .i64 a0] w fun e w' => e = .returned (.bool r) ∧ Drawn0 w w' := by
 have H : (if a0 ≥ 0 then (some (decide (a0 ≤ 50))) else (some false)) = some r := h
 clear h
 by_cases c2 : a0 ≥ 0
 ·
  rw [if_pos c2] at H
  have c2b0 : decide (0 ≤ a0) = true := decide_eq_true c2
  clear c2
  obtain rfl := Option.some.inj H
  go_enter Try.func98, Try.ntmps98
  go_wp2
  go_ret
  exact ⟨by first | rfl | (simp; done) | (simp [*]; done), by repeat (first | exact Drawn0.refl _ | apply Drawn0.step)⟩
 ·
  rw [if_neg c2] at H
  have c2b0 : decide (0 ≤ a0) = false := decide_eq_false c2
  clear c2
  obtain rfl := Option.some.inj H
  go_enter Try.func98, Try.ntmps98
  go_wp2
  go_ret
  exact ⟨by first | rfl | (simp; done) | (simp [*]; done), by repeat (first | exact Drawn0.refl _ | apply Drawn0.step)⟩

/-! ### impl_distance: function 99 -/
def impl_distance.f (a0 : Int) (a1 : Int) : Option (Int) := some (mx (wrap64 (a0 - a1)) (wrap64 (a1 - a0)))
set_option maxHeartbeats 8000000 in
set_option maxRecDepth 100000 in
theorem impl_distance.calls (a0 : Int) (a1 : Int) (r : Int) (w : World) (h : impl_distance.f a0 a1 = some r) :
  Calls Try.prog 99 #[.int .i64 a0, .int .i64 a1] w fun e w' => e = .returned (.int .i64 r) ∧ Below w.heap.size w w' := by
 have HB := zm (Below.refl w.heap.size w)
 have H : (some (mx (wrap64 (a0 - a1)) (wrap64 (a1 - a0)))) = some r := h
 clear h
 obtain ⟨ji3, hji3⟩ : ∃ j_ : Int, (mx (wrap64 (a0 - a1)) (wrap64 (a1 - a0))) = j_ := ⟨_, rfl⟩
 replace H : (some ji3) = some r := by first | (rw [hji3] at H; exact H) | (simp only [hji3] at H ⊢; exact H)
 have hji3_ : (if (wrap64 (a0 - a1)) < (wrap64 (a1 - a0)) then (wrap64 (a1 - a0)) else (wrap64 (a0 - a1))) = ji3 := hji3
 obtain rfl := Option.some.inj H
 go_enter Try.func99, Try.ntmps99
 go_wp2
 go_ret
 exact ⟨by first | rfl | (simp [errW_none, errW_some] <;> rfl) | (simp only [← hji3]; first | rfl | (simp [errW_none, errW_some] <;> rfl)) | (simp [*, errW_none, errW_some] <;> rfl), zb⟩

/-! ### impl_moved: function 100 -/
def impl_moved.f (a0_0 : Int) (a0_1 : Int) (a1 : Int) (a2 : Int) : Option (Int) := if (wrap64 (a1 + a2)) > a0_0 then (some (wrap64 ((wrap64 (a1 + a2)) - a0_1))) else (if (wrap64 (a1 + a2)) < (wrap64 (-a0_0)) then (some (wrap64 ((wrap64 (a1 + a2)) + a0_1))) else (some (wrap64 (a1 + a2))))
set_option maxHeartbeats 8000000 in
set_option maxRecDepth 100000 in
theorem impl_moved.calls (a0_0 : Int) (a0_1 : Int) (a1 : Int) (a2 : Int) (r : Int) (w : World) (h : impl_moved.f a0_0 a0_1 a1 a2 = some r) :
  Calls Try.prog 100 #[.agg #[.int .i64 a0_0, .int .i64 a0_1], .int .i64 a1, .int .i64 a2] w fun e w' => e = .returned (.int .i64 r) ∧ Below w.heap.size w w' := by
 have hu47 := Try.underlying47
 have HB := zm (Below.refl w.heap.size w)
 have H : (if (wrap64 (a1 + a2)) > a0_0 then (some (wrap64 ((wrap64 (a1 + a2)) - a0_1))) else (if (wrap64 (a1 + a2)) < (wrap64 (-a0_0)) then (some (wrap64 ((wrap64 (a1 + a2)) + a0_1))) else (some (wrap64 (a1 + a2))))) = some r := h
 clear h
 by_cases c4 : (wrap64 (a1 + a2)) > a0_0
 ·
  rw [if_pos c4] at H
  have c4b0 : decide (a0_0 < (wrap64 (a1 + a2))) = true := decide_eq_true c4
  clear c4
  obtain rfl := Option.some.inj H
  go_enter Try.func100, Try.ntmps100
  go_wp2_with (first | ((with_reducible refine gate_dst (N := 3) rfl ?_); refine box_event ?hg (N := 3) ?hd (cs := #[.int .i64 a0_0, .int .i64 a0_1]) (t := 47) ?hr ?_; (case hd => rfl); (case hg => rfl); (case hr => first | (go_simp; done) | (go_simp; rfl)); intro gb663 hg w5 hbox hb; have n0_ := zm (below_step zb hb); have n1_ := zm (hbox); have n2_ := zm (zs hg zb : w.heap.size ≤ gb663); have n3_ := zm (zs hg zb : w.heap.size ≤ gb663); clear HB; have HB := n0_; have BK663 := n1_; have GW663 := n2_; have GE663 := n3_; clear n0_ n1_ n2_ n3_; clear hb hbox hg; obtain ⟨hcz6_0, hcz6_1, hfz6_0, hfz6_1⟩ := zc2 BK663.out))
  go_ret
  exact ⟨zr, zb⟩
 ·
  rw [if_neg c4] at H
  have c4b0 : decide (a0_0 < (wrap64 (a1 + a2))) = false := decide_eq_false c4
  clear c4
  by_cases c7 : (wrap64 (a1 + a2)) < (wrap64 (-a0_0))
  ·
   rw [if_pos c7] at H
   have c7b0 : decide ((wrap64 (a1 + a2)) < (wrap64 (-a0_0))) = true := decide_eq_true c7
   clear c7
   obtain rfl := Option.some.inj H
   go_enter Try.func100, Try.ntmps100
   go_wp2_with (first | ((with_reducible refine gate_dst (N := 3) rfl ?_); refine box_event ?hg (N := 3) ?hd (cs := #[.int .i64 a0_0, .int .i64 a0_1]) (t := 47) ?hr ?_; (case hd => rfl); (case hg => rfl); (case hr => first | (go_simp; done) | (go_simp; rfl)); intro gb663 hg w8 hbox hb; have n0_ := zm (below_step zb hb); have n1_ := zm (hbox); have n2_ := zm (zs hg zb : w.heap.size ≤ gb663); have n3_ := zm (zs hg zb : w.heap.size ≤ gb663); clear HB; have HB := n0_; have BK663 := n1_; have GW663 := n2_; have GE663 := n3_; clear n0_ n1_ n2_ n3_; clear hb hbox hg; obtain ⟨hcz9_0, hcz9_1, hfz9_0, hfz9_1⟩ := zc2 BK663.out))
   go_ret
   exact ⟨zr, zb⟩
  ·
   rw [if_neg c7] at H
   have c7b0 : decide ((wrap64 (a1 + a2)) < (wrap64 (-a0_0))) = false := decide_eq_false c7
   clear c7
   obtain rfl := Option.some.inj H
   go_enter Try.func100, Try.ntmps100
   go_wp2_with (first | ((with_reducible refine gate_dst (N := 3) rfl ?_); refine box_event ?hg (N := 3) ?hd (cs := #[.int .i64 a0_0, .int .i64 a0_1]) (t := 47) ?hr ?_; (case hd => rfl); (case hg => rfl); (case hr => first | (go_simp; done) | (go_simp; rfl)); intro gb663 hg w10 hbox hb; have n0_ := zm (below_step zb hb); have n1_ := zm (hbox); have n2_ := zm (zs hg zb : w.heap.size ≤ gb663); have n3_ := zm (zs hg zb : w.heap.size ≤ gb663); clear HB; have HB := n0_; have BK663 := n1_; have GW663 := n2_; have GE663 := n3_; clear n0_ n1_ n2_ n3_; clear hb hbox hg; obtain ⟨hcz11_0, hcz11_1, hfz11_0, hfz11_1⟩ := zc2 BK663.out))
   go_ret
   exact ⟨zr, zb⟩

theorem impl_ReachedOffset.zeroM101 (w : World) : (zeroValue 4).run Try.prog w = .ok (Value.bool false) w := by kernel_rfl
/-! ### impl_ReachedOffset: function 28 -/
mutual
def impl_ReachedOffset.j0 : Nat → Int → Bool → Int → Int → Option (Int × Bool)
  | 0, _, _, _, _ => none
  | k + 1, x1, x25, x665000, x665001 => if x25 = true then (some (0, false)) else (impl_ReachedOffset.l0 k x1 (([0] : List Int)) 0 0 x665000 x665001 (Mp.mput ([] : List (Int × Bool)) 0 true))
def impl_ReachedOffset.l0 : Nat → Int → List Int → Int → Int → Int → Int → List (Int × Bool) → Option (Int × Bool)
  | 0, _, _, _, _, _, _, _ => none
  | k + 1, x1, x7, x8, x9, x665000, x665001, x668000 => if x9 < (x7.length : Int) then (if 0 ≤ x9 then ((impl_distance.f (rd x7 x9) 0).bind fun t672 => (impl_ReachedOffset.l1 k x1 x7 (mx x8 t672) x9 (wrap64 (-x1)) x665000 x665001 x668000)) else (none)) else (some (x8, true))
def impl_ReachedOffset.l1 : Nat → Int → List Int → Int → Int → Int → Int → Int → List (Int × Bool) → Option (Int × Bool)
  | 0, _, _, _, _, _, _, _, _ => none
  | k + 1, x1, x7, x8, x9, x10, x665000, x665001, x668000 => if x10 ≤ x1 then (if 0 ≤ x9 then (if x9 < (x7.length : Int) then ((impl_moved.f x665000 x665001 (rd x7 x9) x10).bind fun t674 => (if Mp.mget false x668000 t674 = true then (impl_ReachedOffset.l1 k x1 x7 x8 x9 (wrap64 (x10 + 1)) x665000 x665001 x668000) else (if x7.length < 17592186044416 then (impl_ReachedOffset.l1 k x1 (x7 ++ [t674]) x8 x9 (wrap64 (x10 + 1)) x665000 x665001 (Mp.mput x668000 t674 true)) else (none)))) else (none)) else (none)) else (impl_ReachedOffset.l0 k x1 x7 x8 (wrap64 (x9 + 1)) x665000 x665001 x668000)
end
def impl_ReachedOffset.f (k : Nat) (a0_0 : Int) (a0_1 : Int) (a1 : Int) : Option (Int × Bool) := (impl_IsController.f a0_0 a0_1).bind fun t665 => (if t665 = true then ((impl_isMostDrift.f a1).bind fun t666 => (if t666 = true then (impl_ReachedOffset.j0 k a1 (decide (a0_1 < a1)) a0_0 a0_1) else (impl_ReachedOffset.j0 k a1 true a0_0 a0_1))) else (impl_ReachedOffset.j0 k a1 true a0_0 a0_1))
theorem impl_ReachedOffset.mono_l : ∀ k, (∀ y0 y1 y2 y3, LeO (impl_ReachedOffset.j0 k y0 y1 y2 y3) (impl_ReachedOffset.j0 (k + 1) y0 y1 y2 y3)) ∧ (∀ y0 y1 y2 y3 y4 y5 y6, LeO (impl_ReachedOffset.l0 k y0 y1 y2 y3 y4 y5 y6) (impl_ReachedOffset.l0 (k + 1) y0 y1 y2 y3 y4 y5 y6)) ∧ (∀ y0 y1 y2 y3 y4 y5 y6 y7, LeO (impl_ReachedOffset.l1 k y0 y1 y2 y3 y4 y5 y6 y7) (impl_ReachedOffset.l1 (k + 1) y0 y1 y2 y3 y4 y5 y6 y7))
  | 0 => ⟨fun _ _ _ _ r h => by simp [impl_ReachedOffset.j0] at h, fun _ _ _ _ _ _ _ r h => by simp [impl_ReachedOffset.l0] at h, fun _ _ _ _ _ _ _ _ r h => by simp [impl_ReachedOffset.l1] at h⟩
  | k + 1 => by
    obtain ⟨ih0, ih1, ih2⟩ := impl_ReachedOffset.mono_l k
    refine ⟨?_, ?_, ?_⟩
    · intro y0 y1 y2 y3
      unfold impl_ReachedOffset.j0
      repeat' first
      | (with_reducible exact ih0 _ _ _ _)
      | (with_reducible exact ih1 _ _ _ _ _ _ _)
      | (with_reducible exact ih2 _ _ _ _ _ _ _ _)
      | (with_reducible exact LeO.refl _)
      | (with_reducible exact LeO.none _)
      | (with_reducible refine LeO.ite ?_ ?_)
      | (with_reducible refine LeO.bind ?_ (fun _ => ?_))
      | exact ih0 _ _ _ _
      | exact ih1 _ _ _ _ _ _ _
      | exact ih2 _ _ _ _ _ _ _ _
      | exact LeO.none _
      | refine LeO.ite ?_ ?_
      | refine LeO.bind ?_ (fun _ => ?_)
    · intro y0 y1 y2 y3 y4 y5 y6
      unfold impl_ReachedOffset.l0
      repeat' first
      | (with_reducible exact ih0 _ _ _ _)
      | (with_reducible exact ih1 _ _ _ _ _ _ _)
      | (with_reducible exact ih2 _ _ _ _ _ _ _ _)
      | (with_reducible exact LeO.refl _)
      | (with_reducible exact LeO.none _)
      | (with_reducible refine LeO.ite ?_ ?_)
      | (with_reducible refine LeO.bind ?_ (fun _ => ?_))
      | exact ih0 _ _ _ _
      | exact ih1 _ _ _ _ _ _ _
      | exact ih2 _ _ _ _ _ _ _ _
      | exact LeO.none _
      | refine LeO.ite ?_ ?_
      | refine LeO.bind ?_ (fun _ => ?_)
    · intro y0 y1 y2 y3 y4 y5 y6 y7
      unfold impl_ReachedOffset.l1
      repeat' first
      | (with_reducible exact ih0 _ _ _ _)
      | (with_reducible exact ih1 _ _ _ _ _ _ _)
      | (with_reducible exact ih2 _ _ _ _ _ _ _ _)
      | (with_reducible exact LeO.refl _)
      | (with_reducible exact LeO.none _)
      | (with_reducible refine LeO.ite ?_ ?_)
      | (with_reducible refine LeO.bind ?_ (fun _ => ?_))
      | exact ih0 _ _ _ _
      | exact ih1 _ _ _ _ _ _ _
      | exact ih2 _ _ _ _ _ _ _ _
      | exact LeO.none _
      | refine LeO.ite ?_ ?_
      | refine LeO.bind ?_ (fun _ => ?_)
theorem impl_ReachedOffset.mono : ∀ a0 a1 a2 k, LeO (impl_ReachedOffset.f k a0 a1 a2) (impl_ReachedOffset.f (k + 1) a0 a1 a2) := by
  intro a0 a1 a2 k
  obtain ⟨ih0, ih1, ih2⟩ := impl_ReachedOffset.mono_l k
  unfold impl_ReachedOffset.f
  repeat' first
      | (with_reducible exact ih0 _ _ _ _)
      | (with_reducible exact ih1 _ _ _ _ _ _ _)
      | (with_reducible exact ih2 _ _ _ _ _ _ _ _)
      | (with_reducible exact LeO.refl _)
      | (with_reducible exact LeO.none _)
      | (with_reducible refine LeO.ite ?_ ?_)
      | (with_reducible refine LeO.bind ?_ (fun _ => ?_))
      | exact ih0 _ _ _ _
      | exact ih1 _ _ _ _ _ _ _
      | exact ih2 _ _ _ _ _ _ _ _
      | exact LeO.none _
      | refine LeO.ite ?_ ?_
      | refine LeO.bind ?_ (fun _ => ?_)
def impl_ReachedOffset.T13 : Bool × List (List Nat × List Nat) := (true, [([], []), ([], []), ([], []), ([1, 2], [1, 2]), ([3], [3]), ([], []), ([0, 4, 5], [0, 4, 5]), ([6, 6, 0, 1, 2, 3, 4, 5, 6], [6])])
def impl_ReachedOffset.B13 : List Nat := [0, 0, 0, 6, 14, 0, 63, 127]
theorem impl_ReachedOffset.tab13 : rtab .any (opsOf Try.f28 13) = impl_ReachedOffset.T13 := by kernel_rfl
theorem impl_ReachedOffset.bits13 : waitsOk impl_ReachedOffset.T13.2 impl_ReachedOffset.B13 = true := by kernel_rfl
set_option maxHeartbeats 8000000 in
set_option maxRecDepth 100000 in
theorem impl_ReachedOffset.calls (k : Nat) (a0_0 : Int) (a0_1 : Int) (a1 : Int) (r1 : Int) (r2 : Bool) (w : World) (h : impl_ReachedOffset.f k a0_0 a0_1 a1 = some (r1, r2)) :
  Calls Try.prog 28 #[.agg #[.int .i64 a0_0, .int .i64 a0_1], .int .i64 a1] w fun e w' => e = .returned (.tuple #[.int .i64 r1, .bool r2]) ∧ Below w.heap.size w w' := by
 have hu47 := Try.underlying47
 have HB := zm (Below.refl w.heap.size w)
 have H : ((impl_IsController.f a0_0 a0_1).bind fun t665 => (if t665 = true then ((impl_isMostDrift.f a1).bind fun t666 => (if t666 = true then (impl_ReachedOffset.j0 k a1 (decide (a0_1 < a1)) a0_0 a0_1) else (impl_ReachedOffset.j0 k a1 true a0_0 a0_1))) else (impl_ReachedOffset.j0 k a1 true a0_0 a0_1))) = some (r1, r2) := h
 clear h
 have HC3 := zm H
 clear H
 go_enter Try.func28, Try.ntmps28
 go_upto_region 1 with (first | ((with_reducible refine gate_dst (N := 2) rfl ?_); refine box_event ?hg (N := 2) ?hd (cs := #[.int .i64 a0_0, .int .i64 a0_1]) (t := 47) ?hr ?_; (case hd => rfl); (case hg => rfl); (case hr => first | (go_simp; done) | (go_simp; rfl)); intro gb664 hg w4 hbox hb; have n0_ := zm (below_step zb hb); have n1_ := zm (hbox); have n2_ := zm (zs hg zb : w.heap.size ≤ gb664); have n3_ := zm (zs hg zb : w.heap.size ≤ gb664); clear HB; have HB := n0_; have BK664 := n1_; have GW664 := n2_; have GE664 := n3_; clear n0_ n1_ n2_ n3_; clear hb hbox hg))
 (try simp only [Act.put, List.setIfInBounds_toArray, List.set_cons_zero, List.set_cons_succ])
 go_cut [25] (fun v25 wc => ∃ (kq : Nat) (x25_2 : Bool), v25 = .bool x25_2 ∧ Aside0 (impl_ReachedOffset.j0 kq a1 x25_2 a0_0 a0_1 = some (r1, r2)) ∧ Aside0 (kq ≤ k) ∧ Aside0 (wc.heap[gb664]? = some (.cells #[.int .i64 a0_0, .int .i64 a0_1] 47 (0, 0))) ∧ Aside0 (Below w.heap.size w wc))
 case first =>
  have H := HC3.out
  clear HC3
  replace H := Option.bind_eq_some_iff.mp H
  obtain ⟨t665, A50, H⟩ := H
  replace H : (if t665 = true then ((impl_isMostDrift.f a1).bind fun t666 => (if t666 = true then (impl_ReachedOffset.j0 k a1 (decide (a0_1 < a1)) a0_0 a0_1) else (impl_ReachedOffset.j0 k a1 true a0_0 a0_1))) else (impl_ReachedOffset.j0 k a1 true a0_0 a0_1)) = some (r1, r2) := H
  have A5 := zm A50
  clear A50
  by_cases c6 : t665 = true
  ·
   subst c6
   have H1 : ((impl_isMostDrift.f a1).bind fun t666 => (if t666 = true then (impl_ReachedOffset.j0 k a1 (decide (a0_1 < a1)) a0_0 a0_1) else (impl_ReachedOffset.j0 k a1 true a0_0 a0_1))) = some (r1, r2) := by rw [if_pos rfl] at H; exact H
   clear H
   have H := H1
   clear H1
   replace H := Option.bind_eq_some_iff.mp H
   obtain ⟨t666, A70, H⟩ := H
   replace H : (if t666 = true then (impl_ReachedOffset.j0 k a1 (decide (a0_1 < a1)) a0_0 a0_1) else (impl_ReachedOffset.j0 k a1 true a0_0 a0_1)) = some (r1, r2) := H
   have A7 := zm A70
   clear A70
   by_cases c8 : t666 = true
   ·
    subst c8
    have H1 : (impl_ReachedOffset.j0 k a1 (decide (a0_1 < a1)) a0_0 a0_1) = some (r1, r2) := by rw [if_pos rfl] at H; exact H
    clear H
    have H := H1
    clear H1
    have H' := zm H
    clear H
    obtain ⟨hcz9_0, hcz9_1, hfz9_0, hfz9_1⟩ := zc2 BK664.out
    go_wp2_with (first | ((with_reducible refine gate_callee (f := 76) rfl ?_); refine goesL_ (some 13) rfl rfl Try.func76 (by kernel_rfl) rfl #[.agg #[.int .i64 a0_0, .int .i64 a0_1]] rfl (by (try simp only [List.map_toArray, List.map_cons, List.map_nil]); first | done | rfl | (simp only [List.length_drop, List.length_take]; rfl)) ?_; (with_reducible refine (impl_IsController.calls a0_0 a0_1 true _ A5.out).mono ?_); rintro e w10 ⟨rfl, hb⟩; refine ⟨_, rfl, ?_⟩; have n0_ := zm (blk_below (g := gb664) zk hb); have n1_ := zm (below_step zb hb); clear BK664; clear HB; have BK664 := n0_; have HB := n1_; clear n0_ n1_; (try clear hb); (try clear hb2); (try clear hk); (try clear hi)) | (go_at_call 98; (with_reducible refine (impl_isMostDrift.calls a1 true _ A7.out).mono ?_); rintro e w' ⟨rfl, ⟨nd, rfl⟩⟩; obtain ⟨hcz11_0, hcz11_1, hfz11_0, hfz11_1⟩ := zc2 BK664.out))
    go_meet
    case rel => exact ⟨_, (decide (a0_1 < a1)), (by first | rfl | (simp; done) | (simp [*]; done)), H', ⟨by first | omega | exact Nat.le_refl _⟩, ⟨zk⟩, ⟨zb⟩⟩
   ·
    replace c8 := Bool.eq_false_iff.mpr c8
    subst c8
    have H1 : (impl_ReachedOffset.j0 k a1 true a0_0 a0_1) = some (r1, r2) := by rw [if_neg (show ¬ (false = true) by decide)] at H; exact H
    clear H
    have H := H1
    clear H1
    have H' := zm H
    clear H
    obtain ⟨hcz12_0, hcz12_1, hfz12_0, hfz12_1⟩ := zc2 BK664.out
    go_wp2_with (first | ((with_reducible refine gate_callee (f := 76) rfl ?_); refine goesL_ (some 13) rfl rfl Try.func76 (by kernel_rfl) rfl #[.agg #[.int .i64 a0_0, .int .i64 a0_1]] rfl (by (try simp only [List.map_toArray, List.map_cons, List.map_nil]); first | done | rfl | (simp only [List.length_drop, List.length_take]; rfl)) ?_; (with_reducible refine (impl_IsController.calls a0_0 a0_1 true _ A5.out).mono ?_); rintro e w13 ⟨rfl, hb⟩; refine ⟨_, rfl, ?_⟩; have n0_ := zm (blk_below (g := gb664) zk hb); have n1_ := zm (below_step zb hb); clear BK664; clear HB; have BK664 := n0_; have HB := n1_; clear n0_ n1_; (try clear hb); (try clear hb2); (try clear hk); (try clear hi)) | (go_at_call 98; (with_reducible refine (impl_isMostDrift.calls a1 false _ A7.out).mono ?_); rintro e w' ⟨rfl, ⟨nd, rfl⟩⟩))
    go_meet
    case rel => exact ⟨_, (true), (by first | rfl | (simp; done) | (simp [*]; done)), H', ⟨by first | omega | exact Nat.le_refl _⟩, ⟨zk⟩, ⟨zb⟩⟩
  ·
   replace c6 := Bool.eq_false_iff.mpr c6
   subst c6
   have H1 : (impl_ReachedOffset.j0 k a1 true a0_0 a0_1) = some (r1, r2) := by rw [if_neg (show ¬ (false = true) by decide)] at H; exact H
   clear H
   have H := H1
   clear H1
   have H' := zm H
   clear H
   obtain ⟨hcz14_0, hcz14_1, hfz14_0, hfz14_1⟩ := zc2 BK664.out
   go_wp2_with (first | ((with_reducible refine gate_callee (f := 76) rfl ?_); refine goesL_ (some 13) rfl rfl Try.func76 (by kernel_rfl) rfl #[.agg #[.int .i64 a0_0, .int .i64 a0_1]] rfl (by (try simp only [List.map_toArray, List.map_cons, List.map_nil]); first | done | rfl | (simp only [List.length_drop, List.length_take]; rfl)) ?_; (with_reducible refine (impl_IsController.calls a0_0 a0_1 false _ A5.out).mono ?_); rintro e w15 ⟨rfl, hb⟩; refine ⟨_, rfl, ?_⟩; have n0_ := zm (blk_below (g := gb664) zk hb); have n1_ := zm (below_step zb hb); clear BK664; clear HB; have BK664 := n0_; have HB := n1_; clear n0_ n1_; (try clear hb); (try clear hb2); (try clear hk); (try clear hi)))
   go_meet
   case rel => exact ⟨_, (true), (by first | rfl | (simp; done) | (simp [*]; done)), H', ⟨by first | omega | exact Nat.le_refl _⟩, ⟨zk⟩, ⟨zb⟩⟩
 case rest =>
  clear HC3
  try clear c2
  try clear p2
  try clear c6
  try clear c7
  try clear c8
  try clear hcz11_0
  try clear hcz11_1
  try clear hcz12_0
  try clear hcz12_1
  try clear hcz14_0
  try clear hcz14_1
  try clear hcz9_0
  try clear hcz9_1
  try clear hfz11_0
  try clear hfz11_1
  try clear hfz12_0
  try clear hfz12_1
  try clear hfz14_0
  try clear hfz14_1
  try clear hfz9_0
  try clear hfz9_1
  obtain ⟨kq, x25_2, rfl, HA, HJ2, BK664, HB⟩ := hcut
  cases kq with
  | zero => exact absurd HA.out (by simp [impl_ReachedOffset.j0])
  | succ kj2 =>
   have H := HA.out
   clear HA
   simp only [impl_ReachedOffset.j0] at H
   by_cases c16 : x25_2 = true
   ·
    subst c16
    have H1 : (some (0, false)) = some (r1, r2) := by rw [if_pos rfl] at H; exact H
    clear H
    have H := H1
    clear H1
    simp only [Option.some.injEq, Prod.mk.injEq] at H
    obtain ⟨rfl, rfl⟩ := H
    go_wp2
    go_ret2
    exact ⟨zr, zb⟩
   ·
    replace c16 := Bool.eq_false_iff.mpr c16
    subst c16
    have H1 : (impl_ReachedOffset.l0 kj2 a1 (([0] : List Int)) 0 0 a0_0 a0_1 (Mp.mput ([] : List (Int × Bool)) 0 true)) = some (r1, r2) := by rw [if_neg (show ¬ (false = true) by decide)] at H; exact H
    clear H
    have H := H1
    clear H1
    obtain ⟨y668, hy668⟩ : ∃ y_ : List Int, y_ = (([0] : List Int)) := ⟨_, rfl⟩
    replace H : (impl_ReachedOffset.l0 kj2 a1 y668 0 0 a0_0 a0_1 (Mp.mput ([] : List (Int × Bool)) 0 true)) = some (r1, r2) := by first | (rw [hy668]; with_reducible exact H) | (have H2_ := (Option.bind_some _ _).symm.trans H; rw [hy668]; with_reducible exact H2_) | (have H2_ := (Option.bind_some _ _).symm.trans H; with_reducible exact H2_) | with_reducible exact H | (rw [hy668]; exact H) | exact H
    have Ny668 := zm hy668
    clear hy668
    have H' := zm H
    clear H
    go_wp2_with (first | ((with_reducible refine gate_dst (N := 26) rfl ?_); refine Mp.make_event Value.bool ?hg (N := 26) ?hd (t := 101) ?ho ?_; (case hd => rfl); (case hg => rfl); (case ho => rfl); intro gb667 hg w17 hbox hb; have n0_ := zm (blk_below (g := gb664) zk hb); have n1_ := zm (below_step zb hb); have n2_ := zm (hbox); have n3_ := zm (zs hg zb : w.heap.size ≤ gb667); have n4_ := zm (zs hg zb : w.heap.size ≤ gb667); have n5_ := zm (zl hg zk : gb664 ≠ gb667); have n6_ := zm (zg hg zk : gb667 ≠ gb664); clear BK664; clear HB; have BK664 := n0_; have HB := n1_; have BK667 := n2_; have GW667 := n3_; have GE667 := n4_; have NB664_667 := n5_; have NB667_664 := n6_; clear n0_ n1_ n2_ n3_ n4_ n5_ n6_; clear hb hbox hg) | ((with_reducible refine Mp.gate_insert (t := 101) rfl ?_); refine Mp.ins_event (t := 101) Try.underlying101 Try.underlying3 Value.bool rfl rfl rfl zk rfl (0) (true) ?hx ?hy ?_; (case hx => first | rfl | (go_simp; done) | (go_simp; rfl)); (case hy => first | rfl | (go_simp; done) | (go_simp; rfl)); intro w18 hp_ hg; have n0_ := zm (Mp.blk_put (by exact BK664.out) hg NB664_667.out); have n1_ := zm (hp_); have n2_ := zm (Below.grown zb hg (below_size zb) (fun j_ hj_ => by cases hj_; exact GE667.out)); clear BK664; clear BK667; clear HB; have BK664 := n0_; have BK667 := n1_; have HB := n2_; clear n0_ n1_ n2_; clear hp_ hg) | ((with_reducible refine gate_dst (N := 28) rfl ?_); refine Kd.R_lit (Kd.int .i64) _ 3 ?hg (N := 28) ?hd (xs := ([0] : List Int)) (inner := [.int .i64 0]) (ok := fun _ => True) (okp := fun _ => True) ?hr ?hp (fun _ hk => hk) trivial (Below.refl _ _) (Nat.le_refl _) (by simp) ?_; (case hd => rfl); (case hg => rfl); (case hr => first | (go_simp; done) | (go_simp; rfl)); (case hp => exact (Reps.one (show Kd.M (Kd.int .i64) _ _ _ 0 [.int .i64 0] from rfl) (Reps.none _ _))); intro v669 w19 ho20 hb hg_ hnew_; clear hg_ hnew_; (first | rw [← Ny668.out] at ho20 | (simp only [Int.reduceToNat] at ho20; rw [← Ny668.out] at ho20)); have n0_ := zm (Kd.R_lower ho20 (below_size zb)); have n1_ := zm (blk_below (g := gb664) zk hb); have n2_ := zm (blk_below (g := gb667) zk hb); have n3_ := zm (below_step zb hb); clear BK664; clear BK667; clear HB; have HO670 := n0_; have BK664 := n1_; have BK667 := n2_; have HB := n3_; clear n0_ n1_ n2_ n3_; clear hb ho20))
    go_loopg [7, 8, 9] kj2 (fun kq v7 v8 v9 w' => ∃ (x7_2 : List Int) (x8_2 : Int) (x9_2 : Int) (x668000_2 : List (Int × Bool)), v8 = .int .i64 x8_2 ∧ v9 = .int .i64 x9_2 ∧ Aside0 (impl_ReachedOffset.l0 kq a1 x7_2 x8_2 x9_2 a0_0 a0_1 x668000_2 = some (r1, r2)) ∧ Aside0 (kq ≤ kj2) ∧ Aside0 (Kd.R (Kd.int .i64) 3 w' w.heap.size (fun _ => True) v7 x7_2) ∧ Aside0 (w'.heap[gb664]? = some (.cells #[.int .i64 a0_0, .int .i64 a0_1] 47 (0, 0))) ∧ Aside0 (w'.heap[gb667]? = some (Mp.mObj Value.bool x668000_2)) ∧ Aside0 (Below w.heap.size w w'))
    case atStart => exact ⟨(y668), (0), (0), (Mp.mput ([] : List (Int × Bool)) 0 true), (by first | rfl | (simp; done) | (simp [*]; done)), (by first | rfl | (simp; done) | (simp [*]; done)), H', ⟨Nat.le_refl _⟩, ⟨by (with_reducible repeat (first | apply Kd.R_alloc | apply Kd.R_drewN | apply Kd.R_drew)); exact HO670.out⟩, ⟨zk⟩, ⟨zk⟩, ⟨zb⟩⟩
    case round =>
     clear H'
     try clear c1
     try clear c2
     try clear p2
     try clear c6
     try clear c7
     try clear c8
     try clear c16
     try clear hcz11_0
     try clear hcz11_1
     try clear hcz12_0
     try clear hcz12_1
     try clear hcz14_0
     try clear hcz14_1
     try clear hcz9_0
     try clear hcz9_1
     try clear hfz11_0
     try clear hfz11_1
     try clear hfz12_0
     try clear hfz12_1
     try clear hfz14_0
     try clear hfz14_1
     try clear hfz9_0
     try clear hfz9_1
     try clear p2
     obtain ⟨x7_2, x8_2, x9_2, x668000_2, rfl, rfl, HA, HK2, HO_7, BK664, BK667, HB⟩ := hrel
     cases gk with
     | zero => exact absurd HA.out (by simp [impl_ReachedOffset.l0])
     | succ k2 =>
      have H := HA.out
      clear HA
      simp only [impl_ReachedOffset.l0] at H
      by_cases c21 : x9_2 < (x7_2.length : Int)
      ·
       rw [if_pos c21] at H
       have c21b0 : decide (x9_2 < (x7_2.length : Int)) = true := decide_eq_true c21
       clear c21
       by_cases c22 : 0 ≤ x9_2
       ·
        rw [if_pos c22] at H
        have c22b0 : decide (0 ≤ x9_2) = true := decide_eq_true c22
        clear c22
        replace H := Option.bind_eq_some_iff.mp H
        obtain ⟨t672, A230, H⟩ := H
        replace H : (impl_ReachedOffset.l1 k2 a1 x7_2 (mx x8_2 t672) x9_2 (wrap64 (-a1)) a0_0 a0_1 x668000_2) = some (r1, r2) := H
        have A23 := zm A230
        clear A230
        obtain ⟨ji24, hji24⟩ : ∃ j_ : Int, (mx x8_2 t672) = j_ := ⟨_, rfl⟩
        replace H : (impl_ReachedOffset.l1 k2 a1 x7_2 ji24 x9_2 (wrap64 (-a1)) a0_0 a0_1 x668000_2) = some (r1, r2) := by first | (rw [hji24] at H; exact H) | (simp only [hji24] at H ⊢; exact H)
        (try rw [hji24] at A23)
        have hji24_ : (if x8_2 < t672 then t672 else x8_2) = ji24 := hji24
        have H' := zm H
        clear H
        obtain ⟨Ao25, co25, eo25⟩ := Kd.R_slice HO_7.out
        subst eo25
        have p671 : 0 ≤ (x9_2 : Int) := zd
        have q671 : x9_2 < (x7_2.length : Int) := zd
        obtain ⟨ad671, e671, hx671_0⟩ := Kd.at_int (Kd.R_reads' HO_7.out).2.2 x9_2 p671 q671
        cases e671
        replace p671 := eq_true p671
        replace q671 := eq_true q671
        go_wp2_with (first | ((with_reducible refine gate_callee (f := 99) rfl ?_); refine goesL_ (some 40) rfl rfl Try.func99 (by kernel_rfl) rfl #[.int .i64 (rd x7_2 x9_2), .int .i64 0] rfl (by (try simp only [List.map_toArray, List.map_cons, List.map_nil]); first | done | rfl | (simp only [List.length_drop, List.length_take]; rfl)) ?_; (with_reducible refine (impl_distance.calls (rd x7_2 x9_2) 0 t672 _ A23.out).mono ?_); rintro e w26 ⟨rfl, hb⟩; refine ⟨_, rfl, ?_⟩; have n0_ := zm (Kd.R_below (by (with_reducible repeat (first | apply Kd.R_alloc | apply Kd.R_drewN | apply Kd.R_drew)); exact HO_7.out) hb); have n1_ := zm (blk_below (g := gb664) zk hb); have n2_ := zm (blk_below (g := gb667) zk hb); have n3_ := zm (below_step zb hb); clear HO_7; clear BK664; clear BK667; clear HB; have HO_7 := n0_; have BK664 := n1_; have BK667 := n2_; have HB := n3_; clear n0_ n1_ n2_ n3_; (try clear hb); (try clear hb2); (try clear hk); (try clear hi)))
        go_loopg [7, 10] k2 (fun kq v7 v10 w' => ∃ (x7_3 : List Int) (x10_3 : Int) (x668000_3 : List (Int × Bool)), v10 = .int .i64 x10_3 ∧ Aside0 (impl_ReachedOffset.l1 kq a1 x7_3 ji24 x9_2 x10_3 a0_0 a0_1 x668000_3 = some (r1, r2)) ∧ Aside0 (kq ≤ k2) ∧ Aside0 (Kd.R (Kd.int .i64) 3 w' w.heap.size (fun _ => True) v7 x7_3) ∧ Aside0 (w'.heap[gb664]? = some (.cells #[.int .i64 a0_0, .int .i64 a0_1] 47 (0, 0))) ∧ Aside0 (w'.heap[gb667]? = some (Mp.mObj Value.bool x668000_3)) ∧ Aside0 (Below w.heap.size w w'))
        case atStart => exact ⟨(x7_2), (wrap64 (-a1)), (x668000_2), (by first | rfl | (simp; done) | (simp [*]; done)), H', ⟨Nat.le_refl _⟩, ⟨by (with_reducible repeat (first | apply Kd.R_alloc | apply Kd.R_drewN | apply Kd.R_drew)); exact HO_7.out⟩, ⟨zk⟩, ⟨zk⟩, ⟨zb⟩⟩
        case round =>
         clear H'
         try clear c1
         try clear c2
         try clear p2
         try clear c6
         try clear p6
         try clear q6
         try clear hx6
         try clear c7
         try clear c8
         try clear c9
         try clear c16
         try clear c21
         try clear c21b0
         try clear c22
         try clear c22b0
         try clear hcz11_0
         try clear hcz11_1
         try clear hcz12_0
         try clear hcz12_1
         try clear hcz14_0
         try clear hcz14_1
         try clear hcz9_0
         try clear hcz9_1
         try clear hfz11_0
         try clear hfz11_1
         try clear hfz12_0
         try clear hfz12_1
         try clear hfz14_0
         try clear hfz14_1
         try clear hfz9_0
         try clear hfz9_1
         try clear hx671_0
         try clear p2
         try clear p671
         try clear q671
         obtain ⟨x7_3, x10_3, x668000_3, rfl, HA, HK3, HO_7, BK664, BK667, HB⟩ := hrel
         cases gk with
         | zero => exact absurd HA.out (by simp [impl_ReachedOffset.l1])
         | succ k3 =>
          have H := HA.out
          clear HA
          simp only [impl_ReachedOffset.l1] at H
          by_cases c27 : x10_3 ≤ a1
          ·
           rw [if_pos c27] at H
           have c27b0 : decide (x10_3 ≤ a1) = true := decide_eq_true c27
           clear c27
           by_cases c28 : 0 ≤ x9_2
           ·
            rw [if_pos c28] at H
            have c28b0 : decide (0 ≤ x9_2) = true := decide_eq_true c28
            clear c28
            by_cases c29 : x9_2 < (x7_3.length : Int)
            ·
             rw [if_pos c29] at H
             have c29b0 : decide (x9_2 < (x7_3.length : Int)) = true := decide_eq_true c29
             clear c29
             replace H := Option.bind_eq_some_iff.mp H
             obtain ⟨t674, A300, H⟩ := H
             replace H : (if Mp.mget false x668000_3 t674 = true then (impl_ReachedOffset.l1 k3 a1 x7_3 ji24 x9_2 (wrap64 (x10_3 + 1)) a0_0 a0_1 x668000_3) else (if x7_3.length < 17592186044416 then (impl_ReachedOffset.l1 k3 a1 (x7_3 ++ [t674]) ji24 x9_2 (wrap64 (x10_3 + 1)) a0_0 a0_1 (Mp.mput x668000_3 t674 true)) else (none))) = some (r1, r2) := H
             have A30 := zm A300
             clear A300
             by_cases c31 : Mp.mget false x668000_3 t674 = true
             ·
              rw [if_pos c31] at H
              have c31b0 : Mp.mget false x668000_3 t674 = true := c31
              clear c31
              have H' := zm H
              clear H
              try go_wp2
              have n0_ := zm (Kd.R_drew HO_7.out)
              have n1_ := zm (blk_drew BK664.out)
              have n2_ := zm (blk_drew BK667.out)
              have n3_ := zm (below_drew1 HB.out)
              clear HO_7
              clear BK664
              clear BK667
              clear HB
              have HO_7 := n0_
              have BK664 := n1_
              have BK667 := n2_
              have HB := n3_
              clear n0_ n1_ n2_ n3_
              obtain ⟨Ao33, co33, eo33⟩ := Kd.R_slice HO_7.out
              (first | subst eo33 | (injection eo33 with f1_ f2_ f3_; have f4_ := f1_.symm; have f5_ := f3_.symm; clear f1_ f2_ f3_; subst f4_; subst f5_))
              have p673 : 0 ≤ (x9_2 : Int) := zd
              have q673 : x9_2 < (x7_3.length : Int) := zd
              obtain ⟨ad673, e673, hx673_0⟩ := Kd.at_int (Kd.R_reads' HO_7.out).2.2 x9_2 p673 q673
              cases e673
              replace p673 := eq_true p673
              replace q673 := eq_true q673
              refine start_ (n := 8) (S := fun w' => w'.cell? ⟨gb664, 0, none⟩ = some (.int .i64 a0_0) ∧ w'.cell? ⟨gb664, 1, none⟩ = some (.int .i64 a0_1) ∧ w'.cell? (ad673.add (x9_2).toNat) = some (.int .i64 (rd x7_3 x9_2))) (ds := []) #[false, false, false, false, false, false, false, false] (by kernel_rfl) rfl rfl ⟨(blk_cell BK664.out 0).trans rfl, (blk_cell BK664.out 1).trans rfl, hx673_0⟩ (fun hHeld => ?_); refine with_tabW impl_ReachedOffset.tab13 impl_ReachedOffset.bits13 (fun HT_ HW_ => ?_)
              generalize wr.drew = w32 at HO_7 BK664 BK667 HB hx673_0 hHeld ⊢
              refine pure_ (i := 1) (N := some 50) (v := ?_) (a' := ?_) #[false, true, false, false, false, false, false, false] rfl rfl (any_of HT_.out (by kernel_rfl)) (fun _ _ _ h => h) (Or.inl ⟨by rfl, ?_⟩) ?_ ?_
              rotate_left
              ·
               intro w'
               go_simp
               with_reducible rfl
              rotate_left
              ·
               simp only [Act.put, zA, zB, zD, i64_w, i32_w]
               rfl
              refine pure_ (i := 2) (N := some 51) (v := ?_) (a' := ?_) #[false, true, true, false, false, false, false, false] rfl rfl (any_of HT_.out (by kernel_rfl)) (fun _ _ _ h => h) (Or.inl ⟨by rfl, ?_⟩) ?_ ?_
              rotate_left
              ·
               intro w'
               go_simp
               with_reducible rfl
              rotate_left
              ·
               simp only [Act.put, zA, zB, zD, i64_w, i32_w]
               rfl
              refine pure_ (i := 3) (N := some 52) (v := ?_) (a' := ?_) #[false, true, true, true, false, false, false, false] rfl rfl (any_of HT_.out (by kernel_rfl)) (fun _ _ _ h => h) (Or.inl ⟨by rfl, ?_⟩) ?_ ?_
              rotate_left
              ·
               intro w'
               go_simp
               with_reducible rfl
              rotate_left
              ·
               simp only [Act.put, zA, zB, zD, i64_w, i32_w]
               rfl
              refine pure_ (i := 5) (N := some 54) (v := ?_) (a' := ?_) #[false, true, true, true, false, true, false, false] rfl rfl (any_of HT_.out (by kernel_rfl)) (fun _ _ _ h => h) (Or.inl ⟨by rfl, ?_⟩) ?_ ?_
              rotate_left
              ·
               intro w'
               go_simp
               with_reducible rfl
              rotate_left
              ·
               simp only [Act.put, zA, zB, zD, i64_w, i32_w]
               rfl
              refine take_ (i := 0) (N := some 49) (v := ?_) (a' := ?_) #[true, true, true, true, false, true, false, false] rfl rfl (take_ofW HT_.out HW_.out (by kernel_rfl)) (fun _ _ _ h => h) (Or.inl ⟨by rfl, ?_⟩) hHeld ?_ ?_
              rotate_left
              ·
               rintro w' ⟨s0, s1, s2⟩
               go_simp
               with_reducible rfl
              rotate_left
              ·
               simp only [Act.put, zA, zB, zD, i64_w, i32_w]
               rfl
              refine take_ (i := 4) (N := some 53) (v := ?_) (a' := ?_) #[true, true, true, true, true, true, false, false] rfl rfl (take_ofW HT_.out HW_.out (by kernel_rfl)) (fun _ _ _ h => h) (Or.inl ⟨by rfl, ?_⟩) hHeld ?_ ?_
              rotate_left
              ·
               rintro w' ⟨s0, s1, s2⟩
               go_simp
               with_reducible rfl
              rotate_left
              ·
               simp only [Act.put, zA, zB, zD, i64_w, i32_w]
               rfl
              refine one_ (i := 6) (N := some 55) #[true, true, true, true, true, true, true, false] rfl rfl (one_of HT_.out (by kernel_rfl)) (by decide) (fun K hK => ?_)
              refine goes_ Try.func100 (by kernel_rfl) rfl #[.agg #[.int .i64 a0_0, .int .i64 a0_1], .int .i64 (rd x7_3 x9_2), .int .i64 x10_3] (by rfl) rfl rfl (by (try simp only [List.map_toArray, List.map_cons, List.map_nil]); first | done | rfl | (simp only [List.length_drop, List.length_take]; rfl)) ?_
              with_reducible refine (impl_moved.calls a0_0 a0_1 (rd x7_3 x9_2) x10_3 t674 _ A30.out).mono ?_
              rintro e w34 ⟨rfl, hb⟩
              have HS2_ := (hb.cell (World.block_lt_of_cell? _ _ (hHeld.2.2))).trans (hHeld.2.2)
              refine ⟨_, rfl, ?_⟩
              have n0_ := zm (Kd.R_below (by (with_reducible repeat (first | apply Kd.R_alloc | apply Kd.R_drewN | apply Kd.R_drew)); exact HO_7.out) hb)
              have n1_ := zm (blk_below (g := gb664) zk hb)
              have n2_ := zm (blk_below (g := gb667) zk hb)
              have n3_ := zm (below_step zb hb)
              clear HO_7
              clear BK664
              clear BK667
              clear HB
              have HO_7 := n0_
              have BK664 := n1_
              have BK667 := n2_
              have HB := n3_
              clear n0_ n1_ n2_ n3_
              (try clear hb)
              (try clear hb2)
              (try clear hk)
              (try clear hi)
              refine hK.out _ _ ⟨(blk_cell BK664.out 0).trans rfl, (blk_cell BK664.out 1).trans rfl, HS2_⟩ (fun hHeld => ?_)
              clear hK K
              refine norm_ (a' := ?_) ?_ ?_
              rotate_left
              ·
               show Act.put _ (some 55) _ = _
               simp only [Act.put, zA, zB, zD, i64_w, i32_w]
               rfl
              refine pure_ (i := 7) (N := some 11) (v := ?_) (a' := ?_) #[true, true, true, true, true, true, true, true] rfl rfl (any_of HT_.out (by kernel_rfl)) (fun _ _ _ h => h) (Or.inl ⟨by rfl, ?_⟩) ?_ ?_
              rotate_left
              ·
               intro w'
               go_simp
               with_reducible rfl
              rotate_left
              ·
               simp only [Act.put, zA, zB, zD, i64_w, i32_w]
               rfl
              refine done_ (done_of HT_.out (by kernel_rfl)) ?_
              have hnb35 := NB667_664.out
              have hnc35 := NB664_667.out
              have hlz36_true : ∀ k_ : Int, (Instr.lookup 101 (.map (some gb667)) (.int .i64 k_) true).run Try.prog w34 = .ok (.tuple #[Value.bool (Mp.mget false x668000_3 k_), .bool (Mp.mhas x668000_3 k_)]) w34 := fun k_ => Mp.run_lookup (enc := Value.bool) Try.underlying101 Try.underlying3 false (fun w_ => impl_ReachedOffset.zeroM101 w_) BK667.out k_ true
              have hlz36_false : ∀ k_ : Int, (Instr.lookup 101 (.map (some gb667)) (.int .i64 k_) false).run Try.prog w34 = .ok (Value.bool (Mp.mget false x668000_3 k_)) w34 := fun k_ => Mp.run_lookup (enc := Value.bool) Try.underlying101 Try.underlying3 false (fun w_ => impl_ReachedOffset.zeroM101 w_) BK667.out k_ false
              have hlz36_truen : ∀ (n_ : Nat) (k_ : Int), (Instr.lookup 101 (.map (some gb667)) (.int .i64 k_) true).run Try.prog (w34.drewN n_) = .ok (.tuple #[Value.bool (Mp.mget false x668000_3 k_), .bool (Mp.mhas x668000_3 k_)]) (w34.drewN n_) := fun n_ k_ => Mp.run_lookup (enc := Value.bool) Try.underlying101 Try.underlying3 false (fun w_ => impl_ReachedOffset.zeroM101 w_) (show (w34.drewN n_).heap[gb667]? = _ from BK667.out) k_ true
              have hlz36_falsen : ∀ (n_ : Nat) (k_ : Int), (Instr.lookup 101 (.map (some gb667)) (.int .i64 k_) false).run Try.prog (w34.drewN n_) = .ok (Value.bool (Mp.mget false x668000_3 k_)) (w34.drewN n_) := fun n_ k_ => Mp.run_lookup (enc := Value.bool) Try.underlying101 Try.underlying3 false (fun w_ => impl_ReachedOffset.zeroM101 w_) (show (w34.drewN n_).heap[gb667]? = _ from BK667.out) k_ false
              try go_wp2
              go_roundg k3
              case measure => have := HJ2.out; have := HK2.out; have := HK3.out; omega
              case rel => exact ⟨(x7_3), (wrap64 (x10_3 + 1)), (x668000_3), (by first | rfl | (simp; done) | (simp [*]; done)), H', ⟨by have := HJ2.out; have := HK2.out; have := HK3.out; omega⟩, ⟨by (with_reducible repeat (first | apply Kd.R_alloc | apply Kd.R_drewN | apply Kd.R_drew)); exact HO_7.out⟩, ⟨zk⟩, ⟨zk⟩, ⟨zb⟩⟩
             ·
              rw [if_neg c31] at H
              have c31b0 : Mp.mget false x668000_3 t674 = false := by simpa using c31
              clear c31
              by_cases c37 : x7_3.length < 17592186044416
              ·
               rw [if_pos c37] at H
               have LMc37 := zm c37
               clear c37
               obtain ⟨y675, hy675⟩ : ∃ y_ : List Int, y_ = (x7_3 ++ [t674]) := ⟨_, rfl⟩
               replace H : (impl_ReachedOffset.l1 k3 a1 y675 ji24 x9_2 (wrap64 (x10_3 + 1)) a0_0 a0_1 (Mp.mput x668000_3 t674 true)) = some (r1, r2) := by first | (rw [hy675]; with_reducible exact H) | (have H2_ := (Option.bind_some _ _).symm.trans H; rw [hy675]; with_reducible exact H2_) | (have H2_ := (Option.bind_some _ _).symm.trans H; with_reducible exact H2_) | with_reducible exact H | (rw [hy675]; exact H) | exact H
               have Ny675 := zm hy675
               clear hy675
               have H' := zm H
               clear H
               try go_wp2
               have n0_ := zm (Kd.R_drew HO_7.out)
               have n1_ := zm (blk_drew BK664.out)
               have n2_ := zm (blk_drew BK667.out)
               have n3_ := zm (below_drew1 HB.out)
               clear HO_7
               clear BK664
               clear BK667
               clear HB
               have HO_7 := n0_
               have BK664 := n1_
               have BK667 := n2_
               have HB := n3_
               clear n0_ n1_ n2_ n3_
               obtain ⟨Ao39, co39, eo39⟩ := Kd.R_slice HO_7.out
               (first | subst eo39 | (injection eo39 with f1_ f2_ f3_; have f4_ := f1_.symm; have f5_ := f3_.symm; clear f1_ f2_ f3_; subst f4_; subst f5_))
               have p673 : 0 ≤ (x9_2 : Int) := zd
               have q673 : x9_2 < (x7_3.length : Int) := zd
               obtain ⟨ad673, e673, hx673_0⟩ := Kd.at_int (Kd.R_reads' HO_7.out).2.2 x9_2 p673 q673
               cases e673
               replace p673 := eq_true p673
               replace q673 := eq_true q673
               refine start_ (n := 8) (S := fun w' => w'.cell? ⟨gb664, 0, none⟩ = some (.int .i64 a0_0) ∧ w'.cell? ⟨gb664, 1, none⟩ = some (.int .i64 a0_1) ∧ w'.cell? (ad673.add (x9_2).toNat) = some (.int .i64 (rd x7_3 x9_2))) (ds := []) #[false, false, false, false, false, false, false, false] (by kernel_rfl) rfl rfl ⟨(blk_cell BK664.out 0).trans rfl, (blk_cell BK664.out 1).trans rfl, hx673_0⟩ (fun hHeld => ?_); refine with_tabW impl_ReachedOffset.tab13 impl_ReachedOffset.bits13 (fun HT_ HW_ => ?_)
               generalize wr.drew = w38 at HO_7 BK664 BK667 HB hx673_0 hHeld ⊢
               refine pure_ (i := 1) (N := some 50) (v := ?_) (a' := ?_) #[false, true, false, false, false, false, false, false] rfl rfl (any_of HT_.out (by kernel_rfl)) (fun _ _ _ h => h) (Or.inl ⟨by rfl, ?_⟩) ?_ ?_
               rotate_left
               ·
                intro w'
                go_simp
                with_reducible rfl
               rotate_left
               ·
                simp only [Act.put, zA, zB, zD, i64_w, i32_w]
                rfl
               refine pure_ (i := 2) (N := some 51) (v := ?_) (a' := ?_) #[false, true, true, false, false, false, false, false] rfl rfl (any_of HT_.out (by kernel_rfl)) (fun _ _ _ h => h) (Or.inl ⟨by rfl, ?_⟩) ?_ ?_
               rotate_left
               ·
                intro w'
                go_simp
                with_reducible rfl
               rotate_left
               ·
                simp only [Act.put, zA, zB, zD, i64_w, i32_w]
                rfl
               refine pure_ (i := 3) (N := some 52) (v := ?_) (a' := ?_) #[false, true, true, true, false, false, false, false] rfl rfl (any_of HT_.out (by kernel_rfl)) (fun _ _ _ h => h) (Or.inl ⟨by rfl, ?_⟩) ?_ ?_
               rotate_left
               ·
                intro w'
                go_simp
                with_reducible rfl
               rotate_left
               ·
                simp only [Act.put, zA, zB, zD, i64_w, i32_w]
                rfl
               refine pure_ (i := 5) (N := some 54) (v := ?_) (a' := ?_) #[false, true, true, true, false, true, false, false] rfl rfl (any_of HT_.out (by kernel_rfl)) (fun _ _ _ h => h) (Or.inl ⟨by rfl, ?_⟩) ?_ ?_
               rotate_left
               ·
                intro w'
                go_simp
                with_reducible rfl
               rotate_left
               ·
                simp only [Act.put, zA, zB, zD, i64_w, i32_w]
                rfl
               refine take_ (i := 0) (N := some 49) (v := ?_) (a' := ?_) #[true, true, true, true, false, true, false, false] rfl rfl (take_ofW HT_.out HW_.out (by kernel_rfl)) (fun _ _ _ h => h) (Or.inl ⟨by rfl, ?_⟩) hHeld ?_ ?_
               rotate_left
               ·
                rintro w' ⟨s0, s1, s2⟩
                go_simp
                with_reducible rfl
               rotate_left
               ·
                simp only [Act.put, zA, zB, zD, i64_w, i32_w]
                rfl
               refine take_ (i := 4) (N := some 53) (v := ?_) (a' := ?_) #[true, true, true, true, true, true, false, false] rfl rfl (take_ofW HT_.out HW_.out (by kernel_rfl)) (fun _ _ _ h => h) (Or.inl ⟨by rfl, ?_⟩) hHeld ?_ ?_
               rotate_left
               ·
                rintro w' ⟨s0, s1, s2⟩
                go_simp
                with_reducible rfl
               rotate_left
               ·
                simp only [Act.put, zA, zB, zD, i64_w, i32_w]
                rfl
               refine one_ (i := 6) (N := some 55) #[true, true, true, true, true, true, true, false] rfl rfl (one_of HT_.out (by kernel_rfl)) (by decide) (fun K hK => ?_)
               refine goes_ Try.func100 (by kernel_rfl) rfl #[.agg #[.int .i64 a0_0, .int .i64 a0_1], .int .i64 (rd x7_3 x9_2), .int .i64 x10_3] (by rfl) rfl rfl (by (try simp only [List.map_toArray, List.map_cons, List.map_nil]); first | done | rfl | (simp only [List.length_drop, List.length_take]; rfl)) ?_
               with_reducible refine (impl_moved.calls a0_0 a0_1 (rd x7_3 x9_2) x10_3 t674 _ A30.out).mono ?_
               rintro e w40 ⟨rfl, hb⟩
               have HS2_ := (hb.cell (World.block_lt_of_cell? _ _ (hHeld.2.2))).trans (hHeld.2.2)
               refine ⟨_, rfl, ?_⟩
               have n0_ := zm (Kd.R_below (by (with_reducible repeat (first | apply Kd.R_alloc | apply Kd.R_drewN | apply Kd.R_drew)); exact HO_7.out) hb)
               have n1_ := zm (blk_below (g := gb664) zk hb)
               have n2_ := zm (blk_below (g := gb667) zk hb)
               have n3_ := zm (below_step zb hb)
               clear HO_7
               clear BK664
               clear BK667
               clear HB
               have HO_7 := n0_
               have BK664 := n1_
               have BK667 := n2_
               have HB := n3_
               clear n0_ n1_ n2_ n3_
               (try clear hb)
               (try clear hb2)
               (try clear hk)
               (try clear hi)
               refine hK.out _ _ ⟨(blk_cell BK664.out 0).trans rfl, (blk_cell BK664.out 1).trans rfl, HS2_⟩ (fun hHeld => ?_)
               clear hK K
               refine norm_ (a' := ?_) ?_ ?_
               rotate_left
               ·
                show Act.put _ (some 55) _ = _
                simp only [Act.put, zA, zB, zD, i64_w, i32_w]
                rfl
               refine pure_ (i := 7) (N := some 11) (v := ?_) (a' := ?_) #[true, true, true, true, true, true, true, true] rfl rfl (any_of HT_.out (by kernel_rfl)) (fun _ _ _ h => h) (Or.inl ⟨by rfl, ?_⟩) ?_ ?_
               rotate_left
               ·
                intro w'
                go_simp
                with_reducible rfl
               rotate_left
               ·
                simp only [Act.put, zA, zB, zD, i64_w, i32_w]
                rfl
               refine done_ (done_of HT_.out (by kernel_rfl)) ?_
               have hnb41 := NB667_664.out
               have hnc41 := NB664_667.out
               have hlz42_true : ∀ k_ : Int, (Instr.lookup 101 (.map (some gb667)) (.int .i64 k_) true).run Try.prog w40 = .ok (.tuple #[Value.bool (Mp.mget false x668000_3 k_), .bool (Mp.mhas x668000_3 k_)]) w40 := fun k_ => Mp.run_lookup (enc := Value.bool) Try.underlying101 Try.underlying3 false (fun w_ => impl_ReachedOffset.zeroM101 w_) BK667.out k_ true
               have hlz42_false : ∀ k_ : Int, (Instr.lookup 101 (.map (some gb667)) (.int .i64 k_) false).run Try.prog w40 = .ok (Value.bool (Mp.mget false x668000_3 k_)) w40 := fun k_ => Mp.run_lookup (enc := Value.bool) Try.underlying101 Try.underlying3 false (fun w_ => impl_ReachedOffset.zeroM101 w_) BK667.out k_ false
               have hlz42_truen : ∀ (n_ : Nat) (k_ : Int), (Instr.lookup 101 (.map (some gb667)) (.int .i64 k_) true).run Try.prog (w40.drewN n_) = .ok (.tuple #[Value.bool (Mp.mget false x668000_3 k_), .bool (Mp.mhas x668000_3 k_)]) (w40.drewN n_) := fun n_ k_ => Mp.run_lookup (enc := Value.bool) Try.underlying101 Try.underlying3 false (fun w_ => impl_ReachedOffset.zeroM101 w_) (show (w40.drewN n_).heap[gb667]? = _ from BK667.out) k_ true
               have hlz42_falsen : ∀ (n_ : Nat) (k_ : Int), (Instr.lookup 101 (.map (some gb667)) (.int .i64 k_) false).run Try.prog (w40.drewN n_) = .ok (Value.bool (Mp.mget false x668000_3 k_)) (w40.drewN n_) := fun n_ k_ => Mp.run_lookup (enc := Value.bool) Try.underlying101 Try.underlying3 false (fun w_ => impl_ReachedOffset.zeroM101 w_) (show (w40.drewN n_).heap[gb667]? = _ from BK667.out) k_ false
               try go_wp2_with (first | (at_mapUpdate; refine Mp.put_event (t := 101) Try.underlying101 Try.underlying3 Value.bool rfl rfl rfl zk rfl (t674) (true) ?hx ?hy ?_; (case hx => first | rfl | (go_simp; done) | (go_simp; rfl)); (case hy => first | rfl | (go_simp; done) | (go_simp; rfl)); intro w43 hp_ hg; have n0_ := zm (Mp.R_put (by (with_reducible repeat (first | apply Kd.R_alloc | apply Kd.R_drewN | apply Kd.R_drew)); exact HO_7.out) zk hg); have n1_ := zm (Mp.blk_put (by exact BK664.out) hg NB664_667.out); have n2_ := zm (hp_); have n3_ := zm (Below.grown zb hg (below_size zb) (fun j_ hj_ => by cases hj_; exact GE667.out)); clear HO_7; clear BK664; clear BK667; clear HB; have HO_7 := n0_; have BK664 := n1_; have BK667 := n2_; have HB := n3_; clear n0_ n1_ n2_ n3_; clear hp_ hg) | ((with_reducible refine gate_builtin (b := .append) (xs := #[.tmp 62, .tmp 64]) rfl ?_); at_builtin; refine Kd.R_append (Kd.int .i64) (w0 := w) w.heap.size rfl (.tmp 62) (.tmp 64) 23 3 (.int .i64 0) 8 rfl Try.underlying23 info3 rfl (by decide) (by omega) (.slice (some ad673) x7_3.length co39) x7_3 t674 [.int .i64 t674] (fun _ => True) (fun _ => False) rfl rfl ?aP (fun _ hk => hk.elim) ?aF ?aO ?aB ?aS ?aL ?_; (case aP => exact rfl); (case aB => exact zb); (case aF => exact (fun _ _ => trivial)); (case aO => exact (by (with_reducible repeat (first | apply Kd.R_alloc | apply Kd.R_drewN | apply Kd.R_drew)); exact HO_7.out)); (case aS => exact (below_size zb)); (case aL => have := LMc37.out; omega); intro v676 w44 ho hb hg hat; rw [← Ny675.out] at ho; have n0_ := zm (blk_grown (g := gb664) (o := .cells #[.int .i64 a0_0, .int .i64 a0_1] 47 (0, 0)) zk hg (Kd.R_ne HO_7.out BK664.out (by decide))); have n1_ := zm (blk_grown (g := gb667) (o := Mp.mObj Value.bool (Mp.mput x668000_3 t674 true)) zk hg (Mp.R_ne HO_7.out BK667.out)); have n2_ := zm (hb); have n3_ := zm (ho); clear BK664; clear BK667; clear HB; clear HO_7; have BK664 := n0_; have BK667 := n1_; have HB := n2_; have HO677 := n3_; clear n0_ n1_ n2_ n3_; clear ho hb hg hat))
               go_roundg k3
               case measure => have := HJ2.out; have := HK2.out; have := HK3.out; omega
               case rel => exact ⟨(y675), (wrap64 (x10_3 + 1)), (Mp.mput x668000_3 t674 true), (by first | rfl | (simp; done) | (simp [*]; done)), H', ⟨by have := HJ2.out; have := HK2.out; have := HK3.out; omega⟩, ⟨by (with_reducible repeat (first | apply Kd.R_alloc | apply Kd.R_drewN | apply Kd.R_drew)); exact HO677.out⟩, ⟨zk⟩, ⟨zk⟩, ⟨zb⟩⟩
              ·
               rw [if_neg c37] at H
               exact absurd H (by simp)
            ·
             rw [if_neg c29] at H
             exact absurd H (by simp)
           ·
            rw [if_neg c28] at H
            exact absurd H (by simp)
          ·
           rw [if_neg c27] at H
           have c27b0 : decide (x10_3 ≤ a1) = false := decide_eq_false c27
           clear c27
           have H' := zm H
           clear H
           go_wp2
           go_roundg k3
           case measure => have := HJ2.out; have := HK2.out; have := HK3.out; omega
           case rel => exact ⟨(x7_3), (ji24), (wrap64 (x9_2 + 1)), (x668000_3), (by first | rfl | (simp; done) | (simp only [← hji24] <;> (first | rfl | simp)) | (simp [*]; done)), (by first | rfl | (simp; done) | (simp [*]; done)), H', ⟨by have := HJ2.out; have := HK2.out; have := HK3.out; omega⟩, ⟨by (with_reducible repeat (first | apply Kd.R_alloc | apply Kd.R_drewN | apply Kd.R_drew)); exact HO_7.out⟩, ⟨zk⟩, ⟨zk⟩, ⟨zb⟩⟩
       ·
        rw [if_neg c22] at H
        exact absurd H (by simp)
      ·
       rw [if_neg c21] at H
       have c21b0 : decide (x9_2 < (x7_2.length : Int)) = false := decide_eq_false c21
       clear c21
       simp only [Option.some.injEq, Prod.mk.injEq] at H
       obtain ⟨rfl, rfl⟩ := H
       obtain ⟨Ao45, co45, eo45⟩ := Kd.R_slice HO_7.out
       subst eo45
       go_wp2
       go_ret2
       exact ⟨zr, zb⟩

end Go.Proofs.Ytepkedhmbfkenaa.PEx
