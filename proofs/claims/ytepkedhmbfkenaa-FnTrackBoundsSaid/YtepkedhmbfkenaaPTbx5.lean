-- Written for this claim by a program of this session (wip/tpl/patchprint.py), not by print.sh.
import Derived.Test.YtepkedhmbfkenaaPTbx0
import Derived.Test.YtepkedhmbfkenaaPTbx4
namespace Go.Proofs.Ytepkedhmbfkenaa.PTb
open Go.RowKit Go.Proofs.YtepkedhmbfkenaaW.PrintWords Go.Proofs.YtepkedhmbfkenaaW.PrintLast Go.Proofs.YtepkedhmbfkenaaW.PrintMore
attribute [local go_sem] max2_int min2_int max_two min_two max_three min_three max_four min_four   -- for this text's walks alone
set_option linter.unusedVariables false
set_option linter.unusedSimpArgs false

theorem impl_DrivenOut.zeroM101 (w : World) : (zeroValue 4).run Try.prog w = .ok (Value.bool false) w := by kernel_rfl
/-! ### impl_DrivenOut: function 30 -/
mutual
def impl_DrivenOut.j0 : Nat → Int → Int → Bool → Int → Int → Option (List Int × Bool)
  | 0, _, _, _, _, _ => none
  | k + 1, x1, x2, x33, x219000, x219001 => if x33 = true then (some (([] : List Int), false)) else (impl_DrivenOut.l0 k x1 x2 (([(⟨0, ([] : List Int)⟩ : S108)] : List (S108))) x219000 x219001 (Mp.mput ([] : List (Int × Bool)) 0 true))
def impl_DrivenOut.l0 : Nat → Int → Int → List (S108) → Int → Int → List (Int × Bool) → Option (List Int × Bool)
  | 0, _, _, _, _, _, _ => none
  | k + 1, x1, x2, x9, x219000, x219001, x223000 => if (x9.length : Int) > 0 then (if 0 < (x9.length : Int) then (impl_DrivenOut.j2 k x1 x2 x9 (decide ((((rd_T108 x9 0).f1).length : Int) < 20)) x219000 x219001 x223000) else (none)) else (impl_DrivenOut.j2 k x1 x2 x9 false x219000 x219001 x223000)
def impl_DrivenOut.j2 : Nat → Int → Int → List (S108) → Bool → Int → Int → List (Int × Bool) → Option (List Int × Bool)
  | 0, _, _, _, _, _, _, _ => none
  | k + 1, x1, x2, x9, x48, x219000, x219001, x223000 => if x48 = true then (impl_DrivenOut.l1 k x1 x2 (([] : List (S108))) x9 (x9.length : Int) 0 x219000 x219001 x223000) else (some (([] : List Int), false))
def impl_DrivenOut.l1 : Nat → Int → Int → List (S108) → List (S108) → Int → Int → Int → Int → List (Int × Bool) → Option (List Int × Bool)
  | 0, _, _, _, _, _, _, _, _, _ => none
  | k + 1, x1, x2, x10, x50, x51, x52, x219000, x219001, x223000 => if x52 < x51 then (if 0 ≤ x52 then (if x52 < (x50.length : Int) then ((some (([wrap64 (-x1), 0, x1] : List Int) : List Int)).bind fun y232 => (impl_DrivenOut.l2 k x1 x2 x10 x50 x51 x52 y232 (y232.length : Int) 0 x219000 x219001 x223000 ((rd_T108 x50 x52).f0) ((rd_T108 x50 x52).f1))) else (none)) else (none)) else (impl_DrivenOut.l0 k x1 x2 x10 x219000 x219001 x223000)
def impl_DrivenOut.l2 : Nat → Int → Int → List (S108) → List (S108) → Int → Int → List Int → Int → Int → Int → Int → List (Int × Bool) → Int → List Int → Option (List Int × Bool)
  | 0, _, _, _, _, _, _, _, _, _, _, _, _, _, _ => none
  | k + 1, x1, x2, x10, x50, x51, x52, x59, x60, x61, x219000, x219001, x223000, x232000, x232001 => if x61 < x60 then (if 0 ≤ x61 then (if x61 < (x59.length : Int) then ((impl_moved.f x219000 x219001 x232000 (rd x59 x61)).bind fun t236 => ((impl_isOffset.f t236).bind fun t237 => (if t237 = true then (impl_DrivenOut.j5 k x1 x2 x10 (rd x59 x61) t236 x50 x51 x52 x59 x60 x61 (Mp.mget false x223000 t236) x219000 x219001 x223000 x232000 x232001) else (impl_DrivenOut.j5 k x1 x2 x10 (rd x59 x61) t236 x50 x51 x52 x59 x60 x61 true x219000 x219001 x223000 x232000 x232001)))) else (none)) else (none)) else (impl_DrivenOut.l1 k x1 x2 x10 x50 x51 (wrap64 (x52 + 1)) x219000 x219001 x223000)
def impl_DrivenOut.j5 : Nat → Int → Int → List (S108) → Int → Int → List (S108) → Int → Int → List Int → Int → Int → Bool → Int → Int → List (Int × Bool) → Int → List Int → Option (List Int × Bool)
  | 0, _, _, _, _, _, _, _, _, _, _, _, _, _, _, _, _, _ => none
  | k + 1, x1, x2, x10, x14, x15, x50, x51, x52, x59, x60, x61, x77, x219000, x219001, x223000, x232000, x232001 => if x77 = true then (impl_DrivenOut.l2 k x1 x2 x10 x50 x51 x52 x59 x60 (wrap64 (x61 + 1)) x219000 x219001 x223000 x232000 x232001) else ((slices_Clone_int_int.f x232001).bind fun t238 => (if t238.length < 17592186044416 then ((some (t238 ++ [x14] : List Int)).bind fun y241 => ((impl_distance.f x15 0).bind fun t244 => (if t244 > x2 then (some (y241, true)) else (if x10.length < 4398046511104 then (impl_DrivenOut.l2 k x1 x2 (x10 ++ [(⟨x15, y241⟩ : S108)]) x50 x51 x52 x59 x60 (wrap64 (x61 + 1)) x219000 x219001 (Mp.mput x223000 x15 true) x232000 x232001) else (none))))) else (none)))
end
def impl_DrivenOut.f (k : Nat) (a0_0 : Int) (a0_1 : Int) (a1 : Int) (a2 : Int) : Option (List Int × Bool) := (impl_IsController.f a0_0 a0_1).bind fun t219 => (if t219 = true then ((impl_isMostDrift.f a1).bind fun t220 => (if t220 = true then ((impl_isLimit.f a2).bind fun t221 => (if t221 = true then (impl_DrivenOut.j0 k a1 a2 (a1 == 0) a0_0 a0_1) else (impl_DrivenOut.j0 k a1 a2 true a0_0 a0_1))) else (impl_DrivenOut.j0 k a1 a2 true a0_0 a0_1))) else (impl_DrivenOut.j0 k a1 a2 true a0_0 a0_1))
theorem impl_DrivenOut.mono_l : ∀ k, (∀ y0 y1 y2 y3 y4, LeO (impl_DrivenOut.j0 k y0 y1 y2 y3 y4) (impl_DrivenOut.j0 (k + 1) y0 y1 y2 y3 y4)) ∧ (∀ y0 y1 y2 y3 y4 y5, LeO (impl_DrivenOut.l0 k y0 y1 y2 y3 y4 y5) (impl_DrivenOut.l0 (k + 1) y0 y1 y2 y3 y4 y5)) ∧ (∀ y0 y1 y2 y3 y4 y5 y6, LeO (impl_DrivenOut.j2 k y0 y1 y2 y3 y4 y5 y6) (impl_DrivenOut.j2 (k + 1) y0 y1 y2 y3 y4 y5 y6)) ∧ (∀ y0 y1 y2 y3 y4 y5 y6 y7 y8, LeO (impl_DrivenOut.l1 k y0 y1 y2 y3 y4 y5 y6 y7 y8) (impl_DrivenOut.l1 (k + 1) y0 y1 y2 y3 y4 y5 y6 y7 y8)) ∧ (∀ y0 y1 y2 y3 y4 y5 y6 y7 y8 y9 y10 y11 y12 y13, LeO (impl_DrivenOut.l2 k y0 y1 y2 y3 y4 y5 y6 y7 y8 y9 y10 y11 y12 y13) (impl_DrivenOut.l2 (k + 1) y0 y1 y2 y3 y4 y5 y6 y7 y8 y9 y10 y11 y12 y13)) ∧ (∀ y0 y1 y2 y3 y4 y5 y6 y7 y8 y9 y10 y11 y12 y13 y14 y15 y16, LeO (impl_DrivenOut.j5 k y0 y1 y2 y3 y4 y5 y6 y7 y8 y9 y10 y11 y12 y13 y14 y15 y16) (impl_DrivenOut.j5 (k + 1) y0 y1 y2 y3 y4 y5 y6 y7 y8 y9 y10 y11 y12 y13 y14 y15 y16))
  | 0 => ⟨fun _ _ _ _ _ r h => by simp [impl_DrivenOut.j0] at h, fun _ _ _ _ _ _ r h => by simp [impl_DrivenOut.l0] at h, fun _ _ _ _ _ _ _ r h => by simp [impl_DrivenOut.j2] at h, fun _ _ _ _ _ _ _ _ _ r h => by simp [impl_DrivenOut.l1] at h, fun _ _ _ _ _ _ _ _ _ _ _ _ _ _ r h => by simp [impl_DrivenOut.l2] at h, fun _ _ _ _ _ _ _ _ _ _ _ _ _ _ _ _ _ r h => by simp [impl_DrivenOut.j5] at h⟩
  | k + 1 => by
    obtain ⟨ih0, ih1, ih2, ih3, ih4, ih5⟩ := impl_DrivenOut.mono_l k
    refine ⟨?_, ?_, ?_, ?_, ?_, ?_⟩
    · intro y0 y1 y2 y3 y4
      unfold impl_DrivenOut.j0
      repeat' first
      | (with_reducible exact ih0 _ _ _ _ _)
      | (with_reducible exact ih1 _ _ _ _ _ _)
      | (with_reducible exact ih2 _ _ _ _ _ _ _)
      | (with_reducible exact ih3 _ _ _ _ _ _ _ _ _)
      | (with_reducible exact ih4 _ _ _ _ _ _ _ _ _ _ _ _ _ _)
      | (with_reducible exact ih5 _ _ _ _ _ _ _ _ _ _ _ _ _ _ _ _ _)
      | (with_reducible exact LeO.refl _)
      | (with_reducible exact LeO.none _)
      | (with_reducible refine LeO.ite ?_ ?_)
      | (with_reducible refine LeO.bind ?_ (fun _ => ?_))
      | exact ih0 _ _ _ _ _
      | exact ih1 _ _ _ _ _ _
      | exact ih2 _ _ _ _ _ _ _
      | exact ih3 _ _ _ _ _ _ _ _ _
      | exact ih4 _ _ _ _ _ _ _ _ _ _ _ _ _ _
      | exact ih5 _ _ _ _ _ _ _ _ _ _ _ _ _ _ _ _ _
      | exact LeO.none _
      | refine LeO.ite ?_ ?_
      | refine LeO.bind ?_ (fun _ => ?_)
    · intro y0 y1 y2 y3 y4 y5
      unfold impl_DrivenOut.l0
      repeat' first
      | (with_reducible exact ih0 _ _ _ _ _)
      | (with_reducible exact ih1 _ _ _ _ _ _)
      | (with_reducible exact ih2 _ _ _ _ _ _ _)
      | (with_reducible exact ih3 _ _ _ _ _ _ _ _ _)
      | (with_reducible exact ih4 _ _ _ _ _ _ _ _ _ _ _ _ _ _)
      | (with_reducible exact ih5 _ _ _ _ _ _ _ _ _ _ _ _ _ _ _ _ _)
      | (with_reducible exact LeO.refl _)
      | (with_reducible exact LeO.none _)
      | (with_reducible refine LeO.ite ?_ ?_)
      | (with_reducible refine LeO.bind ?_ (fun _ => ?_))
      | exact ih0 _ _ _ _ _
      | exact ih1 _ _ _ _ _ _
      | exact ih2 _ _ _ _ _ _ _
      | exact ih3 _ _ _ _ _ _ _ _ _
      | exact ih4 _ _ _ _ _ _ _ _ _ _ _ _ _ _
      | exact ih5 _ _ _ _ _ _ _ _ _ _ _ _ _ _ _ _ _
      | exact LeO.none _
      | refine LeO.ite ?_ ?_
      | refine LeO.bind ?_ (fun _ => ?_)
    · intro y0 y1 y2 y3 y4 y5 y6
      unfold impl_DrivenOut.j2
      repeat' first
      | (with_reducible exact ih0 _ _ _ _ _)
      | (with_reducible exact ih1 _ _ _ _ _ _)
      | (with_reducible exact ih2 _ _ _ _ _ _ _)
      | (with_reducible exact ih3 _ _ _ _ _ _ _ _ _)
      | (with_reducible exact ih4 _ _ _ _ _ _ _ _ _ _ _ _ _ _)
      | (with_reducible exact ih5 _ _ _ _ _ _ _ _ _ _ _ _ _ _ _ _ _)
      | (with_reducible exact LeO.refl _)
      | (with_reducible exact LeO.none _)
      | (with_reducible refine LeO.ite ?_ ?_)
      | (with_reducible refine LeO.bind ?_ (fun _ => ?_))
      | exact ih0 _ _ _ _ _
      | exact ih1 _ _ _ _ _ _
      | exact ih2 _ _ _ _ _ _ _
      | exact ih3 _ _ _ _ _ _ _ _ _
      | exact ih4 _ _ _ _ _ _ _ _ _ _ _ _ _ _
      | exact ih5 _ _ _ _ _ _ _ _ _ _ _ _ _ _ _ _ _
      | exact LeO.none _
      | refine LeO.ite ?_ ?_
      | refine LeO.bind ?_ (fun _ => ?_)
    · intro y0 y1 y2 y3 y4 y5 y6 y7 y8
      unfold impl_DrivenOut.l1
      repeat' first
      | (with_reducible exact ih0 _ _ _ _ _)
      | (with_reducible exact ih1 _ _ _ _ _ _)
      | (with_reducible exact ih2 _ _ _ _ _ _ _)
      | (with_reducible exact ih3 _ _ _ _ _ _ _ _ _)
      | (with_reducible exact ih4 _ _ _ _ _ _ _ _ _ _ _ _ _ _)
      | (with_reducible exact ih5 _ _ _ _ _ _ _ _ _ _ _ _ _ _ _ _ _)
      | (with_reducible exact LeO.refl _)
      | (with_reducible exact LeO.none _)
      | (with_reducible refine LeO.ite ?_ ?_)
      | (with_reducible refine LeO.bind ?_ (fun _ => ?_))
      | exact ih0 _ _ _ _ _
      | exact ih1 _ _ _ _ _ _
      | exact ih2 _ _ _ _ _ _ _
      | exact ih3 _ _ _ _ _ _ _ _ _
      | exact ih4 _ _ _ _ _ _ _ _ _ _ _ _ _ _
      | exact ih5 _ _ _ _ _ _ _ _ _ _ _ _ _ _ _ _ _
      | exact LeO.none _
      | refine LeO.ite ?_ ?_
      | refine LeO.bind ?_ (fun _ => ?_)
    · intro y0 y1 y2 y3 y4 y5 y6 y7 y8 y9 y10 y11 y12 y13
      unfold impl_DrivenOut.l2
      repeat' first
      | (with_reducible exact ih0 _ _ _ _ _)
      | (with_reducible exact ih1 _ _ _ _ _ _)
      | (with_reducible exact ih2 _ _ _ _ _ _ _)
      | (with_reducible exact ih3 _ _ _ _ _ _ _ _ _)
      | (with_reducible exact ih4 _ _ _ _ _ _ _ _ _ _ _ _ _ _)
      | (with_reducible exact ih5 _ _ _ _ _ _ _ _ _ _ _ _ _ _ _ _ _)
      | (with_reducible exact LeO.refl _)
      | (with_reducible exact LeO.none _)
      | (with_reducible refine LeO.ite ?_ ?_)
      | (with_reducible refine LeO.bind ?_ (fun _ => ?_))
      | exact ih0 _ _ _ _ _
      | exact ih1 _ _ _ _ _ _
      | exact ih2 _ _ _ _ _ _ _
      | exact ih3 _ _ _ _ _ _ _ _ _
      | exact ih4 _ _ _ _ _ _ _ _ _ _ _ _ _ _
      | exact ih5 _ _ _ _ _ _ _ _ _ _ _ _ _ _ _ _ _
      | exact LeO.none _
      | refine LeO.ite ?_ ?_
      | refine LeO.bind ?_ (fun _ => ?_)
    · intro y0 y1 y2 y3 y4 y5 y6 y7 y8 y9 y10 y11 y12 y13 y14 y15 y16
      unfold impl_DrivenOut.j5
      repeat' first
      | (with_reducible exact ih0 _ _ _ _ _)
      | (with_reducible exact ih1 _ _ _ _ _ _)
      | (with_reducible exact ih2 _ _ _ _ _ _ _)
      | (with_reducible exact ih3 _ _ _ _ _ _ _ _ _)
      | (with_reducible exact ih4 _ _ _ _ _ _ _ _ _ _ _ _ _ _)
      | (with_reducible exact ih5 _ _ _ _ _ _ _ _ _ _ _ _ _ _ _ _ _)
      | (with_reducible exact LeO.refl _)
      | (with_reducible exact LeO.none _)
      | (with_reducible refine LeO.ite ?_ ?_)
      | (with_reducible refine LeO.bind ?_ (fun _ => ?_))
      | exact ih0 _ _ _ _ _
      | exact ih1 _ _ _ _ _ _
      | exact ih2 _ _ _ _ _ _ _
      | exact ih3 _ _ _ _ _ _ _ _ _
      | exact ih4 _ _ _ _ _ _ _ _ _ _ _ _ _ _
      | exact ih5 _ _ _ _ _ _ _ _ _ _ _ _ _ _ _ _ _
      | exact LeO.none _
      | refine LeO.ite ?_ ?_
      | refine LeO.bind ?_ (fun _ => ?_)
theorem impl_DrivenOut.mono : ∀ a0 a1 a2 a3 k, LeO (impl_DrivenOut.f k a0 a1 a2 a3) (impl_DrivenOut.f (k + 1) a0 a1 a2 a3) := by
  intro a0 a1 a2 a3 k
  obtain ⟨ih0, ih1, ih2, ih3, ih4, ih5⟩ := impl_DrivenOut.mono_l k
  unfold impl_DrivenOut.f
  repeat' first
      | (with_reducible exact ih0 _ _ _ _ _)
      | (with_reducible exact ih1 _ _ _ _ _ _)
      | (with_reducible exact ih2 _ _ _ _ _ _ _)
      | (with_reducible exact ih3 _ _ _ _ _ _ _ _ _)
      | (with_reducible exact ih4 _ _ _ _ _ _ _ _ _ _ _ _ _ _)
      | (with_reducible exact ih5 _ _ _ _ _ _ _ _ _ _ _ _ _ _ _ _ _)
      | (with_reducible exact LeO.refl _)
      | (with_reducible exact LeO.none _)
      | (with_reducible refine LeO.ite ?_ ?_)
      | (with_reducible refine LeO.bind ?_ (fun _ => ?_))
      | exact ih0 _ _ _ _ _
      | exact ih1 _ _ _ _ _ _
      | exact ih2 _ _ _ _ _ _ _
      | exact ih3 _ _ _ _ _ _ _ _ _
      | exact ih4 _ _ _ _ _ _ _ _ _ _ _ _ _ _
      | exact ih5 _ _ _ _ _ _ _ _ _ _ _ _ _ _ _ _ _
      | exact LeO.none _
      | refine LeO.ite ?_ ?_
      | refine LeO.bind ?_ (fun _ => ?_)
set_option maxHeartbeats 8000000 in
set_option maxRecDepth 100000 in
theorem impl_DrivenOut.calls (k : Nat) (a0_0 : Int) (a0_1 : Int) (a1 : Int) (a2 : Int) (r1 : List Int) (r2 : Bool) (w : World) (h : impl_DrivenOut.f k a0_0 a0_1 a1 a2 = some (r1, r2)) :
  Calls Try.prog 30 #[.agg #[.int .i64 a0_0, .int .i64 a0_1], .int .i64 a1, .int .i64 a2] w fun e w' => ∃ v0_ : Value, e = .returned (.tuple #[v0_, .bool r2]) ∧ Kd.R (Kd.int .i64) 3 w' w.heap.size (fun _ => True) v0_ r1 ∧ Below w.heap.size w w' := by
 have hu47 := Try.underlying47
 have hu108 := Try.underlying108
 have HB := zm (Below.refl w.heap.size w)
 have H : ((impl_IsController.f a0_0 a0_1).bind fun t219 => (if t219 = true then ((impl_isMostDrift.f a1).bind fun t220 => (if t220 = true then ((impl_isLimit.f a2).bind fun t221 => (if t221 = true then (impl_DrivenOut.j0 k a1 a2 (a1 == 0) a0_0 a0_1) else (impl_DrivenOut.j0 k a1 a2 true a0_0 a0_1))) else (impl_DrivenOut.j0 k a1 a2 true a0_0 a0_1))) else (impl_DrivenOut.j0 k a1 a2 true a0_0 a0_1))) = some (r1, r2) := h
 clear h
 have HC4 := zm H
 clear H
 go_enter Try.func30, Try.ntmps30
 go_upto_region 1 with (first | ((with_reducible refine gate_dst (N := 3) rfl ?_); (try (refine gate_guard (by rfl) ?_; dsimp only)); refine box_event ?hg (N := 3) ?hd (cs := #[.int .i64 a0_0, .int .i64 a0_1]) (t := 47) ?hr ?_; (case hd => rfl); (case hg => rfl); (case hr => first | (go_simp; done) | (go_simp; rfl)); intro gb218 hg w5 hbox hb; have n0_ := zm (below_step zb hb); have n1_ := zm (hbox); have n2_ := zm (zs hg zb : w.heap.size ≤ gb218); have n3_ := zm (zs hg zb : w.heap.size ≤ gb218); clear HB; have HB := n0_; have BK218 := n1_; have GW218 := n2_; have GE218 := n3_; clear n0_ n1_ n2_ n3_; clear hb hbox hg))
 (try simp only [Act.put, List.setIfInBounds_toArray, List.set_cons_zero, List.set_cons_succ])
 go_cut [33] (fun v33 wc => ∃ (kq : Nat) (x33_3 : Bool), v33 = .bool x33_3 ∧ Aside0 (impl_DrivenOut.j0 kq a1 a2 x33_3 a0_0 a0_1 = some (r1, r2)) ∧ Aside0 (kq ≤ k) ∧ Aside0 (wc.heap[gb218]? = some (.cells #[.int .i64 a0_0, .int .i64 a0_1] 47 (0, 0))) ∧ Aside0 (Below w.heap.size w wc))
 case first =>
  have H := HC4.out
  clear HC4
  replace H := Option.bind_eq_some_iff.mp H
  obtain ⟨t219, A60, H⟩ := H
  (try dsimp only at H)
  have A6 := zm A60
  clear A60
  by_cases c7 : t219 = true
  ·
   subst c7
   have H1 : ((impl_isMostDrift.f a1).bind fun t220 => (if t220 = true then ((impl_isLimit.f a2).bind fun t221 => (if t221 = true then (impl_DrivenOut.j0 k a1 a2 (a1 == 0) a0_0 a0_1) else (impl_DrivenOut.j0 k a1 a2 true a0_0 a0_1))) else (impl_DrivenOut.j0 k a1 a2 true a0_0 a0_1))) = some (r1, r2) := by rw [if_pos rfl] at H; exact H
   clear H
   have H := H1
   clear H1
   replace H := Option.bind_eq_some_iff.mp H
   obtain ⟨t220, A80, H⟩ := H
   (try dsimp only at H)
   have A8 := zm A80
   clear A80
   by_cases c9 : t220 = true
   ·
    subst c9
    have H1 : ((impl_isLimit.f a2).bind fun t221 => (if t221 = true then (impl_DrivenOut.j0 k a1 a2 (a1 == 0) a0_0 a0_1) else (impl_DrivenOut.j0 k a1 a2 true a0_0 a0_1))) = some (r1, r2) := by rw [if_pos rfl] at H; exact H
    clear H
    have H := H1
    clear H1
    replace H := Option.bind_eq_some_iff.mp H
    obtain ⟨t221, A100, H⟩ := H
    (try dsimp only at H)
    have A10 := zm A100
    clear A100
    by_cases c11 : t221 = true
    ·
     subst c11
     have H1 : (impl_DrivenOut.j0 k a1 a2 (a1 == 0) a0_0 a0_1) = some (r1, r2) := by rw [if_pos rfl] at H; exact H
     clear H
     have H := H1
     clear H1
     have H' := zm H
     clear H
     obtain ⟨hcz12_0, hcz12_1, hfz12_0, hfz12_1⟩ := zc2 BK218.out
     go_wp2_with (first | ((with_reducible refine gate_callee (f := 76) rfl ?_); refine goesA_ (some 18) Try.func76 #[.agg #[.int .i64 a0_0, .int .i64 a0_1]] rfl ?_; (with_reducible refine (impl_IsController.calls a0_0 a0_1 true _ A6.out).mono ?_); rintro e w13 ⟨rfl, hb⟩; refine ⟨_, rfl, ?_⟩; have n0_ := zm (blk_below (g := gb218) zk hb); have n1_ := zm (below_step zb hb); clear BK218; clear HB; have BK218 := n0_; have HB := n1_; clear n0_ n1_; (try clear hb); (try clear hb2); (try clear hk); (try clear hi)) | (go_at_call 98; (with_reducible refine (impl_isMostDrift.calls a1 true _ A8.out).mono ?_); rintro e w' ⟨rfl, ⟨nd, rfl⟩⟩) | (go_at_call 105; (with_reducible refine (impl_isLimit.calls a2 true _ A10.out).mono ?_); rintro e w' ⟨rfl, ⟨nd, rfl⟩⟩))
     go_meet
     case rel => exact ⟨_, ((a1 == 0)), (by first | rfl | (simp; done) | (simp [*]; done)), H', ⟨by first | omega | exact Nat.le_refl _⟩, ⟨zk⟩, ⟨zb⟩⟩
    ·
     replace c11 := Bool.eq_false_iff.mpr c11
     subst c11
     have H1 : (impl_DrivenOut.j0 k a1 a2 true a0_0 a0_1) = some (r1, r2) := by rw [if_neg (show ¬ (false = true) by decide)] at H; exact H
     clear H
     have H := H1
     clear H1
     have H' := zm H
     clear H
     obtain ⟨hcz14_0, hcz14_1, hfz14_0, hfz14_1⟩ := zc2 BK218.out
     go_wp2_with (first | ((with_reducible refine gate_callee (f := 76) rfl ?_); refine goesA_ (some 18) Try.func76 #[.agg #[.int .i64 a0_0, .int .i64 a0_1]] rfl ?_; (with_reducible refine (impl_IsController.calls a0_0 a0_1 true _ A6.out).mono ?_); rintro e w15 ⟨rfl, hb⟩; refine ⟨_, rfl, ?_⟩; have n0_ := zm (blk_below (g := gb218) zk hb); have n1_ := zm (below_step zb hb); clear BK218; clear HB; have BK218 := n0_; have HB := n1_; clear n0_ n1_; (try clear hb); (try clear hb2); (try clear hk); (try clear hi)) | (go_at_call 98; (with_reducible refine (impl_isMostDrift.calls a1 true _ A8.out).mono ?_); rintro e w' ⟨rfl, ⟨nd, rfl⟩⟩) | (go_at_call 105; (with_reducible refine (impl_isLimit.calls a2 false _ A10.out).mono ?_); rintro e w' ⟨rfl, ⟨nd, rfl⟩⟩))
     go_meet
     case rel => exact ⟨_, (true), (by first | rfl | (simp; done) | (simp [*]; done)), H', ⟨by first | omega | exact Nat.le_refl _⟩, ⟨zk⟩, ⟨zb⟩⟩
   ·
    replace c9 := Bool.eq_false_iff.mpr c9
    subst c9
    have H1 : (impl_DrivenOut.j0 k a1 a2 true a0_0 a0_1) = some (r1, r2) := by rw [if_neg (show ¬ (false = true) by decide)] at H; exact H
    clear H
    have H := H1
    clear H1
    have H' := zm H
    clear H
    obtain ⟨hcz16_0, hcz16_1, hfz16_0, hfz16_1⟩ := zc2 BK218.out
    go_wp2_with (first | ((with_reducible refine gate_callee (f := 76) rfl ?_); refine goesA_ (some 18) Try.func76 #[.agg #[.int .i64 a0_0, .int .i64 a0_1]] rfl ?_; (with_reducible refine (impl_IsController.calls a0_0 a0_1 true _ A6.out).mono ?_); rintro e w17 ⟨rfl, hb⟩; refine ⟨_, rfl, ?_⟩; have n0_ := zm (blk_below (g := gb218) zk hb); have n1_ := zm (below_step zb hb); clear BK218; clear HB; have BK218 := n0_; have HB := n1_; clear n0_ n1_; (try clear hb); (try clear hb2); (try clear hk); (try clear hi)) | (go_at_call 98; (with_reducible refine (impl_isMostDrift.calls a1 false _ A8.out).mono ?_); rintro e w' ⟨rfl, ⟨nd, rfl⟩⟩))
    go_meet
    case rel => exact ⟨_, (true), (by first | rfl | (simp; done) | (simp [*]; done)), H', ⟨by first | omega | exact Nat.le_refl _⟩, ⟨zk⟩, ⟨zb⟩⟩
  ·
   replace c7 := Bool.eq_false_iff.mpr c7
   subst c7
   have H1 : (impl_DrivenOut.j0 k a1 a2 true a0_0 a0_1) = some (r1, r2) := by rw [if_neg (show ¬ (false = true) by decide)] at H; exact H
   clear H
   have H := H1
   clear H1
   have H' := zm H
   clear H
   obtain ⟨hcz18_0, hcz18_1, hfz18_0, hfz18_1⟩ := zc2 BK218.out
   go_wp2_with (first | ((with_reducible refine gate_callee (f := 76) rfl ?_); refine goesA_ (some 18) Try.func76 #[.agg #[.int .i64 a0_0, .int .i64 a0_1]] rfl ?_; (with_reducible refine (impl_IsController.calls a0_0 a0_1 false _ A6.out).mono ?_); rintro e w19 ⟨rfl, hb⟩; refine ⟨_, rfl, ?_⟩; have n0_ := zm (blk_below (g := gb218) zk hb); have n1_ := zm (below_step zb hb); clear BK218; clear HB; have BK218 := n0_; have HB := n1_; clear n0_ n1_; (try clear hb); (try clear hb2); (try clear hk); (try clear hi)))
   go_meet
   case rel => exact ⟨_, (true), (by first | rfl | (simp; done) | (simp [*]; done)), H', ⟨by first | omega | exact Nat.le_refl _⟩, ⟨zk⟩, ⟨zb⟩⟩
 case rest =>
  clear HC4
  (try clear c1); (try clear p2); (try clear c3); (try clear c7); (try clear c9); (try clear c11); (try clear hcz12_0); (try clear hcz12_1); (try clear hcz14_0); (try clear hcz14_1); (try clear hcz16_0); (try clear hcz16_1); (try clear hcz18_0); (try clear hcz18_1); (try clear hfz12_0); (try clear hfz12_1); (try clear hfz14_0); (try clear hfz14_1); (try clear hfz16_0); (try clear hfz16_1); (try clear hfz18_0); (try clear hfz18_1)
  obtain ⟨kq, x33_3, rfl, HA, HJ3, BK218, HB⟩ := hcut
  cases kq with
  | zero => exact absurd HA.out (by simp [impl_DrivenOut.j0])
  | succ kj3 =>
   have H := HA.out
   clear HA
   simp only [impl_DrivenOut.j0] at H
   by_cases c20 : x33_3 = true
   ·
    subst c20
    have H1 : (some (([] : List Int), false)) = some (r1, r2) := by rw [if_pos rfl] at H; exact H
    clear H
    have H := H1
    clear H1
    simp only [Option.some.injEq, Prod.mk.injEq] at H
    obtain ⟨rfl, rfl⟩ := H
    go_wp2
    go_ret2
    exact ⟨_, zr, by first | exact Kd.R_nil _ _ _ _ _ | exact Kd.N_nil _ _ _ _ _ | exact Kd.V_nil _ _ _ _ _ | exact Kd.Q_nil _ _ _ _ _ | exact Kd.S_nil _ _ _ _ _, zb⟩
   ·
    replace c20 := Bool.eq_false_iff.mpr c20
    subst c20
    have H1 : (impl_DrivenOut.l0 kj3 a1 a2 (([(⟨0, ([] : List Int)⟩ : S108)] : List (S108))) a0_0 a0_1 (Mp.mput ([] : List (Int × Bool)) 0 true)) = some (r1, r2) := by rw [if_neg (show ¬ (false = true) by decide)] at H; exact H
    clear H
    have H := H1
    clear H1
    obtain ⟨y223, hy223⟩ : ∃ y_ : List (S108), y_ = (([(⟨0, ([] : List Int)⟩ : S108)] : List (S108))) := ⟨_, rfl⟩
    replace H : (impl_DrivenOut.l0 kj3 a1 a2 y223 a0_0 a0_1 (Mp.mput ([] : List (Int × Bool)) 0 true)) = some (r1, r2) := by first | (rw [hy223]; with_reducible exact H) | (have H2_ := (Option.bind_some _ _).symm.trans H; rw [hy223]; with_reducible exact H2_) | (have H2_ := (Option.bind_some _ _).symm.trans H; with_reducible exact H2_) | with_reducible exact H | (rw [hy223]; exact H) | exact H
    have Ny223 := zm hy223
    clear hy223
    have H' := zm H
    clear H
    go_wp2_with (first | ((with_reducible refine gate_dst (N := 34) rfl ?_); (try (refine gate_guard (by rfl) ?_; dsimp only)); refine Mp.make_event Value.bool ?hg (N := 34) ?hd (t := 101) ?ho ?_; (case hd => rfl); (case hg => rfl); (case ho => rfl); intro gb222 hg w21 hbox hb; have n0_ := zm (blk_below (g := gb218) zk hb); have n1_ := zm (below_step zb hb); have n2_ := zm (hbox); have n3_ := zm (zs hg zb : w.heap.size ≤ gb222); have n4_ := zm (zs hg zb : w.heap.size ≤ gb222); have n5_ := zm (zl hg zk : gb218 ≠ gb222); have n6_ := zm (zg hg zk : gb222 ≠ gb218); clear BK218; clear HB; have BK218 := n0_; have HB := n1_; have BK222 := n2_; have GW222 := n3_; have GE222 := n4_; have NB218_222 := n5_; have NB222_218 := n6_; clear n0_ n1_ n2_ n3_ n4_ n5_ n6_; clear hb hbox hg) | ((with_reducible refine Mp.gate_insert (t := 101) rfl ?_); refine Mp.ins_event (t := 101) Try.underlying101 Try.underlying3 Value.bool rfl rfl rfl zk rfl (0) (true) ?hx ?hy ?_; (case hx => first | rfl | (go_simp; done) | (go_simp; rfl)); (case hy => first | rfl | (go_simp; done) | (go_simp; rfl)); intro w22 hp_ hg; have n0_ := zm (Mp.blk_put (by exact BK218.out) hg NB218_222.out); have n1_ := zm (hp_); have n2_ := zm (Below.grown zb hg (below_size zb) (fun j_ hj_ => by cases hj_; exact GE222.out)); clear BK218; clear BK222; clear HB; have BK218 := n0_; have BK222 := n1_; have HB := n2_; clear n0_ n1_ n2_; clear hp_ hg) | ((with_reducible refine gate_dst (N := 37) rfl ?_); (try (refine gate_guard (by rfl) ?_; dsimp only)); refine Kd.S_lit k108 _ 108 ?hg (N := 37) ?hd (xs := ([(⟨0, ([] : List Int)⟩ : S108)] : List (S108))) (inner := [.int .i64 0, .slice none 0 0]) (ok := fun _ => True) (okp := fun _ => True) ?hr ?hp (fun _ hk => hk) trivial (Below.refl _ _) (Nat.le_refl _) (by simp) ?_; (case hd => rfl); (case hg => rfl); (case hr => first | (go_simp; done) | (go_simp; rfl)); (case hp => exact (Reps.c2 (show Kd.M k108 _ _ _ (⟨0, ([] : List Int)⟩ : S108) [.int .i64 0, .slice none 0 0] from (k108_mkM _ _ _ (⟨0, ([] : List Int)⟩ : S108) (Kd.R_nil _ _ _ _ _))) (Reps.none _ _))); intro v224 w23 ho24 hb hg_ hnew_; clear hg_ hnew_; (first | rw [← Ny223.out] at ho24 | (simp only [Int.reduceToNat] at ho24; rw [← Ny223.out] at ho24)); have n0_ := zm (Kd.S_lower ho24 (below_size zb)); have n1_ := zm (blk_below (g := gb218) zk hb); have n2_ := zm (blk_below (g := gb222) zk hb); have n3_ := zm (below_step zb hb); clear BK218; clear BK222; clear HB; have HO225 := n0_; have BK218 := n1_; have BK222 := n2_; have HB := n3_; clear n0_ n1_ n2_ n3_; clear hb ho24))
    go_loopg [9] kj3 (fun kq v9 w' => ∃ (x9_2 : List (S108)) (x223000_2 : List (Int × Bool)), Aside0 (impl_DrivenOut.l0 kq a1 a2 x9_2 a0_0 a0_1 x223000_2 = some (r1, r2)) ∧ Aside0 (kq ≤ kj3) ∧ Aside0 (Kd.S k108 108 w' w.heap.size (fun _ => True) v9 x9_2) ∧ Aside0 (w'.heap[gb218]? = some (.cells #[.int .i64 a0_0, .int .i64 a0_1] 47 (0, 0))) ∧ Aside0 (w'.heap[gb222]? = some (Mp.mObj Value.bool x223000_2)) ∧ Aside0 (Below w.heap.size w w'))
    case atStart => exact ⟨(y223), (Mp.mput ([] : List (Int × Bool)) 0 true), H', ⟨Nat.le_refl _⟩, ⟨by (with_reducible repeat (first | apply Kd.S_alloc | apply Kd.S_drewN | apply Kd.S_drew)); exact HO225.out⟩, ⟨zk⟩, ⟨zk⟩, ⟨zb⟩⟩
    case round =>
     clear H'
     (try clear c1); (try clear c2); (try clear p2); (try clear c3); (try clear c7); (try clear c9); (try clear c11); (try clear c20); (try clear hcz12_0); (try clear hcz12_1); (try clear hcz14_0); (try clear hcz14_1); (try clear hcz16_0); (try clear hcz16_1); (try clear hcz18_0); (try clear hcz18_1); (try clear hfz12_0); (try clear hfz12_1); (try clear hfz14_0); (try clear hfz14_1); (try clear hfz16_0); (try clear hfz16_1); (try clear hfz18_0); (try clear hfz18_1); (try clear p2)
     obtain ⟨x9_2, x223000_2, HA, HK2, HO_9, BK218, BK222, HB⟩ := hrel
     cases gk with
     | zero => exact absurd HA.out (by simp [impl_DrivenOut.l0])
     | succ k2 =>
      have H := HA.out
      clear HA
      simp only [impl_DrivenOut.l0] at H
      have HC25 := zm H
      clear H
      go_upto_region 5 with (fail)
      go_cut [48] (fun v48 wc => ∃ (kq : Nat) (x48_24 : Bool), v48 = .bool x48_24 ∧ Aside0 (impl_DrivenOut.j2 kq a1 a2 x9_2 x48_24 a0_0 a0_1 x223000_2 = some (r1, r2)) ∧ Aside0 (kq ≤ k2) ∧ Aside0 (Kd.S k108 108 wc w.heap.size (fun _ => True) u9 x9_2) ∧ Aside0 (wc.heap[gb218]? = some (.cells #[.int .i64 a0_0, .int .i64 a0_1] 47 (0, 0))) ∧ Aside0 (wc.heap[gb222]? = some (Mp.mObj Value.bool x223000_2)) ∧ Aside0 (Below w.heap.size w wc))
      case first =>
       have H := HC25.out
       clear HC25
       by_cases c26 : (x9_2.length : Int) > 0
       ·
        rw [if_pos c26] at H
        have c26b0 : decide (0 < (x9_2.length : Int)) = true := decide_eq_true c26
        have c26b1 : decide (0 < x9_2.length) = true := decide_eq_true (by omega)
        clear c26
        (first | rw [c26b0] | (simp only [i64_w, i32_w]; rw [c26b0]) | skip)
        by_cases c27 : 0 < (x9_2.length : Int)
        ·
         rw [if_pos c27] at H
         have c27b0 : decide (0 < (x9_2.length : Int)) = true := decide_eq_true c27
         have c27b1 : decide (0 < x9_2.length) = true := decide_eq_true (by omega)
         clear c27
         have H' := zm H
         clear H
         obtain ⟨Ao28, co28, eo28⟩ := Kd.S_slice HO_9.out
         subst eo28
         have p226 : 0 ≤ (0 : Int) := (by omega)
         have q226 : 0 < (x9_2.length : Int) := zd
         obtain ⟨ad226, A226_1, c226_1, e226, hx226_0, hx226_1, hl226_1, hi226_1⟩ := at_T108 (Kd.S_reads' HO_9.out).2.2 0 p226 q226
         cases e226
         obtain ⟨ce226, hce226, hMe226, hcc226⟩ := Kd.S_get HO_9.out z108 0 p226 (by first | exact q226 | exact of_decide_eq_true (by first | (with_reducible assumption) | assumption) | (have e_ := (Kd.S_reads' HO_9.out).1; omega))
         obtain ⟨ve226_1, rfl, ge226_1⟩ := k108_openM hMe226
         have hv226_1 := hcc226 1 _ rfl
         rw [add_field _ _ 1 (by omega)] at hv226_1
         replace hv226_1 := Option.some.inj (hv226_1.symm.trans hx226_1)
         rw [hv226_1] at ge226_1
         have HL226_1 := zm (show Kd.R (Kd.int .i64) 3 _ _ _ _ ((rd_T108 x9_2 0).f1) from ge226_1)
         clear hv226_1 ge226_1
         clear hcc226 hce226
         have qi226 : (0 < x9_2.length) = True := eq_true (by omega)
         (try rw [show ((0 : Int)).toNat = 0 from rfl] at hx226_0)
         (try rw [show 0 * 2 = 0 from rfl] at hx226_0)
         (try rw [Addr.add_zero'] at hx226_0)
         (try rw [show ((0 : Int)).toNat = 0 from rfl] at hx226_1)
         (try rw [show 0 * 2 = 0 from rfl] at hx226_1)
         (try rw [Addr.add_zero'] at hx226_1)
         have HR226_1 := zm hi226_1
         have HC226_1 := zm hl226_1
         clear hi226_1 hl226_1
         replace p226 := eq_true p226
         replace q226 := eq_true q226
         go_wp2
         go_meet
         case rel => exact ⟨_, (decide ((((rd_T108 x9_2 0).f1).length : Int) < 20)), (by first | rfl | (simp; done) | (simp [*]; done)), H', ⟨by have := HJ3.out; have := HK2.out; first | omega | exact Nat.le_refl _⟩, ⟨by (with_reducible repeat (first | apply Kd.S_alloc | apply Kd.S_drewN | apply Kd.S_drew)); exact HO_9.out⟩, ⟨zk⟩, ⟨zk⟩, ⟨zb⟩⟩
        ·
         rw [if_neg c27] at H
         exact absurd H (by simp)
       ·
        rw [if_neg c26] at H
        have c26b0 : decide (0 < (x9_2.length : Int)) = false := decide_eq_false c26
        have c26b1 : decide (0 < x9_2.length) = false := decide_eq_false (by omega)
        clear c26
        (first | rw [c26b0] | (simp only [i64_w, i32_w]; rw [c26b0]) | skip)
        have H' := zm H
        clear H
        obtain ⟨Ao29, co29, eo29⟩ := Kd.S_slice HO_9.out
        subst eo29
        go_wp2
        go_meet
        case rel => exact ⟨_, (false), (by first | rfl | (simp; done) | (simp [*]; done)), H', ⟨by have := HJ3.out; have := HK2.out; first | omega | exact Nat.le_refl _⟩, ⟨by (with_reducible repeat (first | apply Kd.S_alloc | apply Kd.S_drewN | apply Kd.S_drew)); exact HO_9.out⟩, ⟨zk⟩, ⟨zk⟩, ⟨zb⟩⟩
      case rest =>
       clear HC25
       (try clear c1); (try clear c2); (try clear p2); (try clear q2); (try clear hx2); (try clear qi2); (try clear c3); (try clear c7); (try clear c9); (try clear c11); (try clear c20); (try clear c22); (try clear p22); (try clear q22); (try clear hx22); (try clear qi22); (try clear c26); (try clear c26b0); (try clear c26b1); (try clear c27); (try clear c27b0); (try clear c27b1); (try clear hcz12_0); (try clear hcz12_1); (try clear hcz14_0); (try clear hcz14_1); (try clear hcz16_0); (try clear hcz16_1); (try clear hcz18_0); (try clear hcz18_1); (try clear hfz12_0); (try clear hfz12_1); (try clear hfz14_0); (try clear hfz14_1); (try clear hfz16_0); (try clear hfz16_1); (try clear hfz18_0); (try clear hfz18_1); (try clear hx226_0); (try clear hx226_1); (try clear p2); (try clear p226); (try clear q226)
       obtain ⟨kq, x48_24, rfl, HA, HJ24, HO_9, BK218, BK222, HB⟩ := hcut
       cases kq with
       | zero => exact absurd HA.out (by simp [impl_DrivenOut.j2])
       | succ kj24 =>
        have H := HA.out
        clear HA
        simp only [impl_DrivenOut.j2] at H
        by_cases c30 : x48_24 = true
        ·
         subst c30
         have H1 : (impl_DrivenOut.l1 kj24 a1 a2 (([] : List (S108))) x9_2 (x9_2.length : Int) 0 a0_0 a0_1 x223000_2) = some (r1, r2) := by rw [if_pos rfl] at H; exact H
         clear H
         have H := H1
         clear H1
         obtain ⟨y227, hy227⟩ : ∃ y_ : List (S108), y_ = (([] : List (S108))) := ⟨_, rfl⟩
         replace H : (impl_DrivenOut.l1 kj24 a1 a2 y227 x9_2 (x9_2.length : Int) 0 a0_0 a0_1 x223000_2) = some (r1, r2) := by first | (rw [hy227]; with_reducible exact H) | (have H2_ := (Option.bind_some _ _).symm.trans H; rw [hy227]; with_reducible exact H2_) | (have H2_ := (Option.bind_some _ _).symm.trans H; with_reducible exact H2_) | with_reducible exact H | (rw [hy227]; exact H) | exact H
         have Ny227 := zm hy227
         clear hy227
         have H' := zm H
         clear H
         go_wp2_with (first | ((with_reducible refine gate_dst (N := 49) rfl ?_); (try (refine gate_guard (by rfl) ?_; dsimp only)); refine Kd.S_lit k108 _ 108 ?hg (N := 49) ?hd (xs := ([] : List (S108))) (inner := []) (ok := fun _ => True) (okp := fun _ => True) ?hr ?hp (fun _ hk => hk) trivial (Below.refl _ _) (Nat.le_refl _) (by simp) ?_; (case hd => rfl); (case hg => rfl); (case hr => first | (go_simp; done) | (go_simp; rfl)); (case hp => exact (Reps.none _ _)); intro v228 w31 ho32 hb hg_ hnew_; clear hg_ hnew_; (first | rw [← Ny227.out] at ho32 | (simp only [Int.reduceToNat] at ho32; rw [← Ny227.out] at ho32)); have n0_ := zm (Kd.S_elder' (by (with_reducible repeat (first | apply Kd.S_alloc | apply Kd.S_drewN | apply Kd.S_drew)); exact HO_9.out) (Kd.S_base ho32) hb); have n1_ := zm (Kd.S_lower (Kd.S_new' ho32 (Kd.S_lt (by (with_reducible repeat (first | apply Kd.S_alloc | apply Kd.S_drewN | apply Kd.S_drew)); exact HO_9.out))) (below_size zb)); have n2_ := zm (blk_below (g := gb218) zk hb); have n3_ := zm (blk_below (g := gb222) zk hb); have n4_ := zm (below_step zb hb); clear HO_9; clear BK218; clear BK222; clear HB; have HO_9 := n0_; have HO229 := n1_; have BK218 := n2_; have BK222 := n3_; have HB := n4_; clear n0_ n1_ n2_ n3_ n4_; clear hb ho32; obtain ⟨Ao33, co33, eo33⟩ := Kd.S_slice HO_9.out; subst eo33))
         go_loopg [10, 52] kj24 (fun kq v10 v52 w' => ∃ (x10_4 : List (S108)) (x52_4 : Int) (x223000_4 : List (Int × Bool)), v52 = .int .i64 x52_4 ∧ Aside0 (impl_DrivenOut.l1 kq a1 a2 x10_4 x9_2 (x9_2.length : Int) x52_4 a0_0 a0_1 x223000_4 = some (r1, r2)) ∧ Aside0 (kq ≤ kj24) ∧ Aside0 (Kd.S k108 108 w' w.heap.size (fun k_ => some k_ ≠ ((.slice Ao33 x9_2.length co33) : Value).ownBlock) v10 x10_4) ∧ Aside0 (Kd.S k108 108 w' w.heap.size (fun k_ => some k_ ≠ (v10 : Value).ownBlock) (.slice Ao33 x9_2.length co33) x9_2) ∧ Aside0 (w'.heap[gb218]? = some (.cells #[.int .i64 a0_0, .int .i64 a0_1] 47 (0, 0))) ∧ Aside0 (w'.heap[gb222]? = some (Mp.mObj Value.bool x223000_4)) ∧ Aside0 (Below w.heap.size w w'))
         case atStart => exact ⟨(y227), (0), (x223000_2), (by first | rfl | (simp; done) | (simp [*]; done)), H', ⟨Nat.le_refl _⟩, ⟨by (with_reducible repeat (first | apply Kd.S_alloc | apply Kd.S_drewN | apply Kd.S_drew)); exact Kd.S_mono HO229.out (fun _ hk => hk.2)⟩, ⟨by (with_reducible repeat (first | apply Kd.S_alloc | apply Kd.S_drewN | apply Kd.S_drew)); exact Kd.S_mono HO_9.out (fun _ hk => hk.2)⟩, ⟨zk⟩, ⟨zk⟩, ⟨zb⟩⟩
         case round =>
          clear H'
          (try clear c1); (try clear c2); (try clear p2); (try clear q2); (try clear hx2); (try clear qi2); (try clear c3); (try clear c7); (try clear c9); (try clear c11); (try clear c20); (try clear c22); (try clear p22); (try clear q22); (try clear hx22); (try clear qi22); (try clear c26); (try clear c26b0); (try clear c26b1); (try clear c27); (try clear c27b0); (try clear c27b1); (try clear c30); (try clear hcz12_0); (try clear hcz12_1); (try clear hcz14_0); (try clear hcz14_1); (try clear hcz16_0); (try clear hcz16_1); (try clear hcz18_0); (try clear hcz18_1); (try clear hfz12_0); (try clear hfz12_1); (try clear hfz14_0); (try clear hfz14_1); (try clear hfz16_0); (try clear hfz16_1); (try clear hfz18_0); (try clear hfz18_1); (try clear hx226_0); (try clear hx226_1); (try clear p2); (try clear p22); (try clear p226); (try clear q2); (try clear q22); (try clear q226)
          obtain ⟨x10_4, x52_4, x223000_4, rfl, HA, HK4, HO_10, HO_50, BK218, BK222, HB⟩ := hrel
          cases gk with
          | zero => exact absurd HA.out (by simp [impl_DrivenOut.l1])
          | succ k4 =>
           have H := HA.out
           clear HA
           simp only [impl_DrivenOut.l1] at H
           by_cases c34 : x52_4 < (x9_2.length : Int)
           ·
            rw [if_pos c34] at H
            have c34b0 : decide (x52_4 < (x9_2.length : Int)) = true := decide_eq_true c34
            clear c34
            by_cases c35 : 0 ≤ x52_4
            ·
             rw [if_pos c35] at H
             have c35b0 : decide (0 ≤ x52_4) = true := decide_eq_true c35
             clear c35
             by_cases c36 : x52_4 < (x9_2.length : Int)
             ·
              rw [if_pos c36] at H
              have c36b0 : decide (x52_4 < (x9_2.length : Int)) = true := decide_eq_true c36
              clear c36
              obtain ⟨y232, hy232⟩ : ∃ y_ : List Int, y_ = (([wrap64 (-a1), 0, a1] : List Int)) := ⟨_, rfl⟩
              replace H : (impl_DrivenOut.l2 k4 a1 a2 x10_4 x9_2 (x9_2.length : Int) x52_4 y232 (y232.length : Int) 0 a0_0 a0_1 x223000_4 ((rd_T108 x9_2 x52_4).f0) ((rd_T108 x9_2 x52_4).f1)) = some (r1, r2) := by first | (rw [hy232]; with_reducible exact H) | (have H2_ := (Option.bind_some _ _).symm.trans H; rw [hy232]; with_reducible exact H2_) | (have H2_ := (Option.bind_some _ _).symm.trans H; with_reducible exact H2_) | with_reducible exact H | (rw [hy232]; exact H) | exact H
              have Ny232 := zm hy232
              clear hy232
              have H' := zm H
              clear H
              have p230 : 0 ≤ (x52_4 : Int) := zd
              have q230 : x52_4 < (x9_2.length : Int) := zd
              obtain ⟨ad230, A230_1, c230_1, e230, hx230_0, hx230_1, hl230_1, hi230_1⟩ := at_T108 (Kd.S_reads' HO_50.out).2.2 x52_4 p230 q230
              cases e230
              obtain ⟨ce230, hce230, hMe230, hcc230⟩ := Kd.S_get HO_50.out z108 x52_4 p230 (by first | exact q230 | exact of_decide_eq_true (by first | (with_reducible assumption) | assumption) | (have e_ := (Kd.S_reads' HO_50.out).1; omega))
              obtain ⟨ve230_1, rfl, ge230_1⟩ := k108_openM hMe230
              have hv230_1 := hcc230 1 _ rfl
              rw [add_field _ _ 1 (by omega)] at hv230_1
              replace hv230_1 := Option.some.inj (hv230_1.symm.trans hx230_1)
              rw [hv230_1] at ge230_1
              have HL230_1 := zm (show Kd.R (Kd.int .i64) 3 _ _ _ _ ((rd_T108 x9_2 x52_4).f1) from ge230_1)
              clear hv230_1 ge230_1
              clear hcc230 hce230
              have HR230_1 := zm hi230_1
              have HC230_1 := zm hl230_1
              clear hi230_1 hl230_1
              replace p230 := eq_true p230
              replace q230 := eq_true q230
              go_wp2_with (first | ((with_reducible refine gate_dst (N := 12) rfl ?_); (try (refine gate_guard (by rfl) ?_; dsimp only)); refine box_event ?hg (N := 12) ?hd (cs := #[.int .i64 0, .slice none 0 0]) (t := 108) ?hr ?_; (case hd => rfl); (case hg => rfl); (case hr => first | (go_simp; done) | (go_simp; rfl)); intro gb231 hg w37 hbox hb; have n0_ := zm (Kd.S_below (Kd.S_elderB (by (with_reducible repeat (first | apply Kd.S_alloc | apply Kd.S_drewN | apply Kd.S_drew)); exact HO_10.out) gb231 (Nat.le_of_eq hg.symm)) hb); have n1_ := zm (Kd.S_below (Kd.S_elderB (by (with_reducible repeat (first | apply Kd.S_alloc | apply Kd.S_drewN | apply Kd.S_drew)); exact HO_50.out) gb231 (Nat.le_of_eq hg.symm)) hb); have n2_ := zm (Kd.R_below (by (with_reducible repeat (first | apply Kd.R_alloc | apply Kd.R_drewN | apply Kd.R_drew)); exact HL230_1.out) hb); have n3_ := zm (blk_below (g := gb218) zk hb); have n4_ := zm (blk_below (g := gb222) zk hb); have n5_ := zm (Kd.C_below (by repeat (first | (with_reducible exact HR230_1.out) | (with_reducible refine Kd.C_alloc ?_ _) | (with_reducible refine Kd.C_drewN ?_ _) | (with_reducible refine Kd.C_drew ?_) | exact HR230_1.out)) hb); have n6_ := zm (below_step zb hb); have n7_ := zm (hbox); have n8_ := zm (zs hg zb : w.heap.size ≤ gb231); have n9_ := zm (zs hg zb : w.heap.size ≤ gb231); have n10_ := zm (zl hg zk : gb218 ≠ gb231); have n11_ := zm (zg hg zk : gb231 ≠ gb218); have n12_ := zm (zl hg zk : gb222 ≠ gb231); have n13_ := zm (zg hg zk : gb231 ≠ gb222); clear HO_10; clear HO_50; clear HL230_1; clear BK218; clear BK222; clear HR230_1; clear HB; have HO_10 := n0_; have HO_50 := n1_; have HL230_1 := n2_; have BK218 := n3_; have BK222 := n4_; have HR230_1 := n5_; have HB := n6_; have BK231 := n7_; have GW231 := n8_; have GE231 := n9_; have NB218_231 := n10_; have NB231_218 := n11_; have NB222_231 := n12_; have NB231_222 := n13_; clear n0_ n1_ n2_ n3_ n4_ n5_ n6_ n7_ n8_ n9_ n10_ n11_ n12_ n13_; clear hb hbox hg; have hnb38 := NB231_218.out; have hnc38 := NB218_231.out; have hnb39 := NB231_222.out; have hnc39 := NB222_231.out; obtain ⟨hcz40_0, hcz40_1, hfz40_0, hfz40_1⟩ := zc2 BK231.out) | ((with_reducible refine gate_dst (N := 59) rfl ?_); (try (refine gate_guard (by rfl) ?_; dsimp only)); refine Kd.R_lit (Kd.int .i64) _ 3 ?hg (N := 59) ?hd (xs := ([wrap64 (-a1), 0, a1] : List Int)) (inner := [.int .i64 (wrap64 (-a1)), .int .i64 0, .int .i64 a1]) (ok := fun _ => True) (okp := fun _ => True) ?hr ?hp (fun _ hk => hk) trivial (Below.refl _ _) (Nat.le_refl _) (by simp) ?_; (case hd => rfl); (case hg => rfl); (case hr => first | (go_simp; done) | (go_simp; rfl)); (case hp => exact (Reps.one (show Kd.M (Kd.int .i64) _ _ _ (wrap64 (-a1)) [.int .i64 (wrap64 (-a1))] from rfl) (Reps.one (show Kd.M (Kd.int .i64) _ _ _ 0 [.int .i64 0] from rfl) (Reps.one (show Kd.M (Kd.int .i64) _ _ _ a1 [.int .i64 a1] from rfl) (Reps.none _ _))))); intro v233 w41 ho42 hb hg_ hnew_; clear hg_ hnew_; (first | rw [← Ny232.out] at ho42 | (simp only [Int.reduceToNat] at ho42; rw [← Ny232.out] at ho42)); have n0_ := zm (Kd.S_elder' (by (with_reducible repeat (first | apply Kd.S_alloc | apply Kd.S_drewN | apply Kd.S_drew)); exact (Kd.S_mono (Kd.S_far (p := ⟨gb231, 1, none⟩) (Kd.S_far (p := ⟨gb231, 0, none⟩) (Kd.S_mono HO_10.out (fun k_ hk => (⟨hk, hk.2⟩ : _ ∧ k_ ≠ gb231))) (fun _ hk => hk.2) (.int .i64 ((rd_T108 x9_2 x52_4).f0))) (fun _ hk => hk.2) (.slice A230_1 ((rd_T108 x9_2 x52_4).f1).length c230_1)) (fun _ h_ => h_.1))) (Kd.R_base ho42) hb); have n1_ := zm (Kd.S_elder' (by (with_reducible repeat (first | apply Kd.S_alloc | apply Kd.S_drewN | apply Kd.S_drew)); exact (Kd.S_mono (Kd.S_far (p := ⟨gb231, 1, none⟩) (Kd.S_far (p := ⟨gb231, 0, none⟩) (Kd.S_mono HO_50.out (fun k_ hk => (⟨hk, hk.2⟩ : _ ∧ k_ ≠ gb231))) (fun _ hk => hk.2) (.int .i64 ((rd_T108 x9_2 x52_4).f0))) (fun _ hk => hk.2) (.slice A230_1 ((rd_T108 x9_2 x52_4).f1).length c230_1)) (fun _ h_ => h_.1))) (Kd.R_base ho42) hb); have n2_ := zm (Kd.R_elder' (by (with_reducible repeat (first | apply Kd.R_alloc | apply Kd.R_drewN | apply Kd.R_drew)); exact (Kd.R_mono (Kd.R_far (p := ⟨gb231, 1, none⟩) (Kd.R_far (p := ⟨gb231, 0, none⟩) (Kd.R_types HL230_1.out BK231.out (by decide)) (fun _ hk => hk.2) (.int .i64 ((rd_T108 x9_2 x52_4).f0))) (fun _ hk => hk.2) (.slice A230_1 ((rd_T108 x9_2 x52_4).f1).length c230_1)) (fun _ h_ => h_.1))) (Kd.R_base ho42) hb); have n3_ := zm (Kd.R_lower (Kd.R_new' ho42 (Kd.R_lt (by (with_reducible repeat (first | apply Kd.R_alloc | apply Kd.R_drewN | apply Kd.R_drew)); exact (Kd.R_mono (Kd.R_far (p := ⟨gb231, 1, none⟩) (Kd.R_far (p := ⟨gb231, 0, none⟩) (Kd.R_types HL230_1.out BK231.out (by decide)) (fun _ hk => hk.2) (.int .i64 ((rd_T108 x9_2 x52_4).f0))) (fun _ hk => hk.2) (.slice A230_1 ((rd_T108 x9_2 x52_4).f1).length c230_1)) (fun _ h_ => h_.1))))) (below_size zb)); have n4_ := zm (blk_below (g := gb218) (o := .cells #[.int .i64 a0_0, .int .i64 a0_1] 47 (0, 0)) zK hb); have n5_ := zm (blk_below (g := gb222) (o := Mp.mObj Value.bool x223000_4) (by (with_reducible repeat (first | refine blk_drewN ?_ _ | refine blk_drew ?_ | refine blk_alloc ?_ _)); refine Mp.far ?_ NB222_231.out _; (with_reducible repeat (first | refine blk_drewN ?_ _ | refine blk_drew ?_ | refine blk_alloc ?_ _)); refine Mp.far ?_ NB222_231.out _; (with_reducible repeat (first | refine blk_drewN ?_ _ | refine blk_drew ?_ | refine blk_alloc ?_ _)); exact BK222.out) hb); have n6_ := zm (Kd.C_below ((Kd.R_reads' (by (with_reducible repeat (first | apply Kd.R_alloc | apply Kd.R_drewN | apply Kd.R_drew)); exact (Kd.R_mono (Kd.R_far (p := ⟨gb231, 1, none⟩) (Kd.R_far (p := ⟨gb231, 0, none⟩) (Kd.R_types HL230_1.out BK231.out (by decide)) (fun _ hk => hk.2) (.int .i64 ((rd_T108 x9_2 x52_4).f0))) (fun _ hk => hk.2) (.slice A230_1 ((rd_T108 x9_2 x52_4).f1).length c230_1)) (fun _ h_ => h_.1)))).2.2) hb); have n7_ := zm (blk_below (g := gb231) (o := .cells #[.int .i64 ((rd_T108 x9_2 x52_4).f0), .slice A230_1 ((rd_T108 x9_2 x52_4).f1).length c230_1] 108 (0, 0)) (by (with_reducible repeat (first | refine blk_drewN ?_ _ | refine blk_drew ?_ | refine blk_alloc ?_ _)); refine blk_put (cs := #[.int .i64 ((rd_T108 x9_2 x52_4).f0), .slice none 0 0]) ?_ 1 _ rfl; (with_reducible repeat (first | refine blk_drewN ?_ _ | refine blk_drew ?_ | refine blk_alloc ?_ _)); refine blk_put (cs := #[.int .i64 0, .slice none 0 0]) ?_ 0 _ rfl; (with_reducible repeat (first | refine blk_drewN ?_ _ | refine blk_drew ?_ | refine blk_alloc ?_ _)); exact BK231.out) hb); have n8_ := zm (below_step zb hb); clear HO_10; clear HO_50; clear HL230_1; clear BK218; clear BK222; clear HR230_1; clear BK231; clear HB; have HO_10 := n0_; have HO_50 := n1_; have HL230_1 := n2_; have HO234 := n3_; have BK218 := n4_; have BK222 := n5_; have HR230_1 := n6_; have BK231 := n7_; have HB := n8_; clear n0_ n1_ n2_ n3_ n4_ n5_ n6_ n7_ n8_; clear hb ho42; obtain ⟨Ao43, co43, eo43⟩ := Kd.R_slice HO234.out; subst eo43))
              go_loopg [10, 61] k4 (fun kq v10 v61 w' => ∃ (x10_5 : List (S108)) (x61_5 : Int) (x223000_5 : List (Int × Bool)), v61 = .int .i64 x61_5 ∧ Aside0 (impl_DrivenOut.l2 kq a1 a2 x10_5 x9_2 (x9_2.length : Int) x52_4 y232 (y232.length : Int) x61_5 a0_0 a0_1 x223000_5 ((rd_T108 x9_2 x52_4).f0) ((rd_T108 x9_2 x52_4).f1) = some (r1, r2)) ∧ Aside0 (kq ≤ k4) ∧ Aside0 (Kd.S k108 108 w' w.heap.size (fun k_ => some k_ ≠ ((.slice (some ad230) x9_2.length co33) : Value).ownBlock ∧ some k_ ≠ ((.slice Ao43 y232.length co43) : Value).ownBlock ∧ k_ ≠ gb231) v10 x10_5) ∧ Aside0 (Kd.S k108 108 w' w.heap.size (fun k_ => some k_ ≠ (v10 : Value).ownBlock ∧ some k_ ≠ ((.slice Ao43 y232.length co43) : Value).ownBlock ∧ k_ ≠ gb231) (.slice (some ad230) x9_2.length co33) x9_2) ∧ Aside0 (Kd.R (Kd.int .i64) 3 w' w.heap.size (fun _ => True) (.slice Ao43 y232.length co43) y232) ∧ Aside0 (Kd.R (Kd.int .i64) 3 w' w.heap.size (fun _ => True) (.slice A230_1 ((rd_T108 x9_2 x52_4).f1).length c230_1) ((rd_T108 x9_2 x52_4).f1)) ∧ Aside0 (w'.heap[gb218]? = some (.cells #[.int .i64 a0_0, .int .i64 a0_1] 47 (0, 0))) ∧ Aside0 (w'.heap[gb222]? = some (Mp.mObj Value.bool x223000_5)) ∧ Aside0 (w'.heap[gb231]? = some (.cells #[.int .i64 ((rd_T108 x9_2 x52_4).f0), (.slice A230_1 ((rd_T108 x9_2 x52_4).f1).length c230_1)] 108 (0, 0))) ∧ Aside0 (Below w.heap.size w w'))
              case atStart => exact ⟨(x10_4), (0), (x223000_4), (by first | rfl | (simp; done) | (simp [*]; done)), H', ⟨Nat.le_refl _⟩, ⟨by (with_reducible repeat (first | apply Kd.S_alloc | apply Kd.S_drewN | apply Kd.S_drew)); exact Kd.S_mono HO_10.out (fun _ hk => ⟨hk.1.1, ⟨hk.2, hk.1.2⟩⟩)⟩, ⟨by (with_reducible repeat (first | apply Kd.S_alloc | apply Kd.S_drewN | apply Kd.S_drew)); exact Kd.S_mono HO_50.out (fun _ hk => ⟨hk.1.1, ⟨hk.2, hk.1.2⟩⟩)⟩, ⟨by (with_reducible repeat (first | apply Kd.R_alloc | apply Kd.R_drewN | apply Kd.R_drew)); exact Kd.R_mono HO234.out (fun _ hk => trivial)⟩, ⟨by (with_reducible repeat (first | apply Kd.R_alloc | apply Kd.R_drewN | apply Kd.R_drew)); exact Kd.R_mono HL230_1.out (fun _ _ => trivial)⟩, ⟨zk⟩, ⟨zk⟩, ⟨zk⟩, ⟨zb⟩⟩
              case round =>
               clear H'
               (try clear c1); (try clear c2); (try clear p2); (try clear q2); (try clear hx2); (try clear qi2); (try clear c3); (try clear p6); (try clear c7); (try clear c9); (try clear c11); (try clear c20); (try clear c22); (try clear p22); (try clear q22); (try clear hx22); (try clear qi22); (try clear c23); (try clear p23); (try clear q23); (try clear hx23); (try clear c26); (try clear c26b0); (try clear c26b1); (try clear c27); (try clear c27b0); (try clear c27b1); (try clear c30); (try clear c34); (try clear c34b0); (try clear c35); (try clear c35b0); (try clear c36); (try clear c36b0); (try clear c38); (try clear c39); (try clear hcz12_0); (try clear hcz12_1); (try clear hcz14_0); (try clear hcz14_1); (try clear hcz16_0); (try clear hcz16_1); (try clear hcz18_0); (try clear hcz18_1); (try clear hcz40_0); (try clear hcz40_1); (try clear hfz12_0); (try clear hfz12_1); (try clear hfz14_0); (try clear hfz14_1); (try clear hfz16_0); (try clear hfz16_1); (try clear hfz18_0); (try clear hfz18_1); (try clear hfz40_0); (try clear hfz40_1); (try clear hx226_0); (try clear hx226_1); (try clear hx230_0); (try clear hx230_1); (try clear p2); (try clear p22); (try clear p226); (try clear p230); (try clear q2); (try clear q22); (try clear q226); (try clear q230)
               obtain ⟨x10_5, x61_5, x223000_5, rfl, HA, HK5, HO_10, HO_50, HO_59, HM230_1, BK218, BK222, BK231, HB⟩ := hrel
               cases gk with
               | zero => exact absurd HA.out (by simp [impl_DrivenOut.l2])
               | succ k5 =>
                have H := HA.out
                clear HA
                simp only [impl_DrivenOut.l2] at H
                by_cases c44 : x61_5 < (y232.length : Int)
                ·
                 rw [if_pos c44] at H
                 have c44b0 : decide (x61_5 < (y232.length : Int)) = true := decide_eq_true c44
                 clear c44
                 by_cases c45 : 0 ≤ x61_5
                 ·
                  rw [if_pos c45] at H
                  have c45b0 : decide (0 ≤ x61_5) = true := decide_eq_true c45
                  clear c45
                  by_cases c46 : x61_5 < (y232.length : Int)
                  ·
                   rw [if_pos c46] at H
                   have c46b0 : decide (x61_5 < (y232.length : Int)) = true := decide_eq_true c46
                   clear c46
                   replace H := Option.bind_eq_some_iff.mp H
                   obtain ⟨t236, A470, H⟩ := H
                   (try dsimp only at H)
                   have A47 := zm A470
                   clear A470
                   have HC48 := zm H
                   clear H
                   have p235 : 0 ≤ (x61_5 : Int) := zd
                   have q235 : x61_5 < (y232.length : Int) := zd
                   obtain ⟨ad235, e235, hx235_0⟩ := Kd.at_int (Kd.R_reads' HO_59.out).2.2 x61_5 p235 q235
                   cases e235
                   replace p235 := eq_true p235
                   replace q235 := eq_true q235
                   have hnb49 := NB218_222.out
                   have hnc49 := NB222_218.out
                   have hnb50 := NB218_231.out
                   have hnc50 := NB231_218.out
                   obtain ⟨hcz51_0, hcz51_1, hfz51_0, hfz51_1⟩ := zc2 BK218.out
                   have hnb52 := NB231_222.out
                   have hnc52 := NB222_231.out
                   obtain ⟨hcz53_0, hcz53_1, hfz53_0, hfz53_1⟩ := zc2 BK231.out
                   go_upto_region 14 with (first | ((with_reducible refine gate_callee (f := 100) rfl ?_); refine goesA_ (some 69) Try.func100 #[.agg #[.int .i64 a0_0, .int .i64 a0_1], .int .i64 ((rd_T108 x9_2 x52_4).f0), .int .i64 (rd y232 x61_5)] rfl ?_; (with_reducible refine (impl_moved.calls a0_0 a0_1 ((rd_T108 x9_2 x52_4).f0) (rd y232 x61_5) t236 _ A47.out).mono ?_); rintro e w54 ⟨rfl, hb⟩; refine ⟨_, rfl, ?_⟩; have n0_ := zm (Kd.S_below (by (with_reducible repeat (first | apply Kd.S_alloc | apply Kd.S_drewN | apply Kd.S_drew)); exact HO_10.out) hb); have n1_ := zm (Kd.S_below (by (with_reducible repeat (first | apply Kd.S_alloc | apply Kd.S_drewN | apply Kd.S_drew)); exact HO_50.out) hb); have n2_ := zm (Kd.R_below (by (with_reducible repeat (first | apply Kd.R_alloc | apply Kd.R_drewN | apply Kd.R_drew)); exact HO_59.out) hb); have m0_ := zm (Kd.R_below (by (with_reducible repeat (first | apply Kd.R_alloc | apply Kd.R_drewN | apply Kd.R_drew)); exact HM230_1.out) hb); clear HM230_1; have HM230_1 := m0_; clear m0_; have n3_ := zm (blk_below (g := gb218) zk hb); have n4_ := zm (blk_below (g := gb222) zk hb); have n5_ := zm (blk_below (g := gb231) zk hb); have n6_ := zm (below_step zb hb); clear HO_10; clear HO_50; clear HO_59; clear BK218; clear BK222; clear BK231; clear HB; have HO_10 := n0_; have HO_50 := n1_; have HO_59 := n2_; have BK218 := n3_; have BK222 := n4_; have BK231 := n5_; have HB := n6_; clear n0_ n1_ n2_ n3_ n4_ n5_ n6_; (try clear hb); (try clear hb2); (try clear hk); (try clear hi)))
                   (try simp only [Act.put, List.setIfInBounds_toArray, List.set_cons_zero, List.set_cons_succ])
                   go_cut [77] (fun v77 wc => ∃ (kq : Nat) (x77_47 : Bool), v77 = .bool x77_47 ∧ Aside0 (impl_DrivenOut.j5 kq a1 a2 x10_5 (rd y232 x61_5) t236 x9_2 (x9_2.length : Int) x52_4 y232 (y232.length : Int) x61_5 x77_47 a0_0 a0_1 x223000_5 ((rd_T108 x9_2 x52_4).f0) ((rd_T108 x9_2 x52_4).f1) = some (r1, r2)) ∧ Aside0 (kq ≤ k5) ∧ Aside0 (Kd.S k108 108 wc w.heap.size (fun k_ => some k_ ≠ ((.slice (some ad230) x9_2.length co33) : Value).ownBlock ∧ some k_ ≠ ((.slice (some ad235) y232.length co43) : Value).ownBlock ∧ k_ ≠ gb231) u10 x10_5) ∧ Aside0 (Kd.S k108 108 wc w.heap.size (fun k_ => some k_ ≠ (u10 : Value).ownBlock ∧ some k_ ≠ ((.slice (some ad235) y232.length co43) : Value).ownBlock ∧ k_ ≠ gb231) (.slice (some ad230) x9_2.length co33) x9_2) ∧ Aside0 (Kd.R (Kd.int .i64) 3 wc w.heap.size (fun _ => True) (.slice (some ad235) y232.length co43) y232) ∧ Aside0 (Kd.R (Kd.int .i64) 3 wc w.heap.size (fun _ => True) (.slice A230_1 ((rd_T108 x9_2 x52_4).f1).length c230_1) ((rd_T108 x9_2 x52_4).f1)) ∧ Aside0 (wc.heap[gb218]? = some (.cells #[.int .i64 a0_0, .int .i64 a0_1] 47 (0, 0))) ∧ Aside0 (wc.heap[gb222]? = some (Mp.mObj Value.bool x223000_5)) ∧ Aside0 (wc.heap[gb231]? = some (.cells #[.int .i64 ((rd_T108 x9_2 x52_4).f0), (.slice A230_1 ((rd_T108 x9_2 x52_4).f1).length c230_1)] 108 (0, 0))) ∧ Aside0 (Below w.heap.size w wc))
                   case first =>
                    have H := HC48.out
                    clear HC48
                    replace H := Option.bind_eq_some_iff.mp H
                    obtain ⟨t237, A550, H⟩ := H
                    (try dsimp only at H)
                    have A55 := zm A550
                    clear A550
                    by_cases c56 : t237 = true
                    ·
                     subst c56
                     have H1 : (impl_DrivenOut.j5 k5 a1 a2 x10_5 (rd y232 x61_5) t236 x9_2 (x9_2.length : Int) x52_4 y232 (y232.length : Int) x61_5 (Mp.mget false x223000_5 t236) a0_0 a0_1 x223000_5 ((rd_T108 x9_2 x52_4).f0) ((rd_T108 x9_2 x52_4).f1)) = some (r1, r2) := by rw [if_pos rfl] at H; exact H
                     clear H
                     have H := H1
                     clear H1
                     have H' := zm H
                     clear H
                     go_wp2_with (first | ((with_reducible refine gate_callee (f := 106) rfl ?_); refine goesA_ (some 71) Try.func106 #[.int .i64 t236] rfl ?_; (with_reducible refine (impl_isOffset.calls t236 true _ A55.out).mono ?_); rintro e w' ⟨rfl, ⟨nd, rfl⟩⟩; refine ⟨_, rfl, ?_⟩; have hnb57 := NB222_218.out; have hnc57 := NB218_222.out; have hnb58 := NB222_231.out; have hnc58 := NB231_222.out; have hlz59_true : ∀ k_ : Int, (Instr.lookup 101 (.map (some gb222)) (.int .i64 k_) true).run Try.prog w54 = .ok (.tuple #[Value.bool (Mp.mget false x223000_5 k_), .bool (Mp.mhas x223000_5 k_)]) w54 := fun k_ => Mp.run_lookup (enc := Value.bool) Try.underlying101 Try.underlying3 false (fun w_ => impl_DrivenOut.zeroM101 w_) BK222.out k_ true; have hlz59_false : ∀ k_ : Int, (Instr.lookup 101 (.map (some gb222)) (.int .i64 k_) false).run Try.prog w54 = .ok (Value.bool (Mp.mget false x223000_5 k_)) w54 := fun k_ => Mp.run_lookup (enc := Value.bool) Try.underlying101 Try.underlying3 false (fun w_ => impl_DrivenOut.zeroM101 w_) BK222.out k_ false; have hlz59_truen : ∀ (n_ : Nat) (k_ : Int), (Instr.lookup 101 (.map (some gb222)) (.int .i64 k_) true).run Try.prog (w54.drewN n_) = .ok (.tuple #[Value.bool (Mp.mget false x223000_5 k_), .bool (Mp.mhas x223000_5 k_)]) (w54.drewN n_) := fun n_ k_ => Mp.run_lookup (enc := Value.bool) Try.underlying101 Try.underlying3 false (fun w_ => impl_DrivenOut.zeroM101 w_) (show (w54.drewN n_).heap[gb222]? = _ from BK222.out) k_ true; have hlz59_falsen : ∀ (n_ : Nat) (k_ : Int), (Instr.lookup 101 (.map (some gb222)) (.int .i64 k_) false).run Try.prog (w54.drewN n_) = .ok (Value.bool (Mp.mget false x223000_5 k_)) (w54.drewN n_) := fun n_ k_ => Mp.run_lookup (enc := Value.bool) Try.underlying101 Try.underlying3 false (fun w_ => impl_DrivenOut.zeroM101 w_) (show (w54.drewN n_).heap[gb222]? = _ from BK222.out) k_ false))
                     go_meet
                     case rel => exact ⟨_, (Mp.mget false x223000_5 t236), (by first | rfl | (simp; done) | (simp [*]; done)), H', ⟨by have := HJ3.out; have := HK2.out; have := HJ24.out; have := HK4.out; have := HK5.out; first | omega | exact Nat.le_refl _⟩, ⟨by (with_reducible repeat (first | apply Kd.S_alloc | apply Kd.S_drewN | apply Kd.S_drew)); exact HO_10.out⟩, ⟨by (with_reducible repeat (first | apply Kd.S_alloc | apply Kd.S_drewN | apply Kd.S_drew)); exact HO_50.out⟩, ⟨by (with_reducible repeat (first | apply Kd.R_alloc | apply Kd.R_drewN | apply Kd.R_drew)); exact HO_59.out⟩, ⟨by (with_reducible repeat (first | apply Kd.R_alloc | apply Kd.R_drewN | apply Kd.R_drew)); exact HM230_1.out⟩, ⟨zk⟩, ⟨zk⟩, ⟨zk⟩, ⟨zb⟩⟩
                    ·
                     replace c56 := Bool.eq_false_iff.mpr c56
                     subst c56
                     have H1 : (impl_DrivenOut.j5 k5 a1 a2 x10_5 (rd y232 x61_5) t236 x9_2 (x9_2.length : Int) x52_4 y232 (y232.length : Int) x61_5 true a0_0 a0_1 x223000_5 ((rd_T108 x9_2 x52_4).f0) ((rd_T108 x9_2 x52_4).f1)) = some (r1, r2) := by rw [if_neg (show ¬ (false = true) by decide)] at H; exact H
                     clear H
                     have H := H1
                     clear H1
                     have H' := zm H
                     clear H
                     go_wp2_with (first | ((with_reducible refine gate_callee (f := 106) rfl ?_); refine goesA_ (some 71) Try.func106 #[.int .i64 t236] rfl ?_; (with_reducible refine (impl_isOffset.calls t236 false _ A55.out).mono ?_); rintro e w' ⟨rfl, ⟨nd, rfl⟩⟩; refine ⟨_, rfl, ?_⟩))
                     go_meet
                     case rel => exact ⟨_, (true), (by first | rfl | (simp; done) | (simp [*]; done)), H', ⟨by have := HJ3.out; have := HK2.out; have := HJ24.out; have := HK4.out; have := HK5.out; first | omega | exact Nat.le_refl _⟩, ⟨by (with_reducible repeat (first | apply Kd.S_alloc | apply Kd.S_drewN | apply Kd.S_drew)); exact HO_10.out⟩, ⟨by (with_reducible repeat (first | apply Kd.S_alloc | apply Kd.S_drewN | apply Kd.S_drew)); exact HO_50.out⟩, ⟨by (with_reducible repeat (first | apply Kd.R_alloc | apply Kd.R_drewN | apply Kd.R_drew)); exact HO_59.out⟩, ⟨by (with_reducible repeat (first | apply Kd.R_alloc | apply Kd.R_drewN | apply Kd.R_drew)); exact HM230_1.out⟩, ⟨zk⟩, ⟨zk⟩, ⟨zk⟩, ⟨zb⟩⟩
                   case rest =>
                    clear HC48
                    (try clear c1); (try clear c2); (try clear p2); (try clear q2); (try clear hx2); (try clear qi2); (try clear c3); (try clear c4); (try clear c5); (try clear p6); (try clear c7); (try clear c9); (try clear c10); (try clear c11); (try clear c20); (try clear c22); (try clear p22); (try clear q22); (try clear hx22); (try clear qi22); (try clear c23); (try clear p23); (try clear q23); (try clear hx23); (try clear c26); (try clear c26b0); (try clear c26b1); (try clear c27); (try clear c27b0); (try clear c27b1); (try clear c30); (try clear c34); (try clear c34b0); (try clear c35); (try clear c35b0); (try clear c36); (try clear c36b0); (try clear c38); (try clear c39); (try clear c44); (try clear c44b0); (try clear c45); (try clear c45b0); (try clear c46); (try clear c46b0); (try clear c49); (try clear c50); (try clear c52); (try clear c56); (try clear c57); (try clear c58); (try clear hcz12_0); (try clear hcz12_1); (try clear hcz14_0); (try clear hcz14_1); (try clear hcz16_0); (try clear hcz16_1); (try clear hcz18_0); (try clear hcz18_1); (try clear hcz40_0); (try clear hcz40_1); (try clear hcz51_0); (try clear hcz51_1); (try clear hcz53_0); (try clear hcz53_1); (try clear hfz12_0); (try clear hfz12_1); (try clear hfz14_0); (try clear hfz14_1); (try clear hfz16_0); (try clear hfz16_1); (try clear hfz18_0); (try clear hfz18_1); (try clear hfz40_0); (try clear hfz40_1); (try clear hfz51_0); (try clear hfz51_1); (try clear hfz53_0); (try clear hfz53_1); (try clear hx226_0); (try clear hx226_1); (try clear hx230_0); (try clear hx230_1); (try clear hx235_0); (try clear p2); (try clear p22); (try clear p226); (try clear p23); (try clear p230); (try clear p235); (try clear p6); (try clear q2); (try clear q22); (try clear q226); (try clear q23); (try clear q230); (try clear q235)
                    obtain ⟨kq, x77_47, rfl, HA, HJ47, HO_10, HO_50, HO_59, HM230_1, BK218, BK222, BK231, HB⟩ := hcut
                    cases kq with
                    | zero => exact absurd HA.out (by simp [impl_DrivenOut.j5])
                    | succ kj47 =>
                     have H := HA.out
                     clear HA
                     simp only [impl_DrivenOut.j5] at H
                     by_cases c60 : x77_47 = true
                     ·
                      subst c60
                      have H1 : (impl_DrivenOut.l2 kj47 a1 a2 x10_5 x9_2 (x9_2.length : Int) x52_4 y232 (y232.length : Int) (wrap64 (x61_5 + 1)) a0_0 a0_1 x223000_5 ((rd_T108 x9_2 x52_4).f0) ((rd_T108 x9_2 x52_4).f1)) = some (r1, r2) := by rw [if_pos rfl] at H; exact H
                      clear H
                      have H := H1
                      clear H1
                      have H' := zm H
                      clear H
                      go_wp2
                      go_roundg kj47
                      case measure => have := HJ3.out; have := HK2.out; have := HJ24.out; have := HK4.out; have := HK5.out; have := HJ47.out; omega
                      case rel => exact ⟨(x10_5), (wrap64 (x61_5 + 1)), (x223000_5), (by first | rfl | (simp; done) | (simp [*]; done)), H', ⟨by have := HJ3.out; have := HK2.out; have := HJ24.out; have := HK4.out; have := HK5.out; have := HJ47.out; omega⟩, ⟨by (with_reducible repeat (first | apply Kd.S_alloc | apply Kd.S_drewN | apply Kd.S_drew)); exact HO_10.out⟩, ⟨by (with_reducible repeat (first | apply Kd.S_alloc | apply Kd.S_drewN | apply Kd.S_drew)); exact HO_50.out⟩, ⟨by (with_reducible repeat (first | apply Kd.R_alloc | apply Kd.R_drewN | apply Kd.R_drew)); exact HO_59.out⟩, ⟨by (with_reducible repeat (first | apply Kd.R_alloc | apply Kd.R_drewN | apply Kd.R_drew)); exact HM230_1.out⟩, ⟨zk⟩, ⟨zk⟩, ⟨zk⟩, ⟨zb⟩⟩
                     ·
                      replace c60 := Bool.eq_false_iff.mpr c60
                      subst c60
                      have H1 : ((slices_Clone_int_int.f ((rd_T108 x9_2 x52_4).f1)).bind fun t238 => (if t238.length < 17592186044416 then ((some (t238 ++ [(rd y232 x61_5)] : List Int)).bind fun y241 => ((impl_distance.f t236 0).bind fun t244 => (if t244 > a2 then (some (y241, true)) else (if x10_5.length < 4398046511104 then (impl_DrivenOut.l2 kj47 a1 a2 (x10_5 ++ [(⟨t236, y241⟩ : S108)]) x9_2 (x9_2.length : Int) x52_4 y232 (y232.length : Int) (wrap64 (x61_5 + 1)) a0_0 a0_1 (Mp.mput x223000_5 t236 true) ((rd_T108 x9_2 x52_4).f0) ((rd_T108 x9_2 x52_4).f1)) else (none))))) else (none))) = some (r1, r2) := by rw [if_neg (show ¬ (false = true) by decide)] at H; exact H
                      clear H
                      have H := H1
                      clear H1
                      replace H := Option.bind_eq_some_iff.mp H
                      obtain ⟨t238, A610, H⟩ := H
                      (try dsimp only at H)
                      have A61 := zm A610
                      clear A610
                      by_cases c62 : t238.length < 17592186044416
                      ·
                       rw [if_pos c62] at H
                       have LMc62 := zm c62
                       clear c62
                       obtain ⟨y241, hy241⟩ : ∃ y_ : List Int, y_ = (t238 ++ [(rd y232 x61_5)]) := ⟨_, rfl⟩
                       replace H : ((impl_distance.f t236 0).bind fun t244 => (if t244 > a2 then (some (y241, true)) else (if x10_5.length < 4398046511104 then (impl_DrivenOut.l2 kj47 a1 a2 (x10_5 ++ [(⟨t236, y241⟩ : S108)]) x9_2 (x9_2.length : Int) x52_4 y232 (y232.length : Int) (wrap64 (x61_5 + 1)) a0_0 a0_1 (Mp.mput x223000_5 t236 true) ((rd_T108 x9_2 x52_4).f0) ((rd_T108 x9_2 x52_4).f1)) else (none)))) = some (r1, r2) := by first | (rw [hy241]; with_reducible exact H) | (have H2_ := (Option.bind_some _ _).symm.trans H; rw [hy241]; with_reducible exact H2_) | (have H2_ := (Option.bind_some _ _).symm.trans H; with_reducible exact H2_) | with_reducible exact H | (rw [hy241]; exact H) | exact H
                       have Ny241 := zm hy241
                       clear hy241
                       replace H := Option.bind_eq_some_iff.mp H
                       obtain ⟨t244, A630, H⟩ := H
                       (try dsimp only at H)
                       have A63 := zm A630
                       clear A630
                       by_cases c64 : t244 > a2
                       ·
                        rw [if_pos c64] at H
                        have c64b0 : decide (a2 < t244) = true := decide_eq_true c64
                        clear c64
                        simp only [Option.some.injEq, Prod.mk.injEq] at H
                        obtain ⟨rfl, rfl⟩ := H
                        have hnb65 := NB231_218.out
                        have hnc65 := NB218_231.out
                        have hnb66 := NB231_222.out
                        have hnc66 := NB222_231.out
                        obtain ⟨hcz67_0, hcz67_1, hfz67_0, hfz67_1⟩ := zc2 BK231.out
                        go_wp2_with (first | ((with_reducible refine gate_callee (f := 107) rfl ?_); refine goesA_ (some 80) Try.func107 #[.slice A230_1 ((rd_T108 x9_2 x52_4).f1).length c230_1] rfl ?_; (with_reducible refine (slices_Clone_int_int.calls _ _ ((rd_T108 x9_2 x52_4).f1) t238 _ ?side1 ?side2 A61.out).mono ?_); (case side1 => repeat (first | exact (Kd.R_reads' HM230_1.out).2.2 | (with_reducible refine Kd.C_alloc ?_ _) | (with_reducible refine Kd.C_drewN ?_ _) | (with_reducible refine Kd.C_drew ?_))); (case side2 => exact HC230_1.out); rintro e w68 ⟨v239, rfl, ho0, hb⟩; refine ⟨_, rfl, ?_⟩; have n0_ := zm (Kd.S_elder' (by (with_reducible repeat (first | apply Kd.S_alloc | apply Kd.S_drewN | apply Kd.S_drew)); exact HO_10.out) (Kd.R_base ho0) hb); have n1_ := zm (Kd.S_elder' (by (with_reducible repeat (first | apply Kd.S_alloc | apply Kd.S_drewN | apply Kd.S_drew)); exact HO_50.out) (Kd.R_base ho0) hb); have n2_ := zm (Kd.R_elder' (by (with_reducible repeat (first | apply Kd.R_alloc | apply Kd.R_drewN | apply Kd.R_drew)); exact HO_59.out) (Kd.R_base ho0) hb); have m0_ := zm (Kd.R_elder' (by (with_reducible repeat (first | apply Kd.R_alloc | apply Kd.R_drewN | apply Kd.R_drew)); exact HM230_1.out) (Kd.R_base ho0) hb); clear HM230_1; have HM230_1 := m0_; clear m0_; have n3_ := zm (Kd.R_lower (Kd.R_new' ho0 (Kd.R_lt (by (with_reducible repeat (first | apply Kd.R_alloc | apply Kd.R_drewN | apply Kd.R_drew)); exact HO_59.out))) (below_size zb)); have n4_ := zm (blk_below (g := gb218) zk hb); have n5_ := zm (blk_below (g := gb222) zk hb); have n6_ := zm (blk_below (g := gb231) zk hb); have n7_ := zm (below_step zb hb); clear HO_10; clear HO_50; clear HO_59; clear BK218; clear BK222; clear BK231; clear HB; have HO_10 := n0_; have HO_50 := n1_; have HO_59 := n2_; have HO240 := n3_; have BK218 := n4_; have BK222 := n5_; have BK231 := n6_; have HB := n7_; clear n0_ n1_ n2_ n3_ n4_ n5_ n6_ n7_; (try clear hb); (try clear hb2); (try clear hk); (try clear hi); (try clear ho0)) | ((with_reducible refine gate_builtin (b := .append) (xs := #[.tmp 80, .tmp 82]) rfl ?_); (try (refine gate_guard (by rfl) ?_; dsimp only)); at_builtin; refine Kd.R_append (Kd.int .i64) (w0 := w) w.heap.size rfl (.tmp 80) (.tmp 82) 23 3 (.int .i64 0) 8 rfl Try.underlying23 info3 rfl (by decide) (by omega) v239 t238 (rd y232 x61_5) [.int .i64 (rd y232 x61_5)] (fun k_ => some k_ ≠ (.slice (some ad235) y232.length co43 : Value).ownBlock) (fun _ => False) rfl rfl ?aP (fun _ hk => hk.elim) ?aF ?aO ?aB ?aS ?aL ?_; (case aP => exact rfl); (case aB => exact zb); (case aF => exact (fun k_ hk => Kd.fresh' (Kd.R_lt (by (with_reducible repeat (first | apply Kd.R_alloc | apply Kd.R_drewN | apply Kd.R_drew)); exact HO_59.out)) k_ hk)); (case aO => exact (by (with_reducible repeat (first | apply Kd.R_alloc | apply Kd.R_drewN | apply Kd.R_drew)); exact Kd.R_mono HO240.out (fun _ hk => hk.2))); (case aS => exact (below_size zb)); (case aL => have := LMc62.out; omega); intro v242 w69 ho hb hg hat; rw [← Ny241.out] at ho; have n0_ := zm (Kd.S_after (ok := (fun k_ => some k_ ≠ (.slice (some ad230) x9_2.length co33 : Value).ownBlock ∧ some k_ ≠ (.slice (some ad235) y232.length co43 : Value).ownBlock ∧ k_ ≠ gb231)) (by (with_reducible repeat (first | apply Kd.S_alloc | apply Kd.S_drewN | apply Kd.S_drew)); exact HO_10.out) hg hat); have n1_ := zm (Kd.S_after (ok := (fun k_ => some k_ ≠ (u10 : Value).ownBlock ∧ some k_ ≠ (.slice (some ad235) y232.length co43 : Value).ownBlock ∧ k_ ≠ gb231)) (by (with_reducible repeat (first | apply Kd.S_alloc | apply Kd.S_drewN | apply Kd.S_drew)); exact HO_50.out) hg hat); have n2_ := zm (Kd.R_after (ok := (fun _ => True)) (by (with_reducible repeat (first | apply Kd.R_alloc | apply Kd.R_drewN | apply Kd.R_drew)); exact HO_59.out) hg hat); have m0_ := zm (Kd.R_after (ok := (fun _ => True)) (by (with_reducible repeat (first | apply Kd.R_alloc | apply Kd.R_drewN | apply Kd.R_drew)); exact HM230_1.out) hg hat); clear HM230_1; have HM230_1 := m0_; clear m0_; have n3_ := zm (blk_grown (g := gb218) (o := .cells #[.int .i64 a0_0, .int .i64 a0_1] 47 (0, 0)) zk hg (Kd.R_ne HO240.out BK218.out (by decide))); have n4_ := zm (blk_grown (g := gb222) (o := Mp.mObj Value.bool x223000_5) zk hg (Mp.R_ne HO240.out BK222.out)); have n5_ := zm (blk_grown (g := gb231) (o := .cells #[.int .i64 ((rd_T108 x9_2 x52_4).f0), .slice A230_1 ((rd_T108 x9_2 x52_4).f1).length c230_1] 108 (0, 0)) zk hg (Kd.R_ne HO240.out BK231.out (by decide))); have n6_ := zm (hb); have n7_ := zm (ho); clear HO_10; clear HO_50; clear HO_59; clear BK218; clear BK222; clear BK231; clear HB; clear HO240; have HO_10 := n0_; have HO_50 := n1_; have HO_59 := n2_; have BK218 := n3_; have BK222 := n4_; have BK231 := n5_; have HB := n6_; have HO243 := n7_; clear n0_ n1_ n2_ n3_ n4_ n5_ n6_ n7_; clear ho hb hg hat) | ((with_reducible refine gate_callee (f := 99) rfl ?_); refine goesA_ (some 85) Try.func99 #[.int .i64 t236, .int .i64 0] rfl ?_; (with_reducible refine (impl_distance.calls t236 0 t244 _ A63.out).mono ?_); rintro e w70 ⟨rfl, hb⟩; refine ⟨_, rfl, ?_⟩; have n0_ := zm (Kd.S_below (by (with_reducible repeat (first | apply Kd.S_alloc | apply Kd.S_drewN | apply Kd.S_drew)); exact HO_10.out) hb); have n1_ := zm (Kd.S_below (by (with_reducible repeat (first | apply Kd.S_alloc | apply Kd.S_drewN | apply Kd.S_drew)); exact HO_50.out) hb); have n2_ := zm (Kd.R_below (by (with_reducible repeat (first | apply Kd.R_alloc | apply Kd.R_drewN | apply Kd.R_drew)); exact HO_59.out) hb); have m0_ := zm (Kd.R_below (by (with_reducible repeat (first | apply Kd.R_alloc | apply Kd.R_drewN | apply Kd.R_drew)); exact HM230_1.out) hb); clear HM230_1; have HM230_1 := m0_; clear m0_; have n3_ := zm (Kd.R_below (by (with_reducible repeat (first | apply Kd.R_alloc | apply Kd.R_drewN | apply Kd.R_drew)); exact HO243.out) hb); have n4_ := zm (blk_below (g := gb218) zk hb); have n5_ := zm (blk_below (g := gb222) zk hb); have n6_ := zm (blk_below (g := gb231) zk hb); have n7_ := zm (below_step zb hb); clear HO_10; clear HO_50; clear HO_59; clear HO243; clear BK218; clear BK222; clear BK231; clear HB; have HO_10 := n0_; have HO_50 := n1_; have HO_59 := n2_; have HO243 := n3_; have BK218 := n4_; have BK222 := n5_; have BK231 := n6_; have HB := n7_; clear n0_ n1_ n2_ n3_ n4_ n5_ n6_ n7_; (try clear hb); (try clear hb2); (try clear hk); (try clear hi)))
                        go_ret2
                        exact ⟨_, zr, by (with_reducible repeat (first | apply Kd.R_alloc | apply Kd.R_drewN | apply Kd.R_drew)); exact Kd.R_mono HO243.out (fun _ hk => trivial), zb⟩
                       ·
                        rw [if_neg c64] at H
                        have c64b0 : decide (a2 < t244) = false := decide_eq_false c64
                        clear c64
                        by_cases c71 : x10_5.length < 4398046511104
                        ·
                         rw [if_pos c71] at H
                         have LMc71 := zm c71
                         clear c71
                         obtain ⟨y245, hy245⟩ : ∃ y_ : List (S108), y_ = (x10_5 ++ [(⟨t236, y241⟩ : S108)]) := ⟨_, rfl⟩
                         replace H : (impl_DrivenOut.l2 kj47 a1 a2 y245 x9_2 (x9_2.length : Int) x52_4 y232 (y232.length : Int) (wrap64 (x61_5 + 1)) a0_0 a0_1 (Mp.mput x223000_5 t236 true) ((rd_T108 x9_2 x52_4).f0) ((rd_T108 x9_2 x52_4).f1)) = some (r1, r2) := by first | (rw [hy245]; with_reducible exact H) | (have H2_ := (Option.bind_some _ _).symm.trans H; rw [hy245]; with_reducible exact H2_) | (have H2_ := (Option.bind_some _ _).symm.trans H; with_reducible exact H2_) | with_reducible exact H | (rw [hy245]; exact H) | exact H
                         have Ny245 := zm hy245
                         clear hy245
                         have H' := zm H
                         clear H
                         have hnb72 := NB231_218.out
                         have hnc72 := NB218_231.out
                         have hnb73 := NB231_222.out
                         have hnc73 := NB222_231.out
                         obtain ⟨hcz74_0, hcz74_1, hfz74_0, hfz74_1⟩ := zc2 BK231.out
                         go_wp2_with (first | ((with_reducible refine gate_callee (f := 107) rfl ?_); refine goesA_ (some 80) Try.func107 #[.slice A230_1 ((rd_T108 x9_2 x52_4).f1).length c230_1] rfl ?_; (with_reducible refine (slices_Clone_int_int.calls _ _ ((rd_T108 x9_2 x52_4).f1) t238 _ ?side1 ?side2 A61.out).mono ?_); (case side1 => repeat (first | exact (Kd.R_reads' HM230_1.out).2.2 | (with_reducible refine Kd.C_alloc ?_ _) | (with_reducible refine Kd.C_drewN ?_ _) | (with_reducible refine Kd.C_drew ?_))); (case side2 => exact HC230_1.out); rintro e w75 ⟨v239, rfl, ho0, hb⟩; refine ⟨_, rfl, ?_⟩; have n0_ := zm (Kd.S_elder' (by (with_reducible repeat (first | apply Kd.S_alloc | apply Kd.S_drewN | apply Kd.S_drew)); exact HO_10.out) (Kd.R_base ho0) hb); have n1_ := zm (Kd.S_elder' (by (with_reducible repeat (first | apply Kd.S_alloc | apply Kd.S_drewN | apply Kd.S_drew)); exact HO_50.out) (Kd.R_base ho0) hb); have n2_ := zm (Kd.R_elder' (by (with_reducible repeat (first | apply Kd.R_alloc | apply Kd.R_drewN | apply Kd.R_drew)); exact HO_59.out) (Kd.R_base ho0) hb); have m0_ := zm (Kd.R_elder' (by (with_reducible repeat (first | apply Kd.R_alloc | apply Kd.R_drewN | apply Kd.R_drew)); exact HM230_1.out) (Kd.R_base ho0) hb); clear HM230_1; have HM230_1 := m0_; clear m0_; have n3_ := zm (Kd.R_lower (Kd.R_new' ho0 (Kd.R_lt (by (with_reducible repeat (first | apply Kd.R_alloc | apply Kd.R_drewN | apply Kd.R_drew)); exact HO_59.out))) (below_size zb)); have n4_ := zm (blk_below (g := gb218) zk hb); have n5_ := zm (blk_below (g := gb222) zk hb); have n6_ := zm (blk_below (g := gb231) zk hb); have n7_ := zm (below_step zb hb); clear HO_10; clear HO_50; clear HO_59; clear BK218; clear BK222; clear BK231; clear HB; have HO_10 := n0_; have HO_50 := n1_; have HO_59 := n2_; have HO240 := n3_; have BK218 := n4_; have BK222 := n5_; have BK231 := n6_; have HB := n7_; clear n0_ n1_ n2_ n3_ n4_ n5_ n6_ n7_; (try clear hb); (try clear hb2); (try clear hk); (try clear hi); (try clear ho0)) | ((with_reducible refine gate_builtin (b := .append) (xs := #[.tmp 80, .tmp 82]) rfl ?_); (try (refine gate_guard (by rfl) ?_; dsimp only)); at_builtin; refine Kd.R_append (Kd.int .i64) (w0 := w) w.heap.size rfl (.tmp 80) (.tmp 82) 23 3 (.int .i64 0) 8 rfl Try.underlying23 info3 rfl (by decide) (by omega) v239 t238 (rd y232 x61_5) [.int .i64 (rd y232 x61_5)] (fun k_ => some k_ ≠ (.slice (some ad235) y232.length co43 : Value).ownBlock) (fun _ => False) rfl rfl ?aP (fun _ hk => hk.elim) ?aF ?aO ?aB ?aS ?aL ?_; (case aP => exact rfl); (case aB => exact zb); (case aF => exact (fun k_ hk => Kd.fresh' (Kd.R_lt (by (with_reducible repeat (first | apply Kd.R_alloc | apply Kd.R_drewN | apply Kd.R_drew)); exact HO_59.out)) k_ hk)); (case aO => exact (by (with_reducible repeat (first | apply Kd.R_alloc | apply Kd.R_drewN | apply Kd.R_drew)); exact Kd.R_mono HO240.out (fun _ hk => hk.2))); (case aS => exact (below_size zb)); (case aL => have := LMc62.out; omega); intro v242 w76 ho hb hg hat; rw [← Ny241.out] at ho; have n0_ := zm (Kd.S_after (ok := (fun k_ => some k_ ≠ (.slice (some ad230) x9_2.length co33 : Value).ownBlock ∧ some k_ ≠ (.slice (some ad235) y232.length co43 : Value).ownBlock ∧ k_ ≠ gb231)) (by (with_reducible repeat (first | apply Kd.S_alloc | apply Kd.S_drewN | apply Kd.S_drew)); exact HO_10.out) hg hat); have n1_ := zm (Kd.S_after (ok := (fun k_ => some k_ ≠ (u10 : Value).ownBlock ∧ some k_ ≠ (.slice (some ad235) y232.length co43 : Value).ownBlock ∧ k_ ≠ gb231)) (by (with_reducible repeat (first | apply Kd.S_alloc | apply Kd.S_drewN | apply Kd.S_drew)); exact HO_50.out) hg hat); have n2_ := zm (Kd.R_after (ok := (fun _ => True)) (by (with_reducible repeat (first | apply Kd.R_alloc | apply Kd.R_drewN | apply Kd.R_drew)); exact HO_59.out) hg hat); have m0_ := zm (Kd.R_after (ok := (fun _ => True)) (by (with_reducible repeat (first | apply Kd.R_alloc | apply Kd.R_drewN | apply Kd.R_drew)); exact HM230_1.out) hg hat); clear HM230_1; have HM230_1 := m0_; clear m0_; have n3_ := zm (blk_grown (g := gb218) (o := .cells #[.int .i64 a0_0, .int .i64 a0_1] 47 (0, 0)) zk hg (Kd.R_ne HO240.out BK218.out (by decide))); have n4_ := zm (blk_grown (g := gb222) (o := Mp.mObj Value.bool x223000_5) zk hg (Mp.R_ne HO240.out BK222.out)); have n5_ := zm (blk_grown (g := gb231) (o := .cells #[.int .i64 ((rd_T108 x9_2 x52_4).f0), .slice A230_1 ((rd_T108 x9_2 x52_4).f1).length c230_1] 108 (0, 0)) zk hg (Kd.R_ne HO240.out BK231.out (by decide))); have n6_ := zm (hb); have n7_ := zm (ho); clear HO_10; clear HO_50; clear HO_59; clear BK218; clear BK222; clear BK231; clear HB; clear HO240; have HO_10 := n0_; have HO_50 := n1_; have HO_59 := n2_; have BK218 := n3_; have BK222 := n4_; have BK231 := n5_; have HB := n6_; have HO243 := n7_; clear n0_ n1_ n2_ n3_ n4_ n5_ n6_ n7_; clear ho hb hg hat) | ((with_reducible refine gate_callee (f := 99) rfl ?_); refine goesA_ (some 85) Try.func99 #[.int .i64 t236, .int .i64 0] rfl ?_; (with_reducible refine (impl_distance.calls t236 0 t244 _ A63.out).mono ?_); rintro e w77 ⟨rfl, hb⟩; refine ⟨_, rfl, ?_⟩; have n0_ := zm (Kd.S_below (by (with_reducible repeat (first | apply Kd.S_alloc | apply Kd.S_drewN | apply Kd.S_drew)); exact HO_10.out) hb); have n1_ := zm (Kd.S_below (by (with_reducible repeat (first | apply Kd.S_alloc | apply Kd.S_drewN | apply Kd.S_drew)); exact HO_50.out) hb); have n2_ := zm (Kd.R_below (by (with_reducible repeat (first | apply Kd.R_alloc | apply Kd.R_drewN | apply Kd.R_drew)); exact HO_59.out) hb); have m0_ := zm (Kd.R_below (by (with_reducible repeat (first | apply Kd.R_alloc | apply Kd.R_drewN | apply Kd.R_drew)); exact HM230_1.out) hb); clear HM230_1; have HM230_1 := m0_; clear m0_; have n3_ := zm (Kd.R_below (by (with_reducible repeat (first | apply Kd.R_alloc | apply Kd.R_drewN | apply Kd.R_drew)); exact HO243.out) hb); have n4_ := zm (blk_below (g := gb218) zk hb); have n5_ := zm (blk_below (g := gb222) zk hb); have n6_ := zm (blk_below (g := gb231) zk hb); have n7_ := zm (below_step zb hb); clear HO_10; clear HO_50; clear HO_59; clear HO243; clear BK218; clear BK222; clear BK231; clear HB; have HO_10 := n0_; have HO_50 := n1_; have HO_59 := n2_; have HO243 := n3_; have BK218 := n4_; have BK222 := n5_; have BK231 := n6_; have HB := n7_; clear n0_ n1_ n2_ n3_ n4_ n5_ n6_ n7_; (try clear hb); (try clear hb2); (try clear hk); (try clear hi)) | (at_mapUpdate; refine Mp.put_event (t := 101) Try.underlying101 Try.underlying3 Value.bool rfl rfl rfl zk rfl (t236) (true) ?hx ?hy ?_; (case hx => first | rfl | (go_simp; done) | (go_simp; rfl)); (case hy => first | rfl | (go_simp; done) | (go_simp; rfl)); intro w78 hp_ hg; have n0_ := zm (Mp.S_put (by (with_reducible repeat (first | apply Kd.S_alloc | apply Kd.S_drewN | apply Kd.S_drew)); exact HO_10.out) zk hg); have n1_ := zm (Mp.S_put (by (with_reducible repeat (first | apply Kd.S_alloc | apply Kd.S_drewN | apply Kd.S_drew)); exact HO_50.out) zk hg); have n2_ := zm (Mp.R_put (by (with_reducible repeat (first | apply Kd.R_alloc | apply Kd.R_drewN | apply Kd.R_drew)); exact HO_59.out) zk hg); have m0_ := zm (Mp.R_put (by (with_reducible repeat (first | apply Kd.R_alloc | apply Kd.R_drewN | apply Kd.R_drew)); exact HM230_1.out) zk hg); clear HM230_1; have HM230_1 := m0_; clear m0_; have n3_ := zm (Mp.blk_put (by exact BK218.out) hg NB218_222.out); have n4_ := zm (hp_); have n5_ := zm (Mp.blk_put (by exact BK231.out) hg NB231_222.out); have n6_ := zm (Mp.R_put (by (with_reducible repeat (first | apply Kd.R_alloc | apply Kd.R_drewN | apply Kd.R_drew)); exact HO243.out) zk hg); have n7_ := zm (Below.grown zb hg (below_size zb) (fun j_ hj_ => by cases hj_; exact GE222.out)); clear HO_10; clear HO_50; clear HO_59; clear BK218; clear BK222; clear BK231; clear HO243; clear HB; have HO_10 := n0_; have HO_50 := n1_; have HO_59 := n2_; have BK218 := n3_; have BK222 := n4_; have BK231 := n5_; have HO243 := n6_; have HB := n7_; clear n0_ n1_ n2_ n3_ n4_ n5_ n6_ n7_; clear hp_ hg; obtain ⟨Ao79, co79, eo79⟩ := Kd.R_slice HO243.out; subst eo79) | ((with_reducible refine gate_builtin (b := .append) (xs := #[.tmp 91, .tmp 95]) rfl ?_); (try (refine gate_guard (by rfl) ?_; dsimp only)); at_builtin; refine Kd.S_append k108 (w0 := w) w.heap.size rfl (.tmp 91) (.tmp 95) 109 108 (.agg #[(.int .i64 0), (.slice none 0 0)]) 32 rfl Try.underlying109 info108 rfl (by decide) (by omega) u10 x10_5 (⟨t236, y241⟩ : S108) [.int .i64 t236, .slice Ao79 y241.length co79] (fun k_ => some k_ ≠ (.slice (some ad230) x9_2.length co33 : Value).ownBlock ∧ some k_ ≠ (.slice (some ad235) y232.length co43 : Value).ownBlock ∧ k_ ≠ gb231) (fun k_ => some k_ = (.slice Ao79 y241.length co79 : Value).ownBlock) rfl rfl ?aP (fun k_ hk_ => ((Kd.R_mono (ok' := fun k_ => ((fun k_ => some k_ ≠ (.slice (some ad230) x9_2.length co33 : Value).ownBlock ∧ some k_ ≠ (.slice (some ad235) y232.length co43 : Value).ownBlock ∧ k_ ≠ gb231)) k_ ∧ some k_ ≠ (u10 : Value).ownBlock) (Kd.R_types (Kd.R_apart' (Kd.R_apart' (HO243.out) (Kd.S_typed HO_50.out) (by decide)) (Kd.S_typed HO_10.out) (by decide)) BK231.out (by decide)) (fun k_ hk => ⟨⟨hk.1.1.2, ⟨hk.1.1.1, hk.2⟩⟩, hk.1.2⟩))).1 k_ hk_.symm) ?aF ?aO ?aB ?aS ?aL ?_; (case aP => exact k108_mkM _ _ _ (⟨t236, y241⟩ : S108) (Kd.R_mono (Kd.R_tight rfl (Kd.R_mono (ok' := fun k_ => ((fun k_ => some k_ ≠ (.slice (some ad230) x9_2.length co33 : Value).ownBlock ∧ some k_ ≠ (.slice (some ad235) y232.length co43 : Value).ownBlock ∧ k_ ≠ gb231)) k_ ∧ some k_ ≠ (u10 : Value).ownBlock) (Kd.R_types (Kd.R_apart' (Kd.R_apart' (HO243.out) (Kd.S_typed HO_50.out) (by decide)) (Kd.S_typed HO_10.out) (by decide)) BK231.out (by decide)) (fun k_ hk => ⟨⟨hk.1.1.2, ⟨hk.1.1.1, hk.2⟩⟩, hk.1.2⟩))) (fun _ h_ => h_))); (case aB => exact zb); (case aF => exact (fun k_ hk => ⟨Kd.fresh' (Kd.S_lt (by (with_reducible repeat (first | apply Kd.S_alloc | apply Kd.S_drewN | apply Kd.S_drew)); exact HO_50.out)) k_ hk, Kd.fresh' (Kd.R_lt (by (with_reducible repeat (first | apply Kd.R_alloc | apply Kd.R_drewN | apply Kd.R_drew)); exact HO_59.out)) k_ hk, Kd.freshB (g := gb231) (o := .cells #[.int .i64 ((rd_T108 x9_2 x52_4).f0), .slice A230_1 ((rd_T108 x9_2 x52_4).f1).length c230_1] 108 (0, 0)) zk k_ hk⟩)); (case aO => exact (by (with_reducible repeat (first | apply Kd.S_alloc | apply Kd.S_drewN | apply Kd.S_drew)); exact Kd.S_mono HO_10.out (fun k_ hk => ⟨⟨hk.1.1, ⟨hk.1.2.1, hk.1.2.2⟩⟩, fun e_ => hk.2 e_⟩))); (case aS => exact (below_size zb)); (case aL => have := LMc71.out; omega); intro v246 w80 ho hb hg hat; rw [← Ny245.out] at ho; have n0_ := zm (Kd.S_after (ok := (fun k_ => some k_ ≠ (.slice (some ad235) y232.length co43 : Value).ownBlock ∧ some k_ ≠ (.slice Ao79 y241.length co79 : Value).ownBlock ∧ k_ ≠ gb231)) (by (with_reducible repeat (first | apply Kd.S_alloc | apply Kd.S_drewN | apply Kd.S_drew)); exact Kd.S_mono HO_50.out (fun _ hk => ⟨⟨hk.1.2.1, ⟨hk.2, hk.1.2.2⟩⟩, hk.1.1⟩)) hg hat); have n1_ := zm (Kd.R_over' (by (with_reducible repeat (first | apply Kd.R_alloc | apply Kd.R_drewN | apply Kd.R_drew)); exact HO_59.out) (Kd.S_typed (by (with_reducible repeat (first | apply Kd.S_alloc | apply Kd.S_drewN | apply Kd.S_drew)); exact HO_10.out)) (by decide) hg); have m0_ := zm (Kd.R_over' (by (with_reducible repeat (first | apply Kd.R_alloc | apply Kd.R_drewN | apply Kd.R_drew)); exact HM230_1.out) (Kd.S_typed (by (with_reducible repeat (first | apply Kd.S_alloc | apply Kd.S_drewN | apply Kd.S_drew)); exact HO_10.out)) (by decide) hg); clear HM230_1; have HM230_1 := m0_; clear m0_; have n2_ := zm (blk_grown (g := gb218) (o := .cells #[.int .i64 a0_0, .int .i64 a0_1] 47 (0, 0)) zk hg (Kd.S_ne HO_10.out BK218.out (by decide))); have n3_ := zm (blk_grown (g := gb222) (o := Mp.mObj Value.bool (Mp.mput x223000_5 t236 true)) zk hg (Mp.S_ne HO_10.out BK222.out)); have n4_ := zm (blk_grown (g := gb231) (o := .cells #[.int .i64 ((rd_T108 x9_2 x52_4).f0), .slice A230_1 ((rd_T108 x9_2 x52_4).f1).length c230_1] 108 (0, 0)) zk hg (Kd.S_away HO_10.out (fun _ hk => hk.1.2.2))); have n5_ := zm (hb); have n6_ := zm (ho); clear HO_50; clear HO_59; clear BK218; clear BK222; clear BK231; clear HB; clear HO_10; clear HO243; have HO_50 := n0_; have HO_59 := n1_; have BK218 := n2_; have BK222 := n3_; have BK231 := n4_; have HB := n5_; have HO247 := n6_; clear n0_ n1_ n2_ n3_ n4_ n5_ n6_; clear ho hb hg hat))
                         go_roundg kj47
                         case measure => have := HJ3.out; have := HK2.out; have := HJ24.out; have := HK4.out; have := HK5.out; have := HJ47.out; omega
                         case rel => exact ⟨(y245), (wrap64 (x61_5 + 1)), (Mp.mput x223000_5 t236 true), (by first | rfl | (simp; done) | (simp [*]; done)), H', ⟨by have := HJ3.out; have := HK2.out; have := HJ24.out; have := HK4.out; have := HK5.out; have := HJ47.out; omega⟩, ⟨by (with_reducible repeat (first | apply Kd.S_alloc | apply Kd.S_drewN | apply Kd.S_drew)); exact HO247.out⟩, ⟨by (with_reducible repeat (first | apply Kd.S_alloc | apply Kd.S_drewN | apply Kd.S_drew)); exact Kd.S_mono HO_50.out (fun _ hk => ⟨hk.2, ⟨hk.1.1, hk.1.2.2⟩⟩)⟩, ⟨by (with_reducible repeat (first | apply Kd.R_alloc | apply Kd.R_drewN | apply Kd.R_drew)); exact Kd.R_mono HO_59.out (fun _ hk => trivial)⟩, ⟨by (with_reducible repeat (first | apply Kd.R_alloc | apply Kd.R_drewN | apply Kd.R_drew)); exact Kd.R_mono HM230_1.out (fun _ hk => trivial)⟩, ⟨zk⟩, ⟨zk⟩, ⟨zk⟩, ⟨zb⟩⟩
                        ·
                         rw [if_neg c71] at H
                         exact absurd H (by simp)
                      ·
                       rw [if_neg c62] at H
                       exact absurd H (by simp)
                  ·
                   rw [if_neg c46] at H
                   exact absurd H (by simp)
                 ·
                  rw [if_neg c45] at H
                  exact absurd H (by simp)
                ·
                 rw [if_neg c44] at H
                 have c44b0 : decide (x61_5 < (y232.length : Int)) = false := decide_eq_false c44
                 clear c44
                 have H' := zm H
                 clear H
                 go_wp2
                 go_roundg k5
                 case measure => have := HJ3.out; have := HK2.out; have := HJ24.out; have := HK4.out; have := HK5.out; omega
                 case rel => exact ⟨(x10_5), (wrap64 (x52_4 + 1)), (x223000_5), (by first | rfl | (simp; done) | (simp [*]; done)), H', ⟨by have := HJ3.out; have := HK2.out; have := HJ24.out; have := HK4.out; have := HK5.out; omega⟩, ⟨by (with_reducible repeat (first | apply Kd.S_alloc | apply Kd.S_drewN | apply Kd.S_drew)); exact Kd.S_mono HO_10.out (fun _ hk => hk.1)⟩, ⟨by (with_reducible repeat (first | apply Kd.S_alloc | apply Kd.S_drewN | apply Kd.S_drew)); exact Kd.S_mono HO_50.out (fun _ hk => hk.1)⟩, ⟨zk⟩, ⟨zk⟩, ⟨zb⟩⟩
             ·
              rw [if_neg c36] at H
              exact absurd H (by simp)
            ·
             rw [if_neg c35] at H
             exact absurd H (by simp)
           ·
            rw [if_neg c34] at H
            have c34b0 : decide (x52_4 < (x9_2.length : Int)) = false := decide_eq_false c34
            clear c34
            have H' := zm H
            clear H
            go_wp2
            go_roundg k4
            case measure => have := HJ3.out; have := HK2.out; have := HJ24.out; have := HK4.out; omega
            case rel => exact ⟨(x10_4), (x223000_4), H', ⟨by have := HJ3.out; have := HK2.out; have := HJ24.out; have := HK4.out; omega⟩, ⟨by (with_reducible repeat (first | apply Kd.S_alloc | apply Kd.S_drewN | apply Kd.S_drew)); exact Kd.S_mono HO_10.out (fun _ hk => trivial)⟩, ⟨zk⟩, ⟨zk⟩, ⟨zb⟩⟩
        ·
         replace c30 := Bool.eq_false_iff.mpr c30
         subst c30
         have H1 : (some (([] : List Int), false)) = some (r1, r2) := by rw [if_neg (show ¬ (false = true) by decide)] at H; exact H
         clear H
         have H := H1
         clear H1
         simp only [Option.some.injEq, Prod.mk.injEq] at H
         obtain ⟨rfl, rfl⟩ := H
         go_wp2
         go_ret2
         exact ⟨_, zr, by first | exact Kd.R_nil _ _ _ _ _ | exact Kd.N_nil _ _ _ _ _ | exact Kd.V_nil _ _ _ _ _ | exact Kd.Q_nil _ _ _ _ _ | exact Kd.S_nil _ _ _ _ _, zb⟩

end Go.Proofs.Ytepkedhmbfkenaa.PTb
