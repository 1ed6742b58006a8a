-- Written for this claim by a program of this session (wip/tpl/patchprint.py), not by print.sh.
import Derived.Test.YtepkedhmbfkenaaPTbx0
import Derived.Test.YtepkedhmbfkenaaPTbx1
import Derived.Test.YtepkedhmbfkenaaPTbx3
import Derived.Test.YtepkedhmbfkenaaPTbx5
namespace Go.Proofs.Ytepkedhmbfkenaa.PTb
open Go.RowKit Go.Proofs.YtepkedhmbfkenaaW.PrintWords Go.Proofs.YtepkedhmbfkenaaW.PrintLast Go.Proofs.YtepkedhmbfkenaaW.PrintMore
attribute [local go_sem] max2_int min2_int max_two min_two max_three min_three max_four min_four   -- for this text's walks alone
set_option linter.unusedVariables false
set_option linter.unusedSimpArgs false

/-! ### laws_FnExactDrivenOut: function 7 -/
mutual
def laws_FnExactDrivenOut.j0 : Nat → Int → Int → List Int → Bool → List Int → Bool → Int → Int → Option (Bool)
  | 0, _, _, _, _, _, _, _, _ => none
  | k + 1, x1, x2, x7, x8, x9, x39, x249000, x249001 => if x39 = true then (some false) else ((laws_markIntS.f k x9 1).bind fun bt262 => ((laws_heldIntS.f k bt262.2 1).bind fun t264 => (if t264 < 0 then (some false) else (if t264 = bt262.1 then ((laws_toController.f x249000 x249001).bind fun bt265 => ((impl_DrivenOut.f k bt265.1 bt265.2 x1 x2).bind fun bt267 => ((laws_eqIntS.f k bt267.1 x7).bind fun t271 => (if t271 = true then (laws_FnExactDrivenOut.j1 k bt262.2 bt262.1 (bt267.2 != x8)) else (laws_FnExactDrivenOut.j1 k bt262.2 bt262.1 true))))) else (some false)))))
def laws_FnExactDrivenOut.j1 : Nat → List Int → Int → Bool → Option (Bool)
  | 0, _, _, _ => none
  | k + 1, x9, x11, x67 => if x67 = true then (some false) else ((laws_heldIntS.f k x9 1).bind fun t272 => (if t272 < 0 then (some false) else (if t272 = x11 then (some true) else (some false))))
end
def laws_FnExactDrivenOut.f (k : Nat) (a0_0 : Int) (a0_1 : Int) (a1 : Int) (a2 : Int) : Option (Bool) := (laws_toController.f a0_0 a0_1).bind fun bt249 => ((spec_DrivenOut.f k bt249.1 bt249.2 a1 a2).bind fun bt251 => ((laws_toController.f a0_0 a0_1).bind fun bt255 => ((impl_DrivenOut.f k bt255.1 bt255.2 a1 a2).bind fun bt257 => ((laws_eqIntS.f k bt257.1 bt251.1).bind fun t261 => (if t261 = true then (laws_FnExactDrivenOut.j0 k a1 a2 bt251.1 bt251.2 bt257.1 (bt257.2 != bt251.2) a0_0 a0_1) else (laws_FnExactDrivenOut.j0 k a1 a2 bt251.1 bt251.2 bt257.1 true a0_0 a0_1))))))
theorem laws_FnExactDrivenOut.mono_l : ∀ k, (∀ y0 y1 y2 y3 y4 y5 y6 y7, LeO (laws_FnExactDrivenOut.j0 k y0 y1 y2 y3 y4 y5 y6 y7) (laws_FnExactDrivenOut.j0 (k + 1) y0 y1 y2 y3 y4 y5 y6 y7)) ∧ (∀ y0 y1 y2, LeO (laws_FnExactDrivenOut.j1 k y0 y1 y2) (laws_FnExactDrivenOut.j1 (k + 1) y0 y1 y2))
  | 0 => ⟨fun _ _ _ _ _ _ _ _ r h => by simp [laws_FnExactDrivenOut.j0] at h, fun _ _ _ r h => by simp [laws_FnExactDrivenOut.j1] at h⟩
  | k + 1 => by
    obtain ⟨ih0, ih1⟩ := laws_FnExactDrivenOut.mono_l k
    refine ⟨?_, ?_⟩
    · intro y0 y1 y2 y3 y4 y5 y6 y7
      unfold laws_FnExactDrivenOut.j0
      repeat' first
      | (with_reducible exact ih0 _ _ _ _ _ _ _ _)
      | (with_reducible exact ih1 _ _ _)
      | (with_reducible exact impl_DrivenOut.mono _ _ _ _ _)
      | (with_reducible exact laws_eqIntS.mono _ _ _)
      | (with_reducible exact laws_heldIntS.mono _ _ _)
      | (with_reducible exact laws_markIntS.mono _ _ _)
      | (with_reducible exact spec_DrivenOut.mono _ _ _ _ _)
      | (with_reducible exact LeO.refl _)
      | (with_reducible exact LeO.none _)
      | (with_reducible refine LeO.ite ?_ ?_)
      | (with_reducible refine LeO.bind ?_ (fun _ => ?_))
      | exact ih0 _ _ _ _ _ _ _ _
      | exact ih1 _ _ _
      | exact impl_DrivenOut.mono _ _ _ _ _
      | exact laws_eqIntS.mono _ _ _
      | exact laws_heldIntS.mono _ _ _
      | exact laws_markIntS.mono _ _ _
      | exact spec_DrivenOut.mono _ _ _ _ _
      | exact LeO.none _
      | refine LeO.ite ?_ ?_
      | refine LeO.bind ?_ (fun _ => ?_)
    · intro y0 y1 y2
      unfold laws_FnExactDrivenOut.j1
      repeat' first
      | (with_reducible exact ih0 _ _ _ _ _ _ _ _)
      | (with_reducible exact ih1 _ _ _)
      | (with_reducible exact impl_DrivenOut.mono _ _ _ _ _)
      | (with_reducible exact laws_eqIntS.mono _ _ _)
      | (with_reducible exact laws_heldIntS.mono _ _ _)
      | (with_reducible exact laws_markIntS.mono _ _ _)
      | (with_reducible exact spec_DrivenOut.mono _ _ _ _ _)
      | (with_reducible exact LeO.refl _)
      | (with_reducible exact LeO.none _)
      | (with_reducible refine LeO.ite ?_ ?_)
      | (with_reducible refine LeO.bind ?_ (fun _ => ?_))
      | exact ih0 _ _ _ _ _ _ _ _
      | exact ih1 _ _ _
      | exact impl_DrivenOut.mono _ _ _ _ _
      | exact laws_eqIntS.mono _ _ _
      | exact laws_heldIntS.mono _ _ _
      | exact laws_markIntS.mono _ _ _
      | exact spec_DrivenOut.mono _ _ _ _ _
      | exact LeO.none _
      | refine LeO.ite ?_ ?_
      | refine LeO.bind ?_ (fun _ => ?_)
theorem laws_FnExactDrivenOut.mono : ∀ a0 a1 a2 a3 k, LeO (laws_FnExactDrivenOut.f k a0 a1 a2 a3) (laws_FnExactDrivenOut.f (k + 1) a0 a1 a2 a3) := by
  intro a0 a1 a2 a3 k
  obtain ⟨ih0, ih1⟩ := laws_FnExactDrivenOut.mono_l k
  unfold laws_FnExactDrivenOut.f
  repeat' first
      | (with_reducible exact ih0 _ _ _ _ _ _ _ _)
      | (with_reducible exact ih1 _ _ _)
      | (with_reducible exact impl_DrivenOut.mono _ _ _ _ _)
      | (with_reducible exact laws_eqIntS.mono _ _ _)
      | (with_reducible exact laws_heldIntS.mono _ _ _)
      | (with_reducible exact laws_markIntS.mono _ _ _)
      | (with_reducible exact spec_DrivenOut.mono _ _ _ _ _)
      | (with_reducible exact LeO.refl _)
      | (with_reducible exact LeO.none _)
      | (with_reducible refine LeO.ite ?_ ?_)
      | (with_reducible refine LeO.bind ?_ (fun _ => ?_))
      | exact ih0 _ _ _ _ _ _ _ _
      | exact ih1 _ _ _
      | exact impl_DrivenOut.mono _ _ _ _ _
      | exact laws_eqIntS.mono _ _ _
      | exact laws_heldIntS.mono _ _ _
      | exact laws_markIntS.mono _ _ _
      | exact spec_DrivenOut.mono _ _ _ _ _
      | exact LeO.none _
      | refine LeO.ite ?_ ?_
      | refine LeO.bind ?_ (fun _ => ?_)
theorem laws_FnExactDrivenOut.j0_t {k : Nat} : ∀ {a0_ a1_ a2_ a3_ a4_ a6_ a7_}, laws_FnExactDrivenOut.j0 k a0_ a1_ a2_ a3_ a4_ true a6_ a7_ = some true → False := by
  intros; rename_i h; revert h; cases k <;> simp [laws_FnExactDrivenOut.j0]
theorem laws_FnExactDrivenOut.j1_t {k : Nat} : ∀ {a0_ a1_}, laws_FnExactDrivenOut.j1 k a0_ a1_ true = some true → False := by
  intros; rename_i h; revert h; cases k <;> simp [laws_FnExactDrivenOut.j1]
set_option maxHeartbeats 8000000 in
set_option maxRecDepth 100000 in
theorem laws_FnExactDrivenOut.calls (k : Nat) (a0_0 : Int) (a0_1 : Int) (a1 : Int) (a2 : Int) (r : Bool) (w : World) (h : laws_FnExactDrivenOut.f k a0_0 a0_1 a1 a2 = some r) (hr_ : r = true) :
  Calls Try.prog 7 #[.agg #[.int .i64 a0_0, .int .i64 a0_1], .int .i64 a1, .int .i64 a2] w fun e w' => e = .returned (.bool r) ∧ Below w.heap.size w w' := by
 have hu44 := Try.underlying44
 have HB := zm (Below.refl w.heap.size w)
 have H : ((laws_toController.f a0_0 a0_1).bind fun bt249 => ((spec_DrivenOut.f k bt249.1 bt249.2 a1 a2).bind fun bt251 => ((laws_toController.f a0_0 a0_1).bind fun bt255 => ((impl_DrivenOut.f k bt255.1 bt255.2 a1 a2).bind fun bt257 => ((laws_eqIntS.f k bt257.1 bt251.1).bind fun t261 => (if t261 = true then (laws_FnExactDrivenOut.j0 k a1 a2 bt251.1 bt251.2 bt257.1 (bt257.2 != bt251.2) a0_0 a0_1) else (laws_FnExactDrivenOut.j0 k a1 a2 bt251.1 bt251.2 bt257.1 true a0_0 a0_1))))))) = some r := h
 clear h
 replace H := Option.bind_eq_some_iff.mp H
 obtain ⟨⟨t249, t250⟩, A40, H⟩ := H
 (try dsimp only at H)
 have A4 := zm A40
 clear A40
 replace H := Option.bind_eq_some_iff.mp H
 obtain ⟨⟨t251, t254⟩, A50, H⟩ := H
 (try dsimp only at H)
 have A5 := zm A50
 clear A50
 replace H := Option.bind_eq_some_iff.mp H
 obtain ⟨⟨t255, t256⟩, A60, H⟩ := H
 (try dsimp only at H)
 have A6 := zm A60
 clear A60
 replace H := Option.bind_eq_some_iff.mp H
 obtain ⟨⟨t257, t260⟩, A70, H⟩ := H
 (try dsimp only at H)
 have A7 := zm A70
 clear A70
 have HC8 := zm H
 clear H
 go_enter Try.func7, Try.ntmps7
 go_upto_region 3 with (first | ((with_reducible refine gate_dst (N := 3) rfl ?_); refine box_event ?hg (N := 3) ?hd (cs := #[.int .i64 a0_0, .int .i64 a0_1]) (t := 44) ?hr ?_; (case hd => rfl); (case hg => rfl); (case hr => first | (go_simp; done) | (go_simp; rfl)); intro gb248 hg w9 hbox hb; have n0_ := zm (below_step zb hb); have n1_ := zm (hbox); have n2_ := zm (zs hg zb : w.heap.size ≤ gb248); have n3_ := zm (zs hg zb : w.heap.size ≤ gb248); clear HB; have HB := n0_; have BK248 := n1_; have GW248 := n2_; have GE248 := n3_; clear n0_ n1_ n2_ n3_; clear hb hbox hg; obtain ⟨hcz10_0, hcz10_1, hfz10_0, hfz10_1⟩ := zc2 BK248.out) | ((with_reducible refine gate_callee (f := 27) rfl ?_); refine goesA_ (some 17) Try.func27 #[.agg #[.int .i64 a0_0, .int .i64 a0_1]] rfl ?_; (with_reducible refine (laws_toController.calls a0_0 a0_1 t249 t250 _ A4.out).mono ?_); rintro e w11 ⟨rfl, hb⟩; refine ⟨_, rfl, ?_⟩; have n0_ := zm (blk_below (g := gb248) zk hb); have n1_ := zm (below_step zb hb); clear BK248; clear HB; have BK248 := n0_; have HB := n1_; clear n0_ n1_; (try clear hb); (try clear hb2); (try clear hk); (try clear hi)) | ((with_reducible refine gate_callee (f := 29) rfl ?_); refine goesA_ (some 20) Try.func29 #[.agg #[.int .i64 t249, .int .i64 t250], .int .i64 a1, .int .i64 a2] rfl ?_; (with_reducible refine (spec_DrivenOut.calls k t249 t250 a1 a2 t251 t254 _ A5.out).mono ?_); rintro e w12 ⟨v252, rfl, ho0, hb⟩; refine ⟨_, rfl, ?_⟩; have n0_ := zm (Kd.R_lower ho0 (below_size zb)); have n1_ := zm (blk_below (g := gb248) zk hb); have n2_ := zm (below_step zb hb); clear BK248; clear HB; have HO253 := n0_; have BK248 := n1_; have HB := n2_; clear n0_ n1_ n2_; (try clear hb); (try clear hb2); (try clear hk); (try clear hi); (try clear ho0); obtain ⟨hcz13_0, hcz13_1, hfz13_0, hfz13_1⟩ := zc2 BK248.out) | ((with_reducible refine gate_callee (f := 27) rfl ?_); refine goesA_ (some 25) Try.func27 #[.agg #[.int .i64 a0_0, .int .i64 a0_1]] rfl ?_; (with_reducible refine (laws_toController.calls a0_0 a0_1 t255 t256 _ A6.out).mono ?_); rintro e w14 ⟨rfl, hb⟩; refine ⟨_, rfl, ?_⟩; have n0_ := zm (Kd.R_below (by (with_reducible repeat (first | apply Kd.R_alloc | apply Kd.R_drewN | apply Kd.R_drew)); exact HO253.out) hb); have n1_ := zm (blk_below (g := gb248) zk hb); have n2_ := zm (below_step zb hb); clear HO253; clear BK248; clear HB; have HO253 := n0_; have BK248 := n1_; have HB := n2_; clear n0_ n1_ n2_; (try clear hb); (try clear hb2); (try clear hk); (try clear hi)) | ((with_reducible refine gate_callee (f := 30) rfl ?_); refine goesA_ (some 28) Try.func30 #[.agg #[.int .i64 t255, .int .i64 t256], .int .i64 a1, .int .i64 a2] rfl ?_; (with_reducible refine (impl_DrivenOut.calls k t255 t256 a1 a2 t257 t260 _ A7.out).mono ?_); rintro e w15 ⟨v258, rfl, ho0, hb⟩; refine ⟨_, rfl, ?_⟩; have n0_ := zm (Kd.R_elder' (by (with_reducible repeat (first | apply Kd.R_alloc | apply Kd.R_drewN | apply Kd.R_drew)); exact HO253.out) (Kd.R_base ho0) hb); have n1_ := zm (Kd.R_lower (Kd.R_new' ho0 (Kd.R_lt (by (with_reducible repeat (first | apply Kd.R_alloc | apply Kd.R_drewN | apply Kd.R_drew)); exact HO253.out))) (below_size zb)); have n2_ := zm (blk_below (g := gb248) zk hb); have n3_ := zm (below_step zb hb); clear HO253; clear BK248; clear HB; have HO253 := n0_; have HO259 := n1_; have BK248 := n2_; have HB := n3_; clear n0_ n1_ n2_ n3_; (try clear hb); (try clear hb2); (try clear hk); (try clear hi); (try clear ho0)))
 (try simp only [Act.put, List.setIfInBounds_toArray, List.set_cons_zero, List.set_cons_succ])
 go_cut [39] (fun v39 wc => ∃ (kq : Nat) (x39_7 : Bool), v39 = .bool x39_7 ∧ Aside0 (laws_FnExactDrivenOut.j0 kq a1 a2 t251 t254 t257 x39_7 a0_0 a0_1 = some r) ∧ Aside0 (kq ≤ k) ∧ Aside0 (Kd.R (Kd.int .i64) 3 wc w.heap.size (fun k_ => some k_ ≠ (v258 : Value).ownBlock) v252 t251) ∧ Aside0 (Kd.R (Kd.int .i64) 3 wc w.heap.size (fun k_ => some k_ ≠ (v252 : Value).ownBlock) v258 t257) ∧ Aside0 (wc.heap[gb248]? = some (.cells #[.int .i64 a0_0, .int .i64 a0_1] 44 (0, 0))) ∧ Aside0 (Below w.heap.size w wc))
 case first =>
  have H := HC8.out
  clear HC8
  replace H := Option.bind_eq_some_iff.mp H
  obtain ⟨t261, A160, H⟩ := H
  (try dsimp only at H)
  have A16 := zm A160
  clear A160
  by_cases c17 : t261 = true
  ·
   subst c17
   have H1 : (laws_FnExactDrivenOut.j0 k a1 a2 t251 t254 t257 (t260 != t254) a0_0 a0_1) = some r := by rw [if_pos rfl] at H; exact H
   clear H
   have H := H1
   clear H1
   have H' := zm H
   clear H
   obtain ⟨Ao18, co18, eo18⟩ := Kd.R_slice HO259.out
   subst eo18
   obtain ⟨Ao19, co19, eo19⟩ := Kd.R_slice HO253.out
   subst eo19
   go_wp2_with (first | ((with_reducible refine gate_callee (f := 23) rfl ?_); refine goesA_ (some 33) Try.func23 #[.slice Ao18 t257.length co18, .slice Ao19 t251.length co19] rfl ?_; (with_reducible refine (laws_eqIntS.calls k _ _ t257 _ _ t251 true _ ?side1 ?side2 ?side3 ?side4 A16.out).mono ?_); (case side1 => repeat (first | exact (Kd.R_reads' HO259.out).2.2 | (with_reducible refine Kd.C_alloc ?_ _) | (with_reducible refine Kd.C_drewN ?_ _) | (with_reducible refine Kd.C_drew ?_))); (case side2 => exact (Kd.R_reads' HO259.out).2.1); (case side3 => repeat (first | exact (Kd.R_reads' HO253.out).2.2 | (with_reducible refine Kd.C_alloc ?_ _) | (with_reducible refine Kd.C_drewN ?_ _) | (with_reducible refine Kd.C_drew ?_))); (case side4 => exact (Kd.R_reads' HO253.out).2.1); rintro e w' ⟨rfl, ⟨nd, rfl⟩⟩; refine ⟨_, rfl, ?_⟩))
   go_meet
   case rel => exact ⟨_, ((t260 != t254)), (by first | rfl | (simp; done) | (simp [*]; done)), H', ⟨by first | omega | exact Nat.le_refl _⟩, ⟨by (with_reducible repeat (first | apply Kd.R_alloc | apply Kd.R_drewN | apply Kd.R_drew)); exact Kd.R_mono HO253.out (fun _ hk => hk.2)⟩, ⟨by (with_reducible repeat (first | apply Kd.R_alloc | apply Kd.R_drewN | apply Kd.R_drew)); exact Kd.R_mono HO259.out (fun _ hk => hk.2)⟩, ⟨zk⟩, ⟨zb⟩⟩
  ·
   replace c17 := Bool.eq_false_iff.mpr c17
   subst c17
   have H1 : (laws_FnExactDrivenOut.j0 k a1 a2 t251 t254 t257 true a0_0 a0_1) = some r := by rw [if_neg (show ¬ (false = true) by decide)] at H; exact H
   clear H
   have H := H1
   clear H1
   exact (laws_FnExactDrivenOut.j0_t (H.trans (congrArg some hr_))).elim
 case rest =>
  clear HC8
  (try clear c1); (try clear c2); (try clear p2); (try clear c3); (try clear c7); (try clear c17); (try clear hcz10_0); (try clear hcz10_1); (try clear hcz13_0); (try clear hcz13_1); (try clear hfz10_0); (try clear hfz10_1); (try clear hfz13_0); (try clear hfz13_1)
  obtain ⟨kq, x39_7, rfl, HA, HJ7, HO_7, HO_9, BK248, HB⟩ := hcut
  cases kq with
  | zero => exact absurd HA.out (by simp [laws_FnExactDrivenOut.j0])
  | succ kj7 =>
   have H := HA.out
   clear HA
   simp only [laws_FnExactDrivenOut.j0] at H
   by_cases c20 : x39_7 = true
   ·
    subst c20
    have H1 : (some false) = some r := by rw [if_pos rfl] at H; exact H
    clear H
    have H := H1
    clear H1
    exact absurd ((Option.some.inj H).trans hr_) (by decide)
   ·
    replace c20 := Bool.eq_false_iff.mpr c20
    subst c20
    have H1 : ((laws_markIntS.f kj7 t257 1).bind fun bt262 => ((laws_heldIntS.f kj7 bt262.2 1).bind fun t264 => (if t264 < 0 then (some false) else (if t264 = bt262.1 then ((laws_toController.f a0_0 a0_1).bind fun bt265 => ((impl_DrivenOut.f kj7 bt265.1 bt265.2 a1 a2).bind fun bt267 => ((laws_eqIntS.f kj7 bt267.1 t251).bind fun t271 => (if t271 = true then (laws_FnExactDrivenOut.j1 kj7 bt262.2 bt262.1 (bt267.2 != t254)) else (laws_FnExactDrivenOut.j1 kj7 bt262.2 bt262.1 true))))) else (some false))))) = some r := by rw [if_neg (show ¬ (false = true) by decide)] at H; exact H
    clear H
    have H := H1
    clear H1
    replace H := Option.bind_eq_some_iff.mp H
    obtain ⟨⟨t262, t263⟩, A210, H⟩ := H
    (try dsimp only at H)
    have A21 := zm A210
    clear A210
    replace H := Option.bind_eq_some_iff.mp H
    obtain ⟨t264, A220, H⟩ := H
    (try dsimp only at H)
    have A22 := zm A220
    clear A220
    by_cases c23 : t264 < 0
    ·
     rw [if_pos c23] at H
     have c23b0 : decide (t264 < 0) = true := decide_eq_true c23
     clear c23
     exact absurd ((Option.some.inj H).trans hr_) (by decide)
    ·
     rw [if_neg c23] at H
     have c23b0 : decide (t264 < 0) = false := decide_eq_false c23
     clear c23
     by_cases c24 : t264 = t262
     ·
      rw [if_pos c24] at H
      have c24b0 : (t264 == t262) = true := beq_iff_eq.mpr c24
      have c24b1 : (t264 != t262) = false := bne_eq_false_iff_eq.mpr c24
      clear c24
      replace H := Option.bind_eq_some_iff.mp H
      obtain ⟨⟨t265, t266⟩, A250, H⟩ := H
      (try dsimp only at H)
      have A25 := zm A250
      clear A250
      replace H := Option.bind_eq_some_iff.mp H
      obtain ⟨⟨t267, t270⟩, A260, H⟩ := H
      (try dsimp only at H)
      have A26 := zm A260
      clear A260
      have HC27 := zm H
      clear H
      obtain ⟨Ao28, co28, eo28⟩ := Kd.R_slice HO_9.out
      subst eo28
      go_upto_region 14 with (first | ((with_reducible refine gate_callee (f := 24) rfl ?_); refine goesA_ (some 42) Try.func24 #[.slice Ao28 t257.length co28, .int .i64 1] rfl ?_; (with_reducible refine (laws_markIntS.calls kj7 (fun k_ => some k_ = (.slice Ao28 t257.length co28 : Value).ownBlock) (.slice Ao28 t257.length co28) t257 1 t262 t263 w _ ?side1 ?side2 A21.out).mono ?_); (case side1 => repeat (first | (with_reducible first | exact HB.out | apply below_alloc | apply pw_below_drewN | apply below_drew1 | refine below_set ?_ GE248.out) | exact HB.out)); (case side2 => exact Kd.R_tight rfl HO_9.out); rintro e w29 ⟨rfl, hy0, hb, hkp⟩; refine ⟨_, rfl, ?_⟩; have n0_ := zm (Kd.R_mono (ok' := fun k_ => some k_ ≠ (.slice Ao28 t257.length co28 : Value).ownBlock) (Kd.R_keptB (HO_7.out) hkp (fun k_ hk_ hs_ => (hk_) hs_)) (fun k_ hk_ => hk_.1)); have n1_ := zm (Kd.R_reok rfl hy0 (fun k_ e_ => HO_9.out.1 k_ e_)); have n2_ := zm (blk_kept (g := gb248) (o := .cells #[.int .i64 a0_0, .int .i64 a0_1] 44 (0, 0)) zk hkp (fun hs_ => (fun e_ => (Kd.R_ne HO_9.out BK248.out (by decide)) e_) hs_)); have n3_ := zm (hb); clear HO_7; clear HO_9; clear BK248; clear HB; have HO_7 := n0_; have HO_9 := n1_; have BK248 := n2_; have HB := n3_; clear n0_ n1_ n2_ n3_; (try clear hb); (try clear hkp); (try clear hy0)) | ((with_reducible refine gate_callee (f := 25) rfl ?_); refine goesL_ (some 45) rfl rfl Try.func25 (by kernel_rfl) rfl #[.slice Ao28 t263.length co28, .int .i64 1] rfl (by (try simp only [List.map_toArray, List.map_cons, List.map_nil]); first | done | (rw [show t263.length = t257.length from (Kd.R_reads' HO_9.out).1.symm] <;> rfl) | rfl | (simp only [List.length_drop, List.length_take]; rfl)) ?_; (with_reducible refine (laws_heldIntS.calls kj7 _ _ t263 1 t264 _ ?side1 ?side2 A22.out).mono ?_); (case side1 => repeat (first | exact (Kd.R_reads' HO_9.out).2.2 | (with_reducible refine Kd.C_alloc ?_ _) | (with_reducible refine Kd.C_drewN ?_ _) | (with_reducible refine Kd.C_drew ?_))); (case side2 => rw [show t263.length = t257.length from (Kd.R_reads' HO_9.out).1.symm]; exact (Kd.R_reads' HO_9.out).2.1); rintro e w' ⟨rfl, ⟨nd, rfl⟩⟩; refine ⟨_, rfl, ?_⟩; obtain ⟨hcz30_0, hcz30_1, hfz30_0, hfz30_1⟩ := zc2 BK248.out) | ((with_reducible refine gate_callee (f := 27) rfl ?_); refine goesA_ (some 53) Try.func27 #[.agg #[.int .i64 a0_0, .int .i64 a0_1]] rfl ?_; (with_reducible refine (laws_toController.calls a0_0 a0_1 t265 t266 _ A25.out).mono ?_); rintro e w31 ⟨rfl, hb⟩; refine ⟨_, rfl, ?_⟩; have n0_ := zm (Kd.R_below (by (with_reducible repeat (first | apply Kd.R_alloc | apply Kd.R_drewN | apply Kd.R_drew)); exact HO_7.out) hb); have n1_ := zm (Kd.R_below (by (with_reducible repeat (first | apply Kd.R_alloc | apply Kd.R_drewN | apply Kd.R_drew)); exact HO_9.out) hb); have n2_ := zm (blk_below (g := gb248) zk hb); have n3_ := zm (below_step zb hb); clear HO_7; clear HO_9; clear BK248; clear HB; have HO_7 := n0_; have HO_9 := n1_; have BK248 := n2_; have HB := n3_; clear n0_ n1_ n2_ n3_; (try clear hb); (try clear hb2); (try clear hk); (try clear hi)) | ((with_reducible refine gate_callee (f := 30) rfl ?_); refine goesA_ (some 56) Try.func30 #[.agg #[.int .i64 t265, .int .i64 t266], .int .i64 a1, .int .i64 a2] rfl ?_; (with_reducible refine (impl_DrivenOut.calls kj7 t265 t266 a1 a2 t267 t270 _ A26.out).mono ?_); rintro e w32 ⟨v268, rfl, ho0, hb⟩; refine ⟨_, rfl, ?_⟩; have n0_ := zm (Kd.R_elder' (by (with_reducible repeat (first | apply Kd.R_alloc | apply Kd.R_drewN | apply Kd.R_drew)); exact HO_7.out) (Kd.R_base ho0) hb); have n1_ := zm (Kd.R_elder' (by (with_reducible repeat (first | apply Kd.R_alloc | apply Kd.R_drewN | apply Kd.R_drew)); exact HO_9.out) (Kd.R_base ho0) hb); have n2_ := zm (Kd.R_lower (Kd.R_new' (Kd.R_new' ho0 (Kd.R_lt (by (with_reducible repeat (first | apply Kd.R_alloc | apply Kd.R_drewN | apply Kd.R_drew)); exact HO_7.out))) (Kd.R_lt (by (with_reducible repeat (first | apply Kd.R_alloc | apply Kd.R_drewN | apply Kd.R_drew)); exact HO_9.out))) (below_size zb)); have n3_ := zm (blk_below (g := gb248) zk hb); have n4_ := zm (below_step zb hb); clear HO_7; clear HO_9; clear BK248; clear HB; have HO_7 := n0_; have HO_9 := n1_; have HO269 := n2_; have BK248 := n3_; have HB := n4_; clear n0_ n1_ n2_ n3_ n4_; (try clear hb); (try clear hb2); (try clear hk); (try clear hi); (try clear ho0)))
      (try simp only [Act.put, List.setIfInBounds_toArray, List.set_cons_zero, List.set_cons_succ])
      go_cut [67] (fun v67 wc => ∃ (kq : Nat) (x67_26 : Bool), v67 = .bool x67_26 ∧ Aside0 (laws_FnExactDrivenOut.j1 kq t263 t262 x67_26 = some r) ∧ Aside0 (kq ≤ kj7) ∧ Aside0 (Kd.R (Kd.int .i64) 3 wc w.heap.size (fun _ => True) (.slice Ao28 t257.length co28) t263) ∧ Aside0 (wc.heap[gb248]? = some (.cells #[.int .i64 a0_0, .int .i64 a0_1] 44 (0, 0))) ∧ Aside0 (Below w.heap.size w wc))
      case first =>
       have H := HC27.out
       clear HC27
       replace H := Option.bind_eq_some_iff.mp H
       obtain ⟨t271, A330, H⟩ := H
       (try dsimp only at H)
       have A33 := zm A330
       clear A330
       by_cases c34 : t271 = true
       ·
        subst c34
        have H1 : (laws_FnExactDrivenOut.j1 kj7 t263 t262 (t270 != t254)) = some r := by rw [if_pos rfl] at H; exact H
        clear H
        have H := H1
        clear H1
        have H' := zm H
        clear H
        obtain ⟨Ao35, co35, eo35⟩ := Kd.R_slice HO269.out
        subst eo35
        obtain ⟨Ao36, co36, eo36⟩ := Kd.R_slice HO_7.out
        subst eo36
        go_wp2_with (first | ((with_reducible refine gate_callee (f := 23) rfl ?_); refine goesA_ (some 61) Try.func23 #[.slice Ao35 t267.length co35, .slice Ao36 t251.length co36] rfl ?_; (with_reducible refine (laws_eqIntS.calls kj7 _ _ t267 _ _ t251 true _ ?side1 ?side2 ?side3 ?side4 A33.out).mono ?_); (case side1 => repeat (first | exact (Kd.R_reads' HO269.out).2.2 | (with_reducible refine Kd.C_alloc ?_ _) | (with_reducible refine Kd.C_drewN ?_ _) | (with_reducible refine Kd.C_drew ?_))); (case side2 => exact (Kd.R_reads' HO269.out).2.1); (case side3 => repeat (first | exact (Kd.R_reads' HO_7.out).2.2 | (with_reducible refine Kd.C_alloc ?_ _) | (with_reducible refine Kd.C_drewN ?_ _) | (with_reducible refine Kd.C_drew ?_))); (case side4 => exact (Kd.R_reads' HO_7.out).2.1); rintro e w' ⟨rfl, ⟨nd, rfl⟩⟩; refine ⟨_, rfl, ?_⟩))
        go_meet
        case rel => exact ⟨_, ((t270 != t254)), (by first | rfl | (simp; done) | (simp [*]; done)), H', ⟨by have := HJ7.out; first | omega | exact Nat.le_refl _⟩, ⟨by (with_reducible repeat (first | apply Kd.R_alloc | apply Kd.R_drewN | apply Kd.R_drew)); exact Kd.R_mono HO_9.out (fun _ hk => trivial)⟩, ⟨zk⟩, ⟨zb⟩⟩
       ·
        replace c34 := Bool.eq_false_iff.mpr c34
        subst c34
        have H1 : (laws_FnExactDrivenOut.j1 kj7 t263 t262 true) = some r := by rw [if_neg (show ¬ (false = true) by decide)] at H; exact H
        clear H
        have H := H1
        clear H1
        exact (laws_FnExactDrivenOut.j1_t (H.trans (congrArg some hr_))).elim
      case rest =>
       clear HC27
       (try clear c1); (try clear c2); (try clear p2); (try clear c3); (try clear c7); (try clear c17); (try clear c20); (try clear c23); (try clear c23b0); (try clear c24); (try clear c24b0); (try clear c24b1); (try clear c25); (try clear c27); (try clear c29); (try clear c30); (try clear c34); (try clear hcz10_0); (try clear hcz10_1); (try clear hcz13_0); (try clear hcz13_1); (try clear hcz30_0); (try clear hcz30_1); (try clear hfz10_0); (try clear hfz10_1); (try clear hfz13_0); (try clear hfz13_1); (try clear hfz30_0); (try clear hfz30_1); (try clear p2)
       obtain ⟨kq, x67_26, rfl, HA, HJ26, HO_9, BK248, HB⟩ := hcut
       have hl9_26 := (Kd.R_reads' HO_9.out).1
       rw [hl9_26] at HO_9
       (try simp only [hl9_26])
       (try simp only [hl9_26] at BK248)
       cases kq with
       | zero => exact absurd HA.out (by simp [laws_FnExactDrivenOut.j1])
       | succ kj26 =>
        have H := HA.out
        clear HA
        simp only [laws_FnExactDrivenOut.j1] at H
        by_cases c37 : x67_26 = true
        ·
         subst c37
         have H1 : (some false) = some r := by rw [if_pos rfl] at H; exact H
         clear H
         have H := H1
         clear H1
         exact absurd ((Option.some.inj H).trans hr_) (by decide)
        ·
         replace c37 := Bool.eq_false_iff.mpr c37
         subst c37
         have H1 : ((laws_heldIntS.f kj26 t263 1).bind fun t272 => (if t272 < 0 then (some false) else (if t272 = t262 then (some true) else (some false)))) = some r := by rw [if_neg (show ¬ (false = true) by decide)] at H; exact H
         clear H
         have H := H1
         clear H1
         replace H := Option.bind_eq_some_iff.mp H
         obtain ⟨t272, A380, H⟩ := H
         (try dsimp only at H)
         have A38 := zm A380
         clear A380
         by_cases c39 : t272 < 0
         ·
          rw [if_pos c39] at H
          have c39b0 : decide (t272 < 0) = true := decide_eq_true c39
          clear c39
          exact absurd ((Option.some.inj H).trans hr_) (by decide)
         ·
          rw [if_neg c39] at H
          have c39b0 : decide (t272 < 0) = false := decide_eq_false c39
          clear c39
          by_cases c40 : t272 = t262
          ·
           rw [if_pos c40] at H
           have c40b0 : (t272 == t262) = true := beq_iff_eq.mpr c40
           have c40b1 : (t272 != t262) = false := bne_eq_false_iff_eq.mpr c40
           clear c40
           obtain rfl := Option.some.inj H
           go_wp2_with (first | ((with_reducible refine gate_callee (f := 25) rfl ?_); refine goesA_ (some 70) Try.func25 #[.slice Ao28 t263.length co28, .int .i64 1] rfl ?_; (with_reducible refine (laws_heldIntS.calls kj26 _ _ t263 1 t272 _ ?side1 ?side2 A38.out).mono ?_); (case side1 => repeat (first | exact (Kd.R_reads' HO_9.out).2.2 | (with_reducible refine Kd.C_alloc ?_ _) | (with_reducible refine Kd.C_drewN ?_ _) | (with_reducible refine Kd.C_drew ?_))); (case side2 => exact (Kd.R_reads' HO_9.out).2.1); rintro e w' ⟨rfl, ⟨nd, rfl⟩⟩; refine ⟨_, rfl, ?_⟩))
           go_ret
           exact ⟨zr, zb⟩
          ·
           rw [if_neg c40] at H
           have c40b0 : (t272 == t262) = false := beq_eq_false_iff_ne.mpr c40
           have c40b1 : (t272 != t262) = true := bne_iff_ne.mpr c40
           exact absurd ((Option.some.inj H).trans hr_) (by decide)
     ·
      rw [if_neg c24] at H
      have c24b0 : (t264 == t262) = false := beq_eq_false_iff_ne.mpr c24
      have c24b1 : (t264 != t262) = true := bne_iff_ne.mpr c24
      exact absurd ((Option.some.inj H).trans hr_) (by decide)

/-! ### spec_tkBound: function 94 -/
def spec_tkBound.f (a0_0 : Int) (a0_1 : Int) : Option (Int) := (spec_l1Most.f a0_0 (wrap64 ((wrap64 (a0_1 - a0_0)) - 1))).bind fun t274 => (some t274)
set_option maxHeartbeats 8000000 in
set_option maxRecDepth 100000 in
theorem spec_tkBound.calls (a0_0 : Int) (a0_1 : Int) (r : Int) (w : World) (h : spec_tkBound.f a0_0 a0_1 = some r) :
  Calls Try.prog 94 #[.agg #[.int .i64 a0_0, .int .i64 a0_1]] w fun e w' => e = .returned (.int .i64 r) ∧ Below w.heap.size w w' := by
 have hu47 := Try.underlying47
 have HB := zm (Below.refl w.heap.size w)
 have H : ((spec_l1Most.f a0_0 (wrap64 ((wrap64 (a0_1 - a0_0)) - 1))).bind fun t274 => (some t274)) = some r := h
 clear h
 replace H := Option.bind_eq_some_iff.mp H
 obtain ⟨t274, A20, H⟩ := H
 (try dsimp only at H)
 have A2 := zm A20
 clear A20
 obtain rfl := Option.some.inj H
 go_enter Try.func94, Try.ntmps94
 go_wp2_with (first | ((with_reducible refine gate_dst (N := 1) rfl ?_); refine box_event ?hg (N := 1) ?hd (cs := #[.int .i64 a0_0, .int .i64 a0_1]) (t := 47) ?hr ?_; (case hd => rfl); (case hg => rfl); (case hr => first | (go_simp; done) | (go_simp; rfl)); intro gb273 hg w3 hbox hb; have n0_ := zm (below_step zb hb); have n1_ := zm (hbox); have n2_ := zm (zs hg zb : w.heap.size ≤ gb273); have n3_ := zm (zs hg zb : w.heap.size ≤ gb273); clear HB; have HB := n0_; have BK273 := n1_; have GW273 := n2_; have GE273 := n3_; clear n0_ n1_ n2_ n3_; clear hb hbox hg; obtain ⟨hcz4_0, hcz4_1, hfz4_0, hfz4_1⟩ := zc2 BK273.out) | ((with_reducible refine gate_callee (f := 96) rfl ?_); refine goesA_ (some 11) Try.func96 #[.int .i64 a0_0, .int .i64 (wrap64 ((wrap64 (a0_1 - a0_0)) - 1))] rfl ?_; (with_reducible refine (spec_l1Most.calls a0_0 (wrap64 ((wrap64 (a0_1 - a0_0)) - 1)) t274 _ A2.out).mono ?_); rintro e w' ⟨rfl, ⟨nd, rfl⟩⟩; refine ⟨_, rfl, ?_⟩))
 go_ret
 exact ⟨zr, zb⟩

end Go.Proofs.Ytepkedhmbfkenaa.PTb
