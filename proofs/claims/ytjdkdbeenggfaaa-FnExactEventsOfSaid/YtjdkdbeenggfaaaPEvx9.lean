-- Written for this claim by a program of this session (wip/tpl/patchprint.py), not by print.sh.
import Derived.Test.YtjdkdbeenggfaaaPEvx0
import Derived.Test.YtjdkdbeenggfaaaPEvx1
import Derived.Test.YtjdkdbeenggfaaaPEvx3
import Derived.Test.YtjdkdbeenggfaaaPEvx6
import Derived.Test.YtjdkdbeenggfaaaPEvx7
import Derived.Test.YtjdkdbeenggfaaaPEvx8
namespace Go.Proofs.Ytjdkdbeenggfaaa.PEv
open Go.RowKit Go.Proofs.YtjdkdbeenggfaaaW.PrintWords Go.Proofs.YtjdkdbeenggfaaaW.PrintLast Go.Proofs.YtjdkdbeenggfaaaW.PrintMore
theorem zO {k n n' c c' : Nat} {A : Option Addr} (h : some k = (Value.slice A n c).ownBlock) : some k = (Value.slice A n' c').ownBlock := by cases A <;> exact h
attribute [local go_sem] max2_int min2_int max_two min_two max_three min_three max_four min_four   -- for this text's walks alone
set_option linter.unusedVariables false
set_option linter.unusedSimpArgs false

/-! ### laws_FnExactEventsOf: function 4 -/
mutual
def laws_FnExactEventsOf.j0 : Nat → List (S89) → List (List Int) → Bool → List (S87) → List (List Int) → Bool → Bool → Option (Bool)
  | 0, _, _, _, _, _, _, _ => none
  | k + 1, x0, x4, x5, x6, x7, x8, x40 => if x40 = true then (some false) else ((laws_toHoleS.f k x0).bind fun t214 => ((laws_eqHoleS.f k x6 t214).bind fun t217 => (if t217 = true then ((laws_markHoleS.f k x6 1).bind fun bt218 => (if bt218.1 < 0 then (laws_FnExactEventsOf.j1 k x0 x4 x5 x7 true) else ((laws_eqIntSS.f k x7 x4).bind fun t220 => (if t220 = true then (laws_FnExactEventsOf.j1 k x0 x4 x5 x7 (x8 != x5)) else (laws_FnExactEventsOf.j1 k x0 x4 x5 x7 true))))) else (some false))))
def laws_FnExactEventsOf.j1 : Nat → List (S89) → List (List Int) → Bool → List (List Int) → Bool → Option (Bool)
  | 0, _, _, _, _, _ => none
  | k + 1, x0, x4, x5, x7, x61 => if x61 = true then (some false) else ((laws_markIntSS.f k x7 1).bind fun bt221 => ((laws_heldIntSS.f k bt221.2 1).bind fun t223 => (if t223 < 0 then (some false) else (if t223 = bt221.1 then ((laws_toHoleS.f k x0).bind fun t224 => ((impl_EventsOf.f k t224).bind fun bt227 => ((laws_eqIntSS.f k bt227.1 x4).bind fun t231 => (if t231 = true then (laws_FnExactEventsOf.j2 k bt221.2 bt221.1 (bt227.2 != x5)) else (laws_FnExactEventsOf.j2 k bt221.2 bt221.1 true))))) else (some false)))))
def laws_FnExactEventsOf.j2 : Nat → List (List Int) → Int → Bool → Option (Bool)
  | 0, _, _, _ => none
  | k + 1, x7, x10, x87 => if x87 = true then (some false) else ((laws_heldIntSS.f k x7 1).bind fun t232 => (if t232 < 0 then (some false) else (if t232 = x10 then (some true) else (some false))))
end
def laws_FnExactEventsOf.f (k : Nat) (l0 : List (S89)) : Option (Bool) := (laws_szHoleS.f l0 1048576).bind fun t198 => (if t198 < 0 then (some true) else ((laws_toHoleS.f k l0).bind fun t199 => ((spec_EventsOf.f k t199).bind fun bt202 => ((laws_toHoleS.f k l0).bind fun t206 => ((impl_EventsOf.f k t206).bind fun bt209 => ((laws_eqIntSS.f k bt209.1 bt202.1).bind fun t213 => (if t213 = true then (laws_FnExactEventsOf.j0 k l0 bt202.1 bt202.2 t206 bt209.1 bt209.2 (bt209.2 != bt202.2)) else (laws_FnExactEventsOf.j0 k l0 bt202.1 bt202.2 t206 bt209.1 bt209.2 true))))))))
theorem laws_FnExactEventsOf.mono_l : ∀ k, (∀ y0 y1 y2 y3 y4 y5 y6, LeO (laws_FnExactEventsOf.j0 k y0 y1 y2 y3 y4 y5 y6) (laws_FnExactEventsOf.j0 (k + 1) y0 y1 y2 y3 y4 y5 y6)) ∧ (∀ y0 y1 y2 y3 y4, LeO (laws_FnExactEventsOf.j1 k y0 y1 y2 y3 y4) (laws_FnExactEventsOf.j1 (k + 1) y0 y1 y2 y3 y4)) ∧ (∀ y0 y1 y2, LeO (laws_FnExactEventsOf.j2 k y0 y1 y2) (laws_FnExactEventsOf.j2 (k + 1) y0 y1 y2))
  | 0 => ⟨fun _ _ _ _ _ _ _ r h => by simp [laws_FnExactEventsOf.j0] at h, fun _ _ _ _ _ r h => by simp [laws_FnExactEventsOf.j1] at h, fun _ _ _ r h => by simp [laws_FnExactEventsOf.j2] at h⟩
  | k + 1 => by
    obtain ⟨ih0, ih1, ih2⟩ := laws_FnExactEventsOf.mono_l k
    refine ⟨?_, ?_, ?_⟩
    · intro y0 y1 y2 y3 y4 y5 y6
      unfold laws_FnExactEventsOf.j0
      repeat' first
      | (with_reducible exact ih0 _ _ _ _ _ _ _)
      | (with_reducible exact ih1 _ _ _ _ _)
      | (with_reducible exact ih2 _ _ _)
      | (with_reducible exact impl_EventsOf.mono _ _)
      | (with_reducible exact laws_eqHoleS.mono _ _ _)
      | (with_reducible exact laws_eqIntSS.mono _ _ _)
      | (with_reducible exact laws_heldIntSS.mono _ _ _)
      | (with_reducible exact laws_markHoleS.mono _ _ _)
      | (with_reducible exact laws_markIntSS.mono _ _ _)
      | (with_reducible exact laws_toHoleS.mono _ _)
      | (with_reducible exact spec_EventsOf.mono _ _)
      | (with_reducible exact LeO.refl _)
      | (with_reducible exact LeO.none _)
      | (with_reducible refine LeO.ite ?_ ?_)
      | (with_reducible refine LeO.bind ?_ (fun _ => ?_))
      | exact ih0 _ _ _ _ _ _ _
      | exact ih1 _ _ _ _ _
      | exact ih2 _ _ _
      | exact impl_EventsOf.mono _ _
      | exact laws_eqHoleS.mono _ _ _
      | exact laws_eqIntSS.mono _ _ _
      | exact laws_heldIntSS.mono _ _ _
      | exact laws_markHoleS.mono _ _ _
      | exact laws_markIntSS.mono _ _ _
      | exact laws_toHoleS.mono _ _
      | exact spec_EventsOf.mono _ _
      | exact LeO.none _
      | refine LeO.ite ?_ ?_
      | refine LeO.bind ?_ (fun _ => ?_)
    · intro y0 y1 y2 y3 y4
      unfold laws_FnExactEventsOf.j1
      repeat' first
      | (with_reducible exact ih0 _ _ _ _ _ _ _)
      | (with_reducible exact ih1 _ _ _ _ _)
      | (with_reducible exact ih2 _ _ _)
      | (with_reducible exact impl_EventsOf.mono _ _)
      | (with_reducible exact laws_eqHoleS.mono _ _ _)
      | (with_reducible exact laws_eqIntSS.mono _ _ _)
      | (with_reducible exact laws_heldIntSS.mono _ _ _)
      | (with_reducible exact laws_markHoleS.mono _ _ _)
      | (with_reducible exact laws_markIntSS.mono _ _ _)
      | (with_reducible exact laws_toHoleS.mono _ _)
      | (with_reducible exact spec_EventsOf.mono _ _)
      | (with_reducible exact LeO.refl _)
      | (with_reducible exact LeO.none _)
      | (with_reducible refine LeO.ite ?_ ?_)
      | (with_reducible refine LeO.bind ?_ (fun _ => ?_))
      | exact ih0 _ _ _ _ _ _ _
      | exact ih1 _ _ _ _ _
      | exact ih2 _ _ _
      | exact impl_EventsOf.mono _ _
      | exact laws_eqHoleS.mono _ _ _
      | exact laws_eqIntSS.mono _ _ _
      | exact laws_heldIntSS.mono _ _ _
      | exact laws_markHoleS.mono _ _ _
      | exact laws_markIntSS.mono _ _ _
      | exact laws_toHoleS.mono _ _
      | exact spec_EventsOf.mono _ _
      | exact LeO.none _
      | refine LeO.ite ?_ ?_
      | refine LeO.bind ?_ (fun _ => ?_)
    · intro y0 y1 y2
      unfold laws_FnExactEventsOf.j2
      repeat' first
      | (with_reducible exact ih0 _ _ _ _ _ _ _)
      | (with_reducible exact ih1 _ _ _ _ _)
      | (with_reducible exact ih2 _ _ _)
      | (with_reducible exact impl_EventsOf.mono _ _)
      | (with_reducible exact laws_eqHoleS.mono _ _ _)
      | (with_reducible exact laws_eqIntSS.mono _ _ _)
      | (with_reducible exact laws_heldIntSS.mono _ _ _)
      | (with_reducible exact laws_markHoleS.mono _ _ _)
      | (with_reducible exact laws_markIntSS.mono _ _ _)
      | (with_reducible exact laws_toHoleS.mono _ _)
      | (with_reducible exact spec_EventsOf.mono _ _)
      | (with_reducible exact LeO.refl _)
      | (with_reducible exact LeO.none _)
      | (with_reducible refine LeO.ite ?_ ?_)
      | (with_reducible refine LeO.bind ?_ (fun _ => ?_))
      | exact ih0 _ _ _ _ _ _ _
      | exact ih1 _ _ _ _ _
      | exact ih2 _ _ _
      | exact impl_EventsOf.mono _ _
      | exact laws_eqHoleS.mono _ _ _
      | exact laws_eqIntSS.mono _ _ _
      | exact laws_heldIntSS.mono _ _ _
      | exact laws_markHoleS.mono _ _ _
      | exact laws_markIntSS.mono _ _ _
      | exact laws_toHoleS.mono _ _
      | exact spec_EventsOf.mono _ _
      | exact LeO.none _
      | refine LeO.ite ?_ ?_
      | refine LeO.bind ?_ (fun _ => ?_)
theorem laws_FnExactEventsOf.mono : ∀ a0 k, LeO (laws_FnExactEventsOf.f k a0) (laws_FnExactEventsOf.f (k + 1) a0) := by
  intro a0 k
  obtain ⟨ih0, ih1, ih2⟩ := laws_FnExactEventsOf.mono_l k
  unfold laws_FnExactEventsOf.f
  repeat' first
      | (with_reducible exact ih0 _ _ _ _ _ _ _)
      | (with_reducible exact ih1 _ _ _ _ _)
      | (with_reducible exact ih2 _ _ _)
      | (with_reducible exact impl_EventsOf.mono _ _)
      | (with_reducible exact laws_eqHoleS.mono _ _ _)
      | (with_reducible exact laws_eqIntSS.mono _ _ _)
      | (with_reducible exact laws_heldIntSS.mono _ _ _)
      | (with_reducible exact laws_markHoleS.mono _ _ _)
      | (with_reducible exact laws_markIntSS.mono _ _ _)
      | (with_reducible exact laws_toHoleS.mono _ _)
      | (with_reducible exact spec_EventsOf.mono _ _)
      | (with_reducible exact LeO.refl _)
      | (with_reducible exact LeO.none _)
      | (with_reducible refine LeO.ite ?_ ?_)
      | (with_reducible refine LeO.bind ?_ (fun _ => ?_))
      | exact ih0 _ _ _ _ _ _ _
      | exact ih1 _ _ _ _ _
      | exact ih2 _ _ _
      | exact impl_EventsOf.mono _ _
      | exact laws_eqHoleS.mono _ _ _
      | exact laws_eqIntSS.mono _ _ _
      | exact laws_heldIntSS.mono _ _ _
      | exact laws_markHoleS.mono _ _ _
      | exact laws_markIntSS.mono _ _ _
      | exact laws_toHoleS.mono _ _
      | exact spec_EventsOf.mono _ _
      | exact LeO.none _
      | refine LeO.ite ?_ ?_
      | refine LeO.bind ?_ (fun _ => ?_)
theorem laws_FnExactEventsOf.j0_t {k : Nat} : ∀ {a0_ a1_ a2_ a3_ a4_ a5_}, laws_FnExactEventsOf.j0 k a0_ a1_ a2_ a3_ a4_ a5_ true = some true → False := by
  intros; rename_i h; revert h; cases k <;> simp [laws_FnExactEventsOf.j0]
theorem laws_FnExactEventsOf.j1_t {k : Nat} : ∀ {a0_ a1_ a2_ a3_}, laws_FnExactEventsOf.j1 k a0_ a1_ a2_ a3_ true = some true → False := by
  intros; rename_i h; revert h; cases k <;> simp [laws_FnExactEventsOf.j1]
theorem laws_FnExactEventsOf.j2_t {k : Nat} : ∀ {a0_ a1_}, laws_FnExactEventsOf.j2 k a0_ a1_ true = some true → False := by
  intros; rename_i h; revert h; cases k <;> simp [laws_FnExactEventsOf.j2]
set_option maxHeartbeats 8000000 in
set_option maxRecDepth 100000 in
theorem laws_FnExactEventsOf.calls (k : Nat) (A0 : Option Addr) (c0 : Nat) (l0 : List (S89)) (r : Bool) (w : World) (hr0 : Kd.C k89 w A0 l0.length l0) (hc0 : l0.length ≤ c0) (h : laws_FnExactEventsOf.f k l0 = some r) (hr_ : r = true) :
  Calls Try.prog 4 #[.slice A0 l0.length c0] w fun e w' => e = .returned (.bool r) ∧ Below w.heap.size w w' := by
 have HR0 := zm hr0
 have HC0 := zm hc0
 clear hr0 hc0
 have HB := zm (Below.refl w.heap.size w)
 have H : ((laws_szHoleS.f l0 1048576).bind fun t198 => (if t198 < 0 then (some true) else ((laws_toHoleS.f k l0).bind fun t199 => ((spec_EventsOf.f k t199).bind fun bt202 => ((laws_toHoleS.f k l0).bind fun t206 => ((impl_EventsOf.f k t206).bind fun bt209 => ((laws_eqIntSS.f k bt209.1 bt202.1).bind fun t213 => (if t213 = true then (laws_FnExactEventsOf.j0 k l0 bt202.1 bt202.2 t206 bt209.1 bt209.2 (bt209.2 != bt202.2)) else (laws_FnExactEventsOf.j0 k l0 bt202.1 bt202.2 t206 bt209.1 bt209.2 true))))))))) = some r := h
 clear h
 replace H := Option.bind_eq_some_iff.mp H
 obtain ⟨t198, A20, H⟩ := H
 (try dsimp only at H)
 have A2 := zm A20
 clear A20
 by_cases c3 : t198 < 0
 ·
  rw [if_pos c3] at H
  have c3b0 : decide (t198 < 0) = true := decide_eq_true c3
  clear c3
  obtain rfl := Option.some.inj H
  go_enter Try.func4, Try.ntmps4
  go_wp2_with (first | ((with_reducible refine gate_callee (f := 22) rfl ?_); refine goesA_ (some 16) Try.func22 #[.slice A0 l0.length c0, .int .i64 1048576] rfl ?_; (with_reducible refine (laws_szHoleS.calls _ _ l0 1048576 t198 _ ?side1 ?side2 A2.out).mono ?_); (case side1 => repeat (first | exact HR0.out | (with_reducible refine Kd.C_alloc ?_ _) | (with_reducible refine Kd.C_drewN ?_ _) | (with_reducible refine Kd.C_drew ?_))); (case side2 => exact HC0.out); rintro e w' ⟨rfl, ⟨nd, rfl⟩⟩; refine ⟨_, rfl, ?_⟩))
  go_ret
  exact ⟨zr, zb⟩
 ·
  rw [if_neg c3] at H
  have c3b0 : decide (t198 < 0) = false := decide_eq_false c3
  clear c3
  replace H := Option.bind_eq_some_iff.mp H
  obtain ⟨t199, A40, H⟩ := H
  (try dsimp only at H)
  have A4 := zm A40
  clear A40
  replace H := Option.bind_eq_some_iff.mp H
  obtain ⟨⟨t202, t203⟩, A50, H⟩ := H
  (try dsimp only at H)
  have A5 := zm A50
  clear A50
  replace H := Option.bind_eq_some_iff.mp H
  obtain ⟨t206, A60, H⟩ := H
  (try dsimp only at H)
  have A6 := zm A60
  clear A60
  replace H := Option.bind_eq_some_iff.mp H
  obtain ⟨⟨t209, t210⟩, A70, H⟩ := H
  (try dsimp only at H)
  have A7 := zm A70
  clear A70
  have HC8 := zm H
  clear H
  go_enter Try.func4, Try.ntmps4
  go_upto_region 8 with (first | ((with_reducible refine gate_callee (f := 22) rfl ?_); refine goesA_ (some 16) Try.func22 #[.slice A0 l0.length c0, .int .i64 1048576] rfl ?_; (with_reducible refine (laws_szHoleS.calls _ _ l0 1048576 t198 _ ?side1 ?side2 A2.out).mono ?_); (case side1 => repeat (first | exact HR0.out | (with_reducible refine Kd.C_alloc ?_ _) | (with_reducible refine Kd.C_drewN ?_ _) | (with_reducible refine Kd.C_drew ?_))); (case side2 => exact HC0.out); rintro e w' ⟨rfl, ⟨nd, rfl⟩⟩; refine ⟨_, rfl, ?_⟩) | ((with_reducible refine gate_callee (f := 24) rfl ?_); refine goesA_ (some 21) Try.func24 #[.slice A0 l0.length c0] rfl ?_; (with_reducible refine (laws_toHoleS.calls k _ _ l0 t199 _ ?side1 ?side2 A4.out).mono ?_); (case side1 => repeat (first | exact HR0.out | (with_reducible refine Kd.C_alloc ?_ _) | (with_reducible refine Kd.C_drewN ?_ _) | (with_reducible refine Kd.C_drew ?_))); (case side2 => exact HC0.out); rintro e w9 ⟨v200, rfl, ho0, hb⟩; refine ⟨_, rfl, ?_⟩; have n0_ := zm (Kd.R_lower ho0 (below_size zb)); have n1_ := zm (below_step zb hb); clear HB; have HO201 := n0_; have HB := n1_; clear n0_ n1_; (try clear hb); (try clear hb2); (try clear hk); (try clear hi); (try clear ho0); obtain ⟨Ao10, co10, eo10⟩ := Kd.R_slice HO201.out; subst eo10) | ((with_reducible refine gate_callee (f := 23) rfl ?_); refine goesA_ (some 22) Try.func23 #[.slice Ao10 t199.length co10] rfl ?_; (with_reducible refine (spec_EventsOf.calls k _ _ t199 t202 t203 _ ?side1 ?side2 A5.out).mono ?_); (case side1 => repeat (first | exact (Kd.R_reads' HO201.out).2.2 | (with_reducible refine Kd.C_alloc ?_ _) | (with_reducible refine Kd.C_drewN ?_ _) | (with_reducible refine Kd.C_drew ?_))); (case side2 => exact (Kd.R_reads' HO201.out).2.1); rintro e w11 ⟨v204, rfl, ho0, hb⟩; refine ⟨_, rfl, ?_⟩; have n0_ := zm (Kd.R_below (by (with_reducible repeat (first | apply Kd.R_alloc | apply Kd.R_drewN | apply Kd.R_drew)); exact HO201.out) hb); have n1_ := zm (Kd.S_lower ho0 (below_size zb)); have n2_ := zm (below_step zb hb); clear HO201; clear HB; have HO201 := n0_; have HO205 := n1_; have HB := n2_; clear n0_ n1_ n2_; (try clear hb); (try clear hb2); (try clear hk); (try clear hi); (try clear ho0)) | ((with_reducible refine gate_callee (f := 24) rfl ?_); refine goesA_ (some 26) Try.func24 #[.slice A0 l0.length c0] rfl ?_; (with_reducible refine (laws_toHoleS.calls k _ _ l0 t206 _ ?side1 ?side2 A6.out).mono ?_); (case side1 => repeat (first | exact (Kd.C_below HR0.out HB.out) | (with_reducible refine Kd.C_alloc ?_ _) | (with_reducible refine Kd.C_drewN ?_ _) | (with_reducible refine Kd.C_drew ?_))); (case side2 => exact HC0.out); rintro e w12 ⟨v207, rfl, ho0, hb⟩; refine ⟨_, rfl, ?_⟩; have n0_ := zm (Kd.R_elder' (by (with_reducible repeat (first | apply Kd.R_alloc | apply Kd.R_drewN | apply Kd.R_drew)); exact HO201.out) (Kd.R_base ho0) hb); have n1_ := zm (Kd.S_below (by (with_reducible repeat (first | apply Kd.S_alloc | apply Kd.S_drewN | apply Kd.S_drew)); exact HO205.out) hb); have n2_ := zm (Kd.R_lower (Kd.R_new' ho0 (Kd.R_lt (by (with_reducible repeat (first | apply Kd.R_alloc | apply Kd.R_drewN | apply Kd.R_drew)); exact HO201.out))) (below_size zb)); have n3_ := zm (below_step zb hb); clear HO201; clear HO205; clear HB; have HO201 := n0_; have HO205 := n1_; have HO208 := n2_; have HB := n3_; clear n0_ n1_ n2_ n3_; (try clear hb); (try clear hb2); (try clear hk); (try clear hi); (try clear ho0); obtain ⟨Ao13, co13, eo13⟩ := Kd.R_slice HO208.out; subst eo13) | ((with_reducible refine gate_callee (f := 25) rfl ?_); refine goesA_ (some 29) Try.func25 #[.slice Ao13 t206.length co13] rfl ?_; (with_reducible refine (impl_EventsOf.calls k _ _ t206 t209 t210 _ ?side1 ?side2 A7.out).mono ?_); (case side1 => repeat (first | exact (Kd.R_reads' HO208.out).2.2 | (with_reducible refine Kd.C_alloc ?_ _) | (with_reducible refine Kd.C_drewN ?_ _) | (with_reducible refine Kd.C_drew ?_))); (case side2 => exact (Kd.R_reads' HO208.out).2.1); rintro e w14 ⟨v211, rfl, ho0, hb⟩; refine ⟨_, rfl, ?_⟩; obtain ⟨NG, hNG_⟩ := zN hb; have n0_ := zm (Kd.R_below (by (with_reducible repeat (first | apply Kd.R_alloc | apply Kd.R_drewN | apply Kd.R_drew)); exact HO201.out) hb); have n1_ := zm (zE (by (with_reducible repeat (first | apply Kd.S_alloc | apply Kd.S_drewN | apply Kd.S_drew)); exact HO205.out) hNG_ hb); have n2_ := zm (Kd.R_below (by (with_reducible repeat (first | apply Kd.R_alloc | apply Kd.R_drewN | apply Kd.R_drew)); exact HO208.out) hb); have n3_ := zm (Kd.S_lower (zY ho0 hNG_) (below_size zb)); have n4_ := zm (below_step zb hb); clear HO201; clear HO205; clear HO208; clear HB; have HO201 := n0_; have HO205 := n1_; have HO208 := n2_; have HO212 := n3_; have HB := n4_; clear n0_ n1_ n2_ n3_ n4_; clear hNG_; (try clear hb); (try clear hb2); (try clear hk); (try clear hi); (try clear ho0)))
  (try simp only [Act.put, List.setIfInBounds_toArray, List.set_cons_zero, List.set_cons_succ])
  go_cut [40] (fun v40 wc => ∃ (kq : Nat) (x40_7 : Bool), v40 = .bool x40_7 ∧ Aside0 (laws_FnExactEventsOf.j0 kq l0 t202 t203 t206 t209 t210 x40_7 = some r) ∧ Aside0 (kq ≤ k) ∧ Aside0 (Kd.S (Kd.slice 3 (Kd.int .i64)) 54 wc w.heap.size (fun k_ => k_ < NG) v204 t202) ∧ Aside0 (Kd.R k87 87 wc w.heap.size (fun _ => True) (.slice Ao13 t206.length co13) t206) ∧ Aside0 (Kd.S (Kd.slice 3 (Kd.int .i64)) 54 wc w.heap.size (fun k_ => NG ≤ k_) v211 t209) ∧ Aside0 (Below w.heap.size w wc))
  case first =>
   have H := HC8.out
   clear HC8
   replace H := Option.bind_eq_some_iff.mp H
   obtain ⟨t213, A150, H⟩ := H
   (try dsimp only at H)
   have A15 := zm A150
   clear A150
   by_cases c16 : t213 = true
   ·
    subst c16
    have H1 : (laws_FnExactEventsOf.j0 k l0 t202 t203 t206 t209 t210 (t210 != t203)) = some r := by rw [if_pos rfl] at H; exact H
    clear H
    have H := H1
    clear H1
    have H' := zm H
    clear H
    obtain ⟨Ao17, co17, eo17⟩ := Kd.S_slice HO212.out
    subst eo17
    obtain ⟨Ao18, co18, eo18⟩ := Kd.S_slice HO205.out
    subst eo18
    go_wp2_with (first | ((with_reducible refine gate_callee (f := 26) rfl ?_); refine goesA_ (some 34) Try.func26 #[.slice Ao17 t209.length co17, .slice Ao18 t202.length co18] rfl ?_; (with_reducible refine (laws_eqIntSS.calls k _ _ t209 _ _ t202 true _ ?side1 ?side2 ?side3 ?side4 A15.out).mono ?_); (case side1 => repeat (first | exact (Kd.S_reads' HO212.out).2.2 | (with_reducible refine Kd.C_alloc ?_ _) | (with_reducible refine Kd.C_drewN ?_ _) | (with_reducible refine Kd.C_drew ?_))); (case side2 => exact (Kd.S_reads' HO212.out).2.1); (case side3 => repeat (first | exact (Kd.S_reads' HO205.out).2.2 | (with_reducible refine Kd.C_alloc ?_ _) | (with_reducible refine Kd.C_drewN ?_ _) | (with_reducible refine Kd.C_drew ?_))); (case side4 => exact (Kd.S_reads' HO205.out).2.1); rintro e w' ⟨rfl, ⟨nd, rfl⟩⟩; refine ⟨_, rfl, ?_⟩))
    go_meet
    case rel => exact ⟨_, ((t210 != t203)), (by first | rfl | (simp; done) | (simp [*]; done)), H', ⟨by first | omega | exact Nat.le_refl _⟩, ⟨by (with_reducible repeat (first | apply Kd.S_alloc | apply Kd.S_drewN | apply Kd.S_drew)); exact Kd.S_mono HO205.out (fun _ hk => by first | exact hk | exact hk.2 | exact hk.1)⟩, ⟨by (with_reducible repeat (first | apply Kd.R_alloc | apply Kd.R_drewN | apply Kd.R_drew)); exact Kd.R_mono HO208.out (fun _ hk => trivial)⟩, ⟨by (with_reducible repeat (first | apply Kd.S_alloc | apply Kd.S_drewN | apply Kd.S_drew)); exact Kd.S_mono HO212.out (fun _ hk => by first | exact hk | exact hk.2 | exact hk.1)⟩, ⟨zb⟩⟩
   ·
    replace c16 := Bool.eq_false_iff.mpr c16
    subst c16
    have H1 : (laws_FnExactEventsOf.j0 k l0 t202 t203 t206 t209 t210 true) = some r := by rw [if_neg (show ¬ (false = true) by decide)] at H; exact H
    clear H
    have H := H1
    clear H1
    exact (laws_FnExactEventsOf.j0_t (H.trans (congrArg some hr_))).elim
  case rest =>
   clear HC8
   (try clear c1); (try clear c2); (try clear p2); (try clear c3); (try clear c3b0); (try clear c4); (try clear c16)
   obtain ⟨kq, x40_7, rfl, HA, HJ7, HO_4, HO_6, HO_7, HB⟩ := hcut
   cases kq with
   | zero => exact absurd HA.out (by simp [laws_FnExactEventsOf.j0])
   | succ kj7 =>
    have H := HA.out
    clear HA
    simp only [laws_FnExactEventsOf.j0] at H
    by_cases c19 : x40_7 = true
    ·
     subst c19
     have H1 : (some false) = some r := by rw [if_pos rfl] at H; exact H
     clear H
     have H := H1
     clear H1
     exact absurd ((Option.some.inj H).trans hr_) (by decide)
    ·
     replace c19 := Bool.eq_false_iff.mpr c19
     subst c19
     have H1 : ((laws_toHoleS.f kj7 l0).bind fun t214 => ((laws_eqHoleS.f kj7 t206 t214).bind fun t217 => (if t217 = true then ((laws_markHoleS.f kj7 t206 1).bind fun bt218 => (if bt218.1 < 0 then (laws_FnExactEventsOf.j1 kj7 l0 t202 t203 t209 true) else ((laws_eqIntSS.f kj7 t209 t202).bind fun t220 => (if t220 = true then (laws_FnExactEventsOf.j1 kj7 l0 t202 t203 t209 (t210 != t203)) else (laws_FnExactEventsOf.j1 kj7 l0 t202 t203 t209 true))))) else (some false)))) = some r := by rw [if_neg (show ¬ (false = true) by decide)] at H; exact H
     clear H
     have H := H1
     clear H1
     replace H := Option.bind_eq_some_iff.mp H
     obtain ⟨t214, A200, H⟩ := H
     (try dsimp only at H)
     have A20 := zm A200
     clear A200
     replace H := Option.bind_eq_some_iff.mp H
     obtain ⟨t217, A210, H⟩ := H
     (try dsimp only at H)
     have A21 := zm A210
     clear A210
     by_cases c22 : t217 = true
     ·
      subst c22
      have H1 : ((laws_markHoleS.f kj7 t206 1).bind fun bt218 => (if bt218.1 < 0 then (laws_FnExactEventsOf.j1 kj7 l0 t202 t203 t209 true) else ((laws_eqIntSS.f kj7 t209 t202).bind fun t220 => (if t220 = true then (laws_FnExactEventsOf.j1 kj7 l0 t202 t203 t209 (t210 != t203)) else (laws_FnExactEventsOf.j1 kj7 l0 t202 t203 t209 true))))) = some r := by rw [if_pos rfl] at H; exact H
      clear H
      have H := H1
      clear H1
      replace H := Option.bind_eq_some_iff.mp H
      obtain ⟨⟨t218, t219⟩, A230, H⟩ := H
      (try dsimp only at H)
      have A23 := zm A230
      clear A230
      have HC24 := zm H
      clear H
      go_upto_region 14 with (first | ((with_reducible refine gate_callee (f := 24) rfl ?_); refine goesA_ (some 43) Try.func24 #[.slice A0 l0.length c0] rfl ?_; (with_reducible refine (laws_toHoleS.calls kj7 _ _ l0 t214 _ ?side1 ?side2 A20.out).mono ?_); (case side1 => repeat (first | exact (Kd.C_below HR0.out HB.out) | (with_reducible refine Kd.C_alloc ?_ _) | (with_reducible refine Kd.C_drewN ?_ _) | (with_reducible refine Kd.C_drew ?_))); (case side2 => exact HC0.out); rintro e w25 ⟨v215, rfl, ho0, hb⟩; refine ⟨_, rfl, ?_⟩; have n0_ := zm (Kd.S_below (by (with_reducible repeat (first | apply Kd.S_alloc | apply Kd.S_drewN | apply Kd.S_drew)); exact HO_4.out) hb); have n1_ := zm (Kd.R_elder' (by (with_reducible repeat (first | apply Kd.R_alloc | apply Kd.R_drewN | apply Kd.R_drew)); exact HO_6.out) (Kd.R_base ho0) hb); have n2_ := zm (Kd.S_below (by (with_reducible repeat (first | apply Kd.S_alloc | apply Kd.S_drewN | apply Kd.S_drew)); exact HO_7.out) hb); have n3_ := zm (Kd.R_lower (Kd.R_new' ho0 (Kd.R_lt (by (with_reducible repeat (first | apply Kd.R_alloc | apply Kd.R_drewN | apply Kd.R_drew)); exact HO_6.out))) (below_size zb)); have n4_ := zm (below_step zb hb); clear HO_4; clear HO_6; clear HO_7; clear HB; have HO_4 := n0_; have HO_6 := n1_; have HO_7 := n2_; have HO216 := n3_; have HB := n4_; clear n0_ n1_ n2_ n3_ n4_; (try clear hb); (try clear hb2); (try clear hk); (try clear hi); (try clear ho0); obtain ⟨Ao26, co26, eo26⟩ := Kd.R_slice HO216.out; subst eo26) | ((with_reducible refine gate_callee (f := 27) rfl ?_); refine goesA_ (some 44) Try.func27 #[.slice Ao13 t206.length co13, .slice Ao26 t214.length co26] rfl ?_; (with_reducible refine (laws_eqHoleS.calls kj7 _ _ t206 _ _ t214 true _ ?side1 ?side2 ?side3 ?side4 A21.out).mono ?_); (case side1 => repeat (first | exact (Kd.R_reads' HO_6.out).2.2 | (with_reducible refine Kd.C_alloc ?_ _) | (with_reducible refine Kd.C_drewN ?_ _) | (with_reducible refine Kd.C_drew ?_))); (case side2 => exact (Kd.R_reads' HO_6.out).2.1); (case side3 => repeat (first | exact (Kd.R_reads' HO216.out).2.2 | (with_reducible refine Kd.C_alloc ?_ _) | (with_reducible refine Kd.C_drewN ?_ _) | (with_reducible refine Kd.C_drew ?_))); (case side4 => exact (Kd.R_reads' HO216.out).2.1); rintro e w27 ⟨rfl, hb⟩; refine ⟨_, rfl, ?_⟩; have n0_ := zm (Kd.S_below (by (with_reducible repeat (first | apply Kd.S_alloc | apply Kd.S_drewN | apply Kd.S_drew)); exact HO_4.out) hb); have n1_ := zm (Kd.R_below (by (with_reducible repeat (first | apply Kd.R_alloc | apply Kd.R_drewN | apply Kd.R_drew)); exact HO_6.out) hb); have n2_ := zm (Kd.S_below (by (with_reducible repeat (first | apply Kd.S_alloc | apply Kd.S_drewN | apply Kd.S_drew)); exact HO_7.out) hb); have n3_ := zm (Kd.R_below (by (with_reducible repeat (first | apply Kd.R_alloc | apply Kd.R_drewN | apply Kd.R_drew)); exact HO216.out) hb); have n4_ := zm (below_step zb hb); clear HO_4; clear HO_6; clear HO_7; clear HO216; clear HB; have HO_4 := n0_; have HO_6 := n1_; have HO_7 := n2_; have HO216 := n3_; have HB := n4_; clear n0_ n1_ n2_ n3_ n4_; (try clear hb); (try clear hb2); (try clear hk); (try clear hi)) | ((with_reducible refine gate_callee (f := 28) rfl ?_); refine goesA_ (some 48) Try.func28 #[.slice Ao13 t206.length co13, .int .i64 1] rfl ?_; (with_reducible refine (laws_markHoleS.calls kj7 (fun k_ => some k_ = (.slice Ao13 t206.length co13 : Value).ownBlock) (.slice Ao13 t206.length co13) t206 1 t218 t219 w _ ?side1 ?side2 A23.out).mono ?_); (case side1 => repeat (first | (with_reducible first | exact HB.out | apply below_alloc | apply pw_below_drewN | apply below_drew1) | exact HB.out)); (case side2 => exact Kd.R_tight rfl HO_6.out); rintro e w28 ⟨rfl, hy0, hb, hkp⟩; refine ⟨_, rfl, ?_⟩; have n0_ := zm (Kd.S_mono (ok' := fun k_ => k_ < NG) (Kd.S_keptB ((Kd.S_apart' HO_4.out (Kd.R_typed HO_6.out) (by decide))) hkp (fun k_ hk_ hs_ => (hk_.2) hs_)) (fun k_ hk_ => hk_.1.1)); have n1_ := zm (Kd.R_reok rfl hy0 (fun k_ e_ => HO_6.out.1 k_ e_)); have n2_ := zm (Kd.S_mono (ok' := fun k_ => NG ≤ k_) (Kd.S_keptB ((Kd.S_apart' HO_7.out (Kd.R_typed HO_6.out) (by decide))) hkp (fun k_ hk_ hs_ => (hk_.2) hs_)) (fun k_ hk_ => hk_.1.1)); have n3_ := zm (Kd.R_mono (ok' := fun k_ => some k_ ≠ (.slice Ao13 t206.length co13 : Value).ownBlock) (Kd.R_keptB (HO216.out) hkp (fun k_ hk_ hs_ => (hk_.2) hs_)) (fun k_ hk_ => hk_.1.2)); have n4_ := zm (hb); clear HO_4; clear HO_6; clear HO_7; clear HO216; clear HB; have HO_4 := n0_; have HO_6 := n1_; have HO_7 := n2_; have HO216 := n3_; have HB := n4_; clear n0_ n1_ n2_ n3_ n4_; (try clear hb); (try clear hkp); (try clear hy0)))
      (try simp only [Act.put, List.setIfInBounds_toArray, List.set_cons_zero, List.set_cons_succ])
      go_cut [61] (fun v61 wc => ∃ (kq : Nat) (x61_23 : Bool), v61 = .bool x61_23 ∧ Aside0 (laws_FnExactEventsOf.j1 kq l0 t202 t203 t209 x61_23 = some r) ∧ Aside0 (kq ≤ kj7) ∧ Aside0 (Kd.S (Kd.slice 3 (Kd.int .i64)) 54 wc w.heap.size (fun k_ => k_ < NG) v204 t202) ∧ Aside0 (Kd.S (Kd.slice 3 (Kd.int .i64)) 54 wc w.heap.size (fun k_ => NG ≤ k_) v211 t209) ∧ Aside0 (Below w.heap.size w wc))
      case first =>
       have H := HC24.out
       clear HC24
       by_cases c29 : t218 < 0
       ·
        rw [if_pos c29] at H
        have c29b0 : decide (t218 < 0) = true := decide_eq_true c29
        clear c29
        (first | rw [c29b0] | (simp only [i64_w, i32_w]; rw [c29b0]) | skip)
        exact (laws_FnExactEventsOf.j1_t (H.trans (congrArg some hr_))).elim
       ·
        rw [if_neg c29] at H
        have c29b0 : decide (t218 < 0) = false := decide_eq_false c29
        clear c29
        (first | rw [c29b0] | (simp only [i64_w, i32_w]; rw [c29b0]) | skip)
        replace H := Option.bind_eq_some_iff.mp H
        obtain ⟨t220, A300, H⟩ := H
        (try dsimp only at H)
        have A30 := zm A300
        clear A300
        by_cases c31 : t220 = true
        ·
         subst c31
         have H1 : (laws_FnExactEventsOf.j1 kj7 l0 t202 t203 t209 (t210 != t203)) = some r := by rw [if_pos rfl] at H; exact H
         clear H
         have H := H1
         clear H1
         have H' := zm H
         clear H
         obtain ⟨Ao32, co32, eo32⟩ := Kd.S_slice HO_7.out
         subst eo32
         obtain ⟨Ao33, co33, eo33⟩ := Kd.S_slice HO_4.out
         subst eo33
         go_wp2_with (first | (go_at_call 26; (with_reducible refine (laws_eqIntSS.calls kj7 _ _ t209 _ _ t202 true _ ?side1 ?side2 ?side3 ?side4 A30.out).mono ?_); (case side1 => repeat (first | exact (Kd.S_reads' HO_7.out).2.2 | (with_reducible refine Kd.C_alloc ?_ _) | (with_reducible refine Kd.C_drewN ?_ _) | (with_reducible refine Kd.C_drew ?_))); (case side2 => exact (Kd.S_reads' HO_7.out).2.1); (case side3 => repeat (first | exact (Kd.S_reads' HO_4.out).2.2 | (with_reducible refine Kd.C_alloc ?_ _) | (with_reducible refine Kd.C_drewN ?_ _) | (with_reducible refine Kd.C_drew ?_))); (case side4 => exact (Kd.S_reads' HO_4.out).2.1); rintro e w' ⟨rfl, ⟨nd, rfl⟩⟩))
         go_meet
         case rel => exact ⟨_, ((t210 != t203)), (by first | rfl | (simp; done) | (simp [*]; done)), H', ⟨by have := HJ7.out; first | omega | exact Nat.le_refl _⟩, ⟨by (with_reducible repeat (first | apply Kd.S_alloc | apply Kd.S_drewN | apply Kd.S_drew)); exact HO_4.out⟩, ⟨by (with_reducible repeat (first | apply Kd.S_alloc | apply Kd.S_drewN | apply Kd.S_drew)); exact HO_7.out⟩, ⟨zb⟩⟩
        ·
         replace c31 := Bool.eq_false_iff.mpr c31
         subst c31
         have H1 : (laws_FnExactEventsOf.j1 kj7 l0 t202 t203 t209 true) = some r := by rw [if_neg (show ¬ (false = true) by decide)] at H; exact H
         clear H
         have H := H1
         clear H1
         exact (laws_FnExactEventsOf.j1_t (H.trans (congrArg some hr_))).elim
      case rest =>
       clear HC24
       (try clear c1); (try clear c2); (try clear p2); (try clear c3); (try clear c3b0); (try clear c4); (try clear c16); (try clear c19); (try clear c22); (try clear c23); (try clear c24); (try clear c25); (try clear c26); (try clear c27); (try clear c28); (try clear c29); (try clear c29b0); (try clear c31); (try clear p2)
       obtain ⟨kq, x61_23, rfl, HA, HJ23, HO_4, HO_7, HB⟩ := hcut
       cases kq with
       | zero => exact absurd HA.out (by simp [laws_FnExactEventsOf.j1])
       | succ kj23 =>
        have H := HA.out
        clear HA
        simp only [laws_FnExactEventsOf.j1] at H
        by_cases c34 : x61_23 = true
        ·
         subst c34
         have H1 : (some false) = some r := by rw [if_pos rfl] at H; exact H
         clear H
         have H := H1
         clear H1
         exact absurd ((Option.some.inj H).trans hr_) (by decide)
        ·
         replace c34 := Bool.eq_false_iff.mpr c34
         subst c34
         have H1 : ((laws_markIntSS.f kj23 t209 1).bind fun bt221 => ((laws_heldIntSS.f kj23 bt221.2 1).bind fun t223 => (if t223 < 0 then (some false) else (if t223 = bt221.1 then ((laws_toHoleS.f kj23 l0).bind fun t224 => ((impl_EventsOf.f kj23 t224).bind fun bt227 => ((laws_eqIntSS.f kj23 bt227.1 t202).bind fun t231 => (if t231 = true then (laws_FnExactEventsOf.j2 kj23 bt221.2 bt221.1 (bt227.2 != t203)) else (laws_FnExactEventsOf.j2 kj23 bt221.2 bt221.1 true))))) else (some false))))) = some r := by rw [if_neg (show ¬ (false = true) by decide)] at H; exact H
         clear H
         have H := H1
         clear H1
         replace H := Option.bind_eq_some_iff.mp H
         obtain ⟨⟨t221, t222⟩, A350, H⟩ := H
         (try dsimp only at H)
         have A35 := zm A350
         clear A350
         replace H := Option.bind_eq_some_iff.mp H
         obtain ⟨t223, A360, H⟩ := H
         (try dsimp only at H)
         have A36 := zm A360
         clear A360
         by_cases c37 : t223 < 0
         ·
          rw [if_pos c37] at H
          have c37b0 : decide (t223 < 0) = true := decide_eq_true c37
          clear c37
          exact absurd ((Option.some.inj H).trans hr_) (by decide)
         ·
          rw [if_neg c37] at H
          have c37b0 : decide (t223 < 0) = false := decide_eq_false c37
          clear c37
          by_cases c38 : t223 = t221
          ·
           rw [if_pos c38] at H
           have c38b0 : (t223 == t221) = true := beq_iff_eq.mpr c38
           have c38b1 : (t223 != t221) = false := bne_eq_false_iff_eq.mpr c38
           clear c38
           replace H := Option.bind_eq_some_iff.mp H
           obtain ⟨t224, A390, H⟩ := H
           (try dsimp only at H)
           have A39 := zm A390
           clear A390
           replace H := Option.bind_eq_some_iff.mp H
           obtain ⟨⟨t227, t228⟩, A400, H⟩ := H
           (try dsimp only at H)
           have A40 := zm A400
           clear A400
           have HC41 := zm H
           clear H
           obtain ⟨Ao42, co42, eo42⟩ := Kd.S_slice HO_7.out
           subst eo42
           go_upto_region 25 with (first | ((with_reducible refine gate_callee (f := 29) rfl ?_); refine goesA_ (some 64) Try.func29 #[.slice Ao42 t209.length co42, .int .i64 1] rfl ?_; (with_reducible refine (laws_markIntSS.calls kj23 (fun k_ => NG ≤ k_) (.slice Ao42 t209.length co42) t209 1 t221 t222 w _ ?side1 ?side2 A35.out).mono ?_); (case side1 => repeat (first | (with_reducible first | exact HB.out | apply below_alloc | apply pw_below_drewN | apply below_drew1) | exact HB.out)); (case side2 => exact HO_7.out); rintro e w43 ⟨rfl, hy0, hb, hkp⟩; refine ⟨_, rfl, ?_⟩; have n0_ := zm (Kd.S_mono (ok' := fun k_ => some k_ ≠ (.slice Ao42 t209.length co42 : Value).ownBlock) (Kd.S_keptB (HO_4.out) hkp (fun k_ hk_ hs_ => absurd hs_ (Nat.not_le.2 hk_))) (fun k_ hk_ => fun e_ => absurd (((Kd.S_R HO_7.out).1 k_ e_.symm)) (Nat.not_le.2 hk_.1))); have n1_ := zm (Kd.S_mono (ok' := fun k_ => True) hy0 (fun k_ hk_ => trivial)); have n2_ := zm (hb); clear HO_4; clear HO_7; clear HB; have HO_4 := n0_; have HO_7 := n1_; have HB := n2_; clear n0_ n1_ n2_; (try clear hb); (try clear hkp); (try clear hy0)) | ((with_reducible refine gate_callee (f := 30) rfl ?_); refine goesL_ (some 67) rfl rfl Try.func30 (by kernel_rfl) rfl #[.slice Ao42 t222.length co42, .int .i64 1] rfl (by (try simp only [List.map_toArray, List.map_cons, List.map_nil]); first | done | (rw [show t222.length = t209.length from (Kd.S_reads' HO_7.out).1.symm] <;> rfl) | rfl | (simp only [List.length_drop, List.length_take]; rfl)) ?_; (with_reducible refine (laws_heldIntSS.calls kj23 _ _ t222 1 t223 _ ?side1 ?side2 A36.out).mono ?_); (case side1 => repeat (first | exact (Kd.S_reads' HO_7.out).2.2 | (with_reducible refine Kd.C_alloc ?_ _) | (with_reducible refine Kd.C_drewN ?_ _) | (with_reducible refine Kd.C_drew ?_))); (case side2 => rw [show t222.length = t209.length from (Kd.S_reads' HO_7.out).1.symm]; exact (Kd.S_reads' HO_7.out).2.1); rintro e w' ⟨rfl, ⟨nd, rfl⟩⟩; refine ⟨_, rfl, ?_⟩) | ((with_reducible refine gate_callee (f := 24) rfl ?_); refine goesA_ (some 75) Try.func24 #[.slice A0 l0.length c0] rfl ?_; (with_reducible refine (laws_toHoleS.calls kj23 _ _ l0 t224 _ ?side1 ?side2 A39.out).mono ?_); (case side1 => repeat (first | exact (Kd.C_below HR0.out zb) | (with_reducible refine Kd.C_alloc ?_ _) | (with_reducible refine Kd.C_drewN ?_ _) | (with_reducible refine Kd.C_drew ?_))); (case side2 => exact HC0.out); rintro e w44 ⟨v225, rfl, ho0, hb⟩; refine ⟨_, rfl, ?_⟩; have n0_ := zm (Kd.S_below (by (with_reducible repeat (first | apply Kd.S_alloc | apply Kd.S_drewN | apply Kd.S_drew)); exact HO_4.out) hb); have n1_ := zm (Kd.S_below (by (with_reducible repeat (first | apply Kd.S_alloc | apply Kd.S_drewN | apply Kd.S_drew)); exact HO_7.out) hb); have n2_ := zm (Kd.R_lower ho0 (below_size zb)); have n3_ := zm (below_step zb hb); clear HO_4; clear HO_7; clear HB; have HO_4 := n0_; have HO_7 := n1_; have HO226 := n2_; have HB := n3_; clear n0_ n1_ n2_ n3_; (try clear hb); (try clear hb2); (try clear hk); (try clear hi); (try clear ho0); obtain ⟨Ao45, co45, eo45⟩ := Kd.R_slice HO226.out; subst eo45) | ((with_reducible refine gate_callee (f := 25) rfl ?_); refine goesA_ (some 76) Try.func25 #[.slice Ao45 t224.length co45] rfl ?_; (with_reducible refine (impl_EventsOf.calls kj23 _ _ t224 t227 t228 _ ?side1 ?side2 A40.out).mono ?_); (case side1 => repeat (first | exact (Kd.R_reads' HO226.out).2.2 | (with_reducible refine Kd.C_alloc ?_ _) | (with_reducible refine Kd.C_drewN ?_ _) | (with_reducible refine Kd.C_drew ?_))); (case side2 => exact (Kd.R_reads' HO226.out).2.1); rintro e w46 ⟨v229, rfl, ho0, hb⟩; refine ⟨_, rfl, ?_⟩; have n0_ := zm (Kd.S_elder' (by (with_reducible repeat (first | apply Kd.S_alloc | apply Kd.S_drewN | apply Kd.S_drew)); exact HO_4.out) (Kd.S_base ho0) hb); have n1_ := zm (Kd.S_elder' (by (with_reducible repeat (first | apply Kd.S_alloc | apply Kd.S_drewN | apply Kd.S_drew)); exact HO_7.out) (Kd.S_base ho0) hb); have n2_ := zm (Kd.R_below (by (with_reducible repeat (first | apply Kd.R_alloc | apply Kd.R_drewN | apply Kd.R_drew)); exact HO226.out) hb); have n3_ := zm (Kd.S_lower (Kd.S_new' (Kd.S_new' ho0 (Kd.S_lt (by (with_reducible repeat (first | apply Kd.S_alloc | apply Kd.S_drewN | apply Kd.S_drew)); exact HO_4.out))) (Kd.S_lt (by (with_reducible repeat (first | apply Kd.S_alloc | apply Kd.S_drewN | apply Kd.S_drew)); exact HO_7.out))) (below_size zb)); have n4_ := zm (below_step zb hb); clear HO_4; clear HO_7; clear HO226; clear HB; have HO_4 := n0_; have HO_7 := n1_; have HO226 := n2_; have HO230 := n3_; have HB := n4_; clear n0_ n1_ n2_ n3_ n4_; (try clear hb); (try clear hb2); (try clear hk); (try clear hi); (try clear ho0)))
           (try simp only [Act.put, List.setIfInBounds_toArray, List.set_cons_zero, List.set_cons_succ])
           go_cut [87] (fun v87 wc => ∃ (kq : Nat) (x87_40 : Bool), v87 = .bool x87_40 ∧ Aside0 (laws_FnExactEventsOf.j2 kq t222 t221 x87_40 = some r) ∧ Aside0 (kq ≤ kj23) ∧ Aside0 (Kd.S (Kd.slice 3 (Kd.int .i64)) 54 wc w.heap.size (fun _ => True) (.slice Ao42 t209.length co42) t222) ∧ Aside0 (Below w.heap.size w wc))
           case first =>
            have H := HC41.out
            clear HC41
            replace H := Option.bind_eq_some_iff.mp H
            obtain ⟨t231, A470, H⟩ := H
            (try dsimp only at H)
            have A47 := zm A470
            clear A470
            by_cases c48 : t231 = true
            ·
             subst c48
             have H1 : (laws_FnExactEventsOf.j2 kj23 t222 t221 (t228 != t203)) = some r := by rw [if_pos rfl] at H; exact H
             clear H
             have H := H1
             clear H1
             have H' := zm H
             clear H
             obtain ⟨Ao49, co49, eo49⟩ := Kd.S_slice HO230.out
             subst eo49
             obtain ⟨Ao50, co50, eo50⟩ := Kd.S_slice HO_4.out
             subst eo50
             go_wp2_with (first | ((with_reducible refine gate_callee (f := 26) rfl ?_); refine goesA_ (some 81) Try.func26 #[.slice Ao49 t227.length co49, .slice Ao50 t202.length co50] rfl ?_; (with_reducible refine (laws_eqIntSS.calls kj23 _ _ t227 _ _ t202 true _ ?side1 ?side2 ?side3 ?side4 A47.out).mono ?_); (case side1 => repeat (first | exact (Kd.S_reads' HO230.out).2.2 | (with_reducible refine Kd.C_alloc ?_ _) | (with_reducible refine Kd.C_drewN ?_ _) | (with_reducible refine Kd.C_drew ?_))); (case side2 => exact (Kd.S_reads' HO230.out).2.1); (case side3 => repeat (first | exact (Kd.S_reads' HO_4.out).2.2 | (with_reducible refine Kd.C_alloc ?_ _) | (with_reducible refine Kd.C_drewN ?_ _) | (with_reducible refine Kd.C_drew ?_))); (case side4 => exact (Kd.S_reads' HO_4.out).2.1); rintro e w' ⟨rfl, ⟨nd, rfl⟩⟩; refine ⟨_, rfl, ?_⟩))
             go_meet
             case rel => exact ⟨_, ((t228 != t203)), (by first | rfl | (simp; done) | (simp [*]; done)), H', ⟨by have := HJ7.out; have := HJ23.out; first | omega | exact Nat.le_refl _⟩, ⟨by (with_reducible repeat (first | apply Kd.S_alloc | apply Kd.S_drewN | apply Kd.S_drew)); exact Kd.S_mono HO_7.out (fun _ hk => trivial)⟩, ⟨zb⟩⟩
            ·
             replace c48 := Bool.eq_false_iff.mpr c48
             subst c48
             have H1 : (laws_FnExactEventsOf.j2 kj23 t222 t221 true) = some r := by rw [if_neg (show ¬ (false = true) by decide)] at H; exact H
             clear H
             have H := H1
             clear H1
             exact (laws_FnExactEventsOf.j2_t (H.trans (congrArg some hr_))).elim
           case rest =>
            clear HC41
            (try clear c1); (try clear c2); (try clear p2); (try clear c3); (try clear c3b0); (try clear c4); (try clear c16); (try clear c19); (try clear c22); (try clear c23); (try clear c24); (try clear c25); (try clear c26); (try clear c27); (try clear c28); (try clear c29); (try clear c29b0); (try clear c30); (try clear c31); (try clear c34); (try clear c37); (try clear c37b0); (try clear c38); (try clear c38b0); (try clear c38b1); (try clear c48); (try clear p2)
            obtain ⟨kq, x87_40, rfl, HA, HJ40, HO_7, HB⟩ := hcut
            have hl7_40 := (Kd.S_reads' HO_7.out).1
            rw [hl7_40] at HO_7
            (try simp only [hl7_40])
            cases kq with
            | zero => exact absurd HA.out (by simp [laws_FnExactEventsOf.j2])
            | succ kj40 =>
             have H := HA.out
             clear HA
             simp only [laws_FnExactEventsOf.j2] at H
             by_cases c51 : x87_40 = true
             ·
              subst c51
              have H1 : (some false) = some r := by rw [if_pos rfl] at H; exact H
              clear H
              have H := H1
              clear H1
              exact absurd ((Option.some.inj H).trans hr_) (by decide)
             ·
              replace c51 := Bool.eq_false_iff.mpr c51
              subst c51
              have H1 : ((laws_heldIntSS.f kj40 t222 1).bind fun t232 => (if t232 < 0 then (some false) else (if t232 = t221 then (some true) else (some false)))) = some r := by rw [if_neg (show ¬ (false = true) by decide)] at H; exact H
              clear H
              have H := H1
              clear H1
              replace H := Option.bind_eq_some_iff.mp H
              obtain ⟨t232, A520, H⟩ := H
              (try dsimp only at H)
              have A52 := zm A520
              clear A520
              by_cases c53 : t232 < 0
              ·
               rw [if_pos c53] at H
               have c53b0 : decide (t232 < 0) = true := decide_eq_true c53
               clear c53
               exact absurd ((Option.some.inj H).trans hr_) (by decide)
              ·
               rw [if_neg c53] at H
               have c53b0 : decide (t232 < 0) = false := decide_eq_false c53
               clear c53
               by_cases c54 : t232 = t221
               ·
                rw [if_pos c54] at H
                have c54b0 : (t232 == t221) = true := beq_iff_eq.mpr c54
                have c54b1 : (t232 != t221) = false := bne_eq_false_iff_eq.mpr c54
                clear c54
                obtain rfl := Option.some.inj H
                go_wp2_with (first | ((with_reducible refine gate_callee (f := 30) rfl ?_); refine goesA_ (some 90) Try.func30 #[.slice Ao42 t222.length co42, .int .i64 1] rfl ?_; (with_reducible refine (laws_heldIntSS.calls kj40 _ _ t222 1 t232 _ ?side1 ?side2 A52.out).mono ?_); (case side1 => repeat (first | exact (Kd.S_reads' HO_7.out).2.2 | (with_reducible refine Kd.C_alloc ?_ _) | (with_reducible refine Kd.C_drewN ?_ _) | (with_reducible refine Kd.C_drew ?_))); (case side2 => exact (Kd.S_reads' HO_7.out).2.1); rintro e w' ⟨rfl, ⟨nd, rfl⟩⟩; refine ⟨_, rfl, ?_⟩))
                go_ret
                exact ⟨zr, zb⟩
               ·
                rw [if_neg c54] at H
                have c54b0 : (t232 == t221) = false := beq_eq_false_iff_ne.mpr c54
                have c54b1 : (t232 != t221) = true := bne_iff_ne.mpr c54
                exact absurd ((Option.some.inj H).trans hr_) (by decide)
          ·
           rw [if_neg c38] at H
           have c38b0 : (t223 == t221) = false := beq_eq_false_iff_ne.mpr c38
           have c38b1 : (t223 != t221) = true := bne_iff_ne.mpr c38
           exact absurd ((Option.some.inj H).trans hr_) (by decide)
     ·
      replace c22 := Bool.eq_false_iff.mpr c22
      subst c22
      have H1 : (some false) = some r := by rw [if_neg (show ¬ (false = true) by decide)] at H; exact H
      clear H
      have H := H1
      clear H1
      exact absurd ((Option.some.inj H).trans hr_) (by decide)

end Go.Proofs.Ytjdkdbeenggfaaa.PEv
