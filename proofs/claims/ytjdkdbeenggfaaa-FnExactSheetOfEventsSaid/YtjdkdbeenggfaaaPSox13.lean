-- Written for this claim by a program of this session (wip/tpl/patchprint.py), not by print.sh.
import Derived.Test.YtjdkdbeenggfaaaPSox0
import Derived.Test.YtjdkdbeenggfaaaPSox1
import Derived.Test.YtjdkdbeenggfaaaPSox2
import Derived.Test.YtjdkdbeenggfaaaPSox6
import Derived.Test.YtjdkdbeenggfaaaPSox7
import Derived.Test.YtjdkdbeenggfaaaPSox8
import Derived.Test.YtjdkdbeenggfaaaPSox12
namespace Go.Proofs.Ytjdkdbeenggfaaa.PSo
open Go.RowKit Go.Proofs.YtjdkdbeenggfaaaW.PrintWords Go.Proofs.YtjdkdbeenggfaaaW.PrintLast Go.Proofs.YtjdkdbeenggfaaaW.PrintMore
attribute [local go_sem] max2_int min2_int max_two min_two max_three min_three max_four min_four   -- for this text's walks alone
set_option linter.unusedVariables false
set_option linter.unusedSimpArgs false

/-! ### laws_FnExactSheetOfEvents: function 7 -/
mutual
noncomputable def laws_FnExactSheetOfEvents.j0 : Nat → List (List Int) → List (S87) → Bool → List (List Int) → List (S87) → Bool → Bool → Option (Bool)
  | 0, _, _, _, _, _, _, _ => none
  | k + 1, x0, x4, x5, x6, x7, x8, x40 => if x40 = true then (some false) else ((laws_toIntSS.f k x0).bind fun t258 => ((laws_eqIntSS.f k x6 t258).bind fun t261 => (if t261 = true then ((laws_markIntSS.f k x6 1).bind fun bt262 => (if bt262.1 < 0 then (laws_FnExactSheetOfEvents.j1 k x0 x4 x5 x7 true) else ((laws_eqHoleS.f k x7 x4).bind fun t264 => (if t264 = true then (laws_FnExactSheetOfEvents.j1 k x0 x4 x5 x7 (x8 != x5)) else (laws_FnExactSheetOfEvents.j1 k x0 x4 x5 x7 true))))) else (some false))))
noncomputable def laws_FnExactSheetOfEvents.j1 : Nat → List (List Int) → List (S87) → Bool → List (S87) → Bool → Option (Bool)
  | 0, _, _, _, _, _ => none
  | k + 1, x0, x4, x5, x7, x61 => if x61 = true then (some false) else ((laws_markHoleS.f k x7 1).bind fun bt265 => ((laws_heldHoleS.f k bt265.2 1).bind fun t267 => (if t267 < 0 then (some false) else (if t267 = bt265.1 then ((laws_toIntSS.f k x0).bind fun t268 => ((impl_SheetOfEvents.f k t268).bind fun bt271 => ((laws_eqHoleS.f k bt271.1 x4).bind fun t275 => (if t275 = true then (laws_FnExactSheetOfEvents.j2 k bt265.2 bt265.1 (bt271.2 != x5)) else (laws_FnExactSheetOfEvents.j2 k bt265.2 bt265.1 true))))) else (some false)))))
noncomputable def laws_FnExactSheetOfEvents.j2 : Nat → List (S87) → Int → Bool → Option (Bool)
  | 0, _, _, _ => none
  | k + 1, x7, x10, x87 => if x87 = true then (some false) else ((laws_heldHoleS.f k x7 1).bind fun t276 => (if t276 < 0 then (some false) else (if t276 = x10 then (some true) else (some false))))
end
noncomputable def laws_FnExactSheetOfEvents.f (k : Nat) (l0 : List (List Int)) : Option (Bool) := (laws_szIntSS.f k l0 1048576).bind fun t242 => (if t242 < 0 then (some true) else ((laws_toIntSS.f k l0).bind fun t243 => ((spec_SheetOfEvents.f k t243).bind fun bt246 => ((laws_toIntSS.f k l0).bind fun t250 => ((impl_SheetOfEvents.f k t250).bind fun bt253 => ((laws_eqHoleS.f k bt253.1 bt246.1).bind fun t257 => (if t257 = true then (laws_FnExactSheetOfEvents.j0 k l0 bt246.1 bt246.2 t250 bt253.1 bt253.2 (bt253.2 != bt246.2)) else (laws_FnExactSheetOfEvents.j0 k l0 bt246.1 bt246.2 t250 bt253.1 bt253.2 true))))))))
theorem laws_FnExactSheetOfEvents.mono_l : ∀ k, (∀ y0 y1 y2 y3 y4 y5 y6, LeO (laws_FnExactSheetOfEvents.j0 k y0 y1 y2 y3 y4 y5 y6) (laws_FnExactSheetOfEvents.j0 (k + 1) y0 y1 y2 y3 y4 y5 y6)) ∧ (∀ y0 y1 y2 y3 y4, LeO (laws_FnExactSheetOfEvents.j1 k y0 y1 y2 y3 y4) (laws_FnExactSheetOfEvents.j1 (k + 1) y0 y1 y2 y3 y4)) ∧ (∀ y0 y1 y2, LeO (laws_FnExactSheetOfEvents.j2 k y0 y1 y2) (laws_FnExactSheetOfEvents.j2 (k + 1) y0 y1 y2))
  | 0 => ⟨fun _ _ _ _ _ _ _ r h => by simp [laws_FnExactSheetOfEvents.j0] at h, fun _ _ _ _ _ r h => by simp [laws_FnExactSheetOfEvents.j1] at h, fun _ _ _ r h => by simp [laws_FnExactSheetOfEvents.j2] at h⟩
  | k + 1 => by
    obtain ⟨ih0, ih1, ih2⟩ := laws_FnExactSheetOfEvents.mono_l k
    refine ⟨?_, ?_, ?_⟩
    · intro y0 y1 y2 y3 y4 y5 y6
      unfold laws_FnExactSheetOfEvents.j0
      repeat' first
      | (with_reducible exact ih0 _ _ _ _ _ _ _)
      | (with_reducible exact ih1 _ _ _ _ _)
      | (with_reducible exact ih2 _ _ _)
      | (with_reducible exact impl_SheetOfEvents.mono _ _)
      | (with_reducible exact laws_eqHoleS.mono _ _ _)
      | (with_reducible exact laws_eqIntSS.mono _ _ _)
      | (with_reducible exact laws_heldHoleS.mono _ _ _)
      | (with_reducible exact laws_markHoleS.mono _ _ _)
      | (with_reducible exact laws_markIntSS.mono _ _ _)
      | (with_reducible exact laws_szIntSS.mono _ _ _)
      | (with_reducible exact laws_toIntSS.mono _ _)
      | (with_reducible exact spec_SheetOfEvents.mono _ _)
      | (with_reducible exact LeO.refl _)
      | (with_reducible exact LeO.none _)
      | (with_reducible refine LeO.ite ?_ ?_)
      | (with_reducible refine LeO.bind ?_ (fun _ => ?_))
      | exact ih0 _ _ _ _ _ _ _
      | exact ih1 _ _ _ _ _
      | exact ih2 _ _ _
      | exact impl_SheetOfEvents.mono _ _
      | exact laws_eqHoleS.mono _ _ _
      | exact laws_eqIntSS.mono _ _ _
      | exact laws_heldHoleS.mono _ _ _
      | exact laws_markHoleS.mono _ _ _
      | exact laws_markIntSS.mono _ _ _
      | exact laws_szIntSS.mono _ _ _
      | exact laws_toIntSS.mono _ _
      | exact spec_SheetOfEvents.mono _ _
      | exact LeO.none _
      | refine LeO.ite ?_ ?_
      | refine LeO.bind ?_ (fun _ => ?_)
    · intro y0 y1 y2 y3 y4
      unfold laws_FnExactSheetOfEvents.j1
      repeat' first
      | (with_reducible exact ih0 _ _ _ _ _ _ _)
      | (with_reducible exact ih1 _ _ _ _ _)
      | (with_reducible exact ih2 _ _ _)
      | (with_reducible exact impl_SheetOfEvents.mono _ _)
      | (with_reducible exact laws_eqHoleS.mono _ _ _)
      | (with_reducible exact laws_eqIntSS.mono _ _ _)
      | (with_reducible exact laws_heldHoleS.mono _ _ _)
      | (with_reducible exact laws_markHoleS.mono _ _ _)
      | (with_reducible exact laws_markIntSS.mono _ _ _)
      | (with_reducible exact laws_szIntSS.mono _ _ _)
      | (with_reducible exact laws_toIntSS.mono _ _)
      | (with_reducible exact spec_SheetOfEvents.mono _ _)
      | (with_reducible exact LeO.refl _)
      | (with_reducible exact LeO.none _)
      | (with_reducible refine LeO.ite ?_ ?_)
      | (with_reducible refine LeO.bind ?_ (fun _ => ?_))
      | exact ih0 _ _ _ _ _ _ _
      | exact ih1 _ _ _ _ _
      | exact ih2 _ _ _
      | exact impl_SheetOfEvents.mono _ _
      | exact laws_eqHoleS.mono _ _ _
      | exact laws_eqIntSS.mono _ _ _
      | exact laws_heldHoleS.mono _ _ _
      | exact laws_markHoleS.mono _ _ _
      | exact laws_markIntSS.mono _ _ _
      | exact laws_szIntSS.mono _ _ _
      | exact laws_toIntSS.mono _ _
      | exact spec_SheetOfEvents.mono _ _
      | exact LeO.none _
      | refine LeO.ite ?_ ?_
      | refine LeO.bind ?_ (fun _ => ?_)
    · intro y0 y1 y2
      unfold laws_FnExactSheetOfEvents.j2
      repeat' first
      | (with_reducible exact ih0 _ _ _ _ _ _ _)
      | (with_reducible exact ih1 _ _ _ _ _)
      | (with_reducible exact ih2 _ _ _)
      | (with_reducible exact impl_SheetOfEvents.mono _ _)
      | (with_reducible exact laws_eqHoleS.mono _ _ _)
      | (with_reducible exact laws_eqIntSS.mono _ _ _)
      | (with_reducible exact laws_heldHoleS.mono _ _ _)
      | (with_reducible exact laws_markHoleS.mono _ _ _)
      | (with_reducible exact laws_markIntSS.mono _ _ _)
      | (with_reducible exact laws_szIntSS.mono _ _ _)
      | (with_reducible exact laws_toIntSS.mono _ _)
      | (with_reducible exact spec_SheetOfEvents.mono _ _)
      | (with_reducible exact LeO.refl _)
      | (with_reducible exact LeO.none _)
      | (with_reducible refine LeO.ite ?_ ?_)
      | (with_reducible refine LeO.bind ?_ (fun _ => ?_))
      | exact ih0 _ _ _ _ _ _ _
      | exact ih1 _ _ _ _ _
      | exact ih2 _ _ _
      | exact impl_SheetOfEvents.mono _ _
      | exact laws_eqHoleS.mono _ _ _
      | exact laws_eqIntSS.mono _ _ _
      | exact laws_heldHoleS.mono _ _ _
      | exact laws_markHoleS.mono _ _ _
      | exact laws_markIntSS.mono _ _ _
      | exact laws_szIntSS.mono _ _ _
      | exact laws_toIntSS.mono _ _
      | exact spec_SheetOfEvents.mono _ _
      | exact LeO.none _
      | refine LeO.ite ?_ ?_
      | refine LeO.bind ?_ (fun _ => ?_)
theorem laws_FnExactSheetOfEvents.mono : ∀ a0 k, LeO (laws_FnExactSheetOfEvents.f k a0) (laws_FnExactSheetOfEvents.f (k + 1) a0) := by
  intro a0 k
  obtain ⟨ih0, ih1, ih2⟩ := laws_FnExactSheetOfEvents.mono_l k
  unfold laws_FnExactSheetOfEvents.f
  repeat' first
      | (with_reducible exact ih0 _ _ _ _ _ _ _)
      | (with_reducible exact ih1 _ _ _ _ _)
      | (with_reducible exact ih2 _ _ _)
      | (with_reducible exact impl_SheetOfEvents.mono _ _)
      | (with_reducible exact laws_eqHoleS.mono _ _ _)
      | (with_reducible exact laws_eqIntSS.mono _ _ _)
      | (with_reducible exact laws_heldHoleS.mono _ _ _)
      | (with_reducible exact laws_markHoleS.mono _ _ _)
      | (with_reducible exact laws_markIntSS.mono _ _ _)
      | (with_reducible exact laws_szIntSS.mono _ _ _)
      | (with_reducible exact laws_toIntSS.mono _ _)
      | (with_reducible exact spec_SheetOfEvents.mono _ _)
      | (with_reducible exact LeO.refl _)
      | (with_reducible exact LeO.none _)
      | (with_reducible refine LeO.ite ?_ ?_)
      | (with_reducible refine LeO.bind ?_ (fun _ => ?_))
      | exact ih0 _ _ _ _ _ _ _
      | exact ih1 _ _ _ _ _
      | exact ih2 _ _ _
      | exact impl_SheetOfEvents.mono _ _
      | exact laws_eqHoleS.mono _ _ _
      | exact laws_eqIntSS.mono _ _ _
      | exact laws_heldHoleS.mono _ _ _
      | exact laws_markHoleS.mono _ _ _
      | exact laws_markIntSS.mono _ _ _
      | exact laws_szIntSS.mono _ _ _
      | exact laws_toIntSS.mono _ _
      | exact spec_SheetOfEvents.mono _ _
      | exact LeO.none _
      | refine LeO.ite ?_ ?_
      | refine LeO.bind ?_ (fun _ => ?_)
theorem laws_FnExactSheetOfEvents.j0_t {k : Nat} : ∀ {a0_ a1_ a2_ a3_ a4_ a5_}, laws_FnExactSheetOfEvents.j0 k a0_ a1_ a2_ a3_ a4_ a5_ true = some true → False := by
  intros; rename_i h; revert h; cases k <;> simp [laws_FnExactSheetOfEvents.j0]
theorem laws_FnExactSheetOfEvents.j1_t {k : Nat} : ∀ {a0_ a1_ a2_ a3_}, laws_FnExactSheetOfEvents.j1 k a0_ a1_ a2_ a3_ true = some true → False := by
  intros; rename_i h; revert h; cases k <;> simp [laws_FnExactSheetOfEvents.j1]
theorem laws_FnExactSheetOfEvents.j2_t {k : Nat} : ∀ {a0_ a1_}, laws_FnExactSheetOfEvents.j2 k a0_ a1_ true = some true → False := by
  intros; rename_i h; revert h; cases k <;> simp [laws_FnExactSheetOfEvents.j2]
theorem markF {α : Type} {d : Kd α} {e : TypeId} {base : Nat} {ok : Nat → Prop} {W : World} {v : Value} {xs : List α} (h : Kd.S d e W base ok v xs) : ∃ F : Nat → Prop, Kd.S d e W base F v xs ∧ ∀ {β : Type} {d' : Kd β} {e' : TypeId} {base' : Nat} {ok' : Nat → Prop} {u : Value} {ys : List β}, Kd.R d' e' W base' ok' u ys → (∀ q, q ∈ e :: d.E → ∀ q', q' ∈ e' :: d'.E → q ≠ q') → Kd.R d' e' W base' (fun k => ok' k ∧ ¬ F k) u ys := by
  refine ⟨fun k => ∃ q, q ∈ e :: d.E ∧ ∃ cells, W.heap[k]? = some (.cells cells q (0, 0)), Kd.S_mono (Kd.S_bound h) (fun _ hk => hk.2.2.2), fun hr hne => Kd.R_mono (Kd.R_bound hr) (fun k hk => ⟨hk.1, fun ⟨q, hq, c, hc⟩ => ?_⟩)⟩
  obtain ⟨q', hq', c', hc'⟩ := hk.2.2.2
  have e_ := hc.symm.trans hc'
  injection e_ with e_
  injection e_ with _ e_
  exact hne q hq q' hq' e_
set_option maxHeartbeats 8000000 in
set_option maxRecDepth 100000 in
theorem laws_FnExactSheetOfEvents.calls (k : Nat) (A0 : Option Addr) (c0 : Nat) (l0 : List (List Int)) (r : Bool) (w : World) (hr0 : Kd.C (Kd.slice 3 (Kd.int .i64)) w A0 l0.length l0) (hc0 : l0.length ≤ c0) (h : laws_FnExactSheetOfEvents.f k l0 = some r) (hr_ : r = true) :
  Calls Try.prog 7 #[.slice A0 l0.length c0] w fun e w' => e = .returned (.bool r) ∧ Below w.heap.size w w' := by
 have HR0 := zm hr0
 have HC0 := zm hc0
 clear hr0 hc0
 have HB := zm (Below.refl w.heap.size w)
 have H : ((laws_szIntSS.f k l0 1048576).bind fun t242 => (if t242 < 0 then (some true) else ((laws_toIntSS.f k l0).bind fun t243 => ((spec_SheetOfEvents.f k t243).bind fun bt246 => ((laws_toIntSS.f k l0).bind fun t250 => ((impl_SheetOfEvents.f k t250).bind fun bt253 => ((laws_eqHoleS.f k bt253.1 bt246.1).bind fun t257 => (if t257 = true then (laws_FnExactSheetOfEvents.j0 k l0 bt246.1 bt246.2 t250 bt253.1 bt253.2 (bt253.2 != bt246.2)) else (laws_FnExactSheetOfEvents.j0 k l0 bt246.1 bt246.2 t250 bt253.1 bt253.2 true))))))))) = some r := h
 clear h
 replace H := Option.bind_eq_some_iff.mp H
 obtain ⟨t242, A20, H⟩ := H
 (try dsimp only at H)
 have A2 := zm A20
 clear A20
 by_cases c3 : t242 < 0
 ·
  rw [if_pos c3] at H
  have c3b0 : decide (t242 < 0) = true := decide_eq_true c3
  clear c3
  obtain rfl := Option.some.inj H
  go_enter Try.func7, Try.ntmps7
  go_wp2_with (first | ((with_reducible refine gate_callee (f := 51) rfl ?_); refine goesA_ (some 16) Try.func51 #[.slice A0 l0.length c0, .int .i64 1048576] rfl ?_; (with_reducible refine (laws_szIntSS.calls k _ _ l0 1048576 t242 _ ?side1 ?side2 A2.out).mono ?_); (case side1 => repeat (first | exact HR0.out | (with_reducible refine Kd.C_alloc ?_ _) | (with_reducible refine Kd.C_drewN ?_ _) | (with_reducible refine Kd.C_drew ?_))); (case side2 => exact HC0.out); rintro e w' ⟨rfl, ⟨nd, rfl⟩⟩; refine ⟨_, rfl, ?_⟩))
  go_ret
  exact ⟨zr, zb⟩
 rw [if_neg c3] at H
 have c3b0 : decide (t242 < 0) = false := decide_eq_false c3
 clear c3
 replace H := Option.bind_eq_some_iff.mp H
 obtain ⟨t243, A40, H⟩ := H
 (try dsimp only at H)
 have A4 := zm A40
 clear A40
 replace H := Option.bind_eq_some_iff.mp H
 obtain ⟨⟨t246, t247⟩, A50, H⟩ := H
 (try dsimp only at H)
 have A5 := zm A50
 clear A50
 replace H := Option.bind_eq_some_iff.mp H
 obtain ⟨t250, A60, H⟩ := H
 (try dsimp only at H)
 have A6 := zm A60
 clear A60
 replace H := Option.bind_eq_some_iff.mp H
 obtain ⟨⟨t253, t254⟩, A70, H⟩ := H
 (try dsimp only at H)
 have A7 := zm A70
 clear A70
 have HC8 := zm H
 clear H
 go_enter Try.func7, Try.ntmps7
 go_upto_region 8 with (first | ((with_reducible refine gate_callee (f := 51) rfl ?_); refine goesA_ (some 16) Try.func51 #[.slice A0 l0.length c0, .int .i64 1048576] rfl ?_; (with_reducible refine (laws_szIntSS.calls k _ _ l0 1048576 t242 _ ?side1 ?side2 A2.out).mono ?_); (case side1 => repeat (first | exact HR0.out | (with_reducible refine Kd.C_alloc ?_ _) | (with_reducible refine Kd.C_drewN ?_ _) | (with_reducible refine Kd.C_drew ?_))); (case side2 => exact HC0.out); rintro e w' ⟨rfl, ⟨nd, rfl⟩⟩; refine ⟨_, rfl, ?_⟩) | ((with_reducible refine gate_callee (f := 53) rfl ?_); refine goesA_ (some 21) Try.func53 #[.slice A0 l0.length c0] rfl ?_; (with_reducible refine (laws_toIntSS.calls k _ _ l0 t243 _ ?side1 ?side2 A4.out).mono ?_); (case side1 => repeat (first | exact HR0.out | (with_reducible refine Kd.C_alloc ?_ _) | (with_reducible refine Kd.C_drewN ?_ _) | (with_reducible refine Kd.C_drew ?_))); (case side2 => exact HC0.out); rintro e w9 ⟨v244, rfl, ho0, hb⟩; refine ⟨_, rfl, ?_⟩; have HO245 := zm (Kd.S_lower ho0 (below_size zb)); replace HB := zm (below_step zb hb); (try clear hb); (try clear hb2); (try clear hk); (try clear hi); (try clear ho0); obtain ⟨Ao10, co10, eo10⟩ := Kd.S_slice HO245.out; subst eo10) | ((with_reducible refine gate_callee (f := 52) rfl ?_); refine goesA_ (some 22) Try.func52 #[.slice Ao10 t243.length co10] rfl ?_; (with_reducible refine (spec_SheetOfEvents.calls k _ _ t243 t246 t247 _ ?side1 ?side2 A5.out).mono ?_); (case side1 => repeat (first | exact (Kd.S_reads' HO245.out).2.2 | (with_reducible refine Kd.C_alloc ?_ _) | (with_reducible refine Kd.C_drewN ?_ _) | (with_reducible refine Kd.C_drew ?_))); (case side2 => exact (Kd.S_reads' HO245.out).2.1); rintro e w11 ⟨v248, rfl, ho0, hb⟩; refine ⟨_, rfl, ?_⟩; replace HO245 := zm (Kd.S_below (zS HO245.out) hb); have HO249 := zm (Kd.R_lower ho0 (below_size zb)); replace HB := zm (below_step zb hb); (try clear hb); (try clear hb2); (try clear hk); (try clear hi); (try clear ho0)) | ((with_reducible refine gate_callee (f := 53) rfl ?_); refine goesA_ (some 26) Try.func53 #[.slice A0 l0.length c0] rfl ?_; (with_reducible refine (laws_toIntSS.calls k _ _ l0 t250 _ ?side1 ?side2 A6.out).mono ?_); (case side1 => repeat (first | exact (Kd.C_below HR0.out HB.out) | (with_reducible refine Kd.C_alloc ?_ _) | (with_reducible refine Kd.C_drewN ?_ _) | (with_reducible refine Kd.C_drew ?_))); (case side2 => exact HC0.out); rintro e w12 ⟨v251, rfl, ho0, hb⟩; refine ⟨_, rfl, ?_⟩; have n0_ := zm (Kd.S_elder' (zS HO245.out) (Kd.S_base ho0) hb); replace HO249 := zm (Kd.R_below (zP HO249.out) hb); have HO252 := zm (Kd.S_lower (Kd.S_new' ho0 (Kd.S_lt (zS HO245.out))) (below_size zb)); replace HB := zm (below_step zb hb); replace HO245 := n0_; clear n0_; (try clear hb); (try clear hb2); (try clear hk); (try clear hi); (try clear ho0); obtain ⟨Ao13, co13, eo13⟩ := Kd.S_slice HO252.out; subst eo13) | ((with_reducible refine gate_callee (f := 54) rfl ?_); refine goesA_ (some 29) Try.func54 #[.slice Ao13 t250.length co13] rfl ?_; (with_reducible refine (impl_SheetOfEvents.calls k _ _ t250 t253 t254 _ ?side1 ?side2 A7.out).mono ?_); (case side1 => repeat (first | exact (Kd.S_reads' HO252.out).2.2 | (with_reducible refine Kd.C_alloc ?_ _) | (with_reducible refine Kd.C_drewN ?_ _) | (with_reducible refine Kd.C_drew ?_))); (case side2 => exact (Kd.S_reads' HO252.out).2.1); rintro e w14 ⟨v255, rfl, ho0, hb⟩; refine ⟨_, rfl, ?_⟩; replace HO245 := zm (Kd.S_below (zS HO245.out) hb); have n1_ := zm (Kd.R_elder' (zP HO249.out) (Kd.R_base ho0) hb); replace HO252 := zm (Kd.S_below (zS HO252.out) hb); have HO256 := zm (Kd.R_lower (Kd.R_new' ho0 (Kd.R_lt (zP HO249.out))) (below_size zb)); replace HB := zm (below_step zb hb); replace HO249 := n1_; clear n1_; (try clear hb); (try clear hb2); (try clear hk); (try clear hi); (try clear ho0)))
 (try simp only [Act.put, List.setIfInBounds_toArray, List.set_cons_zero, List.set_cons_succ])
 go_cut [40] (fun v40 wc => ∃ (kq : Nat) (x40_7 : Bool), v40 = .bool x40_7 ∧ Aside0 (laws_FnExactSheetOfEvents.j0 kq l0 t246 t247 t250 t253 t254 x40_7 = some r) ∧ Aside0 (kq ≤ k) ∧ Aside0 (Kd.R k87 87 wc w.heap.size (fun k_ => some k_ ≠ (v255 : Value).ownBlock) v248 t246) ∧ Aside0 (Kd.S (Kd.slice 3 (Kd.int .i64)) 54 wc w.heap.size (fun _ => True) (.slice Ao13 t250.length co13) t250) ∧ Aside0 (Kd.R k87 87 wc w.heap.size (fun k_ => some k_ ≠ (v248 : Value).ownBlock) v255 t253) ∧ Aside0 (Below w.heap.size w wc))
 case first =>
  have H := HC8.out
  clear HC8
  replace H := Option.bind_eq_some_iff.mp H
  obtain ⟨t257, A150, H⟩ := H
  (try dsimp only at H)
  have A15 := zm A150
  clear A150
  by_cases c16 : t257 = true
  rotate_left
  ·
   replace c16 := Bool.eq_false_iff.mpr c16
   subst c16
   have H1 : (laws_FnExactSheetOfEvents.j0 k l0 t246 t247 t250 t253 t254 true) = some r := by rw [if_neg (show ¬ (false = true) by decide)] at H; exact H
   clear H
   have H := H1
   clear H1
   exact (laws_FnExactSheetOfEvents.j0_t (H.trans (congrArg some hr_))).elim
  subst c16
  have H1 : (laws_FnExactSheetOfEvents.j0 k l0 t246 t247 t250 t253 t254 (t254 != t247)) = some r := by rw [if_pos rfl] at H; exact H
  clear H
  have H := H1
  clear H1
  have H' := zm H
  clear H
  obtain ⟨Ao17, co17, eo17⟩ := Kd.R_slice HO256.out
  subst eo17
  obtain ⟨Ao18, co18, eo18⟩ := Kd.R_slice HO249.out
  subst eo18
  go_wp2_with (first | ((with_reducible refine gate_callee (f := 27) rfl ?_); refine goesA_ (some 34) Try.func27 #[.slice Ao17 t253.length co17, .slice Ao18 t246.length co18] rfl ?_; (with_reducible refine (laws_eqHoleS.calls k _ _ t253 _ _ t246 true _ ?side1 ?side2 ?side3 ?side4 A15.out).mono ?_); (case side1 => repeat (first | exact (Kd.R_reads' HO256.out).2.2 | (with_reducible refine Kd.C_alloc ?_ _) | (with_reducible refine Kd.C_drewN ?_ _) | (with_reducible refine Kd.C_drew ?_))); (case side2 => exact (Kd.R_reads' HO256.out).2.1); (case side3 => repeat (first | exact (Kd.R_reads' HO249.out).2.2 | (with_reducible refine Kd.C_alloc ?_ _) | (with_reducible refine Kd.C_drewN ?_ _) | (with_reducible refine Kd.C_drew ?_))); (case side4 => exact (Kd.R_reads' HO249.out).2.1); rintro e w19 ⟨rfl, hb⟩; refine ⟨_, rfl, ?_⟩; replace HO245 := zm (Kd.S_below (zS HO245.out) hb); replace HO249 := zm (Kd.R_below (zP HO249.out) hb); replace HO252 := zm (Kd.S_below (zS HO252.out) hb); replace HO256 := zm (Kd.R_below (zP HO256.out) hb); replace HB := zm (below_step zb hb); (try clear hb); (try clear hb2); (try clear hk); (try clear hi)))
  go_meet
  case rel => exact ⟨_, ((t254 != t247)), (by first | rfl | (simp; done) | (simp [*]; done)), H', ⟨by first | omega | exact Nat.le_refl _⟩, ⟨zP (Kd.R_mono HO249.out (fun _ hk => hk.2))⟩, ⟨zS (Kd.S_mono HO252.out (fun _ hk => trivial))⟩, ⟨zP (Kd.R_mono HO256.out (fun _ hk => hk.2))⟩, ⟨zb⟩⟩
 case rest =>
  clear HC8
  (try clear c1); (try clear c2); (try clear p2); (try clear c3); (try clear c3b0); (try clear c5); (try clear c7); (try clear c16)
  obtain ⟨kq, x40_7, rfl, HA, HJ7, HO_4, HO_6, HO_7, HB⟩ := hcut
  cases kq with
  | zero => exact absurd HA.out (by simp [laws_FnExactSheetOfEvents.j0])
  | succ kj7 =>
   have H := HA.out
   clear HA
   simp only [laws_FnExactSheetOfEvents.j0] at H
   by_cases c20 : x40_7 = true
   ·
    subst c20
    have H1 : (some false) = some r := by rw [if_pos rfl] at H; exact H
    clear H
    have H := H1
    clear H1
    exact absurd ((Option.some.inj H).trans hr_) (by decide)
   replace c20 := Bool.eq_false_iff.mpr c20
   subst c20
   have H1 : ((laws_toIntSS.f kj7 l0).bind fun t258 => ((laws_eqIntSS.f kj7 t250 t258).bind fun t261 => (if t261 = true then ((laws_markIntSS.f kj7 t250 1).bind fun bt262 => (if bt262.1 < 0 then (laws_FnExactSheetOfEvents.j1 kj7 l0 t246 t247 t253 true) else ((laws_eqHoleS.f kj7 t253 t246).bind fun t264 => (if t264 = true then (laws_FnExactSheetOfEvents.j1 kj7 l0 t246 t247 t253 (t254 != t247)) else (laws_FnExactSheetOfEvents.j1 kj7 l0 t246 t247 t253 true))))) else (some false)))) = some r := by rw [if_neg (show ¬ (false = true) by decide)] at H; exact H
   clear H
   have H := H1
   clear H1
   replace H := Option.bind_eq_some_iff.mp H
   obtain ⟨t258, A210, H⟩ := H
   (try dsimp only at H)
   have A21 := zm A210
   clear A210
   replace H := Option.bind_eq_some_iff.mp H
   obtain ⟨t261, A220, H⟩ := H
   (try dsimp only at H)
   have A22 := zm A220
   clear A220
   by_cases c23 : t261 = true
   rotate_left
   ·
    replace c23 := Bool.eq_false_iff.mpr c23
    subst c23
    have H1 : (some false) = some r := by rw [if_neg (show ¬ (false = true) by decide)] at H; exact H
    clear H
    have H := H1
    clear H1
    exact absurd ((Option.some.inj H).trans hr_) (by decide)

   subst c23
   have H1 : ((laws_markIntSS.f kj7 t250 1).bind fun bt262 => (if bt262.1 < 0 then (laws_FnExactSheetOfEvents.j1 kj7 l0 t246 t247 t253 true) else ((laws_eqHoleS.f kj7 t253 t246).bind fun t264 => (if t264 = true then (laws_FnExactSheetOfEvents.j1 kj7 l0 t246 t247 t253 (t254 != t247)) else (laws_FnExactSheetOfEvents.j1 kj7 l0 t246 t247 t253 true))))) = some r := by rw [if_pos rfl] at H; exact H
   clear H
   have H := H1
   clear H1
   replace H := Option.bind_eq_some_iff.mp H
   obtain ⟨⟨t262, t263⟩, A240, H⟩ := H
   (try dsimp only at H)
   have A24 := zm A240
   clear A240
   have HC25 := zm H
   clear H
   go_upto_region 14 with (first | ((with_reducible refine gate_callee (f := 53) rfl ?_); refine goesA_ (some 43) Try.func53 #[.slice A0 l0.length c0] rfl ?_; (with_reducible refine (laws_toIntSS.calls kj7 _ _ l0 t258 _ ?side1 ?side2 A21.out).mono ?_); (case side1 => repeat (first | exact (Kd.C_below HR0.out HB.out) | (with_reducible refine Kd.C_alloc ?_ _) | (with_reducible refine Kd.C_drewN ?_ _) | (with_reducible refine Kd.C_drew ?_))); (case side2 => exact HC0.out); rintro e w26 ⟨v259, rfl, ho0, hb⟩; refine ⟨_, rfl, ?_⟩; replace HO_4 := zm (Kd.R_below (zP HO_4.out) hb); have n1_ := zm (Kd.S_elder' (zS HO_6.out) (Kd.S_base ho0) hb); replace HO_7 := zm (Kd.R_below (zP HO_7.out) hb); have HO260 := zm (Kd.S_lower (Kd.S_new' ho0 (Kd.S_lt (zS HO_6.out))) (below_size zb)); replace HB := zm (below_step zb hb); replace HO_6 := n1_; clear n1_; (try clear hb); (try clear hb2); (try clear hk); (try clear hi); (try clear ho0); obtain ⟨Ao27, co27, eo27⟩ := Kd.S_slice HO260.out; subst eo27) | ((with_reducible refine gate_callee (f := 26) rfl ?_); refine goesA_ (some 44) Try.func26 #[.slice Ao13 t250.length co13, .slice Ao27 t258.length co27] rfl ?_; (with_reducible refine (laws_eqIntSS.calls kj7 _ _ t250 _ _ t258 true _ ?side1 ?side2 ?side3 ?side4 A22.out).mono ?_); (case side1 => repeat (first | exact (Kd.S_reads' HO_6.out).2.2 | (with_reducible refine Kd.C_alloc ?_ _) | (with_reducible refine Kd.C_drewN ?_ _) | (with_reducible refine Kd.C_drew ?_))); (case side2 => exact (Kd.S_reads' HO_6.out).2.1); (case side3 => repeat (first | exact (Kd.S_reads' HO260.out).2.2 | (with_reducible refine Kd.C_alloc ?_ _) | (with_reducible refine Kd.C_drewN ?_ _) | (with_reducible refine Kd.C_drew ?_))); (case side4 => exact (Kd.S_reads' HO260.out).2.1); rintro e w' ⟨rfl, ⟨nd, rfl⟩⟩; refine ⟨_, rfl, ?_⟩) | ((with_reducible refine gate_callee (f := 29) rfl ?_); refine goesA_ (some 48) Try.func29 #[.slice Ao13 t250.length co13, .int .i64 1] rfl ?_; obtain ⟨F_, hF_, hA_⟩ := markF HO_6.out; (with_reducible refine (laws_markIntSS.calls kj7 F_ (.slice Ao13 t250.length co13) t250 1 t262 t263 w _ ?side1 ?side2 A24.out).mono ?_); (case side1 => exact zb); (case side2 => exact hF_); rintro e w28 ⟨rfl, hy0, hb, hkp⟩; refine ⟨_, rfl, ?_⟩; replace HO_4 := zm (Kd.R_mono (ok' := fun k_ => some k_ ≠ (v255 : Value).ownBlock) (Kd.R_keptB (hA_ HO_4.out (by decide)) hkp (fun k_ hk_ => hk_.2)) (fun k_ hk_ => hk_.1.1)); replace HO_7 := zm (Kd.R_mono (ok' := fun k_ => some k_ ≠ (v248 : Value).ownBlock) (Kd.R_keptB (hA_ HO_7.out (by decide)) hkp (fun k_ hk_ => hk_.2)) (fun k_ hk_ => hk_.1.1)); have n1_ := zm (Kd.S_mono (ok' := fun k_ => True) hy0 (fun k_ hk_ => trivial)); clear HO260; replace HB := zm (hb); replace HO_6 := n1_; clear n1_; (try clear hb); (try clear hkp); (try clear hy0)))
   (try simp only [Act.put, List.setIfInBounds_toArray, List.set_cons_zero, List.set_cons_succ])
   go_cut [61] (fun v61 wc => ∃ (kq : Nat) (x61_24 : Bool), v61 = .bool x61_24 ∧ Aside0 (laws_FnExactSheetOfEvents.j1 kq l0 t246 t247 t253 x61_24 = some r) ∧ Aside0 (kq ≤ kj7) ∧ Aside0 (Kd.R k87 87 wc w.heap.size (fun k_ => some k_ ≠ (v255 : Value).ownBlock) v248 t246) ∧ Aside0 (Kd.R k87 87 wc w.heap.size (fun k_ => some k_ ≠ (v248 : Value).ownBlock) v255 t253) ∧ Aside0 (Below w.heap.size w wc))
   case first =>
    have H := HC25.out
    clear HC25
    by_cases c29 : t262 < 0
    ·
     rw [if_pos c29] at H
     have c29b0 : decide (t262 < 0) = true := decide_eq_true c29
     clear c29
     (first | rw [c29b0] | (simp only [i64_w, i32_w]; rw [c29b0]) | skip)
     exact (laws_FnExactSheetOfEvents.j1_t (H.trans (congrArg some hr_))).elim
    rw [if_neg c29] at H
    have c29b0 : decide (t262 < 0) = false := decide_eq_false c29
    clear c29
    (first | rw [c29b0] | (simp only [i64_w, i32_w]; rw [c29b0]) | skip)
    replace H := Option.bind_eq_some_iff.mp H
    obtain ⟨t264, A300, H⟩ := H
    (try dsimp only at H)
    have A30 := zm A300
    clear A300
    by_cases c31 : t264 = true
    rotate_left
    ·
     replace c31 := Bool.eq_false_iff.mpr c31
     subst c31
     have H1 : (laws_FnExactSheetOfEvents.j1 kj7 l0 t246 t247 t253 true) = some r := by rw [if_neg (show ¬ (false = true) by decide)] at H; exact H
     clear H
     have H := H1
     clear H1
     exact (laws_FnExactSheetOfEvents.j1_t (H.trans (congrArg some hr_))).elim
    subst c31
    have H1 : (laws_FnExactSheetOfEvents.j1 kj7 l0 t246 t247 t253 (t254 != t247)) = some r := by rw [if_pos rfl] at H; exact H
    clear H
    have H := H1
    clear H1
    have H' := zm H
    clear H
    obtain ⟨Ao32, co32, eo32⟩ := Kd.R_slice HO_7.out
    subst eo32
    obtain ⟨Ao33, co33, eo33⟩ := Kd.R_slice HO_4.out
    subst eo33
    go_wp2_with (first | (go_at_call 27; (with_reducible refine (laws_eqHoleS.calls kj7 _ _ t253 _ _ t246 true _ ?side1 ?side2 ?side3 ?side4 A30.out).mono ?_); (case side1 => repeat (first | exact (Kd.R_reads' HO_7.out).2.2 | (with_reducible refine Kd.C_alloc ?_ _) | (with_reducible refine Kd.C_drewN ?_ _) | (with_reducible refine Kd.C_drew ?_))); (case side2 => exact (Kd.R_reads' HO_7.out).2.1); (case side3 => repeat (first | exact (Kd.R_reads' HO_4.out).2.2 | (with_reducible refine Kd.C_alloc ?_ _) | (with_reducible refine Kd.C_drewN ?_ _) | (with_reducible refine Kd.C_drew ?_))); (case side4 => exact (Kd.R_reads' HO_4.out).2.1); rintro e w34 ⟨rfl, hb⟩; replace HO_4 := zm (Kd.R_below (zP HO_4.out) hb); replace HO_6 := zm (Kd.S_below (zS HO_6.out) hb); replace HO_7 := zm (Kd.R_below (zP HO_7.out) hb); replace HB := zm (below_step zb hb); (try clear hb); (try clear hb2); (try clear hk); (try clear hi)))
    go_meet
    case rel => exact ⟨_, ((t254 != t247)), (by first | rfl | (simp; done) | (simp [*]; done)), H', ⟨by have := HJ7.out; first | omega | exact Nat.le_refl _⟩, ⟨zP HO_4.out⟩, ⟨zP HO_7.out⟩, ⟨zb⟩⟩
   case rest =>
    clear HC25
    (try clear c1); (try clear c2); (try clear p2); (try clear c3); (try clear c3b0); (try clear c5); (try clear c7); (try clear c16); (try clear c20); (try clear c23); (try clear c26); (try clear c27); (try clear c29); (try clear c29b0); (try clear c31); (try clear p2)
    obtain ⟨kq, x61_24, rfl, HA, HJ24, HO_4, HO_7, HB⟩ := hcut
    cases kq with
    | zero => exact absurd HA.out (by simp [laws_FnExactSheetOfEvents.j1])
    | succ kj24 =>
     have H := HA.out
     clear HA
     simp only [laws_FnExactSheetOfEvents.j1] at H
     by_cases c35 : x61_24 = true
     ·
      subst c35
      have H1 : (some false) = some r := by rw [if_pos rfl] at H; exact H
      clear H
      have H := H1
      clear H1
      exact absurd ((Option.some.inj H).trans hr_) (by decide)
     replace c35 := Bool.eq_false_iff.mpr c35
     subst c35
     have H1 : ((laws_markHoleS.f kj24 t253 1).bind fun bt265 => ((laws_heldHoleS.f kj24 bt265.2 1).bind fun t267 => (if t267 < 0 then (some false) else (if t267 = bt265.1 then ((laws_toIntSS.f kj24 l0).bind fun t268 => ((impl_SheetOfEvents.f kj24 t268).bind fun bt271 => ((laws_eqHoleS.f kj24 bt271.1 t246).bind fun t275 => (if t275 = true then (laws_FnExactSheetOfEvents.j2 kj24 bt265.2 bt265.1 (bt271.2 != t247)) else (laws_FnExactSheetOfEvents.j2 kj24 bt265.2 bt265.1 true))))) else (some false))))) = some r := by rw [if_neg (show ¬ (false = true) by decide)] at H; exact H
     clear H
     have H := H1
     clear H1
     replace H := Option.bind_eq_some_iff.mp H
     obtain ⟨⟨t265, t266⟩, A360, H⟩ := H
     (try dsimp only at H)
     have A36 := zm A360
     clear A360
     replace H := Option.bind_eq_some_iff.mp H
     obtain ⟨t267, A370, H⟩ := H
     (try dsimp only at H)
     have A37 := zm A370
     clear A370
     by_cases c38 : t267 < 0
     ·
      rw [if_pos c38] at H
      have c38b0 : decide (t267 < 0) = true := decide_eq_true c38
      clear c38
      exact absurd ((Option.some.inj H).trans hr_) (by decide)
     rw [if_neg c38] at H
     have c38b0 : decide (t267 < 0) = false := decide_eq_false c38
     clear c38
     by_cases c39 : t267 = t265
     rotate_left
     ·
      rw [if_neg c39] at H
      have c39b0 : (t267 == t265) = false := beq_eq_false_iff_ne.mpr c39
      have c39b1 : (t267 != t265) = true := bne_iff_ne.mpr c39
      exact absurd ((Option.some.inj H).trans hr_) (by decide)
     rw [if_pos c39] at H
     have c39b0 : (t267 == t265) = true := beq_iff_eq.mpr c39
     have c39b1 : (t267 != t265) = false := bne_eq_false_iff_eq.mpr c39
     clear c39
     replace H := Option.bind_eq_some_iff.mp H
     obtain ⟨t268, A400, H⟩ := H
     (try dsimp only at H)
     have A40 := zm A400
     clear A400
     replace H := Option.bind_eq_some_iff.mp H
     obtain ⟨⟨t271, t272⟩, A410, H⟩ := H
     (try dsimp only at H)
     have A41 := zm A410
     clear A410
     have HC42 := zm H
     clear H
     obtain ⟨Ao43, co43, eo43⟩ := Kd.R_slice HO_7.out
     subst eo43
     go_upto_region 25 with (first | ((with_reducible refine gate_callee (f := 28) rfl ?_); refine goesA_ (some 64) Try.func28 #[.slice Ao43 t253.length co43, .int .i64 1] rfl ?_; (with_reducible refine (laws_markHoleS.calls kj24 (fun k_ => some k_ = (.slice Ao43 t253.length co43 : Value).ownBlock) (.slice Ao43 t253.length co43) t253 1 t265 t266 w _ ?side1 ?side2 A36.out).mono ?_); (case side1 => exact zb); (case side2 => exact Kd.R_tight rfl HO_7.out); rintro e w44 ⟨rfl, hy0, hb, hkp⟩; refine ⟨_, rfl, ?_⟩; replace HO_4 := zm (Kd.R_mono (ok' := fun k_ => some k_ ≠ (.slice Ao43 t253.length co43 : Value).ownBlock) (Kd.R_keptB (HO_4.out) hkp (fun k_ hk_ hs_ => (hk_) hs_)) (fun k_ hk_ => hk_.1)); replace HO_7 := zm (Kd.R_reok rfl hy0 (fun k_ e_ => HO_7.out.1 k_ e_)); replace HB := zm (hb); (try clear hb); (try clear hkp); (try clear hy0)) | ((with_reducible refine gate_callee (f := 55) rfl ?_); refine goesL_ (some 67) rfl rfl Try.func55 (by kernel_rfl) rfl #[.slice Ao43 t266.length co43, .int .i64 1] rfl (by (try simp only [List.map_toArray, List.map_cons, List.map_nil]); first | done | (rw [show t266.length = t253.length from (Kd.R_reads' HO_7.out).1.symm] <;> rfl) | rfl | (simp only [List.length_drop, List.length_take]; rfl)) ?_; (with_reducible refine (laws_heldHoleS.calls kj24 _ _ t266 1 t267 _ ?side1 ?side2 A37.out).mono ?_); (case side1 => repeat (first | exact (Kd.R_reads' HO_7.out).2.2 | (with_reducible refine Kd.C_alloc ?_ _) | (with_reducible refine Kd.C_drewN ?_ _) | (with_reducible refine Kd.C_drew ?_))); (case side2 => rw [show t266.length = t253.length from (Kd.R_reads' HO_7.out).1.symm]; exact (Kd.R_reads' HO_7.out).2.1); rintro e w' ⟨rfl, ⟨nd, rfl⟩⟩; refine ⟨_, rfl, ?_⟩) | ((with_reducible refine gate_callee (f := 53) rfl ?_); refine goesA_ (some 75) Try.func53 #[.slice A0 l0.length c0] rfl ?_; (with_reducible refine (laws_toIntSS.calls kj24 _ _ l0 t268 _ ?side1 ?side2 A40.out).mono ?_); (case side1 => repeat (first | exact (Kd.C_below HR0.out zb) | (with_reducible refine Kd.C_alloc ?_ _) | (with_reducible refine Kd.C_drewN ?_ _) | (with_reducible refine Kd.C_drew ?_))); (case side2 => exact HC0.out); rintro e w45 ⟨v269, rfl, ho0, hb⟩; refine ⟨_, rfl, ?_⟩; replace HO_4 := zm (Kd.R_below (zP HO_4.out) hb); replace HO_7 := zm (Kd.R_below (zP HO_7.out) hb); have HO270 := zm (Kd.S_lower ho0 (below_size zb)); replace HB := zm (below_step zb hb); (try clear hb); (try clear hb2); (try clear hk); (try clear hi); (try clear ho0); obtain ⟨Ao46, co46, eo46⟩ := Kd.S_slice HO270.out; subst eo46) | ((with_reducible refine gate_callee (f := 54) rfl ?_); refine goesA_ (some 76) Try.func54 #[.slice Ao46 t268.length co46] rfl ?_; (with_reducible refine (impl_SheetOfEvents.calls kj24 _ _ t268 t271 t272 _ ?side1 ?side2 A41.out).mono ?_); (case side1 => repeat (first | exact (Kd.S_reads' HO270.out).2.2 | (with_reducible refine Kd.C_alloc ?_ _) | (with_reducible refine Kd.C_drewN ?_ _) | (with_reducible refine Kd.C_drew ?_))); (case side2 => exact (Kd.S_reads' HO270.out).2.1); rintro e w47 ⟨v273, rfl, ho0, hb⟩; refine ⟨_, rfl, ?_⟩; have n0_ := zm (Kd.R_elder' (zP HO_4.out) (Kd.R_base ho0) hb); have n1_ := zm (Kd.R_elder' (zP HO_7.out) (Kd.R_base ho0) hb); replace HO270 := zm (Kd.S_below (zS HO270.out) hb); have HO274 := zm (Kd.R_lower (Kd.R_new' (Kd.R_new' ho0 (Kd.R_lt (zP HO_4.out))) (Kd.R_lt (zP HO_7.out))) (below_size zb)); replace HB := zm (below_step zb hb); replace HO_4 := n0_; replace HO_7 := n1_; clear n0_ n1_; (try clear hb); (try clear hb2); (try clear hk); (try clear hi); (try clear ho0)))
     (try simp only [Act.put, List.setIfInBounds_toArray, List.set_cons_zero, List.set_cons_succ])
     go_cut [87] (fun v87 wc => ∃ (kq : Nat) (x87_41 : Bool), v87 = .bool x87_41 ∧ Aside0 (laws_FnExactSheetOfEvents.j2 kq t266 t265 x87_41 = some r) ∧ Aside0 (kq ≤ kj24) ∧ Aside0 (Kd.R k87 87 wc w.heap.size (fun _ => True) (.slice Ao43 t253.length co43) t266) ∧ Aside0 (Below w.heap.size w wc))
     case first =>
      have H := HC42.out
      clear HC42
      replace H := Option.bind_eq_some_iff.mp H
      obtain ⟨t275, A480, H⟩ := H
      (try dsimp only at H)
      have A48 := zm A480
      clear A480
      by_cases c49 : t275 = true
      rotate_left
      ·
       replace c49 := Bool.eq_false_iff.mpr c49
       subst c49
       have H1 : (laws_FnExactSheetOfEvents.j2 kj24 t266 t265 true) = some r := by rw [if_neg (show ¬ (false = true) by decide)] at H; exact H
       clear H
       have H := H1
       clear H1
       exact (laws_FnExactSheetOfEvents.j2_t (H.trans (congrArg some hr_))).elim
      subst c49
      have H1 : (laws_FnExactSheetOfEvents.j2 kj24 t266 t265 (t272 != t247)) = some r := by rw [if_pos rfl] at H; exact H
      clear H
      have H := H1
      clear H1
      have H' := zm H
      clear H
      obtain ⟨Ao50, co50, eo50⟩ := Kd.R_slice HO274.out
      subst eo50
      obtain ⟨Ao51, co51, eo51⟩ := Kd.R_slice HO_4.out
      subst eo51
      go_wp2_with (first | ((with_reducible refine gate_callee (f := 27) rfl ?_); refine goesA_ (some 81) Try.func27 #[.slice Ao50 t271.length co50, .slice Ao51 t246.length co51] rfl ?_; (with_reducible refine (laws_eqHoleS.calls kj24 _ _ t271 _ _ t246 true _ ?side1 ?side2 ?side3 ?side4 A48.out).mono ?_); (case side1 => repeat (first | exact (Kd.R_reads' HO274.out).2.2 | (with_reducible refine Kd.C_alloc ?_ _) | (with_reducible refine Kd.C_drewN ?_ _) | (with_reducible refine Kd.C_drew ?_))); (case side2 => exact (Kd.R_reads' HO274.out).2.1); (case side3 => repeat (first | exact (Kd.R_reads' HO_4.out).2.2 | (with_reducible refine Kd.C_alloc ?_ _) | (with_reducible refine Kd.C_drewN ?_ _) | (with_reducible refine Kd.C_drew ?_))); (case side4 => exact (Kd.R_reads' HO_4.out).2.1); rintro e w52 ⟨rfl, hb⟩; refine ⟨_, rfl, ?_⟩; replace HO_4 := zm (Kd.R_below (zP HO_4.out) hb); replace HO_7 := zm (Kd.R_below (zP HO_7.out) hb); replace HO270 := zm (Kd.S_below (zS HO270.out) hb); replace HO274 := zm (Kd.R_below (zP HO274.out) hb); replace HB := zm (below_step zb hb); (try clear hb); (try clear hb2); (try clear hk); (try clear hi)))
      go_meet
      case rel => exact ⟨_, ((t272 != t247)), (by first | rfl | (simp; done) | (simp [*]; done)), H', ⟨by have := HJ7.out; have := HJ24.out; first | omega | exact Nat.le_refl _⟩, ⟨zP (Kd.R_mono HO_7.out (fun _ hk => trivial))⟩, ⟨zb⟩⟩
     case rest =>
      clear HC42
      (try clear c1); (try clear c2); (try clear p2); (try clear c3); (try clear c3b0); (try clear c4); (try clear c5); (try clear c7); (try clear c16); (try clear c20); (try clear c23); (try clear c26); (try clear c27); (try clear c28); (try clear c29); (try clear c29b0); (try clear c31); (try clear c35); (try clear c38); (try clear c38b0); (try clear c39); (try clear c39b0); (try clear c39b1); (try clear c49); (try clear c51); (try clear c52); (try clear p2)
      obtain ⟨kq, x87_41, rfl, HA, HJ41, HO_7, HB⟩ := hcut
      have hl7_41 := (Kd.R_reads' HO_7.out).1
      rw [hl7_41] at HO_7
      (try simp only [hl7_41])
      cases kq with
      | zero => exact absurd HA.out (by simp [laws_FnExactSheetOfEvents.j2])
      | succ kj41 =>
       have H := HA.out
       clear HA
       simp only [laws_FnExactSheetOfEvents.j2] at H
       by_cases c53 : x87_41 = true
       ·
        subst c53
        have H1 : (some false) = some r := by rw [if_pos rfl] at H; exact H
        clear H
        have H := H1
        clear H1
        exact absurd ((Option.some.inj H).trans hr_) (by decide)
       replace c53 := Bool.eq_false_iff.mpr c53
       subst c53
       have H1 : ((laws_heldHoleS.f kj41 t266 1).bind fun t276 => (if t276 < 0 then (some false) else (if t276 = t265 then (some true) else (some false)))) = some r := by rw [if_neg (show ¬ (false = true) by decide)] at H; exact H
       clear H
       have H := H1
       clear H1
       replace H := Option.bind_eq_some_iff.mp H
       obtain ⟨t276, A540, H⟩ := H
       (try dsimp only at H)
       have A54 := zm A540
       clear A540
       by_cases c55 : t276 < 0
       ·
        rw [if_pos c55] at H
        have c55b0 : decide (t276 < 0) = true := decide_eq_true c55
        clear c55
        exact absurd ((Option.some.inj H).trans hr_) (by decide)
       rw [if_neg c55] at H
       have c55b0 : decide (t276 < 0) = false := decide_eq_false c55
       clear c55
       by_cases c56 : t276 = t265
       rotate_left
       ·
        rw [if_neg c56] at H
        have c56b0 : (t276 == t265) = false := beq_eq_false_iff_ne.mpr c56
        have c56b1 : (t276 != t265) = true := bne_iff_ne.mpr c56
        exact absurd ((Option.some.inj H).trans hr_) (by decide)
       rw [if_pos c56] at H
       have c56b0 : (t276 == t265) = true := beq_iff_eq.mpr c56
       have c56b1 : (t276 != t265) = false := bne_eq_false_iff_eq.mpr c56
       clear c56
       obtain rfl := Option.some.inj H
       go_wp2_with (first | ((with_reducible refine gate_callee (f := 55) rfl ?_); refine goesA_ (some 90) Try.func55 #[.slice Ao43 t266.length co43, .int .i64 1] rfl ?_; (with_reducible refine (laws_heldHoleS.calls kj41 _ _ t266 1 t276 _ ?side1 ?side2 A54.out).mono ?_); (case side1 => repeat (first | exact (Kd.R_reads' HO_7.out).2.2 | (with_reducible refine Kd.C_alloc ?_ _) | (with_reducible refine Kd.C_drewN ?_ _) | (with_reducible refine Kd.C_drew ?_))); (case side2 => exact (Kd.R_reads' HO_7.out).2.1); rintro e w' ⟨rfl, ⟨nd, rfl⟩⟩; refine ⟨_, rfl, ?_⟩))
       go_ret
       exact ⟨zr, zb⟩
end Go.Proofs.Ytjdkdbeenggfaaa.PSo
