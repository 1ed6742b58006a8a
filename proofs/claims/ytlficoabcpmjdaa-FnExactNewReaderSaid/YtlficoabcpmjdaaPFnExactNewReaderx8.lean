-- Written for this claim by a program of this session (wip/tpl/patchprint.py), not by print.sh.
import Derived.Test.YtlficoabcpmjdaaPFnExactNewReaderx0
import Derived.Test.YtlficoabcpmjdaaPFnExactNewReaderx1
import Derived.Test.YtlficoabcpmjdaaPFnExactNewReaderx4
import Derived.Test.YtlficoabcpmjdaaPFnExactNewReaderx6
import Derived.Test.YtlficoabcpmjdaaPFnExactNewReaderx7
namespace Go.Proofs.Ytlficoabcpmjdaa.PFnExactNewReader
open Go.RowKit Go.Proofs.YtlficoabcpmjdaaW.PrintWords Go.Proofs.YtlficoabcpmjdaaW.PrintLast Go.Proofs.YtlficoabcpmjdaaW.PrintMore
attribute [local go_sem] max2_int min2_int max_two min_two max_three min_three max_four min_four   -- for this text's walks alone
set_option linter.unusedVariables false
set_option linter.unusedSimpArgs false

/-! ### laws_FnExactNewReader: function 6 -/
mutual
def laws_FnExactNewReader.j0 : Nat → List (S70) → Bool → List (S68) → Bool → Bool → List (S68) → Int → List Int → List (S68) → Int → List Int → Option (Bool)
  | 0, _, _, _, _, _, _, _, _, _, _, _ => none
  | k + 1, x0, x5, x6, x8, x40, x287000, x287001, x287002, x299000, x299001, x299002 => if x40 = true then (some false) else ((laws_toHoleS.f k x0).bind fun t300 => ((laws_eqHoleS.f k x6 t300).bind fun t303 => (if t303 = true then ((laws_markHoleS.f k x6 1).bind fun bt304 => (if bt304.1 < 0 then (laws_FnExactNewReader.j1 k x0 x5 true x287000 x287001 x287002 x299000 x299001 x299002) else ((laws_eqReader.f k x299000 x299001 x299002 x287000 x287001 x287002).bind fun t306 => (if t306 = true then (laws_FnExactNewReader.j1 k x0 x5 (x8 != x5) x287000 x287001 x287002 x299000 x299001 x299002) else (laws_FnExactNewReader.j1 k x0 x5 true x287000 x287001 x287002 x299000 x299001 x299002))))) else (some false))))
def laws_FnExactNewReader.j1 : Nat → List (S70) → Bool → Bool → List (S68) → Int → List Int → List (S68) → Int → List Int → Option (Bool)
  | 0, _, _, _, _, _, _, _, _, _ => none
  | k + 1, x0, x5, x61, x287000, x287001, x287002, x299000, x299001, x299002 => if x61 = true then (some false) else ((laws_markReader.f k x299000 x299001 x299002 1).bind fun bt307 => ((laws_heldReader.f k bt307.2.1 x299001 bt307.2.2 1).bind fun t310 => (if t310 < 0 then (some false) else (if t310 = bt307.1 then ((laws_toHoleS.f k x0).bind fun t311 => ((impl_NewReader.f k t311).bind fun bt314 => ((laws_eqReader.f k bt314.1 bt314.2.1 bt314.2.2.1 x287000 x287001 x287002).bind fun t323 => (if t323 = true then (laws_FnExactNewReader.j2 k bt307.1 (bt314.2.2.2 != x5) bt307.2.1 x299001 bt307.2.2) else (laws_FnExactNewReader.j2 k bt307.1 true bt307.2.1 x299001 bt307.2.2))))) else (some false)))))
def laws_FnExactNewReader.j2 : Nat → Int → Bool → List (S68) → Int → List Int → Option (Bool)
  | 0, _, _, _, _, _ => none
  | k + 1, x10, x87, x299000, x299001, x299002 => if x87 = true then (some false) else ((laws_heldReader.f k x299000 x299001 x299002 1).bind fun t324 => (if t324 < 0 then (some false) else (if t324 = x10 then (some true) else (some false))))
end
def laws_FnExactNewReader.f (k : Nat) (l0 : List (S70)) : Option (Bool) := (laws_szHoleS.f l0 1048576).bind fun t274 => (if t274 < 0 then (some true) else ((laws_toHoleS.f k l0).bind fun t275 => ((spec_NewReader.f k t275).bind fun bt278 => ((laws_toHoleS.f k l0).bind fun t287 => ((impl_NewReader.f k t287).bind fun bt290 => ((laws_eqReader.f k bt290.1 bt290.2.1 bt290.2.2.1 bt278.1 bt278.2.1 bt278.2.2.1).bind fun t299 => (if t299 = true then (laws_FnExactNewReader.j0 k l0 bt278.2.2.2 t287 bt290.2.2.2 (bt290.2.2.2 != bt278.2.2.2) bt278.1 bt278.2.1 bt278.2.2.1 bt290.1 bt290.2.1 bt290.2.2.1) else (laws_FnExactNewReader.j0 k l0 bt278.2.2.2 t287 bt290.2.2.2 true bt278.1 bt278.2.1 bt278.2.2.1 bt290.1 bt290.2.1 bt290.2.2.1))))))))
theorem laws_FnExactNewReader.mono_l : ∀ k, (∀ y0 y1 y2 y3 y4 y5 y6 y7 y8 y9 y10, LeO (laws_FnExactNewReader.j0 k y0 y1 y2 y3 y4 y5 y6 y7 y8 y9 y10) (laws_FnExactNewReader.j0 (k + 1) y0 y1 y2 y3 y4 y5 y6 y7 y8 y9 y10)) ∧ (∀ y0 y1 y2 y3 y4 y5 y6 y7 y8, LeO (laws_FnExactNewReader.j1 k y0 y1 y2 y3 y4 y5 y6 y7 y8) (laws_FnExactNewReader.j1 (k + 1) y0 y1 y2 y3 y4 y5 y6 y7 y8)) ∧ (∀ y0 y1 y2 y3 y4, LeO (laws_FnExactNewReader.j2 k y0 y1 y2 y3 y4) (laws_FnExactNewReader.j2 (k + 1) y0 y1 y2 y3 y4))
  | 0 => ⟨fun _ _ _ _ _ _ _ _ _ _ _ r h => by simp [laws_FnExactNewReader.j0] at h, fun _ _ _ _ _ _ _ _ _ r h => by simp [laws_FnExactNewReader.j1] at h, fun _ _ _ _ _ r h => by simp [laws_FnExactNewReader.j2] at h⟩
  | k + 1 => by
    obtain ⟨ih0, ih1, ih2⟩ := laws_FnExactNewReader.mono_l k
    refine ⟨?_, ?_, ?_⟩
    · intro y0 y1 y2 y3 y4 y5 y6 y7 y8 y9 y10
      unfold laws_FnExactNewReader.j0
      repeat' first
      | (with_reducible exact ih0 _ _ _ _ _ _ _ _ _ _ _)
      | (with_reducible exact ih1 _ _ _ _ _ _ _ _ _)
      | (with_reducible exact ih2 _ _ _ _ _)
      | (with_reducible exact impl_NewReader.mono _ _)
      | (with_reducible exact laws_eqHoleS.mono _ _ _)
      | (with_reducible exact laws_eqReader.mono _ _ _ _ _ _ _)
      | (with_reducible exact laws_heldReader.mono _ _ _ _ _)
      | (with_reducible exact laws_markHoleS.mono _ _ _)
      | (with_reducible exact laws_markReader.mono _ _ _ _ _)
      | (with_reducible exact laws_toHoleS.mono _ _)
      | (with_reducible exact spec_NewReader.mono _ _)
      | (with_reducible exact LeO.refl _)
      | (with_reducible exact LeO.none _)
      | (with_reducible refine LeO.ite ?_ ?_)
      | (with_reducible refine LeO.bind ?_ (fun _ => ?_))
      | exact ih0 _ _ _ _ _ _ _ _ _ _ _
      | exact ih1 _ _ _ _ _ _ _ _ _
      | exact ih2 _ _ _ _ _
      | exact impl_NewReader.mono _ _
      | exact laws_eqHoleS.mono _ _ _
      | exact laws_eqReader.mono _ _ _ _ _ _ _
      | exact laws_heldReader.mono _ _ _ _ _
      | exact laws_markHoleS.mono _ _ _
      | exact laws_markReader.mono _ _ _ _ _
      | exact laws_toHoleS.mono _ _
      | exact spec_NewReader.mono _ _
      | exact LeO.none _
      | refine LeO.ite ?_ ?_
      | refine LeO.bind ?_ (fun _ => ?_)
    · intro y0 y1 y2 y3 y4 y5 y6 y7 y8
      unfold laws_FnExactNewReader.j1
      repeat' first
      | (with_reducible exact ih0 _ _ _ _ _ _ _ _ _ _ _)
      | (with_reducible exact ih1 _ _ _ _ _ _ _ _ _)
      | (with_reducible exact ih2 _ _ _ _ _)
      | (with_reducible exact impl_NewReader.mono _ _)
      | (with_reducible exact laws_eqHoleS.mono _ _ _)
      | (with_reducible exact laws_eqReader.mono _ _ _ _ _ _ _)
      | (with_reducible exact laws_heldReader.mono _ _ _ _ _)
      | (with_reducible exact laws_markHoleS.mono _ _ _)
      | (with_reducible exact laws_markReader.mono _ _ _ _ _)
      | (with_reducible exact laws_toHoleS.mono _ _)
      | (with_reducible exact spec_NewReader.mono _ _)
      | (with_reducible exact LeO.refl _)
      | (with_reducible exact LeO.none _)
      | (with_reducible refine LeO.ite ?_ ?_)
      | (with_reducible refine LeO.bind ?_ (fun _ => ?_))
      | exact ih0 _ _ _ _ _ _ _ _ _ _ _
      | exact ih1 _ _ _ _ _ _ _ _ _
      | exact ih2 _ _ _ _ _
      | exact impl_NewReader.mono _ _
      | exact laws_eqHoleS.mono _ _ _
      | exact laws_eqReader.mono _ _ _ _ _ _ _
      | exact laws_heldReader.mono _ _ _ _ _
      | exact laws_markHoleS.mono _ _ _
      | exact laws_markReader.mono _ _ _ _ _
      | exact laws_toHoleS.mono _ _
      | exact spec_NewReader.mono _ _
      | exact LeO.none _
      | refine LeO.ite ?_ ?_
      | refine LeO.bind ?_ (fun _ => ?_)
    · intro y0 y1 y2 y3 y4
      unfold laws_FnExactNewReader.j2
      repeat' first
      | (with_reducible exact ih0 _ _ _ _ _ _ _ _ _ _ _)
      | (with_reducible exact ih1 _ _ _ _ _ _ _ _ _)
      | (with_reducible exact ih2 _ _ _ _ _)
      | (with_reducible exact impl_NewReader.mono _ _)
      | (with_reducible exact laws_eqHoleS.mono _ _ _)
      | (with_reducible exact laws_eqReader.mono _ _ _ _ _ _ _)
      | (with_reducible exact laws_heldReader.mono _ _ _ _ _)
      | (with_reducible exact laws_markHoleS.mono _ _ _)
      | (with_reducible exact laws_markReader.mono _ _ _ _ _)
      | (with_reducible exact laws_toHoleS.mono _ _)
      | (with_reducible exact spec_NewReader.mono _ _)
      | (with_reducible exact LeO.refl _)
      | (with_reducible exact LeO.none _)
      | (with_reducible refine LeO.ite ?_ ?_)
      | (with_reducible refine LeO.bind ?_ (fun _ => ?_))
      | exact ih0 _ _ _ _ _ _ _ _ _ _ _
      | exact ih1 _ _ _ _ _ _ _ _ _
      | exact ih2 _ _ _ _ _
      | exact impl_NewReader.mono _ _
      | exact laws_eqHoleS.mono _ _ _
      | exact laws_eqReader.mono _ _ _ _ _ _ _
      | exact laws_heldReader.mono _ _ _ _ _
      | exact laws_markHoleS.mono _ _ _
      | exact laws_markReader.mono _ _ _ _ _
      | exact laws_toHoleS.mono _ _
      | exact spec_NewReader.mono _ _
      | exact LeO.none _
      | refine LeO.ite ?_ ?_
      | refine LeO.bind ?_ (fun _ => ?_)
theorem laws_FnExactNewReader.mono : ∀ a0 k, LeO (laws_FnExactNewReader.f k a0) (laws_FnExactNewReader.f (k + 1) a0) := by
  intro a0 k
  obtain ⟨ih0, ih1, ih2⟩ := laws_FnExactNewReader.mono_l k
  unfold laws_FnExactNewReader.f
  repeat' first
      | (with_reducible exact ih0 _ _ _ _ _ _ _ _ _ _ _)
      | (with_reducible exact ih1 _ _ _ _ _ _ _ _ _)
      | (with_reducible exact ih2 _ _ _ _ _)
      | (with_reducible exact impl_NewReader.mono _ _)
      | (with_reducible exact laws_eqHoleS.mono _ _ _)
      | (with_reducible exact laws_eqReader.mono _ _ _ _ _ _ _)
      | (with_reducible exact laws_heldReader.mono _ _ _ _ _)
      | (with_reducible exact laws_markHoleS.mono _ _ _)
      | (with_reducible exact laws_markReader.mono _ _ _ _ _)
      | (with_reducible exact laws_toHoleS.mono _ _)
      | (with_reducible exact spec_NewReader.mono _ _)
      | (with_reducible exact LeO.refl _)
      | (with_reducible exact LeO.none _)
      | (with_reducible refine LeO.ite ?_ ?_)
      | (with_reducible refine LeO.bind ?_ (fun _ => ?_))
      | exact ih0 _ _ _ _ _ _ _ _ _ _ _
      | exact ih1 _ _ _ _ _ _ _ _ _
      | exact ih2 _ _ _ _ _
      | exact impl_NewReader.mono _ _
      | exact laws_eqHoleS.mono _ _ _
      | exact laws_eqReader.mono _ _ _ _ _ _ _
      | exact laws_heldReader.mono _ _ _ _ _
      | exact laws_markHoleS.mono _ _ _
      | exact laws_markReader.mono _ _ _ _ _
      | exact laws_toHoleS.mono _ _
      | exact spec_NewReader.mono _ _
      | exact LeO.none _
      | refine LeO.ite ?_ ?_
      | refine LeO.bind ?_ (fun _ => ?_)
theorem laws_FnExactNewReader.j0_t {k : Nat} : ∀ {a0_ a1_ a2_ a3_ a5_ a6_ a7_ a8_ a9_ a10_}, laws_FnExactNewReader.j0 k a0_ a1_ a2_ a3_ true a5_ a6_ a7_ a8_ a9_ a10_ = some true → False := by
  intros; rename_i h; revert h; cases k <;> simp [laws_FnExactNewReader.j0]
theorem laws_FnExactNewReader.j1_t {k : Nat} : ∀ {a0_ a1_ a3_ a4_ a5_ a6_ a7_ a8_}, laws_FnExactNewReader.j1 k a0_ a1_ true a3_ a4_ a5_ a6_ a7_ a8_ = some true → False := by
  intros; rename_i h; revert h; cases k <;> simp [laws_FnExactNewReader.j1]
theorem laws_FnExactNewReader.j2_t {k : Nat} : ∀ {a0_ a2_ a3_ a4_}, laws_FnExactNewReader.j2 k a0_ true a2_ a3_ a4_ = some true → False := by
  intros; rename_i h; revert h; cases k <;> simp [laws_FnExactNewReader.j2]
set_option maxHeartbeats 8000000 in
set_option maxRecDepth 100000 in
theorem laws_FnExactNewReader.calls (k : Nat) (A0 : Option Addr) (c0 : Nat) (l0 : List (S70)) (r : Bool) (w : World) (hr0 : Kd.C k70 w A0 l0.length l0) (hc0 : l0.length ≤ c0) (h : laws_FnExactNewReader.f k l0 = some r) (hr_ : r = true) :
    Calls Try.prog 6 #[.slice A0 l0.length c0] w fun e w' => e = .returned (.bool r) ∧ Below w.heap.size w w' := by
  have hu38 := Try.underlying38
  have HR0 := Aside0.mk hr0
  have HC0 := Aside0.mk hc0
  clear hr0 hc0
  have HB := Aside0.mk (Below.refl w.heap.size w)
  have H : ((laws_szHoleS.f l0 1048576).bind fun t274 => (if t274 < 0 then (some true) else ((laws_toHoleS.f k l0).bind fun t275 => ((spec_NewReader.f k t275).bind fun bt278 => ((laws_toHoleS.f k l0).bind fun t287 => ((impl_NewReader.f k t287).bind fun bt290 => ((laws_eqReader.f k bt290.1 bt290.2.1 bt290.2.2.1 bt278.1 bt278.2.1 bt278.2.2.1).bind fun t299 => (if t299 = true then (laws_FnExactNewReader.j0 k l0 bt278.2.2.2 t287 bt290.2.2.2 (bt290.2.2.2 != bt278.2.2.2) bt278.1 bt278.2.1 bt278.2.2.1 bt290.1 bt290.2.1 bt290.2.2.1) else (laws_FnExactNewReader.j0 k l0 bt278.2.2.2 t287 bt290.2.2.2 true bt278.1 bt278.2.1 bt278.2.2.1 bt290.1 bt290.2.1 bt290.2.2.1))))))))) = some r := h
  clear h
  replace H := Option.bind_eq_some_iff.mp H
  obtain ⟨t274, A20, H⟩ := H
  replace H : (if t274 < 0 then (some true) else ((laws_toHoleS.f k l0).bind fun t275 => ((spec_NewReader.f k t275).bind fun bt278 => ((laws_toHoleS.f k l0).bind fun t287 => ((impl_NewReader.f k t287).bind fun bt290 => ((laws_eqReader.f k bt290.1 bt290.2.1 bt290.2.2.1 bt278.1 bt278.2.1 bt278.2.2.1).bind fun t299 => (if t299 = true then (laws_FnExactNewReader.j0 k l0 bt278.2.2.2 t287 bt290.2.2.2 (bt290.2.2.2 != bt278.2.2.2) bt278.1 bt278.2.1 bt278.2.2.1 bt290.1 bt290.2.1 bt290.2.2.1) else (laws_FnExactNewReader.j0 k l0 bt278.2.2.2 t287 bt290.2.2.2 true bt278.1 bt278.2.1 bt278.2.2.1 bt290.1 bt290.2.1 bt290.2.2.1)))))))) = some r := H
  have A2 := Aside0.mk A20
  clear A20
  by_cases c3 : t274 < 0
  · rw [if_pos c3] at H
    have c3b0 : decide (t274 < 0) = true := decide_eq_true c3
    clear c3
    obtain rfl := Option.some.inj H
    go_enter Try.func6, Try.ntmps6
    go_wp2_with (first | ((with_reducible refine gate_callee (f := 13) rfl ?_); refine goesL_ (some 16) rfl rfl Try.func13 (by kernel_rfl) rfl #[.slice A0 l0.length c0, .int .i64 1048576] rfl (by (try simp only [List.map_toArray, List.map_cons, List.map_nil]); first | done | rfl | (simp only [List.length_drop, List.length_take]; rfl)) ?_; (with_reducible refine (laws_szHoleS.calls _ _ l0 1048576 t274 _ ?side1 ?side2 A2.out).mono ?_); (case side1 => repeat (first | exact HR0.out | (with_reducible refine Kd.C_alloc ?_ _) | (with_reducible refine Kd.C_drewN ?_ _) | (with_reducible refine Kd.C_drew ?_))); (case side2 => exact HC0.out); rintro e w' ⟨rfl, ⟨nd, rfl⟩⟩; refine ⟨_, rfl, ?_⟩))
    go_ret
    exact ⟨by first | rfl | (simp [errW_none, errW_some] <;> rfl) | (simp [*, errW_none, errW_some] <;> rfl), by repeat (first | (with_reducible first | exact HB.out | apply below_alloc | apply pw_below_drewN | apply below_drew1) | exact HB.out)⟩
  · rw [if_neg c3] at H
    have c3b0 : decide (t274 < 0) = false := decide_eq_false c3
    clear c3
    replace H := Option.bind_eq_some_iff.mp H
    obtain ⟨t275, A40, H⟩ := H
    replace H : ((spec_NewReader.f k t275).bind fun bt278 => ((laws_toHoleS.f k l0).bind fun t287 => ((impl_NewReader.f k t287).bind fun bt290 => ((laws_eqReader.f k bt290.1 bt290.2.1 bt290.2.2.1 bt278.1 bt278.2.1 bt278.2.2.1).bind fun t299 => (if t299 = true then (laws_FnExactNewReader.j0 k l0 bt278.2.2.2 t287 bt290.2.2.2 (bt290.2.2.2 != bt278.2.2.2) bt278.1 bt278.2.1 bt278.2.2.1 bt290.1 bt290.2.1 bt290.2.2.1) else (laws_FnExactNewReader.j0 k l0 bt278.2.2.2 t287 bt290.2.2.2 true bt278.1 bt278.2.1 bt278.2.2.1 bt290.1 bt290.2.1 bt290.2.2.1)))))) = some r := H
    have A4 := Aside0.mk A40
    clear A40
    replace H := Option.bind_eq_some_iff.mp H
    obtain ⟨⟨t278, t281, t282, t285⟩, A50, H⟩ := H
    replace H : ((laws_toHoleS.f k l0).bind fun t287 => ((impl_NewReader.f k t287).bind fun bt290 => ((laws_eqReader.f k bt290.1 bt290.2.1 bt290.2.2.1 t278 t281 t282).bind fun t299 => (if t299 = true then (laws_FnExactNewReader.j0 k l0 t285 t287 bt290.2.2.2 (bt290.2.2.2 != t285) t278 t281 t282 bt290.1 bt290.2.1 bt290.2.2.1) else (laws_FnExactNewReader.j0 k l0 t285 t287 bt290.2.2.2 true t278 t281 t282 bt290.1 bt290.2.1 bt290.2.2.1))))) = some r := H
    have A5 := Aside0.mk A50
    clear A50
    replace H := Option.bind_eq_some_iff.mp H
    obtain ⟨t287, A60, H⟩ := H
    replace H : ((impl_NewReader.f k t287).bind fun bt290 => ((laws_eqReader.f k bt290.1 bt290.2.1 bt290.2.2.1 t278 t281 t282).bind fun t299 => (if t299 = true then (laws_FnExactNewReader.j0 k l0 t285 t287 bt290.2.2.2 (bt290.2.2.2 != t285) t278 t281 t282 bt290.1 bt290.2.1 bt290.2.2.1) else (laws_FnExactNewReader.j0 k l0 t285 t287 bt290.2.2.2 true t278 t281 t282 bt290.1 bt290.2.1 bt290.2.2.1)))) = some r := H
    have A6 := Aside0.mk A60
    clear A60
    replace H := Option.bind_eq_some_iff.mp H
    obtain ⟨⟨t290, t293, t294, t297⟩, A70, H⟩ := H
    replace H : ((laws_eqReader.f k t290 t293 t294 t278 t281 t282).bind fun t299 => (if t299 = true then (laws_FnExactNewReader.j0 k l0 t285 t287 t297 (t297 != t285) t278 t281 t282 t290 t293 t294) else (laws_FnExactNewReader.j0 k l0 t285 t287 t297 true t278 t281 t282 t290 t293 t294))) = some r := H
    have A7 := Aside0.mk A70
    clear A70
    have HC8 := Aside0.mk H
    clear H
    go_enter Try.func6, Try.ntmps6
    go_upto_region 8 with (first | ((with_reducible refine gate_callee (f := 13) rfl ?_); refine goesL_ (some 16) rfl rfl Try.func13 (by kernel_rfl) rfl #[.slice A0 l0.length c0, .int .i64 1048576] rfl (by (try simp only [List.map_toArray, List.map_cons, List.map_nil]); first | done | rfl | (simp only [List.length_drop, List.length_take]; rfl)) ?_; (with_reducible refine (laws_szHoleS.calls _ _ l0 1048576 t274 _ ?side1 ?side2 A2.out).mono ?_); (case side1 => repeat (first | exact HR0.out | (with_reducible refine Kd.C_alloc ?_ _) | (with_reducible refine Kd.C_drewN ?_ _) | (with_reducible refine Kd.C_drew ?_))); (case side2 => exact HC0.out); rintro e w' ⟨rfl, ⟨nd, rfl⟩⟩; refine ⟨_, rfl, ?_⟩) | ((with_reducible refine gate_callee (f := 15) rfl ?_); refine goesL_ (some 21) rfl rfl Try.func15 (by kernel_rfl) rfl #[.slice A0 l0.length c0] rfl (by (try simp only [List.map_toArray, List.map_cons, List.map_nil]); first | done | rfl | (simp only [List.length_drop, List.length_take]; rfl)) ?_; (with_reducible refine (laws_toHoleS.calls k _ _ l0 t275 _ ?side1 ?side2 A4.out).mono ?_); (case side1 => repeat (first | exact HR0.out | (with_reducible refine Kd.C_alloc ?_ _) | (with_reducible refine Kd.C_drewN ?_ _) | (with_reducible refine Kd.C_drew ?_))); (case side2 => exact HC0.out); rintro e w9 ⟨v276, rfl, ho0, hb⟩; refine ⟨_, rfl, ?_⟩; have n0_ := Aside0.mk (Kd.R_lower ho0 (below_size (by repeat (first | (with_reducible first | exact HB.out | apply below_alloc | apply pw_below_drewN | apply below_drew1) | exact HB.out)))); have n1_ := Aside0.mk (below_step (by repeat (first | (with_reducible first | exact HB.out | apply below_alloc | apply pw_below_drewN | apply below_drew1) | exact HB.out)) hb); clear HB; have HO277 := n0_; have HB := n1_; clear n0_ n1_; (try clear hb); (try clear hb2); (try clear hk); (try clear hi); (try clear ho0); obtain ⟨Ao10, co10, eo10⟩ := Kd.R_slice HO277.out; subst eo10) | ((with_reducible refine gate_callee (f := 25) rfl ?_); refine goesL_ (some 22) rfl rfl Try.func25 (by kernel_rfl) rfl #[.slice Ao10 t275.length co10] rfl (by (try simp only [List.map_toArray, List.map_cons, List.map_nil]); first | done | rfl | (simp only [List.length_drop, List.length_take]; rfl)) ?_; (with_reducible refine (spec_NewReader.calls k _ _ t275 t278 t281 t282 t285 _ ?side1 ?side2 A5.out).mono ?_); (case side1 => repeat (first | exact (Kd.R_reads' HO277.out).2.2 | (with_reducible refine Kd.C_alloc ?_ _) | (with_reducible refine Kd.C_drewN ?_ _) | (with_reducible refine Kd.C_drew ?_))); (case side2 => exact (Kd.R_reads' HO277.out).2.1); rintro e w11 ⟨v279, v283, rfl, ho0, ho1, hb⟩; refine ⟨_, rfl, ?_⟩; have n0_ := Aside0.mk (Kd.R_elder' (by (with_reducible repeat (first | apply Kd.R_alloc | apply Kd.R_drewN | apply Kd.R_drew)); exact HO277.out) (Kd.R_base ho0) hb); have n1_ := Aside0.mk (Kd.R_lower (Kd.R_new' ho0 (Kd.R_lt (by (with_reducible repeat (first | apply Kd.R_alloc | apply Kd.R_drewN | apply Kd.R_drew)); exact HO277.out))) (below_size (by repeat (first | (with_reducible first | exact HB.out | apply below_alloc | apply pw_below_drewN | apply below_drew1) | exact HB.out)))); have n2_ := Aside0.mk (Kd.R_lower ho1 (below_size (by repeat (first | (with_reducible first | exact HB.out | apply below_alloc | apply pw_below_drewN | apply below_drew1) | exact HB.out)))); have n3_ := Aside0.mk (below_step (by repeat (first | (with_reducible first | exact HB.out | apply below_alloc | apply pw_below_drewN | apply below_drew1) | exact HB.out)) hb); clear HO277; clear HB; have HO277 := n0_; have HO280 := n1_; have HO284 := n2_; have HB := n3_; clear n0_ n1_ n2_ n3_; (try clear hb); (try clear hb2); (try clear hk); (try clear hi); (try clear ho0); (try clear ho1)) | ((with_reducible refine gate_dst (N := 4) rfl ?_); refine box_event ?hg (N := 4) ?hd (cs := #[.slice none 0 0, .int .i64 0, .slice none 0 0]) (t := 38) ?hr ?_; (case hd => rfl); (case hg => rfl); (case hr => first | (go_simp; done) | (go_simp; rfl)); intro gb286 hg w12 hbox hb; have n0_ := Aside0.mk (Kd.R_below (by (with_reducible repeat (first | apply Kd.R_alloc | apply Kd.R_drewN | apply Kd.R_drew)); exact HO277.out) hb); have n1_ := Aside0.mk (Kd.R_below (by (with_reducible repeat (first | apply Kd.R_alloc | apply Kd.R_drewN | apply Kd.R_drew)); exact HO280.out) hb); have n2_ := Aside0.mk (Kd.R_below (by (with_reducible repeat (first | apply Kd.R_alloc | apply Kd.R_drewN | apply Kd.R_drew)); exact HO284.out) hb); have n3_ := Aside0.mk (below_step (by repeat (first | (with_reducible first | exact HB.out | apply below_alloc | apply pw_below_drewN | apply below_drew1) | exact HB.out)) hb); have n4_ := Aside0.mk (hbox); have n5_ := Aside0.mk ((by rw [hg]; exact (below_size (by repeat (first | (with_reducible first | exact HB.out | apply below_alloc | apply pw_below_drewN | apply below_drew1) | exact HB.out))) : w.heap.size ≤ gb286)); have n6_ := Aside0.mk ((by rw [hg]; exact (below_size (by repeat (first | (with_reducible first | exact HB.out | apply below_alloc | apply pw_below_drewN | apply below_drew1) | exact HB.out))) : w.heap.size ≤ gb286)); clear HO277; clear HO280; clear HO284; clear HB; have HO277 := n0_; have HO280 := n1_; have HO284 := n2_; have HB := n3_; have BK286 := n4_; have GW286 := n5_; have GE286 := n6_; clear n0_ n1_ n2_ n3_ n4_ n5_ n6_; clear hb hbox hg; obtain ⟨Ao13, co13, eo13⟩ := Kd.R_slice HO280.out; subst eo13; have hcz14_0 : w12.cell? ⟨gb286, 0, none⟩ = some (.slice none 0 0) := (blk_cell BK286.out 0).trans rfl; have hcz14_1 : w12.cell? ⟨gb286, 1, none⟩ = some (.int .i64 0) := (blk_cell BK286.out 1).trans rfl; have hcz14_2 : w12.cell? ⟨gb286, 2, none⟩ = some (.slice none 0 0) := (blk_cell BK286.out 2).trans rfl; have hfz14_0 := blk_frozen BK286.out 0; have hfz14_1 := blk_frozen BK286.out 1; have hfz14_2 := blk_frozen BK286.out 2; obtain ⟨Ao15, co15, eo15⟩ := Kd.R_slice HO284.out; subst eo15) | ((with_reducible refine gate_callee (f := 15) rfl ?_); refine goesL_ (some 26) rfl rfl Try.func15 (by kernel_rfl) rfl #[.slice A0 l0.length c0] rfl (by (try simp only [List.map_toArray, List.map_cons, List.map_nil]); first | done | rfl | (simp only [List.length_drop, List.length_take]; rfl)) ?_; (with_reducible refine (laws_toHoleS.calls k _ _ l0 t287 _ ?side1 ?side2 A6.out).mono ?_); (case side1 => exact Kd.C_below HR0.out (by repeat (first | (with_reducible first | exact HB.out | apply below_alloc | apply pw_below_drewN | apply below_drew1 | refine below_set ?_ GE286.out) | exact HB.out))); (case side2 => exact HC0.out); rintro e w16 ⟨v288, rfl, ho0, hb⟩; refine ⟨_, rfl, ?_⟩; have n0_ := Aside0.mk (Kd.R_elder' (by (with_reducible repeat (first | apply Kd.R_alloc | apply Kd.R_drewN | apply Kd.R_drew)); exact (Kd.R_mono (Kd.R_far (p := ⟨gb286, 2, none⟩) (Kd.R_far (p := ⟨gb286, 1, none⟩) (Kd.R_far (p := ⟨gb286, 0, none⟩) (Kd.R_types HO277.out BK286.out (by decide)) (fun _ hk => hk.2) (.slice Ao13 t278.length co13)) (fun _ hk => hk.2) (.int .i64 t281)) (fun _ hk => hk.2) (.slice Ao15 t282.length co15)) (fun _ h_ => h_.1))) (Kd.R_base ho0) hb); have n1_ := Aside0.mk (Kd.R_elder' (by (with_reducible repeat (first | apply Kd.R_alloc | apply Kd.R_drewN | apply Kd.R_drew)); exact (Kd.R_mono (Kd.R_far (p := ⟨gb286, 2, none⟩) (Kd.R_far (p := ⟨gb286, 1, none⟩) (Kd.R_far (p := ⟨gb286, 0, none⟩) (Kd.R_types HO280.out BK286.out (by decide)) (fun _ hk => hk.2) (.slice Ao13 t278.length co13)) (fun _ hk => hk.2) (.int .i64 t281)) (fun _ hk => hk.2) (.slice Ao15 t282.length co15)) (fun _ h_ => h_.1))) (Kd.R_base ho0) hb); have n2_ := Aside0.mk (Kd.R_below (by (with_reducible repeat (first | apply Kd.R_alloc | apply Kd.R_drewN | apply Kd.R_drew)); exact (Kd.R_mono (Kd.R_far (p := ⟨gb286, 2, none⟩) (Kd.R_far (p := ⟨gb286, 1, none⟩) (Kd.R_far (p := ⟨gb286, 0, none⟩) (Kd.R_types HO284.out BK286.out (by decide)) (fun _ hk => hk.2) (.slice Ao13 t278.length co13)) (fun _ hk => hk.2) (.int .i64 t281)) (fun _ hk => hk.2) (.slice Ao15 t282.length co15)) (fun _ h_ => h_.1))) hb); have n3_ := Aside0.mk (Kd.R_lower (Kd.R_new' (Kd.R_new' ho0 (Kd.R_lt (by (with_reducible repeat (first | apply Kd.R_alloc | apply Kd.R_drewN | apply Kd.R_drew)); exact (Kd.R_mono (Kd.R_far (p := ⟨gb286, 2, none⟩) (Kd.R_far (p := ⟨gb286, 1, none⟩) (Kd.R_far (p := ⟨gb286, 0, none⟩) (Kd.R_types HO277.out BK286.out (by decide)) (fun _ hk => hk.2) (.slice Ao13 t278.length co13)) (fun _ hk => hk.2) (.int .i64 t281)) (fun _ hk => hk.2) (.slice Ao15 t282.length co15)) (fun _ h_ => h_.1))))) (Kd.R_lt (by (with_reducible repeat (first | apply Kd.R_alloc | apply Kd.R_drewN | apply Kd.R_drew)); exact (Kd.R_mono (Kd.R_far (p := ⟨gb286, 2, none⟩) (Kd.R_far (p := ⟨gb286, 1, none⟩) (Kd.R_far (p := ⟨gb286, 0, none⟩) (Kd.R_types HO280.out BK286.out (by decide)) (fun _ hk => hk.2) (.slice Ao13 t278.length co13)) (fun _ hk => hk.2) (.int .i64 t281)) (fun _ hk => hk.2) (.slice Ao15 t282.length co15)) (fun _ h_ => h_.1))))) (below_size (by repeat (first | (with_reducible first | exact HB.out | apply below_alloc | apply pw_below_drewN | apply below_drew1 | refine below_set ?_ GE286.out) | exact HB.out)))); have n4_ := Aside0.mk (blk_below (g := gb286) (o := .cells #[.slice Ao13 t278.length co13, .int .i64 t281, .slice Ao15 t282.length co15] 38 (0, 0)) (by (with_reducible repeat (first | refine blk_drewN ?_ _ | refine blk_drew ?_ | refine blk_alloc ?_ _)); refine blk_put (cs := #[.slice Ao13 t278.length co13, .int .i64 t281, .slice none 0 0]) ?_ 2 _ rfl; (with_reducible repeat (first | refine blk_drewN ?_ _ | refine blk_drew ?_ | refine blk_alloc ?_ _)); refine blk_put (cs := #[.slice Ao13 t278.length co13, .int .i64 0, .slice none 0 0]) ?_ 1 _ rfl; (with_reducible repeat (first | refine blk_drewN ?_ _ | refine blk_drew ?_ | refine blk_alloc ?_ _)); refine blk_put (cs := #[.slice none 0 0, .int .i64 0, .slice none 0 0]) ?_ 0 _ rfl; (with_reducible repeat (first | refine blk_drewN ?_ _ | refine blk_drew ?_ | refine blk_alloc ?_ _)); exact BK286.out) hb); have n5_ := Aside0.mk (below_step (by repeat (first | (with_reducible first | exact HB.out | apply below_alloc | apply pw_below_drewN | apply below_drew1 | refine below_set ?_ GE286.out) | exact HB.out)) hb); clear HO277; clear HO280; clear HO284; clear BK286; clear HB; have HO277 := n0_; have HO280 := n1_; have HO284 := n2_; have HO289 := n3_; have BK286 := n4_; have HB := n5_; clear n0_ n1_ n2_ n3_ n4_ n5_; (try clear hb); (try clear hb2); (try clear hk); (try clear hi); (try clear ho0); obtain ⟨Ao17, co17, eo17⟩ := Kd.R_slice HO289.out; subst eo17) | ((with_reducible refine gate_callee (f := 26) rfl ?_); refine goesL_ (some 29) rfl rfl Try.func26 (by kernel_rfl) rfl #[.slice Ao17 t287.length co17] rfl (by (try simp only [List.map_toArray, List.map_cons, List.map_nil]); first | done | rfl | (simp only [List.length_drop, List.length_take]; rfl)) ?_; (with_reducible refine (impl_NewReader.calls k _ _ t287 t290 t293 t294 t297 _ ?side1 ?side2 A7.out).mono ?_); (case side1 => repeat (first | exact (Kd.R_reads' HO289.out).2.2 | (with_reducible refine Kd.C_alloc ?_ _) | (with_reducible refine Kd.C_drewN ?_ _) | (with_reducible refine Kd.C_drew ?_))); (case side2 => exact (Kd.R_reads' HO289.out).2.1); rintro e w18 ⟨v291, v295, rfl, ho0, ho1, hb⟩; refine ⟨_, rfl, ?_⟩; have n0_ := Aside0.mk (Kd.R_elder' (by (with_reducible repeat (first | apply Kd.R_alloc | apply Kd.R_drewN | apply Kd.R_drew)); exact HO277.out) (Kd.R_base ho0) hb); have n1_ := Aside0.mk (Kd.R_elder' (by (with_reducible repeat (first | apply Kd.R_alloc | apply Kd.R_drewN | apply Kd.R_drew)); exact HO280.out) (Kd.R_base ho0) hb); have n2_ := Aside0.mk (Kd.R_elder' (by (with_reducible repeat (first | apply Kd.R_alloc | apply Kd.R_drewN | apply Kd.R_drew)); exact HO284.out) (Kd.R_base ho1) hb); have n3_ := Aside0.mk (Kd.R_elder' (by (with_reducible repeat (first | apply Kd.R_alloc | apply Kd.R_drewN | apply Kd.R_drew)); exact HO289.out) (Kd.R_base ho0) hb); have n4_ := Aside0.mk (Kd.R_lower (Kd.R_new' (Kd.R_new' (Kd.R_new' ho0 (Kd.R_lt (by (with_reducible repeat (first | apply Kd.R_alloc | apply Kd.R_drewN | apply Kd.R_drew)); exact HO277.out))) (Kd.R_lt (by (with_reducible repeat (first | apply Kd.R_alloc | apply Kd.R_drewN | apply Kd.R_drew)); exact HO280.out))) (Kd.R_lt (by (with_reducible repeat (first | apply Kd.R_alloc | apply Kd.R_drewN | apply Kd.R_drew)); exact HO289.out))) (below_size (by repeat (first | (with_reducible first | exact HB.out | apply below_alloc | apply pw_below_drewN | apply below_drew1 | refine below_set ?_ GE286.out) | exact HB.out)))); have n5_ := Aside0.mk (Kd.R_lower (Kd.R_new' ho1 (Kd.R_lt (by (with_reducible repeat (first | apply Kd.R_alloc | apply Kd.R_drewN | apply Kd.R_drew)); exact HO284.out))) (below_size (by repeat (first | (with_reducible first | exact HB.out | apply below_alloc | apply pw_below_drewN | apply below_drew1 | refine below_set ?_ GE286.out) | exact HB.out)))); have n6_ := Aside0.mk (blk_below (g := gb286) (o := .cells #[.slice Ao13 t278.length co13, .int .i64 t281, .slice Ao15 t282.length co15] 38 (0, 0)) (by (with_reducible repeat (first | refine blk_drewN ?_ _ | refine blk_drew ?_ | refine blk_alloc ?_ _)); exact BK286.out) hb); have n7_ := Aside0.mk (below_step (by repeat (first | (with_reducible first | exact HB.out | apply below_alloc | apply pw_below_drewN | apply below_drew1 | refine below_set ?_ GE286.out) | exact HB.out)) hb); clear HO277; clear HO280; clear HO284; clear HO289; clear BK286; clear HB; have HO277 := n0_; have HO280 := n1_; have HO284 := n2_; have HO289 := n3_; have HO292 := n4_; have HO296 := n5_; have BK286 := n6_; have HB := n7_; clear n0_ n1_ n2_ n3_ n4_ n5_ n6_ n7_; (try clear hb); (try clear hb2); (try clear hk); (try clear hi); (try clear ho0); (try clear ho1)) | ((with_reducible refine gate_dst (N := 7) rfl ?_); refine box_event ?hg (N := 7) ?hd (cs := #[.slice none 0 0, .int .i64 0, .slice none 0 0]) (t := 38) ?hr ?_; (case hd => rfl); (case hg => rfl); (case hr => first | (go_simp; done) | (go_simp; rfl)); intro gb298 hg w19 hbox hb; have n0_ := Aside0.mk (Kd.R_below (by (with_reducible repeat (first | apply Kd.R_alloc | apply Kd.R_drewN | apply Kd.R_drew)); exact HO277.out) hb); have n1_ := Aside0.mk (Kd.R_below (by (with_reducible repeat (first | apply Kd.R_alloc | apply Kd.R_drewN | apply Kd.R_drew)); exact HO280.out) hb); have n2_ := Aside0.mk (Kd.R_below (by (with_reducible repeat (first | apply Kd.R_alloc | apply Kd.R_drewN | apply Kd.R_drew)); exact HO284.out) hb); have n3_ := Aside0.mk (Kd.R_below (by (with_reducible repeat (first | apply Kd.R_alloc | apply Kd.R_drewN | apply Kd.R_drew)); exact HO289.out) hb); have n4_ := Aside0.mk (Kd.R_below (by (with_reducible repeat (first | apply Kd.R_alloc | apply Kd.R_drewN | apply Kd.R_drew)); exact HO292.out) hb); have n5_ := Aside0.mk (Kd.R_below (by (with_reducible repeat (first | apply Kd.R_alloc | apply Kd.R_drewN | apply Kd.R_drew)); exact HO296.out) hb); have n6_ := Aside0.mk (blk_below (g := gb286) (o := .cells #[.slice Ao13 t278.length co13, .int .i64 t281, .slice Ao15 t282.length co15] 38 (0, 0)) (by (with_reducible repeat (first | refine blk_drewN ?_ _ | refine blk_drew ?_ | refine blk_alloc ?_ _)); exact BK286.out) hb); have n7_ := Aside0.mk (below_step (by repeat (first | (with_reducible first | exact HB.out | apply below_alloc | apply pw_below_drewN | apply below_drew1 | refine below_set ?_ GE286.out) | exact HB.out)) hb); have n8_ := Aside0.mk (hbox); have n9_ := Aside0.mk ((by rw [hg]; exact (below_size (by repeat (first | (with_reducible first | exact HB.out | apply below_alloc | apply pw_below_drewN | apply below_drew1 | refine below_set ?_ GE286.out) | exact HB.out))) : w.heap.size ≤ gb298)); have n10_ := Aside0.mk ((by rw [hg]; exact (below_size (by repeat (first | (with_reducible first | exact HB.out | apply below_alloc | apply pw_below_drewN | apply below_drew1 | refine below_set ?_ GE286.out) | exact HB.out))) : w.heap.size ≤ gb298)); have n11_ := Aside0.mk ((by rw [hg]; exact Nat.ne_of_lt (blk_lt (g := gb286) (o := .cells #[.slice Ao13 t278.length co13, .int .i64 t281, .slice Ao15 t282.length co15] 38 (0, 0)) (by (with_reducible repeat (first | refine blk_drewN ?_ _ | refine blk_drew ?_ | refine blk_alloc ?_ _)); exact BK286.out)) : gb286 ≠ gb298)); have n12_ := Aside0.mk ((by rw [hg]; exact Nat.ne_of_gt (blk_lt (g := gb286) (o := .cells #[.slice Ao13 t278.length co13, .int .i64 t281, .slice Ao15 t282.length co15] 38 (0, 0)) (by (with_reducible repeat (first | refine blk_drewN ?_ _ | refine blk_drew ?_ | refine blk_alloc ?_ _)); exact BK286.out)) : gb298 ≠ gb286)); clear HO277; clear HO280; clear HO284; clear HO289; clear HO292; clear HO296; clear BK286; clear HB; have HO277 := n0_; have HO280 := n1_; have HO284 := n2_; have HO289 := n3_; have HO292 := n4_; have HO296 := n5_; have BK286 := n6_; have HB := n7_; have BK298 := n8_; have GW298 := n9_; have GE298 := n10_; have NB286_298 := n11_; have NB298_286 := n12_; clear n0_ n1_ n2_ n3_ n4_ n5_ n6_ n7_ n8_ n9_ n10_ n11_ n12_; clear hb hbox hg; obtain ⟨Ao20, co20, eo20⟩ := Kd.R_slice HO292.out; subst eo20; have hnb21 := NB298_286.out; have hnc21 := NB286_298.out; have hcz22_0 : w19.cell? ⟨gb298, 0, none⟩ = some (.slice none 0 0) := (blk_cell BK298.out 0).trans rfl; have hcz22_1 : w19.cell? ⟨gb298, 1, none⟩ = some (.int .i64 0) := (blk_cell BK298.out 1).trans rfl; have hcz22_2 : w19.cell? ⟨gb298, 2, none⟩ = some (.slice none 0 0) := (blk_cell BK298.out 2).trans rfl; have hfz22_0 := blk_frozen BK298.out 0; have hfz22_1 := blk_frozen BK298.out 1; have hfz22_2 := blk_frozen BK298.out 2; obtain ⟨Ao23, co23, eo23⟩ := Kd.R_slice HO296.out; subst eo23))
    (try simp only [Act.put, List.setIfInBounds_toArray, List.set_cons_zero, List.set_cons_succ])
    go_cut [40] (fun v40 wc => ∃ (kq : Nat) (x40_7 : Bool), v40 = .bool x40_7 ∧ Aside0 (laws_FnExactNewReader.j0 kq l0 t285 t287 t297 x40_7 t278 t281 t282 t290 t293 t294 = some r) ∧ Aside0 (kq ≤ k) ∧ Aside0 (Kd.R k68 68 wc w.heap.size (fun k_ => some k_ ≠ ((.slice Ao13 t278.length co13) : Value).ownBlock ∧ some k_ ≠ ((.slice Ao20 t290.length co20) : Value).ownBlock) (.slice Ao17 t287.length co17) t287) ∧ Aside0 (Kd.R k68 68 wc w.heap.size (fun k_ => some k_ ≠ ((.slice Ao17 t287.length co17) : Value).ownBlock ∧ some k_ ≠ ((.slice Ao20 t290.length co20) : Value).ownBlock) (.slice Ao13 t278.length co13) t278) ∧ Aside0 (Kd.R (Kd.int .i64) 3 wc w.heap.size (fun k_ => some k_ ≠ ((.slice Ao23 t294.length co23) : Value).ownBlock) (.slice Ao15 t282.length co15) t282) ∧ Aside0 (Kd.R k68 68 wc w.heap.size (fun k_ => some k_ ≠ ((.slice Ao17 t287.length co17) : Value).ownBlock ∧ some k_ ≠ ((.slice Ao13 t278.length co13) : Value).ownBlock) (.slice Ao20 t290.length co20) t290) ∧ Aside0 (Kd.R (Kd.int .i64) 3 wc w.heap.size (fun k_ => some k_ ≠ ((.slice Ao15 t282.length co15) : Value).ownBlock) (.slice Ao23 t294.length co23) t294) ∧ Aside0 (wc.heap[gb286]? = some (.cells #[(.slice Ao13 t278.length co13), .int .i64 t281, (.slice Ao15 t282.length co15)] 38 (0, 0))) ∧ Aside0 (wc.heap[gb298]? = some (.cells #[(.slice Ao20 t290.length co20), .int .i64 t293, (.slice Ao23 t294.length co23)] 38 (0, 0))) ∧ Aside0 (Below w.heap.size w wc))
    case first =>
      have H := HC8.out
      clear HC8
      replace H := Option.bind_eq_some_iff.mp H
      obtain ⟨t299, A240, H⟩ := H
      replace H : (if t299 = true then (laws_FnExactNewReader.j0 k l0 t285 t287 t297 (t297 != t285) t278 t281 t282 t290 t293 t294) else (laws_FnExactNewReader.j0 k l0 t285 t287 t297 true t278 t281 t282 t290 t293 t294)) = some r := H
      have A24 := Aside0.mk A240
      clear A240
      by_cases c25 : t299 = true
      · subst c25
        have H1 : (laws_FnExactNewReader.j0 k l0 t285 t287 t297 (t297 != t285) t278 t281 t282 t290 t293 t294) = some r := by rw [if_pos rfl] at H; exact H
        clear H
        have H := H1
        clear H1
        have H' := Aside0.mk H
        clear H
        have hnb26 := NB298_286.out
        have hnc26 := NB286_298.out
        have hcz27_0 : w19.cell? ⟨gb298, 0, none⟩ = some (.slice none 0 0) := (blk_cell BK298.out 0).trans rfl
        have hcz27_1 : w19.cell? ⟨gb298, 1, none⟩ = some (.int .i64 0) := (blk_cell BK298.out 1).trans rfl
        have hcz27_2 : w19.cell? ⟨gb298, 2, none⟩ = some (.slice none 0 0) := (blk_cell BK298.out 2).trans rfl
        have hfz27_0 := blk_frozen BK298.out 0
        have hfz27_1 := blk_frozen BK298.out 1
        have hfz27_2 := blk_frozen BK298.out 2
        have hcz28_0 : w19.cell? ⟨gb286, 0, none⟩ = some (.slice Ao13 t278.length co13) := (blk_cell BK286.out 0).trans rfl
        have hcz28_1 : w19.cell? ⟨gb286, 1, none⟩ = some (.int .i64 t281) := (blk_cell BK286.out 1).trans rfl
        have hcz28_2 : w19.cell? ⟨gb286, 2, none⟩ = some (.slice Ao15 t282.length co15) := (blk_cell BK286.out 2).trans rfl
        have hfz28_0 := blk_frozen BK286.out 0
        have hfz28_1 := blk_frozen BK286.out 1
        have hfz28_2 := blk_frozen BK286.out 2
        go_wp2_with (first | ((with_reducible refine gate_callee (f := 24) rfl ?_); refine goesL_ (some 34) rfl rfl Try.func24 (by kernel_rfl) rfl #[.agg #[.slice Ao20 t290.length co20, .int .i64 t293, .slice Ao23 t294.length co23], .agg #[.slice Ao13 t278.length co13, .int .i64 t281, .slice Ao15 t282.length co15]] rfl (by (try simp only [List.map_toArray, List.map_cons, List.map_nil]); first | done | rfl | (simp only [List.length_drop, List.length_take]; rfl)) ?_; (with_reducible refine (laws_eqReader.calls k _ _ t290 t293 _ _ t294 _ _ t278 t281 _ _ t282 true _ ?side1 ?side2 ?side3 ?side4 ?side5 ?side6 ?side7 ?side8 A24.out).mono ?_); (case side1 => refine (Kd.R_reads' (e := 68) (base := w.heap.size) (ok := fun k_ => (((True ∧ some k_ ≠ (.slice Ao10 t275.length co10 : Value).ownBlock) ∧ some k_ ≠ (.slice Ao13 t278.length co13 : Value).ownBlock) ∧ some k_ ≠ (.slice Ao17 t287.length co17 : Value).ownBlock)) (n := t290.length) (c := co20) ?_).2.2; exact (by (with_reducible repeat (first | apply Kd.R_alloc | apply Kd.R_drewN | apply Kd.R_drew)); exact (Kd.R_mono (Kd.R_far (p := ⟨gb298, 2, none⟩) (Kd.R_far (p := ⟨gb298, 1, none⟩) (Kd.R_far (p := ⟨gb298, 0, none⟩) (Kd.R_types HO292.out BK298.out (by decide)) (fun _ hk => hk.2) (.slice Ao20 t290.length co20)) (fun _ hk => hk.2) (.int .i64 t293)) (fun _ hk => hk.2) (.slice Ao23 t294.length co23)) (fun _ h_ => h_.1)))); (case side2 => exact (Kd.R_reads' HO292.out).2.1); (case side3 => refine (Kd.R_reads' (e := 3) (base := w.heap.size) (ok := fun k_ => (True ∧ some k_ ≠ (.slice Ao15 t282.length co15 : Value).ownBlock)) (n := t294.length) (c := co23) ?_).2.2; exact (by (with_reducible repeat (first | apply Kd.R_alloc | apply Kd.R_drewN | apply Kd.R_drew)); exact (Kd.R_mono (Kd.R_far (p := ⟨gb298, 2, none⟩) (Kd.R_far (p := ⟨gb298, 1, none⟩) (Kd.R_far (p := ⟨gb298, 0, none⟩) (Kd.R_types HO296.out BK298.out (by decide)) (fun _ hk => hk.2) (.slice Ao20 t290.length co20)) (fun _ hk => hk.2) (.int .i64 t293)) (fun _ hk => hk.2) (.slice Ao23 t294.length co23)) (fun _ h_ => h_.1)))); (case side4 => exact (Kd.R_reads' HO296.out).2.1); (case side5 => refine (Kd.R_reads' (e := 68) (base := w.heap.size) (ok := fun k_ => (((True ∧ some k_ ≠ (.slice Ao10 t275.length co10 : Value).ownBlock) ∧ some k_ ≠ (.slice Ao17 t287.length co17 : Value).ownBlock) ∧ some k_ ≠ (.slice Ao20 t290.length co20 : Value).ownBlock)) (n := t278.length) (c := co13) ?_).2.2; exact (by (with_reducible repeat (first | apply Kd.R_alloc | apply Kd.R_drewN | apply Kd.R_drew)); exact (Kd.R_mono (Kd.R_far (p := ⟨gb298, 2, none⟩) (Kd.R_far (p := ⟨gb298, 1, none⟩) (Kd.R_far (p := ⟨gb298, 0, none⟩) (Kd.R_types HO280.out BK298.out (by decide)) (fun _ hk => hk.2) (.slice Ao20 t290.length co20)) (fun _ hk => hk.2) (.int .i64 t293)) (fun _ hk => hk.2) (.slice Ao23 t294.length co23)) (fun _ h_ => h_.1)))); (case side6 => exact (Kd.R_reads' HO280.out).2.1); (case side7 => refine (Kd.R_reads' (e := 3) (base := w.heap.size) (ok := fun k_ => (True ∧ some k_ ≠ (.slice Ao23 t294.length co23 : Value).ownBlock)) (n := t282.length) (c := co15) ?_).2.2; exact (by (with_reducible repeat (first | apply Kd.R_alloc | apply Kd.R_drewN | apply Kd.R_drew)); exact (Kd.R_mono (Kd.R_far (p := ⟨gb298, 2, none⟩) (Kd.R_far (p := ⟨gb298, 1, none⟩) (Kd.R_far (p := ⟨gb298, 0, none⟩) (Kd.R_types HO284.out BK298.out (by decide)) (fun _ hk => hk.2) (.slice Ao20 t290.length co20)) (fun _ hk => hk.2) (.int .i64 t293)) (fun _ hk => hk.2) (.slice Ao23 t294.length co23)) (fun _ h_ => h_.1)))); (case side8 => exact (Kd.R_reads' HO284.out).2.1); rintro e w29 ⟨rfl, hb⟩; refine ⟨_, rfl, ?_⟩; have n0_ := Aside0.mk (Kd.R_below (by (with_reducible repeat (first | apply Kd.R_alloc | apply Kd.R_drewN | apply Kd.R_drew)); exact (Kd.R_mono (Kd.R_far (p := ⟨gb298, 2, none⟩) (Kd.R_far (p := ⟨gb298, 1, none⟩) (Kd.R_far (p := ⟨gb298, 0, none⟩) (Kd.R_types HO277.out BK298.out (by decide)) (fun _ hk => hk.2) (.slice Ao20 t290.length co20)) (fun _ hk => hk.2) (.int .i64 t293)) (fun _ hk => hk.2) (.slice Ao23 t294.length co23)) (fun _ h_ => h_.1))) hb); have n1_ := Aside0.mk (Kd.R_below (by (with_reducible repeat (first | apply Kd.R_alloc | apply Kd.R_drewN | apply Kd.R_drew)); exact (Kd.R_mono (Kd.R_far (p := ⟨gb298, 2, none⟩) (Kd.R_far (p := ⟨gb298, 1, none⟩) (Kd.R_far (p := ⟨gb298, 0, none⟩) (Kd.R_types HO280.out BK298.out (by decide)) (fun _ hk => hk.2) (.slice Ao20 t290.length co20)) (fun _ hk => hk.2) (.int .i64 t293)) (fun _ hk => hk.2) (.slice Ao23 t294.length co23)) (fun _ h_ => h_.1))) hb); have n2_ := Aside0.mk (Kd.R_below (by (with_reducible repeat (first | apply Kd.R_alloc | apply Kd.R_drewN | apply Kd.R_drew)); exact (Kd.R_mono (Kd.R_far (p := ⟨gb298, 2, none⟩) (Kd.R_far (p := ⟨gb298, 1, none⟩) (Kd.R_far (p := ⟨gb298, 0, none⟩) (Kd.R_types HO284.out BK298.out (by decide)) (fun _ hk => hk.2) (.slice Ao20 t290.length co20)) (fun _ hk => hk.2) (.int .i64 t293)) (fun _ hk => hk.2) (.slice Ao23 t294.length co23)) (fun _ h_ => h_.1))) hb); have n3_ := Aside0.mk (Kd.R_below (by (with_reducible repeat (first | apply Kd.R_alloc | apply Kd.R_drewN | apply Kd.R_drew)); exact (Kd.R_mono (Kd.R_far (p := ⟨gb298, 2, none⟩) (Kd.R_far (p := ⟨gb298, 1, none⟩) (Kd.R_far (p := ⟨gb298, 0, none⟩) (Kd.R_types HO289.out BK298.out (by decide)) (fun _ hk => hk.2) (.slice Ao20 t290.length co20)) (fun _ hk => hk.2) (.int .i64 t293)) (fun _ hk => hk.2) (.slice Ao23 t294.length co23)) (fun _ h_ => h_.1))) hb); have n4_ := Aside0.mk (Kd.R_below (by (with_reducible repeat (first | apply Kd.R_alloc | apply Kd.R_drewN | apply Kd.R_drew)); exact (Kd.R_mono (Kd.R_far (p := ⟨gb298, 2, none⟩) (Kd.R_far (p := ⟨gb298, 1, none⟩) (Kd.R_far (p := ⟨gb298, 0, none⟩) (Kd.R_types HO292.out BK298.out (by decide)) (fun _ hk => hk.2) (.slice Ao20 t290.length co20)) (fun _ hk => hk.2) (.int .i64 t293)) (fun _ hk => hk.2) (.slice Ao23 t294.length co23)) (fun _ h_ => h_.1))) hb); have n5_ := Aside0.mk (Kd.R_below (by (with_reducible repeat (first | apply Kd.R_alloc | apply Kd.R_drewN | apply Kd.R_drew)); exact (Kd.R_mono (Kd.R_far (p := ⟨gb298, 2, none⟩) (Kd.R_far (p := ⟨gb298, 1, none⟩) (Kd.R_far (p := ⟨gb298, 0, none⟩) (Kd.R_types HO296.out BK298.out (by decide)) (fun _ hk => hk.2) (.slice Ao20 t290.length co20)) (fun _ hk => hk.2) (.int .i64 t293)) (fun _ hk => hk.2) (.slice Ao23 t294.length co23)) (fun _ h_ => h_.1))) hb); have n6_ := Aside0.mk (blk_below (g := gb286) (o := .cells #[.slice Ao13 t278.length co13, .int .i64 t281, .slice Ao15 t282.length co15] 38 (0, 0)) (by (with_reducible repeat (first | refine blk_drewN ?_ _ | refine blk_drew ?_ | refine blk_alloc ?_ _)); refine blk_far ?_ NB286_298.out _; (with_reducible repeat (first | refine blk_drewN ?_ _ | refine blk_drew ?_ | refine blk_alloc ?_ _)); refine blk_far ?_ NB286_298.out _; (with_reducible repeat (first | refine blk_drewN ?_ _ | refine blk_drew ?_ | refine blk_alloc ?_ _)); refine blk_far ?_ NB286_298.out _; (with_reducible repeat (first | refine blk_drewN ?_ _ | refine blk_drew ?_ | refine blk_alloc ?_ _)); exact BK286.out) hb); have n7_ := Aside0.mk (blk_below (g := gb298) (o := .cells #[.slice Ao20 t290.length co20, .int .i64 t293, .slice Ao23 t294.length co23] 38 (0, 0)) (by (with_reducible repeat (first | refine blk_drewN ?_ _ | refine blk_drew ?_ | refine blk_alloc ?_ _)); refine blk_put (cs := #[.slice Ao20 t290.length co20, .int .i64 t293, .slice none 0 0]) ?_ 2 _ rfl; (with_reducible repeat (first | refine blk_drewN ?_ _ | refine blk_drew ?_ | refine blk_alloc ?_ _)); refine blk_put (cs := #[.slice Ao20 t290.length co20, .int .i64 0, .slice none 0 0]) ?_ 1 _ rfl; (with_reducible repeat (first | refine blk_drewN ?_ _ | refine blk_drew ?_ | refine blk_alloc ?_ _)); refine blk_put (cs := #[.slice none 0 0, .int .i64 0, .slice none 0 0]) ?_ 0 _ rfl; (with_reducible repeat (first | refine blk_drewN ?_ _ | refine blk_drew ?_ | refine blk_alloc ?_ _)); exact BK298.out) hb); have n8_ := Aside0.mk (below_step (by repeat (first | (with_reducible first | exact HB.out | apply below_alloc | apply pw_below_drewN | apply below_drew1 | refine below_set ?_ GE286.out | refine below_set ?_ GE298.out) | exact HB.out)) hb); clear HO277; clear HO280; clear HO284; clear HO289; clear HO292; clear HO296; clear BK286; clear BK298; clear HB; have HO277 := n0_; have HO280 := n1_; have HO284 := n2_; have HO289 := n3_; have HO292 := n4_; have HO296 := n5_; have BK286 := n6_; have BK298 := n7_; have HB := n8_; clear n0_ n1_ n2_ n3_ n4_ n5_ n6_ n7_ n8_; (try clear hb); (try clear hb2); (try clear hk); (try clear hi)))
        go_meet
        case rel => exact ⟨_, ((t297 != t285)), (by first | rfl | (simp; done) | (simp [*]; done)), H', ⟨by first | omega | exact Nat.le_refl _⟩, ⟨by (with_reducible repeat (first | apply Kd.R_alloc | apply Kd.R_drewN | apply Kd.R_drew)); exact Kd.R_mono HO289.out (fun _ hk => ⟨hk.1.2, hk.2⟩)⟩, ⟨by (with_reducible repeat (first | apply Kd.R_alloc | apply Kd.R_drewN | apply Kd.R_drew)); exact Kd.R_mono HO280.out (fun _ hk => ⟨hk.1.2, hk.2⟩)⟩, ⟨by (with_reducible repeat (first | apply Kd.R_alloc | apply Kd.R_drewN | apply Kd.R_drew)); exact Kd.R_mono HO284.out (fun _ hk => hk.2)⟩, ⟨by (with_reducible repeat (first | apply Kd.R_alloc | apply Kd.R_drewN | apply Kd.R_drew)); exact Kd.R_mono HO292.out (fun _ hk => ⟨hk.2, hk.1.2⟩)⟩, ⟨by (with_reducible repeat (first | apply Kd.R_alloc | apply Kd.R_drewN | apply Kd.R_drew)); exact Kd.R_mono HO296.out (fun _ hk => hk.2)⟩, ⟨by (with_reducible repeat (first | refine blk_drewN ?_ _ | refine blk_drew ?_ | refine blk_alloc ?_ _)); exact BK286.out⟩, ⟨by (with_reducible repeat (first | refine blk_drewN ?_ _ | refine blk_drew ?_ | refine blk_alloc ?_ _)); exact BK298.out⟩, ⟨by repeat (first | (with_reducible first | exact HB.out | apply below_alloc | apply pw_below_drewN | apply below_drew1 | refine below_set ?_ GE286.out | refine below_set ?_ GE298.out) | exact HB.out)⟩⟩
      · replace c25 := Bool.eq_false_iff.mpr c25
        subst c25
        have H1 : (laws_FnExactNewReader.j0 k l0 t285 t287 t297 true t278 t281 t282 t290 t293 t294) = some r := by rw [if_neg (show ¬ (false = true) by decide)] at H; exact H
        clear H
        have H := H1
        clear H1
        exact (laws_FnExactNewReader.j0_t (H.trans (congrArg some hr_))).elim
    case rest =>
      clear HC8
      try clear c1
      try clear c2
      try clear p2
      try clear c3
      try clear c3b0
      try clear c6
      try clear c13
      try clear c15
      try clear c21
      try clear c24
      try clear c25
      try clear c26
      try clear hcz14_0
      try clear hcz14_1
      try clear hcz14_2
      try clear hcz22_0
      try clear hcz22_1
      try clear hcz22_2
      try clear hcz27_0
      try clear hcz27_1
      try clear hcz27_2
      try clear hcz28_0
      try clear hcz28_1
      try clear hcz28_2
      try clear hfz14_0
      try clear hfz14_1
      try clear hfz14_2
      try clear hfz22_0
      try clear hfz22_1
      try clear hfz22_2
      try clear hfz27_0
      try clear hfz27_1
      try clear hfz27_2
      try clear hfz28_0
      try clear hfz28_1
      try clear hfz28_2
      obtain ⟨kq, x40_7, rfl, HA, HJ7, HO_6, HO_287000, HO_287002, HO_299000, HO_299002, BK286, BK298, HB⟩ := hcut
      cases kq with
      | zero => exact absurd HA.out (by simp [laws_FnExactNewReader.j0])
      | succ kj7 =>
        have H := HA.out
        clear HA
        simp only [laws_FnExactNewReader.j0] at H
        by_cases c30 : x40_7 = true
        · subst c30
          have H1 : (some false) = some r := by rw [if_pos rfl] at H; exact H
          clear H
          have H := H1
          clear H1
          exact absurd ((Option.some.inj H).trans hr_) (by decide)
        · replace c30 := Bool.eq_false_iff.mpr c30
          subst c30
          have H1 : ((laws_toHoleS.f kj7 l0).bind fun t300 => ((laws_eqHoleS.f kj7 t287 t300).bind fun t303 => (if t303 = true then ((laws_markHoleS.f kj7 t287 1).bind fun bt304 => (if bt304.1 < 0 then (laws_FnExactNewReader.j1 kj7 l0 t285 true t278 t281 t282 t290 t293 t294) else ((laws_eqReader.f kj7 t290 t293 t294 t278 t281 t282).bind fun t306 => (if t306 = true then (laws_FnExactNewReader.j1 kj7 l0 t285 (t297 != t285) t278 t281 t282 t290 t293 t294) else (laws_FnExactNewReader.j1 kj7 l0 t285 true t278 t281 t282 t290 t293 t294))))) else (some false)))) = some r := by rw [if_neg (show ¬ (false = true) by decide)] at H; exact H
          clear H
          have H := H1
          clear H1
          replace H := Option.bind_eq_some_iff.mp H
          obtain ⟨t300, A310, H⟩ := H
          replace H : ((laws_eqHoleS.f kj7 t287 t300).bind fun t303 => (if t303 = true then ((laws_markHoleS.f kj7 t287 1).bind fun bt304 => (if bt304.1 < 0 then (laws_FnExactNewReader.j1 kj7 l0 t285 true t278 t281 t282 t290 t293 t294) else ((laws_eqReader.f kj7 t290 t293 t294 t278 t281 t282).bind fun t306 => (if t306 = true then (laws_FnExactNewReader.j1 kj7 l0 t285 (t297 != t285) t278 t281 t282 t290 t293 t294) else (laws_FnExactNewReader.j1 kj7 l0 t285 true t278 t281 t282 t290 t293 t294))))) else (some false))) = some r := H
          have A31 := Aside0.mk A310
          clear A310
          replace H := Option.bind_eq_some_iff.mp H
          obtain ⟨t303, A320, H⟩ := H
          replace H : (if t303 = true then ((laws_markHoleS.f kj7 t287 1).bind fun bt304 => (if bt304.1 < 0 then (laws_FnExactNewReader.j1 kj7 l0 t285 true t278 t281 t282 t290 t293 t294) else ((laws_eqReader.f kj7 t290 t293 t294 t278 t281 t282).bind fun t306 => (if t306 = true then (laws_FnExactNewReader.j1 kj7 l0 t285 (t297 != t285) t278 t281 t282 t290 t293 t294) else (laws_FnExactNewReader.j1 kj7 l0 t285 true t278 t281 t282 t290 t293 t294))))) else (some false)) = some r := H
          have A32 := Aside0.mk A320
          clear A320
          by_cases c33 : t303 = true
          · subst c33
            have H1 : ((laws_markHoleS.f kj7 t287 1).bind fun bt304 => (if bt304.1 < 0 then (laws_FnExactNewReader.j1 kj7 l0 t285 true t278 t281 t282 t290 t293 t294) else ((laws_eqReader.f kj7 t290 t293 t294 t278 t281 t282).bind fun t306 => (if t306 = true then (laws_FnExactNewReader.j1 kj7 l0 t285 (t297 != t285) t278 t281 t282 t290 t293 t294) else (laws_FnExactNewReader.j1 kj7 l0 t285 true t278 t281 t282 t290 t293 t294))))) = some r := by rw [if_pos rfl] at H; exact H
            clear H
            have H := H1
            clear H1
            replace H := Option.bind_eq_some_iff.mp H
            obtain ⟨⟨t304, t305⟩, A340, H⟩ := H
            replace H : (if t304 < 0 then (laws_FnExactNewReader.j1 kj7 l0 t285 true t278 t281 t282 t290 t293 t294) else ((laws_eqReader.f kj7 t290 t293 t294 t278 t281 t282).bind fun t306 => (if t306 = true then (laws_FnExactNewReader.j1 kj7 l0 t285 (t297 != t285) t278 t281 t282 t290 t293 t294) else (laws_FnExactNewReader.j1 kj7 l0 t285 true t278 t281 t282 t290 t293 t294)))) = some r := H
            have A34 := Aside0.mk A340
            clear A340
            have HC35 := Aside0.mk H
            clear H
            go_upto_region 14 with (first | ((with_reducible refine gate_callee (f := 15) rfl ?_); refine goesL_ (some 43) rfl rfl Try.func15 (by kernel_rfl) rfl #[.slice A0 l0.length c0] rfl (by (try simp only [List.map_toArray, List.map_cons, List.map_nil]); first | done | rfl | (simp only [List.length_drop, List.length_take]; rfl)) ?_; (with_reducible refine (laws_toHoleS.calls kj7 _ _ l0 t300 _ ?side1 ?side2 A31.out).mono ?_); (case side1 => repeat (first | exact (Kd.C_below HR0.out HB.out) | (with_reducible refine Kd.C_alloc ?_ _) | (with_reducible refine Kd.C_drewN ?_ _) | (with_reducible refine Kd.C_drew ?_))); (case side2 => exact HC0.out); rintro e w36 ⟨v301, rfl, ho0, hb⟩; refine ⟨_, rfl, ?_⟩; have n0_ := Aside0.mk (Kd.R_elder' (by (with_reducible repeat (first | apply Kd.R_alloc | apply Kd.R_drewN | apply Kd.R_drew)); exact HO_6.out) (Kd.R_base ho0) hb); have n1_ := Aside0.mk (Kd.R_elder' (by (with_reducible repeat (first | apply Kd.R_alloc | apply Kd.R_drewN | apply Kd.R_drew)); exact HO_287000.out) (Kd.R_base ho0) hb); have n2_ := Aside0.mk (Kd.R_below (by (with_reducible repeat (first | apply Kd.R_alloc | apply Kd.R_drewN | apply Kd.R_drew)); exact HO_287002.out) hb); have n3_ := Aside0.mk (Kd.R_elder' (by (with_reducible repeat (first | apply Kd.R_alloc | apply Kd.R_drewN | apply Kd.R_drew)); exact HO_299000.out) (Kd.R_base ho0) hb); have n4_ := Aside0.mk (Kd.R_below (by (with_reducible repeat (first | apply Kd.R_alloc | apply Kd.R_drewN | apply Kd.R_drew)); exact HO_299002.out) hb); have n5_ := Aside0.mk (Kd.R_lower (Kd.R_new' (Kd.R_new' (Kd.R_new' ho0 (Kd.R_lt (by (with_reducible repeat (first | apply Kd.R_alloc | apply Kd.R_drewN | apply Kd.R_drew)); exact HO_6.out))) (Kd.R_lt (by (with_reducible repeat (first | apply Kd.R_alloc | apply Kd.R_drewN | apply Kd.R_drew)); exact HO_287000.out))) (Kd.R_lt (by (with_reducible repeat (first | apply Kd.R_alloc | apply Kd.R_drewN | apply Kd.R_drew)); exact HO_299000.out))) (below_size (by repeat (first | (with_reducible first | exact HB.out | apply below_alloc | apply pw_below_drewN | apply below_drew1 | refine below_set ?_ GE286.out | refine below_set ?_ GE298.out) | exact HB.out)))); have n6_ := Aside0.mk (blk_below (g := gb286) (o := .cells #[.slice Ao13 t278.length co13, .int .i64 t281, .slice Ao15 t282.length co15] 38 (0, 0)) (by (with_reducible repeat (first | refine blk_drewN ?_ _ | refine blk_drew ?_ | refine blk_alloc ?_ _)); exact BK286.out) hb); have n7_ := Aside0.mk (blk_below (g := gb298) (o := .cells #[.slice Ao20 t290.length co20, .int .i64 t293, .slice Ao23 t294.length co23] 38 (0, 0)) (by (with_reducible repeat (first | refine blk_drewN ?_ _ | refine blk_drew ?_ | refine blk_alloc ?_ _)); exact BK298.out) hb); have n8_ := Aside0.mk (below_step (by repeat (first | (with_reducible first | exact HB.out | apply below_alloc | apply pw_below_drewN | apply below_drew1 | refine below_set ?_ GE286.out | refine below_set ?_ GE298.out) | exact HB.out)) hb); clear HO_6; clear HO_287000; clear HO_287002; clear HO_299000; clear HO_299002; clear BK286; clear BK298; clear HB; have HO_6 := n0_; have HO_287000 := n1_; have HO_287002 := n2_; have HO_299000 := n3_; have HO_299002 := n4_; have HO302 := n5_; have BK286 := n6_; have BK298 := n7_; have HB := n8_; clear n0_ n1_ n2_ n3_ n4_ n5_ n6_ n7_ n8_; (try clear hb); (try clear hb2); (try clear hk); (try clear hi); (try clear ho0); obtain ⟨Ao37, co37, eo37⟩ := Kd.R_slice HO302.out; subst eo37) | ((with_reducible refine gate_callee (f := 17) rfl ?_); refine goesL_ (some 44) rfl rfl Try.func17 (by kernel_rfl) rfl #[.slice Ao17 t287.length co17, .slice Ao37 t300.length co37] rfl (by (try simp only [List.map_toArray, List.map_cons, List.map_nil]); first | done | rfl | (simp only [List.length_drop, List.length_take]; rfl)) ?_; (with_reducible refine (laws_eqHoleS.calls kj7 _ _ t287 _ _ t300 true _ ?side1 ?side2 ?side3 ?side4 A32.out).mono ?_); (case side1 => repeat (first | exact (Kd.R_reads' HO_6.out).2.2 | (with_reducible refine Kd.C_alloc ?_ _) | (with_reducible refine Kd.C_drewN ?_ _) | (with_reducible refine Kd.C_drew ?_))); (case side2 => exact (Kd.R_reads' HO_6.out).2.1); (case side3 => repeat (first | exact (Kd.R_reads' HO302.out).2.2 | (with_reducible refine Kd.C_alloc ?_ _) | (with_reducible refine Kd.C_drewN ?_ _) | (with_reducible refine Kd.C_drew ?_))); (case side4 => exact (Kd.R_reads' HO302.out).2.1); rintro e w38 ⟨rfl, hb⟩; refine ⟨_, rfl, ?_⟩; have n0_ := Aside0.mk (Kd.R_below (by (with_reducible repeat (first | apply Kd.R_alloc | apply Kd.R_drewN | apply Kd.R_drew)); exact HO_6.out) hb); have n1_ := Aside0.mk (Kd.R_below (by (with_reducible repeat (first | apply Kd.R_alloc | apply Kd.R_drewN | apply Kd.R_drew)); exact HO_287000.out) hb); have n2_ := Aside0.mk (Kd.R_below (by (with_reducible repeat (first | apply Kd.R_alloc | apply Kd.R_drewN | apply Kd.R_drew)); exact HO_287002.out) hb); have n3_ := Aside0.mk (Kd.R_below (by (with_reducible repeat (first | apply Kd.R_alloc | apply Kd.R_drewN | apply Kd.R_drew)); exact HO_299000.out) hb); have n4_ := Aside0.mk (Kd.R_below (by (with_reducible repeat (first | apply Kd.R_alloc | apply Kd.R_drewN | apply Kd.R_drew)); exact HO_299002.out) hb); have n5_ := Aside0.mk (Kd.R_below (by (with_reducible repeat (first | apply Kd.R_alloc | apply Kd.R_drewN | apply Kd.R_drew)); exact HO302.out) hb); have n6_ := Aside0.mk (blk_below (g := gb286) (o := .cells #[.slice Ao13 t278.length co13, .int .i64 t281, .slice Ao15 t282.length co15] 38 (0, 0)) (by (with_reducible repeat (first | refine blk_drewN ?_ _ | refine blk_drew ?_ | refine blk_alloc ?_ _)); exact BK286.out) hb); have n7_ := Aside0.mk (blk_below (g := gb298) (o := .cells #[.slice Ao20 t290.length co20, .int .i64 t293, .slice Ao23 t294.length co23] 38 (0, 0)) (by (with_reducible repeat (first | refine blk_drewN ?_ _ | refine blk_drew ?_ | refine blk_alloc ?_ _)); exact BK298.out) hb); have n8_ := Aside0.mk (below_step (by repeat (first | (with_reducible first | exact HB.out | apply below_alloc | apply pw_below_drewN | apply below_drew1 | refine below_set ?_ GE286.out | refine below_set ?_ GE298.out) | exact HB.out)) hb); clear HO_6; clear HO_287000; clear HO_287002; clear HO_299000; clear HO_299002; clear HO302; clear BK286; clear BK298; clear HB; have HO_6 := n0_; have HO_287000 := n1_; have HO_287002 := n2_; have HO_299000 := n3_; have HO_299002 := n4_; have HO302 := n5_; have BK286 := n6_; have BK298 := n7_; have HB := n8_; clear n0_ n1_ n2_ n3_ n4_ n5_ n6_ n7_ n8_; (try clear hb); (try clear hb2); (try clear hk); (try clear hi)) | ((with_reducible refine gate_callee (f := 27) rfl ?_); refine goesL_ (some 48) rfl rfl Try.func27 (by kernel_rfl) rfl #[.slice Ao17 t287.length co17, .int .i64 1] rfl (by (try simp only [List.map_toArray, List.map_cons, List.map_nil]); first | done | rfl | (simp only [List.length_drop, List.length_take]; rfl)) ?_; (with_reducible refine (laws_markHoleS.calls kj7 (fun k_ => some k_ = (.slice Ao17 t287.length co17 : Value).ownBlock) (.slice Ao17 t287.length co17) t287 1 t304 t305 w _ ?side1 ?side2 A34.out).mono ?_); (case side1 => repeat (first | (with_reducible first | exact HB.out | apply below_alloc | apply pw_below_drewN | apply below_drew1 | refine below_set ?_ GE286.out | refine below_set ?_ GE298.out) | exact HB.out)); (case side2 => exact Kd.R_tight rfl HO_6.out); rintro e w39 ⟨rfl, hy0, hb, hkp⟩; refine ⟨_, rfl, ?_⟩; have n0_ := Aside0.mk (Kd.R_reok rfl hy0 (fun k_ e_ => HO_6.out.1 k_ e_)); have n1_ := Aside0.mk (Kd.R_mono (ok' := fun k_ => some k_ ≠ (.slice Ao17 t287.length co17 : Value).ownBlock ∧ some k_ ≠ (.slice Ao20 t290.length co20 : Value).ownBlock ∧ some k_ ≠ (.slice Ao37 t300.length co37 : Value).ownBlock) (Kd.R_keptB (HO_287000.out) hkp (fun k_ hk_ hs_ => (hk_.1.1) hs_)) (fun k_ hk_ => ⟨hk_.1.1.1, hk_.1.1.2, hk_.1.2⟩)); have n2_ := Aside0.mk (Kd.R_mono (ok' := fun k_ => some k_ ≠ (.slice Ao23 t294.length co23 : Value).ownBlock) (Kd.R_keptB ((Kd.R_apart' HO_287002.out (Kd.R_typed HO_6.out) (by decide))) hkp (fun k_ hk_ hs_ => (hk_.2) hs_)) (fun k_ hk_ => hk_.1.1)); have n3_ := Aside0.mk (Kd.R_mono (ok' := fun k_ => some k_ ≠ (.slice Ao17 t287.length co17 : Value).ownBlock ∧ some k_ ≠ (.slice Ao13 t278.length co13 : Value).ownBlock ∧ some k_ ≠ (.slice Ao37 t300.length co37 : Value).ownBlock) (Kd.R_keptB (HO_299000.out) hkp (fun k_ hk_ hs_ => (hk_.1.1) hs_)) (fun k_ hk_ => ⟨hk_.1.1.1, hk_.1.1.2, hk_.1.2⟩)); have n4_ := Aside0.mk (Kd.R_mono (ok' := fun k_ => some k_ ≠ (.slice Ao15 t282.length co15 : Value).ownBlock) (Kd.R_keptB ((Kd.R_apart' HO_299002.out (Kd.R_typed HO_6.out) (by decide))) hkp (fun k_ hk_ hs_ => (hk_.2) hs_)) (fun k_ hk_ => hk_.1.1)); have n5_ := Aside0.mk (blk_kept (by (with_reducible repeat (first | refine blk_drewN ?_ _ | refine blk_drew ?_ | refine blk_alloc ?_ _)); exact BK286.out) hkp (fun hs_ => (fun e_ => (Kd.R_ne HO_6.out BK286.out (by decide)) e_) hs_)); have n6_ := Aside0.mk (blk_kept (by (with_reducible repeat (first | refine blk_drewN ?_ _ | refine blk_drew ?_ | refine blk_alloc ?_ _)); exact BK298.out) hkp (fun hs_ => (fun e_ => (Kd.R_ne HO_6.out BK298.out (by decide)) e_) hs_)); have n7_ := Aside0.mk (Kd.R_mono (ok' := fun k_ => some k_ ≠ (.slice Ao17 t287.length co17 : Value).ownBlock ∧ some k_ ≠ (.slice Ao13 t278.length co13 : Value).ownBlock ∧ some k_ ≠ (.slice Ao20 t290.length co20 : Value).ownBlock) (Kd.R_keptB (HO302.out) hkp (fun k_ hk_ hs_ => (hk_.1.1.2) hs_)) (fun k_ hk_ => ⟨hk_.1.1.1.2, hk_.1.1.2, hk_.1.2⟩)); have n8_ := Aside0.mk (hb); clear HO_6; clear HO_287000; clear HO_287002; clear HO_299000; clear HO_299002; clear BK286; clear BK298; clear HO302; clear HB; have HO_6 := n0_; have HO_287000 := n1_; have HO_287002 := n2_; have HO_299000 := n3_; have HO_299002 := n4_; have BK286 := n5_; have BK298 := n6_; have HO302 := n7_; have HB := n8_; clear n0_ n1_ n2_ n3_ n4_ n5_ n6_ n7_ n8_; (try clear hb); (try clear hkp); (try clear hy0)))
            (try simp only [Act.put, List.setIfInBounds_toArray, List.set_cons_zero, List.set_cons_succ])
            go_cut [61] (fun v61 wc => ∃ (kq : Nat) (x61_34 : Bool), v61 = .bool x61_34 ∧ Aside0 (laws_FnExactNewReader.j1 kq l0 t285 x61_34 t278 t281 t282 t290 t293 t294 = some r) ∧ Aside0 (kq ≤ kj7) ∧ Aside0 (Kd.R k68 68 wc w.heap.size (fun k_ => some k_ ≠ ((.slice Ao20 t290.length co20) : Value).ownBlock) (.slice Ao13 t278.length co13) t278) ∧ Aside0 (Kd.R (Kd.int .i64) 3 wc w.heap.size (fun k_ => some k_ ≠ ((.slice Ao23 t294.length co23) : Value).ownBlock) (.slice Ao15 t282.length co15) t282) ∧ Aside0 (Kd.R k68 68 wc w.heap.size (fun k_ => some k_ ≠ ((.slice Ao13 t278.length co13) : Value).ownBlock) (.slice Ao20 t290.length co20) t290) ∧ Aside0 (Kd.R (Kd.int .i64) 3 wc w.heap.size (fun k_ => some k_ ≠ ((.slice Ao15 t282.length co15) : Value).ownBlock) (.slice Ao23 t294.length co23) t294) ∧ Aside0 (wc.heap[gb286]? = some (.cells #[(.slice Ao13 t278.length co13), .int .i64 t281, (.slice Ao15 t282.length co15)] 38 (0, 0))) ∧ Aside0 (wc.heap[gb298]? = some (.cells #[(.slice Ao20 t290.length co20), .int .i64 t293, (.slice Ao23 t294.length co23)] 38 (0, 0))) ∧ Aside0 (Below w.heap.size w wc))
            case first =>
              have H := HC35.out
              clear HC35
              by_cases c40 : t304 < 0
              · rw [if_pos c40] at H
                have c40b0 : decide (t304 < 0) = true := decide_eq_true c40
                clear c40
                (first | rw [c40b0] | (simp only [i64_w, i32_w]; rw [c40b0]) | skip)
                exact (laws_FnExactNewReader.j1_t (H.trans (congrArg some hr_))).elim
              · rw [if_neg c40] at H
                have c40b0 : decide (t304 < 0) = false := decide_eq_false c40
                clear c40
                (first | rw [c40b0] | (simp only [i64_w, i32_w]; rw [c40b0]) | skip)
                replace H := Option.bind_eq_some_iff.mp H
                obtain ⟨t306, A410, H⟩ := H
                replace H : (if t306 = true then (laws_FnExactNewReader.j1 kj7 l0 t285 (t297 != t285) t278 t281 t282 t290 t293 t294) else (laws_FnExactNewReader.j1 kj7 l0 t285 true t278 t281 t282 t290 t293 t294)) = some r := H
                have A41 := Aside0.mk A410
                clear A410
                by_cases c42 : t306 = true
                · subst c42
                  have H1 : (laws_FnExactNewReader.j1 kj7 l0 t285 (t297 != t285) t278 t281 t282 t290 t293 t294) = some r := by rw [if_pos rfl] at H; exact H
                  clear H
                  have H := H1
                  clear H1
                  have H' := Aside0.mk H
                  clear H
                  have hnb43 := NB298_286.out
                  have hnc43 := NB286_298.out
                  have hcz44_0 : w39.cell? ⟨gb298, 0, none⟩ = some (.slice Ao20 t290.length co20) := (blk_cell BK298.out 0).trans rfl
                  have hcz44_1 : w39.cell? ⟨gb298, 1, none⟩ = some (.int .i64 t293) := (blk_cell BK298.out 1).trans rfl
                  have hcz44_2 : w39.cell? ⟨gb298, 2, none⟩ = some (.slice Ao23 t294.length co23) := (blk_cell BK298.out 2).trans rfl
                  have hfz44_0 := blk_frozen BK298.out 0
                  have hfz44_1 := blk_frozen BK298.out 1
                  have hfz44_2 := blk_frozen BK298.out 2
                  have hcz45_0 : w39.cell? ⟨gb286, 0, none⟩ = some (.slice Ao13 t278.length co13) := (blk_cell BK286.out 0).trans rfl
                  have hcz45_1 : w39.cell? ⟨gb286, 1, none⟩ = some (.int .i64 t281) := (blk_cell BK286.out 1).trans rfl
                  have hcz45_2 : w39.cell? ⟨gb286, 2, none⟩ = some (.slice Ao15 t282.length co15) := (blk_cell BK286.out 2).trans rfl
                  have hfz45_0 := blk_frozen BK286.out 0
                  have hfz45_1 := blk_frozen BK286.out 1
                  have hfz45_2 := blk_frozen BK286.out 2
                  go_wp2_with (first | (go_at_call 24; (with_reducible refine (laws_eqReader.calls kj7 _ _ t290 t293 _ _ t294 _ _ t278 t281 _ _ t282 true _ ?side1 ?side2 ?side3 ?side4 ?side5 ?side6 ?side7 ?side8 A41.out).mono ?_); (case side1 => repeat (first | exact (Kd.R_reads' HO_299000.out).2.2 | (with_reducible refine Kd.C_alloc ?_ _) | (with_reducible refine Kd.C_drewN ?_ _) | (with_reducible refine Kd.C_drew ?_))); (case side2 => exact (Kd.R_reads' HO_299000.out).2.1); (case side3 => repeat (first | exact (Kd.R_reads' HO_299002.out).2.2 | (with_reducible refine Kd.C_alloc ?_ _) | (with_reducible refine Kd.C_drewN ?_ _) | (with_reducible refine Kd.C_drew ?_))); (case side4 => exact (Kd.R_reads' HO_299002.out).2.1); (case side5 => repeat (first | exact (Kd.R_reads' HO_287000.out).2.2 | (with_reducible refine Kd.C_alloc ?_ _) | (with_reducible refine Kd.C_drewN ?_ _) | (with_reducible refine Kd.C_drew ?_))); (case side6 => exact (Kd.R_reads' HO_287000.out).2.1); (case side7 => repeat (first | exact (Kd.R_reads' HO_287002.out).2.2 | (with_reducible refine Kd.C_alloc ?_ _) | (with_reducible refine Kd.C_drewN ?_ _) | (with_reducible refine Kd.C_drew ?_))); (case side8 => exact (Kd.R_reads' HO_287002.out).2.1); rintro e w46 ⟨rfl, hb⟩; have n0_ := Aside0.mk (Kd.R_below (by (with_reducible repeat (first | apply Kd.R_alloc | apply Kd.R_drewN | apply Kd.R_drew)); exact HO_6.out) hb); have n1_ := Aside0.mk (Kd.R_below (by (with_reducible repeat (first | apply Kd.R_alloc | apply Kd.R_drewN | apply Kd.R_drew)); exact HO_287000.out) hb); have n2_ := Aside0.mk (Kd.R_below (by (with_reducible repeat (first | apply Kd.R_alloc | apply Kd.R_drewN | apply Kd.R_drew)); exact HO_287002.out) hb); have n3_ := Aside0.mk (Kd.R_below (by (with_reducible repeat (first | apply Kd.R_alloc | apply Kd.R_drewN | apply Kd.R_drew)); exact HO_299000.out) hb); have n4_ := Aside0.mk (Kd.R_below (by (with_reducible repeat (first | apply Kd.R_alloc | apply Kd.R_drewN | apply Kd.R_drew)); exact HO_299002.out) hb); have n5_ := Aside0.mk (Kd.R_below (by (with_reducible repeat (first | apply Kd.R_alloc | apply Kd.R_drewN | apply Kd.R_drew)); exact HO302.out) hb); have n6_ := Aside0.mk (blk_below (g := gb286) (o := .cells #[.slice Ao13 t278.length co13, .int .i64 t281, .slice Ao15 t282.length co15] 38 (0, 0)) (by (with_reducible repeat (first | refine blk_drewN ?_ _ | refine blk_drew ?_ | refine blk_alloc ?_ _)); exact BK286.out) hb); have n7_ := Aside0.mk (blk_below (g := gb298) (o := .cells #[.slice Ao20 t290.length co20, .int .i64 t293, .slice Ao23 t294.length co23] 38 (0, 0)) (by (with_reducible repeat (first | refine blk_drewN ?_ _ | refine blk_drew ?_ | refine blk_alloc ?_ _)); exact BK298.out) hb); have n8_ := Aside0.mk (below_step (by repeat (first | (with_reducible first | exact HB.out | apply below_alloc | apply pw_below_drewN | apply below_drew1 | refine below_set ?_ GE286.out | refine below_set ?_ GE298.out) | exact HB.out)) hb); clear HO_6; clear HO_287000; clear HO_287002; clear HO_299000; clear HO_299002; clear HO302; clear BK286; clear BK298; clear HB; have HO_6 := n0_; have HO_287000 := n1_; have HO_287002 := n2_; have HO_299000 := n3_; have HO_299002 := n4_; have HO302 := n5_; have BK286 := n6_; have BK298 := n7_; have HB := n8_; clear n0_ n1_ n2_ n3_ n4_ n5_ n6_ n7_ n8_; (try clear hb); (try clear hb2); (try clear hk); (try clear hi)))
                  go_meet
                  case rel => exact ⟨_, ((t297 != t285)), (by first | rfl | (simp; done) | (simp [*]; done)), H', ⟨by have := HJ7.out; first | omega | exact Nat.le_refl _⟩, ⟨by (with_reducible repeat (first | apply Kd.R_alloc | apply Kd.R_drewN | apply Kd.R_drew)); exact Kd.R_mono HO_287000.out (fun _ hk => hk.2.1)⟩, ⟨by (with_reducible repeat (first | apply Kd.R_alloc | apply Kd.R_drewN | apply Kd.R_drew)); exact HO_287002.out⟩, ⟨by (with_reducible repeat (first | apply Kd.R_alloc | apply Kd.R_drewN | apply Kd.R_drew)); exact Kd.R_mono HO_299000.out (fun _ hk => hk.2.1)⟩, ⟨by (with_reducible repeat (first | apply Kd.R_alloc | apply Kd.R_drewN | apply Kd.R_drew)); exact HO_299002.out⟩, ⟨by (with_reducible repeat (first | refine blk_drewN ?_ _ | refine blk_drew ?_ | refine blk_alloc ?_ _)); exact BK286.out⟩, ⟨by (with_reducible repeat (first | refine blk_drewN ?_ _ | refine blk_drew ?_ | refine blk_alloc ?_ _)); exact BK298.out⟩, ⟨by repeat (first | (with_reducible first | exact HB.out | apply below_alloc | apply pw_below_drewN | apply below_drew1 | refine below_set ?_ GE286.out | refine below_set ?_ GE298.out) | exact HB.out)⟩⟩
                · replace c42 := Bool.eq_false_iff.mpr c42
                  subst c42
                  have H1 : (laws_FnExactNewReader.j1 kj7 l0 t285 true t278 t281 t282 t290 t293 t294) = some r := by rw [if_neg (show ¬ (false = true) by decide)] at H; exact H
                  clear H
                  have H := H1
                  clear H1
                  exact (laws_FnExactNewReader.j1_t (H.trans (congrArg some hr_))).elim
            case rest =>
              clear HC35
              try clear c1
              try clear c2
              try clear p2
              try clear c3
              try clear c3b0
              try clear c4
              try clear c6
              try clear c13
              try clear c15
              try clear c17
              try clear c21
              try clear c24
              try clear c25
              try clear c26
              try clear c27
              try clear c30
              try clear c33
              try clear c40
              try clear c40b0
              try clear c42
              try clear c43
              try clear hcz14_0
              try clear hcz14_1
              try clear hcz14_2
              try clear hcz22_0
              try clear hcz22_1
              try clear hcz22_2
              try clear hcz27_0
              try clear hcz27_1
              try clear hcz27_2
              try clear hcz28_0
              try clear hcz28_1
              try clear hcz28_2
              try clear hcz44_0
              try clear hcz44_1
              try clear hcz44_2
              try clear hcz45_0
              try clear hcz45_1
              try clear hcz45_2
              try clear hfz14_0
              try clear hfz14_1
              try clear hfz14_2
              try clear hfz22_0
              try clear hfz22_1
              try clear hfz22_2
              try clear hfz27_0
              try clear hfz27_1
              try clear hfz27_2
              try clear hfz28_0
              try clear hfz28_1
              try clear hfz28_2
              try clear hfz44_0
              try clear hfz44_1
              try clear hfz44_2
              try clear hfz45_0
              try clear hfz45_1
              try clear hfz45_2
              try clear p2
              obtain ⟨kq, x61_34, rfl, HA, HJ34, HO_287000, HO_287002, HO_299000, HO_299002, BK286, BK298, HB⟩ := hcut
              cases kq with
              | zero => exact absurd HA.out (by simp [laws_FnExactNewReader.j1])
              | succ kj34 =>
                have H := HA.out
                clear HA
                simp only [laws_FnExactNewReader.j1] at H
                by_cases c47 : x61_34 = true
                · subst c47
                  have H1 : (some false) = some r := by rw [if_pos rfl] at H; exact H
                  clear H
                  have H := H1
                  clear H1
                  exact absurd ((Option.some.inj H).trans hr_) (by decide)
                · replace c47 := Bool.eq_false_iff.mpr c47
                  subst c47
                  have H1 : ((laws_markReader.f kj34 t290 t293 t294 1).bind fun bt307 => ((laws_heldReader.f kj34 bt307.2.1 t293 bt307.2.2 1).bind fun t310 => (if t310 < 0 then (some false) else (if t310 = bt307.1 then ((laws_toHoleS.f kj34 l0).bind fun t311 => ((impl_NewReader.f kj34 t311).bind fun bt314 => ((laws_eqReader.f kj34 bt314.1 bt314.2.1 bt314.2.2.1 t278 t281 t282).bind fun t323 => (if t323 = true then (laws_FnExactNewReader.j2 kj34 bt307.1 (bt314.2.2.2 != t285) bt307.2.1 t293 bt307.2.2) else (laws_FnExactNewReader.j2 kj34 bt307.1 true bt307.2.1 t293 bt307.2.2))))) else (some false))))) = some r := by rw [if_neg (show ¬ (false = true) by decide)] at H; exact H
                  clear H
                  have H := H1
                  clear H1
                  replace H := Option.bind_eq_some_iff.mp H
                  obtain ⟨⟨t307, t308, t309⟩, A480, H⟩ := H
                  replace H : ((laws_heldReader.f kj34 t308 t293 t309 1).bind fun t310 => (if t310 < 0 then (some false) else (if t310 = t307 then ((laws_toHoleS.f kj34 l0).bind fun t311 => ((impl_NewReader.f kj34 t311).bind fun bt314 => ((laws_eqReader.f kj34 bt314.1 bt314.2.1 bt314.2.2.1 t278 t281 t282).bind fun t323 => (if t323 = true then (laws_FnExactNewReader.j2 kj34 t307 (bt314.2.2.2 != t285) t308 t293 t309) else (laws_FnExactNewReader.j2 kj34 t307 true t308 t293 t309))))) else (some false)))) = some r := H
                  have A48 := Aside0.mk A480
                  clear A480
                  replace H := Option.bind_eq_some_iff.mp H
                  obtain ⟨t310, A490, H⟩ := H
                  replace H : (if t310 < 0 then (some false) else (if t310 = t307 then ((laws_toHoleS.f kj34 l0).bind fun t311 => ((impl_NewReader.f kj34 t311).bind fun bt314 => ((laws_eqReader.f kj34 bt314.1 bt314.2.1 bt314.2.2.1 t278 t281 t282).bind fun t323 => (if t323 = true then (laws_FnExactNewReader.j2 kj34 t307 (bt314.2.2.2 != t285) t308 t293 t309) else (laws_FnExactNewReader.j2 kj34 t307 true t308 t293 t309))))) else (some false))) = some r := H
                  have A49 := Aside0.mk A490
                  clear A490
                  by_cases c50 : t310 < 0
                  · rw [if_pos c50] at H
                    have c50b0 : decide (t310 < 0) = true := decide_eq_true c50
                    clear c50
                    exact absurd ((Option.some.inj H).trans hr_) (by decide)
                  · rw [if_neg c50] at H
                    have c50b0 : decide (t310 < 0) = false := decide_eq_false c50
                    clear c50
                    by_cases c51 : t310 = t307
                    · rw [if_pos c51] at H
                      have c51b0 : (t310 == t307) = true := beq_iff_eq.mpr c51
                      have c51b1 : (t310 != t307) = false := bne_eq_false_iff_eq.mpr c51
                      clear c51
                      replace H := Option.bind_eq_some_iff.mp H
                      obtain ⟨t311, A520, H⟩ := H
                      replace H : ((impl_NewReader.f kj34 t311).bind fun bt314 => ((laws_eqReader.f kj34 bt314.1 bt314.2.1 bt314.2.2.1 t278 t281 t282).bind fun t323 => (if t323 = true then (laws_FnExactNewReader.j2 kj34 t307 (bt314.2.2.2 != t285) t308 t293 t309) else (laws_FnExactNewReader.j2 kj34 t307 true t308 t293 t309)))) = some r := H
                      have A52 := Aside0.mk A520
                      clear A520
                      replace H := Option.bind_eq_some_iff.mp H
                      obtain ⟨⟨t314, t317, t318, t321⟩, A530, H⟩ := H
                      replace H : ((laws_eqReader.f kj34 t314 t317 t318 t278 t281 t282).bind fun t323 => (if t323 = true then (laws_FnExactNewReader.j2 kj34 t307 (t321 != t285) t308 t293 t309) else (laws_FnExactNewReader.j2 kj34 t307 true t308 t293 t309))) = some r := H
                      have A53 := Aside0.mk A530
                      clear A530
                      have HC54 := Aside0.mk H
                      clear H
                      have hnb55 := NB298_286.out
                      have hnc55 := NB286_298.out
                      have hcz56_0 : wc.cell? ⟨gb298, 0, none⟩ = some (.slice Ao20 t290.length co20) := (blk_cell BK298.out 0).trans rfl
                      have hcz56_1 : wc.cell? ⟨gb298, 1, none⟩ = some (.int .i64 t293) := (blk_cell BK298.out 1).trans rfl
                      have hcz56_2 : wc.cell? ⟨gb298, 2, none⟩ = some (.slice Ao23 t294.length co23) := (blk_cell BK298.out 2).trans rfl
                      have hfz56_0 := blk_frozen BK298.out 0
                      have hfz56_1 := blk_frozen BK298.out 1
                      have hfz56_2 := blk_frozen BK298.out 2
                      go_upto_region 25 with (first | ((with_reducible refine gate_callee (f := 28) rfl ?_); refine goesL_ (some 64) rfl rfl Try.func28 (by kernel_rfl) rfl #[.agg #[.slice Ao20 t290.length co20, .int .i64 t293, .slice Ao23 t294.length co23], .int .i64 1] rfl (by (try simp only [List.map_toArray, List.map_cons, List.map_nil]); first | done | rfl | (simp only [List.length_drop, List.length_take]; rfl)) ?_; (with_reducible refine (laws_markReader.calls kj34 (fun k_ => some k_ = (.slice Ao20 t290.length co20 : Value).ownBlock) (.slice Ao20 t290.length co20) t290 t293 (fun k_ => some k_ = (.slice Ao23 t294.length co23 : Value).ownBlock) (.slice Ao23 t294.length co23) t294 1 t307 t308 t309 w _ ?side1 ?side2 ?side3 A48.out).mono ?_); (case side1 => repeat (first | (with_reducible first | exact HB.out | apply below_alloc | apply pw_below_drewN | apply below_drew1 | refine below_set ?_ GE286.out | refine below_set ?_ GE298.out) | exact HB.out)); (case side2 => exact Kd.R_tight rfl HO_299000.out); (case side3 => exact Kd.R_tight rfl HO_299002.out); rintro e w57 ⟨rfl, hy0, hy1, hb, hkp⟩; refine ⟨_, rfl, ?_⟩; have n0_ := Aside0.mk (Kd.R_mono (ok' := fun k_ => some k_ ≠ (.slice Ao20 t290.length co20 : Value).ownBlock) (Kd.R_keptB ((Kd.R_apart' HO_287000.out (Kd.R_typed HO_299002.out) (by decide))) hkp (fun k_ hk_ hs_ => Or.elim hs_ (fun e_ => (hk_.1) e_) (fun e_ => (hk_.2) e_))) (fun k_ hk_ => hk_.1.1)); have n1_ := Aside0.mk (Kd.R_mono (ok' := fun k_ => some k_ ≠ (.slice Ao23 t294.length co23 : Value).ownBlock) (Kd.R_keptB ((Kd.R_apart' HO_287002.out (Kd.R_typed HO_299000.out) (by decide))) hkp (fun k_ hk_ hs_ => Or.elim hs_ (fun e_ => (hk_.2) e_) (fun e_ => (hk_.1) e_))) (fun k_ hk_ => hk_.1.1)); have n2_ := Aside0.mk (Kd.R_reok rfl hy0 (fun k_ e_ => HO_299000.out.1 k_ e_)); have n3_ := Aside0.mk (Kd.R_reok rfl hy1 (fun k_ e_ => HO_299002.out.1 k_ e_)); have n4_ := Aside0.mk (blk_kept (by (with_reducible repeat (first | refine blk_drewN ?_ _ | refine blk_drew ?_ | refine blk_alloc ?_ _)); exact BK286.out) hkp (fun hs_ => Or.elim hs_ (fun e_ => (fun e_ => (Kd.R_ne HO_299000.out BK286.out (by decide)) e_) e_) (fun e_ => (fun e_ => (Kd.R_ne HO_299002.out BK286.out (by decide)) e_) e_))); have n5_ := Aside0.mk (blk_kept (by (with_reducible repeat (first | refine blk_drewN ?_ _ | refine blk_drew ?_ | refine blk_alloc ?_ _)); exact BK298.out) hkp (fun hs_ => Or.elim hs_ (fun e_ => (fun e_ => (Kd.R_ne HO_299000.out BK298.out (by decide)) e_) e_) (fun e_ => (fun e_ => (Kd.R_ne HO_299002.out BK298.out (by decide)) e_) e_))); have n6_ := Aside0.mk (hb); clear HO_287000; clear HO_287002; clear HO_299000; clear HO_299002; clear BK286; clear BK298; clear HB; have HO_287000 := n0_; have HO_287002 := n1_; have HO_299000 := n2_; have HO_299002 := n3_; have BK286 := n4_; have BK298 := n5_; have HB := n6_; clear n0_ n1_ n2_ n3_ n4_ n5_ n6_; (try clear hb); (try clear hkp); (try clear hy0); (try clear hy1); have hcz58_0 : w57.cell? ⟨gb298, 0, none⟩ = some (.slice Ao20 t290.length co20) := (blk_cell BK298.out 0).trans rfl; have hcz58_1 : w57.cell? ⟨gb298, 1, none⟩ = some (.int .i64 t293) := (blk_cell BK298.out 1).trans rfl; have hcz58_2 : w57.cell? ⟨gb298, 2, none⟩ = some (.slice Ao23 t294.length co23) := (blk_cell BK298.out 2).trans rfl; have hfz58_0 := blk_frozen BK298.out 0; have hfz58_1 := blk_frozen BK298.out 1; have hfz58_2 := blk_frozen BK298.out 2) | ((with_reducible refine gate_callee (f := 29) rfl ?_); refine goesL_ (some 67) rfl rfl Try.func29 (by kernel_rfl) rfl #[.agg #[.slice Ao20 t308.length co20, .int .i64 t293, .slice Ao23 t309.length co23], .int .i64 1] rfl (by (try simp only [List.map_toArray, List.map_cons, List.map_nil]); first | done | (rw [show t308.length = t290.length from (Kd.R_reads' HO_299000.out).1.symm, show t309.length = t294.length from (Kd.R_reads' HO_299002.out).1.symm] <;> rfl) | rfl | (simp only [List.length_drop, List.length_take]; rfl)) ?_; (with_reducible refine (laws_heldReader.calls kj34 _ _ t308 t293 _ _ t309 1 t310 _ ?side1 ?side2 ?side3 ?side4 A49.out).mono ?_); (case side1 => repeat (first | exact (Kd.R_reads' HO_299000.out).2.2 | (with_reducible refine Kd.C_alloc ?_ _) | (with_reducible refine Kd.C_drewN ?_ _) | (with_reducible refine Kd.C_drew ?_))); (case side2 => rw [show t308.length = t290.length from (Kd.R_reads' HO_299000.out).1.symm]; exact (Kd.R_reads' HO_299000.out).2.1); (case side3 => repeat (first | exact (Kd.R_reads' HO_299002.out).2.2 | (with_reducible refine Kd.C_alloc ?_ _) | (with_reducible refine Kd.C_drewN ?_ _) | (with_reducible refine Kd.C_drew ?_))); (case side4 => rw [show t309.length = t294.length from (Kd.R_reads' HO_299002.out).1.symm]; exact (Kd.R_reads' HO_299002.out).2.1); rintro e w59 ⟨rfl, hb⟩; refine ⟨_, rfl, ?_⟩; have n0_ := Aside0.mk (Kd.R_below (by (with_reducible repeat (first | apply Kd.R_alloc | apply Kd.R_drewN | apply Kd.R_drew)); exact HO_287000.out) hb); have n1_ := Aside0.mk (Kd.R_below (by (with_reducible repeat (first | apply Kd.R_alloc | apply Kd.R_drewN | apply Kd.R_drew)); exact HO_287002.out) hb); have n2_ := Aside0.mk (Kd.R_below (by (with_reducible repeat (first | apply Kd.R_alloc | apply Kd.R_drewN | apply Kd.R_drew)); exact HO_299000.out) hb); have n3_ := Aside0.mk (Kd.R_below (by (with_reducible repeat (first | apply Kd.R_alloc | apply Kd.R_drewN | apply Kd.R_drew)); exact HO_299002.out) hb); have n4_ := Aside0.mk (blk_below (g := gb286) (o := .cells #[.slice Ao13 t278.length co13, .int .i64 t281, .slice Ao15 t282.length co15] 38 (0, 0)) (by (with_reducible repeat (first | refine blk_drewN ?_ _ | refine blk_drew ?_ | refine blk_alloc ?_ _)); exact BK286.out) hb); have n5_ := Aside0.mk (blk_below (g := gb298) (o := .cells #[.slice Ao20 t290.length co20, .int .i64 t293, .slice Ao23 t294.length co23] 38 (0, 0)) (by (with_reducible repeat (first | refine blk_drewN ?_ _ | refine blk_drew ?_ | refine blk_alloc ?_ _)); exact BK298.out) hb); have n6_ := Aside0.mk (below_step (by repeat (first | (with_reducible first | exact HB.out | apply below_alloc | apply pw_below_drewN | apply below_drew1 | refine below_set ?_ GE286.out | refine below_set ?_ GE298.out) | exact HB.out)) hb); clear HO_287000; clear HO_287002; clear HO_299000; clear HO_299002; clear BK286; clear BK298; clear HB; have HO_287000 := n0_; have HO_287002 := n1_; have HO_299000 := n2_; have HO_299002 := n3_; have BK286 := n4_; have BK298 := n5_; have HB := n6_; clear n0_ n1_ n2_ n3_ n4_ n5_ n6_; (try clear hb); (try clear hb2); (try clear hk); (try clear hi)) | ((with_reducible refine gate_callee (f := 15) rfl ?_); refine goesL_ (some 75) rfl rfl Try.func15 (by kernel_rfl) rfl #[.slice A0 l0.length c0] rfl (by (try simp only [List.map_toArray, List.map_cons, List.map_nil]); first | done | rfl | (simp only [List.length_drop, List.length_take]; rfl)) ?_; (with_reducible refine (laws_toHoleS.calls kj34 _ _ l0 t311 _ ?side1 ?side2 A52.out).mono ?_); (case side1 => repeat (first | exact (Kd.C_below HR0.out HB.out) | (with_reducible refine Kd.C_alloc ?_ _) | (with_reducible refine Kd.C_drewN ?_ _) | (with_reducible refine Kd.C_drew ?_))); (case side2 => exact HC0.out); rintro e w60 ⟨v312, rfl, ho0, hb⟩; refine ⟨_, rfl, ?_⟩; have n0_ := Aside0.mk (Kd.R_elder' (by (with_reducible repeat (first | apply Kd.R_alloc | apply Kd.R_drewN | apply Kd.R_drew)); exact HO_287000.out) (Kd.R_base ho0) hb); have n1_ := Aside0.mk (Kd.R_below (by (with_reducible repeat (first | apply Kd.R_alloc | apply Kd.R_drewN | apply Kd.R_drew)); exact HO_287002.out) hb); have n2_ := Aside0.mk (Kd.R_elder' (by (with_reducible repeat (first | apply Kd.R_alloc | apply Kd.R_drewN | apply Kd.R_drew)); exact HO_299000.out) (Kd.R_base ho0) hb); have n3_ := Aside0.mk (Kd.R_below (by (with_reducible repeat (first | apply Kd.R_alloc | apply Kd.R_drewN | apply Kd.R_drew)); exact HO_299002.out) hb); have n4_ := Aside0.mk (Kd.R_lower (Kd.R_new' (Kd.R_new' ho0 (Kd.R_lt (by (with_reducible repeat (first | apply Kd.R_alloc | apply Kd.R_drewN | apply Kd.R_drew)); exact HO_287000.out))) (Kd.R_lt (by (with_reducible repeat (first | apply Kd.R_alloc | apply Kd.R_drewN | apply Kd.R_drew)); exact HO_299000.out))) (below_size (by repeat (first | (with_reducible first | exact HB.out | apply below_alloc | apply pw_below_drewN | apply below_drew1 | refine below_set ?_ GE286.out | refine below_set ?_ GE298.out) | exact HB.out)))); have n5_ := Aside0.mk (blk_below (g := gb286) (o := .cells #[.slice Ao13 t278.length co13, .int .i64 t281, .slice Ao15 t282.length co15] 38 (0, 0)) (by (with_reducible repeat (first | refine blk_drewN ?_ _ | refine blk_drew ?_ | refine blk_alloc ?_ _)); exact BK286.out) hb); have n6_ := Aside0.mk (blk_below (g := gb298) (o := .cells #[.slice Ao20 t290.length co20, .int .i64 t293, .slice Ao23 t294.length co23] 38 (0, 0)) (by (with_reducible repeat (first | refine blk_drewN ?_ _ | refine blk_drew ?_ | refine blk_alloc ?_ _)); exact BK298.out) hb); have n7_ := Aside0.mk (below_step (by repeat (first | (with_reducible first | exact HB.out | apply below_alloc | apply pw_below_drewN | apply below_drew1 | refine below_set ?_ GE286.out | refine below_set ?_ GE298.out) | exact HB.out)) hb); clear HO_287000; clear HO_287002; clear HO_299000; clear HO_299002; clear BK286; clear BK298; clear HB; have HO_287000 := n0_; have HO_287002 := n1_; have HO_299000 := n2_; have HO_299002 := n3_; have HO313 := n4_; have BK286 := n5_; have BK298 := n6_; have HB := n7_; clear n0_ n1_ n2_ n3_ n4_ n5_ n6_ n7_; (try clear hb); (try clear hb2); (try clear hk); (try clear hi); (try clear ho0); obtain ⟨Ao61, co61, eo61⟩ := Kd.R_slice HO313.out; subst eo61) | ((with_reducible refine gate_callee (f := 26) rfl ?_); refine goesL_ (some 76) rfl rfl Try.func26 (by kernel_rfl) rfl #[.slice Ao61 t311.length co61] rfl (by (try simp only [List.map_toArray, List.map_cons, List.map_nil]); first | done | rfl | (simp only [List.length_drop, List.length_take]; rfl)) ?_; (with_reducible refine (impl_NewReader.calls kj34 _ _ t311 t314 t317 t318 t321 _ ?side1 ?side2 A53.out).mono ?_); (case side1 => repeat (first | exact (Kd.R_reads' HO313.out).2.2 | (with_reducible refine Kd.C_alloc ?_ _) | (with_reducible refine Kd.C_drewN ?_ _) | (with_reducible refine Kd.C_drew ?_))); (case side2 => exact (Kd.R_reads' HO313.out).2.1); rintro e w62 ⟨v315, v319, rfl, ho0, ho1, hb⟩; refine ⟨_, rfl, ?_⟩; have n0_ := Aside0.mk (Kd.R_elder' (by (with_reducible repeat (first | apply Kd.R_alloc | apply Kd.R_drewN | apply Kd.R_drew)); exact HO_287000.out) (Kd.R_base ho0) hb); have n1_ := Aside0.mk (Kd.R_elder' (by (with_reducible repeat (first | apply Kd.R_alloc | apply Kd.R_drewN | apply Kd.R_drew)); exact HO_287002.out) (Kd.R_base ho1) hb); have n2_ := Aside0.mk (Kd.R_elder' (by (with_reducible repeat (first | apply Kd.R_alloc | apply Kd.R_drewN | apply Kd.R_drew)); exact HO_299000.out) (Kd.R_base ho0) hb); have n3_ := Aside0.mk (Kd.R_elder' (by (with_reducible repeat (first | apply Kd.R_alloc | apply Kd.R_drewN | apply Kd.R_drew)); exact HO_299002.out) (Kd.R_base ho1) hb); have n4_ := Aside0.mk (Kd.R_elder' (by (with_reducible repeat (first | apply Kd.R_alloc | apply Kd.R_drewN | apply Kd.R_drew)); exact HO313.out) (Kd.R_base ho0) hb); have n5_ := Aside0.mk (Kd.R_lower (Kd.R_new' (Kd.R_new' (Kd.R_new' ho0 (Kd.R_lt (by (with_reducible repeat (first | apply Kd.R_alloc | apply Kd.R_drewN | apply Kd.R_drew)); exact HO_287000.out))) (Kd.R_lt (by (with_reducible repeat (first | apply Kd.R_alloc | apply Kd.R_drewN | apply Kd.R_drew)); exact HO_299000.out))) (Kd.R_lt (by (with_reducible repeat (first | apply Kd.R_alloc | apply Kd.R_drewN | apply Kd.R_drew)); exact HO313.out))) (below_size (by repeat (first | (with_reducible first | exact HB.out | apply below_alloc | apply pw_below_drewN | apply below_drew1 | refine below_set ?_ GE286.out | refine below_set ?_ GE298.out) | exact HB.out)))); have n6_ := Aside0.mk (Kd.R_lower (Kd.R_new' (Kd.R_new' ho1 (Kd.R_lt (by (with_reducible repeat (first | apply Kd.R_alloc | apply Kd.R_drewN | apply Kd.R_drew)); exact HO_287002.out))) (Kd.R_lt (by (with_reducible repeat (first | apply Kd.R_alloc | apply Kd.R_drewN | apply Kd.R_drew)); exact HO_299002.out))) (below_size (by repeat (first | (with_reducible first | exact HB.out | apply below_alloc | apply pw_below_drewN | apply below_drew1 | refine below_set ?_ GE286.out | refine below_set ?_ GE298.out) | exact HB.out)))); have n7_ := Aside0.mk (blk_below (g := gb286) (o := .cells #[.slice Ao13 t278.length co13, .int .i64 t281, .slice Ao15 t282.length co15] 38 (0, 0)) (by (with_reducible repeat (first | refine blk_drewN ?_ _ | refine blk_drew ?_ | refine blk_alloc ?_ _)); exact BK286.out) hb); have n8_ := Aside0.mk (blk_below (g := gb298) (o := .cells #[.slice Ao20 t290.length co20, .int .i64 t293, .slice Ao23 t294.length co23] 38 (0, 0)) (by (with_reducible repeat (first | refine blk_drewN ?_ _ | refine blk_drew ?_ | refine blk_alloc ?_ _)); exact BK298.out) hb); have n9_ := Aside0.mk (below_step (by repeat (first | (with_reducible first | exact HB.out | apply below_alloc | apply pw_below_drewN | apply below_drew1 | refine below_set ?_ GE286.out | refine below_set ?_ GE298.out) | exact HB.out)) hb); clear HO_287000; clear HO_287002; clear HO_299000; clear HO_299002; clear HO313; clear BK286; clear BK298; clear HB; have HO_287000 := n0_; have HO_287002 := n1_; have HO_299000 := n2_; have HO_299002 := n3_; have HO313 := n4_; have HO316 := n5_; have HO320 := n6_; have BK286 := n7_; have BK298 := n8_; have HB := n9_; clear n0_ n1_ n2_ n3_ n4_ n5_ n6_ n7_ n8_ n9_; (try clear hb); (try clear hb2); (try clear hk); (try clear hi); (try clear ho0); (try clear ho1)) | ((with_reducible refine gate_dst (N := 12) rfl ?_); refine box_event ?hg (N := 12) ?hd (cs := #[.slice none 0 0, .int .i64 0, .slice none 0 0]) (t := 38) ?hr ?_; (case hd => rfl); (case hg => rfl); (case hr => first | (go_simp; done) | (go_simp; rfl)); intro gb322 hg w63 hbox hb; have n0_ := Aside0.mk (Kd.R_below (by (with_reducible repeat (first | apply Kd.R_alloc | apply Kd.R_drewN | apply Kd.R_drew)); exact HO_287000.out) hb); have n1_ := Aside0.mk (Kd.R_below (by (with_reducible repeat (first | apply Kd.R_alloc | apply Kd.R_drewN | apply Kd.R_drew)); exact HO_287002.out) hb); have n2_ := Aside0.mk (Kd.R_below (by (with_reducible repeat (first | apply Kd.R_alloc | apply Kd.R_drewN | apply Kd.R_drew)); exact HO_299000.out) hb); have n3_ := Aside0.mk (Kd.R_below (by (with_reducible repeat (first | apply Kd.R_alloc | apply Kd.R_drewN | apply Kd.R_drew)); exact HO_299002.out) hb); have n4_ := Aside0.mk (Kd.R_below (by (with_reducible repeat (first | apply Kd.R_alloc | apply Kd.R_drewN | apply Kd.R_drew)); exact HO313.out) hb); have n5_ := Aside0.mk (Kd.R_below (by (with_reducible repeat (first | apply Kd.R_alloc | apply Kd.R_drewN | apply Kd.R_drew)); exact HO316.out) hb); have n6_ := Aside0.mk (Kd.R_below (by (with_reducible repeat (first | apply Kd.R_alloc | apply Kd.R_drewN | apply Kd.R_drew)); exact HO320.out) hb); have n7_ := Aside0.mk (blk_below (g := gb286) (o := .cells #[.slice Ao13 t278.length co13, .int .i64 t281, .slice Ao15 t282.length co15] 38 (0, 0)) (by (with_reducible repeat (first | refine blk_drewN ?_ _ | refine blk_drew ?_ | refine blk_alloc ?_ _)); exact BK286.out) hb); have n8_ := Aside0.mk (blk_below (g := gb298) (o := .cells #[.slice Ao20 t290.length co20, .int .i64 t293, .slice Ao23 t294.length co23] 38 (0, 0)) (by (with_reducible repeat (first | refine blk_drewN ?_ _ | refine blk_drew ?_ | refine blk_alloc ?_ _)); exact BK298.out) hb); have n9_ := Aside0.mk (below_step (by repeat (first | (with_reducible first | exact HB.out | apply below_alloc | apply pw_below_drewN | apply below_drew1 | refine below_set ?_ GE286.out | refine below_set ?_ GE298.out) | exact HB.out)) hb); have n10_ := Aside0.mk (hbox); have n11_ := Aside0.mk ((by rw [hg]; exact (below_size (by repeat (first | (with_reducible first | exact HB.out | apply below_alloc | apply pw_below_drewN | apply below_drew1 | refine below_set ?_ GE286.out | refine below_set ?_ GE298.out) | exact HB.out))) : w.heap.size ≤ gb322)); have n12_ := Aside0.mk ((by rw [hg]; exact (below_size (by repeat (first | (with_reducible first | exact HB.out | apply below_alloc | apply pw_below_drewN | apply below_drew1 | refine below_set ?_ GE286.out | refine below_set ?_ GE298.out) | exact HB.out))) : w.heap.size ≤ gb322)); have n13_ := Aside0.mk ((by rw [hg]; exact Nat.ne_of_lt (blk_lt (g := gb286) (o := .cells #[.slice Ao13 t278.length co13, .int .i64 t281, .slice Ao15 t282.length co15] 38 (0, 0)) (by (with_reducible repeat (first | refine blk_drewN ?_ _ | refine blk_drew ?_ | refine blk_alloc ?_ _)); exact BK286.out)) : gb286 ≠ gb322)); have n14_ := Aside0.mk ((by rw [hg]; exact Nat.ne_of_gt (blk_lt (g := gb286) (o := .cells #[.slice Ao13 t278.length co13, .int .i64 t281, .slice Ao15 t282.length co15] 38 (0, 0)) (by (with_reducible repeat (first | refine blk_drewN ?_ _ | refine blk_drew ?_ | refine blk_alloc ?_ _)); exact BK286.out)) : gb322 ≠ gb286)); have n15_ := Aside0.mk ((by rw [hg]; exact Nat.ne_of_lt (blk_lt (g := gb298) (o := .cells #[.slice Ao20 t290.length co20, .int .i64 t293, .slice Ao23 t294.length co23] 38 (0, 0)) (by (with_reducible repeat (first | refine blk_drewN ?_ _ | refine blk_drew ?_ | refine blk_alloc ?_ _)); exact BK298.out)) : gb298 ≠ gb322)); have n16_ := Aside0.mk ((by rw [hg]; exact Nat.ne_of_gt (blk_lt (g := gb298) (o := .cells #[.slice Ao20 t290.length co20, .int .i64 t293, .slice Ao23 t294.length co23] 38 (0, 0)) (by (with_reducible repeat (first | refine blk_drewN ?_ _ | refine blk_drew ?_ | refine blk_alloc ?_ _)); exact BK298.out)) : gb322 ≠ gb298)); clear HO_287000; clear HO_287002; clear HO_299000; clear HO_299002; clear HO313; clear HO316; clear HO320; clear BK286; clear BK298; clear HB; have HO_287000 := n0_; have HO_287002 := n1_; have HO_299000 := n2_; have HO_299002 := n3_; have HO313 := n4_; have HO316 := n5_; have HO320 := n6_; have BK286 := n7_; have BK298 := n8_; have HB := n9_; have BK322 := n10_; have GW322 := n11_; have GE322 := n12_; have NB286_322 := n13_; have NB322_286 := n14_; have NB298_322 := n15_; have NB322_298 := n16_; clear n0_ n1_ n2_ n3_ n4_ n5_ n6_ n7_ n8_ n9_ n10_ n11_ n12_ n13_ n14_ n15_ n16_; clear hb hbox hg; obtain ⟨Ao64, co64, eo64⟩ := Kd.R_slice HO316.out; subst eo64; have hnb65 := NB322_286.out; have hnc65 := NB286_322.out; have hnb66 := NB322_298.out; have hnc66 := NB298_322.out; have hcz67_0 : w63.cell? ⟨gb322, 0, none⟩ = some (.slice none 0 0) := (blk_cell BK322.out 0).trans rfl; have hcz67_1 : w63.cell? ⟨gb322, 1, none⟩ = some (.int .i64 0) := (blk_cell BK322.out 1).trans rfl; have hcz67_2 : w63.cell? ⟨gb322, 2, none⟩ = some (.slice none 0 0) := (blk_cell BK322.out 2).trans rfl; have hfz67_0 := blk_frozen BK322.out 0; have hfz67_1 := blk_frozen BK322.out 1; have hfz67_2 := blk_frozen BK322.out 2; obtain ⟨Ao68, co68, eo68⟩ := Kd.R_slice HO320.out; subst eo68))
                      (try simp only [Act.put, List.setIfInBounds_toArray, List.set_cons_zero, List.set_cons_succ])
                      go_cut [87] (fun v87 wc => ∃ (kq : Nat) (x87_53 : Bool), v87 = .bool x87_53 ∧ Aside0 (laws_FnExactNewReader.j2 kq t307 x87_53 t308 t293 t309 = some r) ∧ Aside0 (kq ≤ kj34) ∧ Aside0 (Kd.R k68 68 wc w.heap.size (fun k_ => some k_ ≠ ((.slice Ao20 t290.length co20) : Value).ownBlock ∧ some k_ ≠ ((.slice Ao64 t314.length co64) : Value).ownBlock) (.slice Ao13 t278.length co13) t278) ∧ Aside0 (Kd.R (Kd.int .i64) 3 wc w.heap.size (fun k_ => some k_ ≠ ((.slice Ao23 t294.length co23) : Value).ownBlock ∧ some k_ ≠ ((.slice Ao68 t318.length co68) : Value).ownBlock) (.slice Ao15 t282.length co15) t282) ∧ Aside0 (Kd.R k68 68 wc w.heap.size (fun k_ => some k_ ≠ ((.slice Ao13 t278.length co13) : Value).ownBlock ∧ some k_ ≠ ((.slice Ao64 t314.length co64) : Value).ownBlock) (.slice Ao20 t290.length co20) t308) ∧ Aside0 (Kd.R (Kd.int .i64) 3 wc w.heap.size (fun k_ => some k_ ≠ ((.slice Ao15 t282.length co15) : Value).ownBlock ∧ some k_ ≠ ((.slice Ao68 t318.length co68) : Value).ownBlock) (.slice Ao23 t294.length co23) t309) ∧ Aside0 (Kd.R k68 68 wc w.heap.size (fun k_ => some k_ ≠ ((.slice Ao13 t278.length co13) : Value).ownBlock ∧ some k_ ≠ ((.slice Ao20 t290.length co20) : Value).ownBlock) (.slice Ao64 t314.length co64) t314) ∧ Aside0 (Kd.R (Kd.int .i64) 3 wc w.heap.size (fun k_ => some k_ ≠ ((.slice Ao15 t282.length co15) : Value).ownBlock ∧ some k_ ≠ ((.slice Ao23 t294.length co23) : Value).ownBlock) (.slice Ao68 t318.length co68) t318) ∧ Aside0 (wc.heap[gb286]? = some (.cells #[(.slice Ao13 t278.length co13), .int .i64 t281, (.slice Ao15 t282.length co15)] 38 (0, 0))) ∧ Aside0 (wc.heap[gb298]? = some (.cells #[(.slice Ao20 t290.length co20), .int .i64 t293, (.slice Ao23 t294.length co23)] 38 (0, 0))) ∧ Aside0 (wc.heap[gb322]? = some (.cells #[(.slice Ao64 t314.length co64), .int .i64 t317, (.slice Ao68 t318.length co68)] 38 (0, 0))) ∧ Aside0 (Below w.heap.size w wc))
                      case first =>
                        have H := HC54.out
                        clear HC54
                        replace H := Option.bind_eq_some_iff.mp H
                        obtain ⟨t323, A690, H⟩ := H
                        replace H : (if t323 = true then (laws_FnExactNewReader.j2 kj34 t307 (t321 != t285) t308 t293 t309) else (laws_FnExactNewReader.j2 kj34 t307 true t308 t293 t309)) = some r := H
                        have A69 := Aside0.mk A690
                        clear A690
                        by_cases c70 : t323 = true
                        · subst c70
                          have H1 : (laws_FnExactNewReader.j2 kj34 t307 (t321 != t285) t308 t293 t309) = some r := by rw [if_pos rfl] at H; exact H
                          clear H
                          have H := H1
                          clear H1
                          have H' := Aside0.mk H
                          clear H
                          have hnb71 := NB322_286.out
                          have hnc71 := NB286_322.out
                          have hnb72 := NB322_298.out
                          have hnc72 := NB298_322.out
                          have hcz73_0 : w63.cell? ⟨gb322, 0, none⟩ = some (.slice none 0 0) := (blk_cell BK322.out 0).trans rfl
                          have hcz73_1 : w63.cell? ⟨gb322, 1, none⟩ = some (.int .i64 0) := (blk_cell BK322.out 1).trans rfl
                          have hcz73_2 : w63.cell? ⟨gb322, 2, none⟩ = some (.slice none 0 0) := (blk_cell BK322.out 2).trans rfl
                          have hfz73_0 := blk_frozen BK322.out 0
                          have hfz73_1 := blk_frozen BK322.out 1
                          have hfz73_2 := blk_frozen BK322.out 2
                          have hnb74 := NB286_298.out
                          have hnc74 := NB298_286.out
                          have hcz75_0 : w63.cell? ⟨gb286, 0, none⟩ = some (.slice Ao13 t278.length co13) := (blk_cell BK286.out 0).trans rfl
                          have hcz75_1 : w63.cell? ⟨gb286, 1, none⟩ = some (.int .i64 t281) := (blk_cell BK286.out 1).trans rfl
                          have hcz75_2 : w63.cell? ⟨gb286, 2, none⟩ = some (.slice Ao15 t282.length co15) := (blk_cell BK286.out 2).trans rfl
                          have hfz75_0 := blk_frozen BK286.out 0
                          have hfz75_1 := blk_frozen BK286.out 1
                          have hfz75_2 := blk_frozen BK286.out 2
                          go_wp2_with (first | ((with_reducible refine gate_callee (f := 24) rfl ?_); refine goesL_ (some 81) rfl rfl Try.func24 (by kernel_rfl) rfl #[.agg #[.slice Ao64 t314.length co64, .int .i64 t317, .slice Ao68 t318.length co68], .agg #[.slice Ao13 t278.length co13, .int .i64 t281, .slice Ao15 t282.length co15]] rfl (by (try simp only [List.map_toArray, List.map_cons, List.map_nil]); first | done | rfl | (simp only [List.length_drop, List.length_take]; rfl)) ?_; (with_reducible refine (laws_eqReader.calls kj34 _ _ t314 t317 _ _ t318 _ _ t278 t281 _ _ t282 true _ ?side1 ?side2 ?side3 ?side4 ?side5 ?side6 ?side7 ?side8 A69.out).mono ?_); (case side1 => refine (Kd.R_reads' (e := 68) (base := w.heap.size) (ok := fun k_ => (((True ∧ some k_ ≠ (.slice Ao13 t278.length co13 : Value).ownBlock) ∧ some k_ ≠ (.slice Ao20 t290.length co20 : Value).ownBlock) ∧ some k_ ≠ (.slice Ao61 t311.length co61 : Value).ownBlock)) (n := t314.length) (c := co64) ?_).2.2; exact (by (with_reducible repeat (first | apply Kd.R_alloc | apply Kd.R_drewN | apply Kd.R_drew)); exact (Kd.R_mono (Kd.R_far (p := ⟨gb322, 2, none⟩) (Kd.R_far (p := ⟨gb322, 1, none⟩) (Kd.R_far (p := ⟨gb322, 0, none⟩) (Kd.R_types HO316.out BK322.out (by decide)) (fun _ hk => hk.2) (.slice Ao64 t314.length co64)) (fun _ hk => hk.2) (.int .i64 t317)) (fun _ hk => hk.2) (.slice Ao68 t318.length co68)) (fun _ h_ => h_.1)))); (case side2 => exact (Kd.R_reads' HO316.out).2.1); (case side3 => refine (Kd.R_reads' (e := 3) (base := w.heap.size) (ok := fun k_ => ((True ∧ some k_ ≠ (.slice Ao15 t282.length co15 : Value).ownBlock) ∧ some k_ ≠ (.slice Ao23 t294.length co23 : Value).ownBlock)) (n := t318.length) (c := co68) ?_).2.2; exact (by (with_reducible repeat (first | apply Kd.R_alloc | apply Kd.R_drewN | apply Kd.R_drew)); exact (Kd.R_mono (Kd.R_far (p := ⟨gb322, 2, none⟩) (Kd.R_far (p := ⟨gb322, 1, none⟩) (Kd.R_far (p := ⟨gb322, 0, none⟩) (Kd.R_types HO320.out BK322.out (by decide)) (fun _ hk => hk.2) (.slice Ao64 t314.length co64)) (fun _ hk => hk.2) (.int .i64 t317)) (fun _ hk => hk.2) (.slice Ao68 t318.length co68)) (fun _ h_ => h_.1)))); (case side4 => exact (Kd.R_reads' HO320.out).2.1); (case side5 => refine (Kd.R_reads' (e := 68) (base := w.heap.size) (ok := fun k_ => ((some k_ ≠ (.slice Ao20 t290.length co20 : Value).ownBlock ∧ some k_ ≠ (.slice Ao61 t311.length co61 : Value).ownBlock) ∧ some k_ ≠ (.slice Ao64 t314.length co64 : Value).ownBlock)) (n := t278.length) (c := co13) ?_).2.2; exact (by (with_reducible repeat (first | apply Kd.R_alloc | apply Kd.R_drewN | apply Kd.R_drew)); exact (Kd.R_mono (Kd.R_far (p := ⟨gb322, 2, none⟩) (Kd.R_far (p := ⟨gb322, 1, none⟩) (Kd.R_far (p := ⟨gb322, 0, none⟩) (Kd.R_types HO_287000.out BK322.out (by decide)) (fun _ hk => hk.2) (.slice Ao64 t314.length co64)) (fun _ hk => hk.2) (.int .i64 t317)) (fun _ hk => hk.2) (.slice Ao68 t318.length co68)) (fun _ h_ => h_.1)))); (case side6 => exact (Kd.R_reads' HO_287000.out).2.1); (case side7 => refine (Kd.R_reads' (e := 3) (base := w.heap.size) (ok := fun k_ => (some k_ ≠ (.slice Ao23 t294.length co23 : Value).ownBlock ∧ some k_ ≠ (.slice Ao68 t318.length co68 : Value).ownBlock)) (n := t282.length) (c := co15) ?_).2.2; exact (by (with_reducible repeat (first | apply Kd.R_alloc | apply Kd.R_drewN | apply Kd.R_drew)); exact (Kd.R_mono (Kd.R_far (p := ⟨gb322, 2, none⟩) (Kd.R_far (p := ⟨gb322, 1, none⟩) (Kd.R_far (p := ⟨gb322, 0, none⟩) (Kd.R_types HO_287002.out BK322.out (by decide)) (fun _ hk => hk.2) (.slice Ao64 t314.length co64)) (fun _ hk => hk.2) (.int .i64 t317)) (fun _ hk => hk.2) (.slice Ao68 t318.length co68)) (fun _ h_ => h_.1)))); (case side8 => exact (Kd.R_reads' HO_287002.out).2.1); rintro e w76 ⟨rfl, hb⟩; refine ⟨_, rfl, ?_⟩; have n0_ := Aside0.mk (Kd.R_below (by (with_reducible repeat (first | apply Kd.R_alloc | apply Kd.R_drewN | apply Kd.R_drew)); exact (Kd.R_mono (Kd.R_far (p := ⟨gb322, 2, none⟩) (Kd.R_far (p := ⟨gb322, 1, none⟩) (Kd.R_far (p := ⟨gb322, 0, none⟩) (Kd.R_types HO_287000.out BK322.out (by decide)) (fun _ hk => hk.2) (.slice Ao64 t314.length co64)) (fun _ hk => hk.2) (.int .i64 t317)) (fun _ hk => hk.2) (.slice Ao68 t318.length co68)) (fun _ h_ => h_.1))) hb); have n1_ := Aside0.mk (Kd.R_below (by (with_reducible repeat (first | apply Kd.R_alloc | apply Kd.R_drewN | apply Kd.R_drew)); exact (Kd.R_mono (Kd.R_far (p := ⟨gb322, 2, none⟩) (Kd.R_far (p := ⟨gb322, 1, none⟩) (Kd.R_far (p := ⟨gb322, 0, none⟩) (Kd.R_types HO_287002.out BK322.out (by decide)) (fun _ hk => hk.2) (.slice Ao64 t314.length co64)) (fun _ hk => hk.2) (.int .i64 t317)) (fun _ hk => hk.2) (.slice Ao68 t318.length co68)) (fun _ h_ => h_.1))) hb); have n2_ := Aside0.mk (Kd.R_below (by (with_reducible repeat (first | apply Kd.R_alloc | apply Kd.R_drewN | apply Kd.R_drew)); exact (Kd.R_mono (Kd.R_far (p := ⟨gb322, 2, none⟩) (Kd.R_far (p := ⟨gb322, 1, none⟩) (Kd.R_far (p := ⟨gb322, 0, none⟩) (Kd.R_types HO_299000.out BK322.out (by decide)) (fun _ hk => hk.2) (.slice Ao64 t314.length co64)) (fun _ hk => hk.2) (.int .i64 t317)) (fun _ hk => hk.2) (.slice Ao68 t318.length co68)) (fun _ h_ => h_.1))) hb); have n3_ := Aside0.mk (Kd.R_below (by (with_reducible repeat (first | apply Kd.R_alloc | apply Kd.R_drewN | apply Kd.R_drew)); exact (Kd.R_mono (Kd.R_far (p := ⟨gb322, 2, none⟩) (Kd.R_far (p := ⟨gb322, 1, none⟩) (Kd.R_far (p := ⟨gb322, 0, none⟩) (Kd.R_types HO_299002.out BK322.out (by decide)) (fun _ hk => hk.2) (.slice Ao64 t314.length co64)) (fun _ hk => hk.2) (.int .i64 t317)) (fun _ hk => hk.2) (.slice Ao68 t318.length co68)) (fun _ h_ => h_.1))) hb); have n4_ := Aside0.mk (Kd.R_below (by (with_reducible repeat (first | apply Kd.R_alloc | apply Kd.R_drewN | apply Kd.R_drew)); exact (Kd.R_mono (Kd.R_far (p := ⟨gb322, 2, none⟩) (Kd.R_far (p := ⟨gb322, 1, none⟩) (Kd.R_far (p := ⟨gb322, 0, none⟩) (Kd.R_types HO313.out BK322.out (by decide)) (fun _ hk => hk.2) (.slice Ao64 t314.length co64)) (fun _ hk => hk.2) (.int .i64 t317)) (fun _ hk => hk.2) (.slice Ao68 t318.length co68)) (fun _ h_ => h_.1))) hb); have n5_ := Aside0.mk (Kd.R_below (by (with_reducible repeat (first | apply Kd.R_alloc | apply Kd.R_drewN | apply Kd.R_drew)); exact (Kd.R_mono (Kd.R_far (p := ⟨gb322, 2, none⟩) (Kd.R_far (p := ⟨gb322, 1, none⟩) (Kd.R_far (p := ⟨gb322, 0, none⟩) (Kd.R_types HO316.out BK322.out (by decide)) (fun _ hk => hk.2) (.slice Ao64 t314.length co64)) (fun _ hk => hk.2) (.int .i64 t317)) (fun _ hk => hk.2) (.slice Ao68 t318.length co68)) (fun _ h_ => h_.1))) hb); have n6_ := Aside0.mk (Kd.R_below (by (with_reducible repeat (first | apply Kd.R_alloc | apply Kd.R_drewN | apply Kd.R_drew)); exact (Kd.R_mono (Kd.R_far (p := ⟨gb322, 2, none⟩) (Kd.R_far (p := ⟨gb322, 1, none⟩) (Kd.R_far (p := ⟨gb322, 0, none⟩) (Kd.R_types HO320.out BK322.out (by decide)) (fun _ hk => hk.2) (.slice Ao64 t314.length co64)) (fun _ hk => hk.2) (.int .i64 t317)) (fun _ hk => hk.2) (.slice Ao68 t318.length co68)) (fun _ h_ => h_.1))) hb); have n7_ := Aside0.mk (blk_below (g := gb286) (o := .cells #[.slice Ao13 t278.length co13, .int .i64 t281, .slice Ao15 t282.length co15] 38 (0, 0)) (by (with_reducible repeat (first | refine blk_drewN ?_ _ | refine blk_drew ?_ | refine blk_alloc ?_ _)); refine blk_far ?_ NB286_322.out _; (with_reducible repeat (first | refine blk_drewN ?_ _ | refine blk_drew ?_ | refine blk_alloc ?_ _)); refine blk_far ?_ NB286_322.out _; (with_reducible repeat (first | refine blk_drewN ?_ _ | refine blk_drew ?_ | refine blk_alloc ?_ _)); refine blk_far ?_ NB286_322.out _; (with_reducible repeat (first | refine blk_drewN ?_ _ | refine blk_drew ?_ | refine blk_alloc ?_ _)); exact BK286.out) hb); have n8_ := Aside0.mk (blk_below (g := gb298) (o := .cells #[.slice Ao20 t290.length co20, .int .i64 t293, .slice Ao23 t294.length co23] 38 (0, 0)) (by (with_reducible repeat (first | refine blk_drewN ?_ _ | refine blk_drew ?_ | refine blk_alloc ?_ _)); refine blk_far ?_ NB298_322.out _; (with_reducible repeat (first | refine blk_drewN ?_ _ | refine blk_drew ?_ | refine blk_alloc ?_ _)); refine blk_far ?_ NB298_322.out _; (with_reducible repeat (first | refine blk_drewN ?_ _ | refine blk_drew ?_ | refine blk_alloc ?_ _)); refine blk_far ?_ NB298_322.out _; (with_reducible repeat (first | refine blk_drewN ?_ _ | refine blk_drew ?_ | refine blk_alloc ?_ _)); exact BK298.out) hb); have n9_ := Aside0.mk (blk_below (g := gb322) (o := .cells #[.slice Ao64 t314.length co64, .int .i64 t317, .slice Ao68 t318.length co68] 38 (0, 0)) (by (with_reducible repeat (first | refine blk_drewN ?_ _ | refine blk_drew ?_ | refine blk_alloc ?_ _)); refine blk_put (cs := #[.slice Ao64 t314.length co64, .int .i64 t317, .slice none 0 0]) ?_ 2 _ rfl; (with_reducible repeat (first | refine blk_drewN ?_ _ | refine blk_drew ?_ | refine blk_alloc ?_ _)); refine blk_put (cs := #[.slice Ao64 t314.length co64, .int .i64 0, .slice none 0 0]) ?_ 1 _ rfl; (with_reducible repeat (first | refine blk_drewN ?_ _ | refine blk_drew ?_ | refine blk_alloc ?_ _)); refine blk_put (cs := #[.slice none 0 0, .int .i64 0, .slice none 0 0]) ?_ 0 _ rfl; (with_reducible repeat (first | refine blk_drewN ?_ _ | refine blk_drew ?_ | refine blk_alloc ?_ _)); exact BK322.out) hb); have n10_ := Aside0.mk (below_step (by repeat (first | (with_reducible first | exact HB.out | apply below_alloc | apply pw_below_drewN | apply below_drew1 | refine below_set ?_ GE286.out | refine below_set ?_ GE298.out | refine below_set ?_ GE322.out) | exact HB.out)) hb); clear HO_287000; clear HO_287002; clear HO_299000; clear HO_299002; clear HO313; clear HO316; clear HO320; clear BK286; clear BK298; clear BK322; clear HB; have HO_287000 := n0_; have HO_287002 := n1_; have HO_299000 := n2_; have HO_299002 := n3_; have HO313 := n4_; have HO316 := n5_; have HO320 := n6_; have BK286 := n7_; have BK298 := n8_; have BK322 := n9_; have HB := n10_; clear n0_ n1_ n2_ n3_ n4_ n5_ n6_ n7_ n8_ n9_ n10_; (try clear hb); (try clear hb2); (try clear hk); (try clear hi)))
                          go_meet
                          case rel => exact ⟨_, ((t321 != t285)), (by first | rfl | (simp; done) | (simp [*]; done)), H', ⟨by have := HJ7.out; have := HJ34.out; first | omega | exact Nat.le_refl _⟩, ⟨by (with_reducible repeat (first | apply Kd.R_alloc | apply Kd.R_drewN | apply Kd.R_drew)); exact Kd.R_mono HO_287000.out (fun _ hk => ⟨hk.1.1, hk.2⟩)⟩, ⟨by (with_reducible repeat (first | apply Kd.R_alloc | apply Kd.R_drewN | apply Kd.R_drew)); exact HO_287002.out⟩, ⟨by (with_reducible repeat (first | apply Kd.R_alloc | apply Kd.R_drewN | apply Kd.R_drew)); exact Kd.R_mono HO_299000.out (fun _ hk => ⟨hk.1.1, hk.2⟩)⟩, ⟨by (with_reducible repeat (first | apply Kd.R_alloc | apply Kd.R_drewN | apply Kd.R_drew)); exact HO_299002.out⟩, ⟨by (with_reducible repeat (first | apply Kd.R_alloc | apply Kd.R_drewN | apply Kd.R_drew)); exact Kd.R_mono HO316.out (fun _ hk => ⟨hk.1.1.2, hk.1.2⟩)⟩, ⟨by (with_reducible repeat (first | apply Kd.R_alloc | apply Kd.R_drewN | apply Kd.R_drew)); exact Kd.R_mono HO320.out (fun _ hk => ⟨hk.1.2, hk.2⟩)⟩, ⟨by (with_reducible repeat (first | refine blk_drewN ?_ _ | refine blk_drew ?_ | refine blk_alloc ?_ _)); exact BK286.out⟩, ⟨by (with_reducible repeat (first | refine blk_drewN ?_ _ | refine blk_drew ?_ | refine blk_alloc ?_ _)); exact BK298.out⟩, ⟨by (with_reducible repeat (first | refine blk_drewN ?_ _ | refine blk_drew ?_ | refine blk_alloc ?_ _)); exact BK322.out⟩, ⟨by repeat (first | (with_reducible first | exact HB.out | apply below_alloc | apply pw_below_drewN | apply below_drew1 | refine below_set ?_ GE286.out | refine below_set ?_ GE298.out | refine below_set ?_ GE322.out) | exact HB.out)⟩⟩
                        · replace c70 := Bool.eq_false_iff.mpr c70
                          subst c70
                          have H1 : (laws_FnExactNewReader.j2 kj34 t307 true t308 t293 t309) = some r := by rw [if_neg (show ¬ (false = true) by decide)] at H; exact H
                          clear H
                          have H := H1
                          clear H1
                          exact (laws_FnExactNewReader.j2_t (H.trans (congrArg some hr_))).elim
                      case rest =>
                        clear HC54
                        try clear c1
                        try clear c2
                        try clear p2
                        try clear c3
                        try clear c3b0
                        try clear c4
                        try clear c5
                        try clear c6
                        try clear c7
                        try clear c13
                        try clear c15
                        try clear c17
                        try clear c21
                        try clear c24
                        try clear c25
                        try clear c26
                        try clear c27
                        try clear c28
                        try clear c29
                        try clear c30
                        try clear c33
                        try clear c40
                        try clear c40b0
                        try clear c42
                        try clear c43
                        try clear c47
                        try clear c50
                        try clear c50b0
                        try clear c51
                        try clear c51b0
                        try clear c51b1
                        try clear c55
                        try clear c65
                        try clear c66
                        try clear c70
                        try clear c71
                        try clear c72
                        try clear c74
                        try clear hcz14_0
                        try clear hcz14_1
                        try clear hcz14_2
                        try clear hcz22_0
                        try clear hcz22_1
                        try clear hcz22_2
                        try clear hcz27_0
                        try clear hcz27_1
                        try clear hcz27_2
                        try clear hcz28_0
                        try clear hcz28_1
                        try clear hcz28_2
                        try clear hcz44_0
                        try clear hcz44_1
                        try clear hcz44_2
                        try clear hcz45_0
                        try clear hcz45_1
                        try clear hcz45_2
                        try clear hcz56_0
                        try clear hcz56_1
                        try clear hcz56_2
                        try clear hcz58_0
                        try clear hcz58_1
                        try clear hcz58_2
                        try clear hcz67_0
                        try clear hcz67_1
                        try clear hcz67_2
                        try clear hcz73_0
                        try clear hcz73_1
                        try clear hcz73_2
                        try clear hcz75_0
                        try clear hcz75_1
                        try clear hcz75_2
                        try clear hfz14_0
                        try clear hfz14_1
                        try clear hfz14_2
                        try clear hfz22_0
                        try clear hfz22_1
                        try clear hfz22_2
                        try clear hfz27_0
                        try clear hfz27_1
                        try clear hfz27_2
                        try clear hfz28_0
                        try clear hfz28_1
                        try clear hfz28_2
                        try clear hfz44_0
                        try clear hfz44_1
                        try clear hfz44_2
                        try clear hfz45_0
                        try clear hfz45_1
                        try clear hfz45_2
                        try clear hfz56_0
                        try clear hfz56_1
                        try clear hfz56_2
                        try clear hfz58_0
                        try clear hfz58_1
                        try clear hfz58_2
                        try clear hfz67_0
                        try clear hfz67_1
                        try clear hfz67_2
                        try clear hfz73_0
                        try clear hfz73_1
                        try clear hfz73_2
                        try clear hfz75_0
                        try clear hfz75_1
                        try clear hfz75_2
                        try clear p2
                        obtain ⟨kq, x87_53, rfl, HA, HJ53, HO_287000, HO_287002, HO_299000, HO_299002, HO_323000, HO_323002, BK286, BK298, BK322, HB⟩ := hcut
                        have hl299000_53 := (Kd.R_reads' HO_299000.out).1
                        rw [hl299000_53] at HO_299000
                        (try simp only [hl299000_53])
                        (try simp only [hl299000_53] at BK286)
                        (try simp only [hl299000_53] at BK298)
                        (try simp only [hl299000_53] at BK322)
                        (try simp only [hl299000_53] at HO_287000)
                        (try simp only [hl299000_53] at HO_287002)
                        (try simp only [hl299000_53] at HO_299002)
                        (try simp only [hl299000_53] at HO_323000)
                        (try simp only [hl299000_53] at HO_323002)
                        have hl299002_53 := (Kd.R_reads' HO_299002.out).1
                        rw [hl299002_53] at HO_299002
                        (try simp only [hl299002_53])
                        (try simp only [hl299002_53] at BK286)
                        (try simp only [hl299002_53] at BK298)
                        (try simp only [hl299002_53] at BK322)
                        (try simp only [hl299002_53] at HO_287000)
                        (try simp only [hl299002_53] at HO_287002)
                        (try simp only [hl299002_53] at HO_299000)
                        (try simp only [hl299002_53] at HO_323000)
                        (try simp only [hl299002_53] at HO_323002)
                        cases kq with
                        | zero => exact absurd HA.out (by simp [laws_FnExactNewReader.j2])
                        | succ kj53 =>
                          have H := HA.out
                          clear HA
                          simp only [laws_FnExactNewReader.j2] at H
                          by_cases c77 : x87_53 = true
                          · subst c77
                            have H1 : (some false) = some r := by rw [if_pos rfl] at H; exact H
                            clear H
                            have H := H1
                            clear H1
                            exact absurd ((Option.some.inj H).trans hr_) (by decide)
                          · replace c77 := Bool.eq_false_iff.mpr c77
                            subst c77
                            have H1 : ((laws_heldReader.f kj53 t308 t293 t309 1).bind fun t324 => (if t324 < 0 then (some false) else (if t324 = t307 then (some true) else (some false)))) = some r := by rw [if_neg (show ¬ (false = true) by decide)] at H; exact H
                            clear H
                            have H := H1
                            clear H1
                            replace H := Option.bind_eq_some_iff.mp H
                            obtain ⟨t324, A780, H⟩ := H
                            replace H : (if t324 < 0 then (some false) else (if t324 = t307 then (some true) else (some false))) = some r := H
                            have A78 := Aside0.mk A780
                            clear A780
                            by_cases c79 : t324 < 0
                            · rw [if_pos c79] at H
                              have c79b0 : decide (t324 < 0) = true := decide_eq_true c79
                              clear c79
                              exact absurd ((Option.some.inj H).trans hr_) (by decide)
                            · rw [if_neg c79] at H
                              have c79b0 : decide (t324 < 0) = false := decide_eq_false c79
                              clear c79
                              by_cases c80 : t324 = t307
                              · rw [if_pos c80] at H
                                have c80b0 : (t324 == t307) = true := beq_iff_eq.mpr c80
                                have c80b1 : (t324 != t307) = false := bne_eq_false_iff_eq.mpr c80
                                clear c80
                                obtain rfl := Option.some.inj H
                                have hnb81 := NB298_286.out
                                have hnc81 := NB286_298.out
                                have hnb82 := NB298_322.out
                                have hnc82 := NB322_298.out
                                have hcz83_0 : wc.cell? ⟨gb298, 0, none⟩ = some (.slice Ao20 t308.length co20) := (blk_cell BK298.out 0).trans rfl
                                have hcz83_1 : wc.cell? ⟨gb298, 1, none⟩ = some (.int .i64 t293) := (blk_cell BK298.out 1).trans rfl
                                have hcz83_2 : wc.cell? ⟨gb298, 2, none⟩ = some (.slice Ao23 t309.length co23) := (blk_cell BK298.out 2).trans rfl
                                have hfz83_0 := blk_frozen BK298.out 0
                                have hfz83_1 := blk_frozen BK298.out 1
                                have hfz83_2 := blk_frozen BK298.out 2
                                go_wp2_with (first | ((with_reducible refine gate_callee (f := 29) rfl ?_); refine goesL_ (some 90) rfl rfl Try.func29 (by kernel_rfl) rfl #[.agg #[.slice Ao20 t308.length co20, .int .i64 t293, .slice Ao23 t309.length co23], .int .i64 1] rfl (by (try simp only [List.map_toArray, List.map_cons, List.map_nil]); first | done | rfl | (simp only [List.length_drop, List.length_take]; rfl)) ?_; (with_reducible refine (laws_heldReader.calls kj53 _ _ t308 t293 _ _ t309 1 t324 _ ?side1 ?side2 ?side3 ?side4 A78.out).mono ?_); (case side1 => repeat (first | exact (Kd.R_reads' HO_299000.out).2.2 | (with_reducible refine Kd.C_alloc ?_ _) | (with_reducible refine Kd.C_drewN ?_ _) | (with_reducible refine Kd.C_drew ?_))); (case side2 => exact (Kd.R_reads' HO_299000.out).2.1); (case side3 => repeat (first | exact (Kd.R_reads' HO_299002.out).2.2 | (with_reducible refine Kd.C_alloc ?_ _) | (with_reducible refine Kd.C_drewN ?_ _) | (with_reducible refine Kd.C_drew ?_))); (case side4 => exact (Kd.R_reads' HO_299002.out).2.1); rintro e w84 ⟨rfl, hb⟩; refine ⟨_, rfl, ?_⟩; have n0_ := Aside0.mk (Kd.R_below (by (with_reducible repeat (first | apply Kd.R_alloc | apply Kd.R_drewN | apply Kd.R_drew)); exact HO_287000.out) hb); have n1_ := Aside0.mk (Kd.R_below (by (with_reducible repeat (first | apply Kd.R_alloc | apply Kd.R_drewN | apply Kd.R_drew)); exact HO_287002.out) hb); have n2_ := Aside0.mk (Kd.R_below (by (with_reducible repeat (first | apply Kd.R_alloc | apply Kd.R_drewN | apply Kd.R_drew)); exact HO_299000.out) hb); have n3_ := Aside0.mk (Kd.R_below (by (with_reducible repeat (first | apply Kd.R_alloc | apply Kd.R_drewN | apply Kd.R_drew)); exact HO_299002.out) hb); have n4_ := Aside0.mk (Kd.R_below (by (with_reducible repeat (first | apply Kd.R_alloc | apply Kd.R_drewN | apply Kd.R_drew)); exact HO_323000.out) hb); have n5_ := Aside0.mk (Kd.R_below (by (with_reducible repeat (first | apply Kd.R_alloc | apply Kd.R_drewN | apply Kd.R_drew)); exact HO_323002.out) hb); have n6_ := Aside0.mk (blk_below (g := gb286) (o := .cells #[.slice Ao13 t278.length co13, .int .i64 t281, .slice Ao15 t282.length co15] 38 (0, 0)) (by (with_reducible repeat (first | refine blk_drewN ?_ _ | refine blk_drew ?_ | refine blk_alloc ?_ _)); exact BK286.out) hb); have n7_ := Aside0.mk (blk_below (g := gb298) (o := .cells #[.slice Ao20 t308.length co20, .int .i64 t293, .slice Ao23 t309.length co23] 38 (0, 0)) (by (with_reducible repeat (first | refine blk_drewN ?_ _ | refine blk_drew ?_ | refine blk_alloc ?_ _)); exact BK298.out) hb); have n8_ := Aside0.mk (blk_below (g := gb322) (o := .cells #[.slice Ao64 t314.length co64, .int .i64 t317, .slice Ao68 t318.length co68] 38 (0, 0)) (by (with_reducible repeat (first | refine blk_drewN ?_ _ | refine blk_drew ?_ | refine blk_alloc ?_ _)); exact BK322.out) hb); have n9_ := Aside0.mk (below_step (by repeat (first | (with_reducible first | exact HB.out | apply below_alloc | apply pw_below_drewN | apply below_drew1 | refine below_set ?_ GE286.out | refine below_set ?_ GE298.out | refine below_set ?_ GE322.out) | exact HB.out)) hb); clear HO_287000; clear HO_287002; clear HO_299000; clear HO_299002; clear HO_323000; clear HO_323002; clear BK286; clear BK298; clear BK322; clear HB; have HO_287000 := n0_; have HO_287002 := n1_; have HO_299000 := n2_; have HO_299002 := n3_; have HO_323000 := n4_; have HO_323002 := n5_; have BK286 := n6_; have BK298 := n7_; have BK322 := n8_; have HB := n9_; clear n0_ n1_ n2_ n3_ n4_ n5_ n6_ n7_ n8_ n9_; (try clear hb); (try clear hb2); (try clear hk); (try clear hi)))
                                go_ret
                                exact ⟨by first | rfl | (simp [errW_none, errW_some] <;> rfl) | (simp [*, errW_none, errW_some] <;> rfl), by repeat (first | (with_reducible first | exact HB.out | apply below_alloc | apply pw_below_drewN | apply below_drew1 | refine below_set ?_ GE286.out | refine below_set ?_ GE298.out | refine below_set ?_ GE322.out) | exact HB.out)⟩
                              · rw [if_neg c80] at H
                                have c80b0 : (t324 == t307) = false := beq_eq_false_iff_ne.mpr c80
                                have c80b1 : (t324 != t307) = true := bne_iff_ne.mpr c80
                                exact absurd ((Option.some.inj H).trans hr_) (by decide)
                    · rw [if_neg c51] at H
                      have c51b0 : (t310 == t307) = false := beq_eq_false_iff_ne.mpr c51
                      have c51b1 : (t310 != t307) = true := bne_iff_ne.mpr c51
                      exact absurd ((Option.some.inj H).trans hr_) (by decide)
          · replace c33 := Bool.eq_false_iff.mpr c33
            subst c33
            have H1 : (some false) = some r := by rw [if_neg (show ¬ (false = true) by decide)] at H; exact H
            clear H
            have H := H1
            clear H1
            exact absurd ((Option.some.inj H).trans hr_) (by decide)

end Go.Proofs.Ytlficoabcpmjdaa.PFnExactNewReader
