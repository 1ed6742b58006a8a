-- Written for this claim by a program of this session (wip/tpl/patchprint.py), not by print.sh.
import Derived.Test.YtioheacdldgaaaaPAllx0
import Derived.Test.YtioheacdldgaaaaPAllx1
import Derived.Test.YtioheacdldgaaaaPAllx2
import Derived.Test.YtioheacdldgaaaaPAllx4
import Derived.Test.YtioheacdldgaaaaPAllx7
import Derived.Test.YtioheacdldgaaaaPAllx8
namespace Go.Proofs.Ytioheacdldgaaaa.PAll
open Go.RowKit Go.Proofs.YtioheacdldgaaaaW.PrintWords Go.Proofs.YtioheacdldgaaaaW.PrintLast Go.Proofs.YtioheacdldgaaaaW.PrintMore
attribute [local go_sem] max2_int min2_int max_two min_two max_three min_three max_four min_four   -- for this text's walks alone
set_option linter.unusedVariables false
set_option linter.unusedSimpArgs false

/-! ### laws_FnExactSilentHoles: function 4 -/
mutual
def laws_FnExactSilentHoles.j0 : Nat → List (S75) → List Int → Bool → List (S73) → List Int → Bool → Bool → List Int → Int → Int → Int → Int → List Int → Int → Option (Bool)
  | 0, _, _, _, _, _, _, _, _, _, _, _, _, _, _ => none
  | k + 1, x1, x8, x9, x11, x12, x13, x59, x285000, x285001, x286000, x286001, x286002, x307000, x307001 => if x59 = true then (some false) else ((laws_toInstrument.f k x285000 x285001).bind fun bt318 => ((laws_eqInstrument.f k x307000 x307001 bt318.1 bt318.2).bind fun t322 => (if t322 = true then ((laws_toHoleS.f k x1).bind fun t323 => ((laws_eqHoleS.f k x11 t323).bind fun t326 => (if t326 = true then ((laws_markInstrument.f k x307000 x307001 1).bind fun bt327 => ((laws_markHoleS.f k x11 bt327.1).bind fun bt329 => (if bt329.1 < 0 then (laws_FnExactSilentHoles.j1 k x1 x8 x9 x12 true x285000 x285001 x286000 x286001 x286002) else ((laws_eqIntS.f k x12 x8).bind fun t331 => (if t331 = true then (laws_FnExactSilentHoles.j1 k x1 x8 x9 x12 (x13 != x9) x285000 x285001 x286000 x286001 x286002) else (laws_FnExactSilentHoles.j1 k x1 x8 x9 x12 true x285000 x285001 x286000 x286001 x286002)))))) else (some false)))) else (some false))))
def laws_FnExactSilentHoles.j1 : Nat → List (S75) → List Int → Bool → List Int → Bool → List Int → Int → Int → Int → Int → Option (Bool)
  | 0, _, _, _, _, _, _, _, _, _, _ => none
  | k + 1, x1, x8, x9, x12, x88, x285000, x285001, x286000, x286001, x286002 => if x88 = true then (some false) else ((laws_markIntS.f k x12 1).bind fun bt332 => ((laws_heldIntS.f k bt332.2 1).bind fun t334 => (if t334 < 0 then (some false) else (if t334 = bt332.1 then ((laws_toInstrument.f k x285000 x285001).bind fun bt335 => ((laws_toHoleS.f k x1).bind fun t339 => ((laws_toAction.f x286000 x286001 x286002).bind fun bt342 => ((impl_SilentHoles.f k bt335.1 bt335.2 t339 bt342.1 bt342.2.1 bt342.2.2).bind fun bt345 => ((laws_eqIntS.f k bt345.1 x8).bind fun t349 => (if t349 = true then (laws_FnExactSilentHoles.j2 k bt332.2 bt332.1 (bt345.2 != x9)) else (laws_FnExactSilentHoles.j2 k bt332.2 bt332.1 true))))))) else (some false)))))
def laws_FnExactSilentHoles.j2 : Nat → List Int → Int → Bool → Option (Bool)
  | 0, _, _, _ => none
  | k + 1, x12, x15, x118 => if x118 = true then (some false) else ((laws_heldIntS.f k x12 1).bind fun t350 => (if t350 < 0 then (some false) else (if t350 = x15 then (some true) else (some false))))
end
def laws_FnExactSilentHoles.f (k : Nat) (l0_0 : List Int) (a0_1 : Int) (l1 : List (S75)) (a2_0 : Int) (a2_1 : Int) (a2_2 : Int) : Option (Bool) := (laws_szInstrument.f l0_0 a0_1 1048576).bind fun t286 => (if t286 < 0 then (some true) else ((laws_szHoleS.f l1 t286).bind fun t287 => (if t287 < 0 then (some true) else ((laws_toInstrument.f k l0_0 a0_1).bind fun bt288 => ((laws_toHoleS.f k l1).bind fun t292 => ((laws_toAction.f a2_0 a2_1 a2_2).bind fun bt295 => ((spec_SilentHoles.f k bt288.1 bt288.2 t292 bt295.1 bt295.2.1 bt295.2.2).bind fun bt298 => ((laws_toInstrument.f k l0_0 a0_1).bind fun bt302 => ((laws_toHoleS.f k l1).bind fun t307 => ((laws_toAction.f a2_0 a2_1 a2_2).bind fun bt310 => ((impl_SilentHoles.f k bt302.1 bt302.2 t307 bt310.1 bt310.2.1 bt310.2.2).bind fun bt313 => ((laws_eqIntS.f k bt313.1 bt298.1).bind fun t317 => (if t317 = true then (laws_FnExactSilentHoles.j0 k l1 bt298.1 bt298.2 t307 bt313.1 bt313.2 (bt313.2 != bt298.2) l0_0 a0_1 a2_0 a2_1 a2_2 bt302.1 bt302.2) else (laws_FnExactSilentHoles.j0 k l1 bt298.1 bt298.2 t307 bt313.1 bt313.2 true l0_0 a0_1 a2_0 a2_1 a2_2 bt302.1 bt302.2))))))))))))))
theorem laws_FnExactSilentHoles.mono_l : ∀ k, (∀ y0 y1 y2 y3 y4 y5 y6 y7 y8 y9 y10 y11 y12 y13, LeO (laws_FnExactSilentHoles.j0 k y0 y1 y2 y3 y4 y5 y6 y7 y8 y9 y10 y11 y12 y13) (laws_FnExactSilentHoles.j0 (k + 1) y0 y1 y2 y3 y4 y5 y6 y7 y8 y9 y10 y11 y12 y13)) ∧ (∀ y0 y1 y2 y3 y4 y5 y6 y7 y8 y9, LeO (laws_FnExactSilentHoles.j1 k y0 y1 y2 y3 y4 y5 y6 y7 y8 y9) (laws_FnExactSilentHoles.j1 (k + 1) y0 y1 y2 y3 y4 y5 y6 y7 y8 y9)) ∧ (∀ y0 y1 y2, LeO (laws_FnExactSilentHoles.j2 k y0 y1 y2) (laws_FnExactSilentHoles.j2 (k + 1) y0 y1 y2))
  | 0 => ⟨fun _ _ _ _ _ _ _ _ _ _ _ _ _ _ r h => by simp [laws_FnExactSilentHoles.j0] at h, fun _ _ _ _ _ _ _ _ _ _ r h => by simp [laws_FnExactSilentHoles.j1] at h, fun _ _ _ r h => by simp [laws_FnExactSilentHoles.j2] at h⟩
  | k + 1 => by
    obtain ⟨ih0, ih1, ih2⟩ := laws_FnExactSilentHoles.mono_l k
    refine ⟨?_, ?_, ?_⟩
    · intro y0 y1 y2 y3 y4 y5 y6 y7 y8 y9 y10 y11 y12 y13
      unfold laws_FnExactSilentHoles.j0
      repeat' first
      | (with_reducible exact ih0 _ _ _ _ _ _ _ _ _ _ _ _ _ _)
      | (with_reducible exact ih1 _ _ _ _ _ _ _ _ _ _)
      | (with_reducible exact ih2 _ _ _)
      | (with_reducible exact impl_SilentHoles.mono _ _ _ _ _ _ _)
      | (with_reducible exact laws_eqHoleS.mono _ _ _)
      | (with_reducible exact laws_eqInstrument.mono _ _ _ _ _)
      | (with_reducible exact laws_eqIntS.mono _ _ _)
      | (with_reducible exact laws_heldIntS.mono _ _ _)
      | (with_reducible exact laws_markHoleS.mono _ _ _)
      | (with_reducible exact laws_markInstrument.mono _ _ _ _)
      | (with_reducible exact laws_markIntS.mono _ _ _)
      | (with_reducible exact laws_toHoleS.mono _ _)
      | (with_reducible exact laws_toInstrument.mono _ _ _)
      | (with_reducible exact spec_SilentHoles.mono _ _ _ _ _ _ _)
      | (with_reducible exact LeO.refl _)
      | (with_reducible exact LeO.none _)
      | (with_reducible refine LeO.ite ?_ ?_)
      | (with_reducible refine LeO.bind ?_ (fun _ => ?_))
      | exact ih0 _ _ _ _ _ _ _ _ _ _ _ _ _ _
      | exact ih1 _ _ _ _ _ _ _ _ _ _
      | exact ih2 _ _ _
      | exact impl_SilentHoles.mono _ _ _ _ _ _ _
      | exact laws_eqHoleS.mono _ _ _
      | exact laws_eqInstrument.mono _ _ _ _ _
      | exact laws_eqIntS.mono _ _ _
      | exact laws_heldIntS.mono _ _ _
      | exact laws_markHoleS.mono _ _ _
      | exact laws_markInstrument.mono _ _ _ _
      | exact laws_markIntS.mono _ _ _
      | exact laws_toHoleS.mono _ _
      | exact laws_toInstrument.mono _ _ _
      | exact spec_SilentHoles.mono _ _ _ _ _ _ _
      | exact LeO.none _
      | refine LeO.ite ?_ ?_
      | refine LeO.bind ?_ (fun _ => ?_)
    · intro y0 y1 y2 y3 y4 y5 y6 y7 y8 y9
      unfold laws_FnExactSilentHoles.j1
      repeat' first
      | (with_reducible exact ih0 _ _ _ _ _ _ _ _ _ _ _ _ _ _)
      | (with_reducible exact ih1 _ _ _ _ _ _ _ _ _ _)
      | (with_reducible exact ih2 _ _ _)
      | (with_reducible exact impl_SilentHoles.mono _ _ _ _ _ _ _)
      | (with_reducible exact laws_eqHoleS.mono _ _ _)
      | (with_reducible exact laws_eqInstrument.mono _ _ _ _ _)
      | (with_reducible exact laws_eqIntS.mono _ _ _)
      | (with_reducible exact laws_heldIntS.mono _ _ _)
      | (with_reducible exact laws_markHoleS.mono _ _ _)
      | (with_reducible exact laws_markInstrument.mono _ _ _ _)
      | (with_reducible exact laws_markIntS.mono _ _ _)
      | (with_reducible exact laws_toHoleS.mono _ _)
      | (with_reducible exact laws_toInstrument.mono _ _ _)
      | (with_reducible exact spec_SilentHoles.mono _ _ _ _ _ _ _)
      | (with_reducible exact LeO.refl _)
      | (with_reducible exact LeO.none _)
      | (with_reducible refine LeO.ite ?_ ?_)
      | (with_reducible refine LeO.bind ?_ (fun _ => ?_))
      | exact ih0 _ _ _ _ _ _ _ _ _ _ _ _ _ _
      | exact ih1 _ _ _ _ _ _ _ _ _ _
      | exact ih2 _ _ _
      | exact impl_SilentHoles.mono _ _ _ _ _ _ _
      | exact laws_eqHoleS.mono _ _ _
      | exact laws_eqInstrument.mono _ _ _ _ _
      | exact laws_eqIntS.mono _ _ _
      | exact laws_heldIntS.mono _ _ _
      | exact laws_markHoleS.mono _ _ _
      | exact laws_markInstrument.mono _ _ _ _
      | exact laws_markIntS.mono _ _ _
      | exact laws_toHoleS.mono _ _
      | exact laws_toInstrument.mono _ _ _
      | exact spec_SilentHoles.mono _ _ _ _ _ _ _
      | exact LeO.none _
      | refine LeO.ite ?_ ?_
      | refine LeO.bind ?_ (fun _ => ?_)
    · intro y0 y1 y2
      unfold laws_FnExactSilentHoles.j2
      repeat' first
      | (with_reducible exact ih0 _ _ _ _ _ _ _ _ _ _ _ _ _ _)
      | (with_reducible exact ih1 _ _ _ _ _ _ _ _ _ _)
      | (with_reducible exact ih2 _ _ _)
      | (with_reducible exact impl_SilentHoles.mono _ _ _ _ _ _ _)
      | (with_reducible exact laws_eqHoleS.mono _ _ _)
      | (with_reducible exact laws_eqInstrument.mono _ _ _ _ _)
      | (with_reducible exact laws_eqIntS.mono _ _ _)
      | (with_reducible exact laws_heldIntS.mono _ _ _)
      | (with_reducible exact laws_markHoleS.mono _ _ _)
      | (with_reducible exact laws_markInstrument.mono _ _ _ _)
      | (with_reducible exact laws_markIntS.mono _ _ _)
      | (with_reducible exact laws_toHoleS.mono _ _)
      | (with_reducible exact laws_toInstrument.mono _ _ _)
      | (with_reducible exact spec_SilentHoles.mono _ _ _ _ _ _ _)
      | (with_reducible exact LeO.refl _)
      | (with_reducible exact LeO.none _)
      | (with_reducible refine LeO.ite ?_ ?_)
      | (with_reducible refine LeO.bind ?_ (fun _ => ?_))
      | exact ih0 _ _ _ _ _ _ _ _ _ _ _ _ _ _
      | exact ih1 _ _ _ _ _ _ _ _ _ _
      | exact ih2 _ _ _
      | exact impl_SilentHoles.mono _ _ _ _ _ _ _
      | exact laws_eqHoleS.mono _ _ _
      | exact laws_eqInstrument.mono _ _ _ _ _
      | exact laws_eqIntS.mono _ _ _
      | exact laws_heldIntS.mono _ _ _
      | exact laws_markHoleS.mono _ _ _
      | exact laws_markInstrument.mono _ _ _ _
      | exact laws_markIntS.mono _ _ _
      | exact laws_toHoleS.mono _ _
      | exact laws_toInstrument.mono _ _ _
      | exact spec_SilentHoles.mono _ _ _ _ _ _ _
      | exact LeO.none _
      | refine LeO.ite ?_ ?_
      | refine LeO.bind ?_ (fun _ => ?_)
theorem laws_FnExactSilentHoles.mono : ∀ a0 a1 a2 a3 a4 a5 k, LeO (laws_FnExactSilentHoles.f k a0 a1 a2 a3 a4 a5) (laws_FnExactSilentHoles.f (k + 1) a0 a1 a2 a3 a4 a5) := by
  intro a0 a1 a2 a3 a4 a5 k
  obtain ⟨ih0, ih1, ih2⟩ := laws_FnExactSilentHoles.mono_l k
  unfold laws_FnExactSilentHoles.f
  repeat' first
      | (with_reducible exact ih0 _ _ _ _ _ _ _ _ _ _ _ _ _ _)
      | (with_reducible exact ih1 _ _ _ _ _ _ _ _ _ _)
      | (with_reducible exact ih2 _ _ _)
      | (with_reducible exact impl_SilentHoles.mono _ _ _ _ _ _ _)
      | (with_reducible exact laws_eqHoleS.mono _ _ _)
      | (with_reducible exact laws_eqInstrument.mono _ _ _ _ _)
      | (with_reducible exact laws_eqIntS.mono _ _ _)
      | (with_reducible exact laws_heldIntS.mono _ _ _)
      | (with_reducible exact laws_markHoleS.mono _ _ _)
      | (with_reducible exact laws_markInstrument.mono _ _ _ _)
      | (with_reducible exact laws_markIntS.mono _ _ _)
      | (with_reducible exact laws_toHoleS.mono _ _)
      | (with_reducible exact laws_toInstrument.mono _ _ _)
      | (with_reducible exact spec_SilentHoles.mono _ _ _ _ _ _ _)
      | (with_reducible exact LeO.refl _)
      | (with_reducible exact LeO.none _)
      | (with_reducible refine LeO.ite ?_ ?_)
      | (with_reducible refine LeO.bind ?_ (fun _ => ?_))
      | exact ih0 _ _ _ _ _ _ _ _ _ _ _ _ _ _
      | exact ih1 _ _ _ _ _ _ _ _ _ _
      | exact ih2 _ _ _
      | exact impl_SilentHoles.mono _ _ _ _ _ _ _
      | exact laws_eqHoleS.mono _ _ _
      | exact laws_eqInstrument.mono _ _ _ _ _
      | exact laws_eqIntS.mono _ _ _
      | exact laws_heldIntS.mono _ _ _
      | exact laws_markHoleS.mono _ _ _
      | exact laws_markInstrument.mono _ _ _ _
      | exact laws_markIntS.mono _ _ _
      | exact laws_toHoleS.mono _ _
      | exact laws_toInstrument.mono _ _ _
      | exact spec_SilentHoles.mono _ _ _ _ _ _ _
      | exact LeO.none _
      | refine LeO.ite ?_ ?_
      | refine LeO.bind ?_ (fun _ => ?_)
def laws_FnExactSilentHoles.T8 : Bool × List (List Nat × List Nat) := (true, [([], []), ([0], [0]), ([], []), ([2, 1], [2]), ([], []), ([4, 3], [4]), ([1, 3, 5, 5], [1, 3, 5]), ([6], [6]), ([7], [7]), ([7], [7]), ([8, 6, 0, 1, 2, 3, 4, 5, 6, 7, 8], [8]), ([9, 10, 0, 1, 2, 3, 4, 5, 6, 7, 8, 9, 10], [9])])
def laws_FnExactSilentHoles.B8 : List Nat := [0, 1, 0, 7, 0, 31, 63, 127, 255, 255, 511, 2047]
theorem laws_FnExactSilentHoles.tab8 : rtab .any (opsOf Try.f4 8) = laws_FnExactSilentHoles.T8 := by kernel_rfl
theorem laws_FnExactSilentHoles.bits8 : waitsOk laws_FnExactSilentHoles.T8.2 laws_FnExactSilentHoles.B8 = true := by kernel_rfl
def laws_FnExactSilentHoles.T11 : Bool × List (List Nat × List Nat) := (true, [([], []), ([], []), ([], []), ([2], [2]), ([0, 1, 3, 3], [0, 1, 3]), ([4], [4]), ([5], [5]), ([5], [5]), ([6, 4, 0, 1, 2, 3, 4, 5, 6], [6]), ([7, 8, 0, 1, 2, 3, 4, 5, 6, 7, 8], [7])])
def laws_FnExactSilentHoles.B11 : List Nat := [0, 0, 0, 4, 15, 31, 63, 63, 127, 511]
theorem laws_FnExactSilentHoles.tab11 : rtab .any (opsOf Try.f4 11) = laws_FnExactSilentHoles.T11 := by kernel_rfl
theorem laws_FnExactSilentHoles.bits11 : waitsOk laws_FnExactSilentHoles.T11.2 laws_FnExactSilentHoles.B11 = true := by kernel_rfl
def laws_FnExactSilentHoles.T31 : Bool × List (List Nat × List Nat) := (true, [([], []), ([0], [0]), ([], []), ([2, 1], [2]), ([], []), ([4, 3], [4]), ([1, 3, 5, 5], [1, 3, 5]), ([6], [6]), ([7], [7]), ([7], [7]), ([8, 6, 0, 1, 2, 3, 4, 5, 6, 7, 8], [8]), ([9, 10, 0, 1, 2, 3, 4, 5, 6, 7, 8, 9, 10], [9])])
def laws_FnExactSilentHoles.B31 : List Nat := [0, 1, 0, 7, 0, 31, 63, 127, 255, 255, 511, 2047]
theorem laws_FnExactSilentHoles.tab31 : rtab .any (opsOf Try.f4 31) = laws_FnExactSilentHoles.T31 := by kernel_rfl
theorem laws_FnExactSilentHoles.bits31 : waitsOk laws_FnExactSilentHoles.T31.2 laws_FnExactSilentHoles.B31 = true := by kernel_rfl
theorem laws_FnExactSilentHoles.j0_t {k : Nat} : ∀ {a0_ a1_ a2_ a3_ a4_ a5_ a7_ a8_ a9_ a10_ a11_ a12_ a13_}, laws_FnExactSilentHoles.j0 k a0_ a1_ a2_ a3_ a4_ a5_ true a7_ a8_ a9_ a10_ a11_ a12_ a13_ = some true → False := by
  intros; rename_i h; revert h; cases k <;> simp [laws_FnExactSilentHoles.j0]
theorem laws_FnExactSilentHoles.j1_t {k : Nat} : ∀ {a0_ a1_ a2_ a3_ a5_ a6_ a7_ a8_ a9_}, laws_FnExactSilentHoles.j1 k a0_ a1_ a2_ a3_ true a5_ a6_ a7_ a8_ a9_ = some true → False := by
  intros; rename_i h; revert h; cases k <;> simp [laws_FnExactSilentHoles.j1]
theorem laws_FnExactSilentHoles.j2_t {k : Nat} : ∀ {a0_ a1_}, laws_FnExactSilentHoles.j2 k a0_ a1_ true = some true → False := by
  intros; rename_i h; revert h; cases k <;> simp [laws_FnExactSilentHoles.j2]
set_option maxHeartbeats 8000000 in
set_option maxRecDepth 100000 in
theorem laws_FnExactSilentHoles.calls (k : Nat) (A0_0 : Option Addr) (c0_0 : Nat) (l0_0 : List Int) (a0_1 : Int) (A1 : Option Addr) (c1 : Nat) (l1 : List (S75)) (a2_0 : Int) (a2_1 : Int) (a2_2 : Int) (r : Bool) (w : World) (hr0_0 : Kd.C (Kd.int .i64) w A0_0 l0_0.length l0_0) (hc0_0 : l0_0.length ≤ c0_0) (hr1 : Kd.C k75 w A1 l1.length l1) (hc1 : l1.length ≤ c1) (h : laws_FnExactSilentHoles.f k l0_0 a0_1 l1 a2_0 a2_1 a2_2 = some r) (hr_ : r = true) :
  Calls Try.prog 4 #[.agg #[.slice A0_0 l0_0.length c0_0, .int .i64 a0_1], .slice A1 l1.length c1, .agg #[.int .i64 a2_0, .int .i64 a2_1, .int .i64 a2_2]] w fun e w' => e = .returned (.bool r) ∧ Below w.heap.size w w' := by
 have hu24 := Try.underlying24
 have hu27 := Try.underlying27
 have hu32 := Try.underlying32
 have HR0_0 := zm hr0_0
 have HC0_0 := zm hc0_0
 clear hr0_0 hc0_0
 have HR1 := zm hr1
 have HC1 := zm hc1
 clear hr1 hc1
 have HB := zm (Below.refl w.heap.size w)
 have H : ((laws_szInstrument.f l0_0 a0_1 1048576).bind fun t286 => (if t286 < 0 then (some true) else ((laws_szHoleS.f l1 t286).bind fun t287 => (if t287 < 0 then (some true) else ((laws_toInstrument.f k l0_0 a0_1).bind fun bt288 => ((laws_toHoleS.f k l1).bind fun t292 => ((laws_toAction.f a2_0 a2_1 a2_2).bind fun bt295 => ((spec_SilentHoles.f k bt288.1 bt288.2 t292 bt295.1 bt295.2.1 bt295.2.2).bind fun bt298 => ((laws_toInstrument.f k l0_0 a0_1).bind fun bt302 => ((laws_toHoleS.f k l1).bind fun t307 => ((laws_toAction.f a2_0 a2_1 a2_2).bind fun bt310 => ((impl_SilentHoles.f k bt302.1 bt302.2 t307 bt310.1 bt310.2.1 bt310.2.2).bind fun bt313 => ((laws_eqIntS.f k bt313.1 bt298.1).bind fun t317 => (if t317 = true then (laws_FnExactSilentHoles.j0 k l1 bt298.1 bt298.2 t307 bt313.1 bt313.2 (bt313.2 != bt298.2) l0_0 a0_1 a2_0 a2_1 a2_2 bt302.1 bt302.2) else (laws_FnExactSilentHoles.j0 k l1 bt298.1 bt298.2 t307 bt313.1 bt313.2 true l0_0 a0_1 a2_0 a2_1 a2_2 bt302.1 bt302.2))))))))))))))) = some r := h
 clear h
 replace H := Option.bind_eq_some_iff.mp H
 obtain ⟨t286, A40, H⟩ := H
 replace H : (if t286 < 0 then (some true) else ((laws_szHoleS.f l1 t286).bind fun t287 => (if t287 < 0 then (some true) else ((laws_toInstrument.f k l0_0 a0_1).bind fun bt288 => ((laws_toHoleS.f k l1).bind fun t292 => ((laws_toAction.f a2_0 a2_1 a2_2).bind fun bt295 => ((spec_SilentHoles.f k bt288.1 bt288.2 t292 bt295.1 bt295.2.1 bt295.2.2).bind fun bt298 => ((laws_toInstrument.f k l0_0 a0_1).bind fun bt302 => ((laws_toHoleS.f k l1).bind fun t307 => ((laws_toAction.f a2_0 a2_1 a2_2).bind fun bt310 => ((impl_SilentHoles.f k bt302.1 bt302.2 t307 bt310.1 bt310.2.1 bt310.2.2).bind fun bt313 => ((laws_eqIntS.f k bt313.1 bt298.1).bind fun t317 => (if t317 = true then (laws_FnExactSilentHoles.j0 k l1 bt298.1 bt298.2 t307 bt313.1 bt313.2 (bt313.2 != bt298.2) l0_0 a0_1 a2_0 a2_1 a2_2 bt302.1 bt302.2) else (laws_FnExactSilentHoles.j0 k l1 bt298.1 bt298.2 t307 bt313.1 bt313.2 true l0_0 a0_1 a2_0 a2_1 a2_2 bt302.1 bt302.2)))))))))))))) = some r := H
 have A4 := zm A40
 clear A40
 by_cases c5 : t286 < 0
 ·
  rw [if_pos c5] at H
  have c5b0 : decide (t286 < 0) = true := decide_eq_true c5
  clear c5
  obtain rfl := Option.some.inj H
  go_enter Try.func4, Try.ntmps4
  go_wp2_with (first | ((with_reducible refine gate_dst (N := 3) rfl ?_); refine box_event ?hg (N := 3) ?hd (cs := #[.slice A0_0 l0_0.length c0_0, .int .i64 a0_1]) (t := 24) ?hr ?_; (case hd => rfl); (case hg => rfl); (case hr => first | (go_simp; done) | (go_simp; rfl)); intro gb284 hg w6 hbox hb; have n0_ := zm (below_step zb hb); have n1_ := zm (hbox); have n2_ := zm (zs hg zb : w.heap.size ≤ gb284); have n3_ := zm (zs hg zb : w.heap.size ≤ gb284); clear HB; have HB := n0_; have BK284 := n1_; have GW284 := n2_; have GE284 := n3_; clear n0_ n1_ n2_ n3_; clear hb hbox hg) | ((with_reducible refine gate_dst (N := 5) rfl ?_); refine box_event ?hg (N := 5) ?hd (cs := #[.int .i64 a2_0, .int .i64 a2_1, .int .i64 a2_2]) (t := 27) ?hr ?_; (case hd => rfl); (case hg => rfl); (case hr => first | (go_simp; done) | (go_simp; rfl)); intro gb285 hg w7 hbox hb; have n0_ := zm (blk_below (g := gb284) zk hb); have n1_ := zm (below_step zb hb); have n2_ := zm (hbox); have n3_ := zm (zs hg zb : w.heap.size ≤ gb285); have n4_ := zm (zs hg zb : w.heap.size ≤ gb285); have n5_ := zm (zl hg zk : gb284 ≠ gb285); have n6_ := zm (zg hg zk : gb285 ≠ gb284); clear BK284; clear HB; have BK284 := n0_; have HB := n1_; have BK285 := n2_; have GW285 := n3_; have GE285 := n4_; have NB284_285 := n5_; have NB285_284 := n6_; clear n0_ n1_ n2_ n3_ n4_ n5_ n6_; clear hb hbox hg; have hnb8 := NB284_285.out; have hnc8 := NB285_284.out; obtain ⟨hcz9_0, hcz9_1, hfz9_0, hfz9_1⟩ := zc2 BK284.out) | ((with_reducible refine gate_callee (f := 11) rfl ?_); refine goesL_ (some 21) rfl rfl Try.func11 (by kernel_rfl) rfl #[.agg #[.slice A0_0 l0_0.length c0_0, .int .i64 a0_1], .int .i64 1048576] rfl (by (try simp only [List.map_toArray, List.map_cons, List.map_nil]); first | done | rfl | (simp only [List.length_drop, List.length_take]; rfl)) ?_; (with_reducible refine (laws_szInstrument.calls _ _ l0_0 a0_1 1048576 t286 _ ?side1 ?side2 A4.out).mono ?_); (case side1 => repeat (first | exact (Kd.C_below HR0_0.out HB.out) | (with_reducible refine Kd.C_alloc ?_ _) | (with_reducible refine Kd.C_drewN ?_ _) | (with_reducible refine Kd.C_drew ?_))); (case side2 => exact HC0_0.out); rintro e w10 ⟨rfl, hb⟩; refine ⟨_, rfl, ?_⟩; have n0_ := zm (blk_below (g := gb284) zk hb); have n1_ := zm (blk_below (g := gb285) zk hb); have n2_ := zm (below_step zb hb); clear BK284; clear BK285; clear HB; have BK284 := n0_; have BK285 := n1_; have HB := n2_; clear n0_ n1_ n2_; (try clear hb); (try clear hb2); (try clear hk); (try clear hi)))
  go_ret
  exact ⟨zr, zb⟩
 ·
  rw [if_neg c5] at H
  have c5b0 : decide (t286 < 0) = false := decide_eq_false c5
  clear c5
  replace H := Option.bind_eq_some_iff.mp H
  obtain ⟨t287, A110, H⟩ := H
  replace H : (if t287 < 0 then (some true) else ((laws_toInstrument.f k l0_0 a0_1).bind fun bt288 => ((laws_toHoleS.f k l1).bind fun t292 => ((laws_toAction.f a2_0 a2_1 a2_2).bind fun bt295 => ((spec_SilentHoles.f k bt288.1 bt288.2 t292 bt295.1 bt295.2.1 bt295.2.2).bind fun bt298 => ((laws_toInstrument.f k l0_0 a0_1).bind fun bt302 => ((laws_toHoleS.f k l1).bind fun t307 => ((laws_toAction.f a2_0 a2_1 a2_2).bind fun bt310 => ((impl_SilentHoles.f k bt302.1 bt302.2 t307 bt310.1 bt310.2.1 bt310.2.2).bind fun bt313 => ((laws_eqIntS.f k bt313.1 bt298.1).bind fun t317 => (if t317 = true then (laws_FnExactSilentHoles.j0 k l1 bt298.1 bt298.2 t307 bt313.1 bt313.2 (bt313.2 != bt298.2) l0_0 a0_1 a2_0 a2_1 a2_2 bt302.1 bt302.2) else (laws_FnExactSilentHoles.j0 k l1 bt298.1 bt298.2 t307 bt313.1 bt313.2 true l0_0 a0_1 a2_0 a2_1 a2_2 bt302.1 bt302.2)))))))))))) = some r := H
  have A11 := zm A110
  clear A110
  by_cases c12 : t287 < 0
  ·
   rw [if_pos c12] at H
   have c12b0 : decide (t287 < 0) = true := decide_eq_true c12
   clear c12
   obtain rfl := Option.some.inj H
   go_enter Try.func4, Try.ntmps4
   go_wp2_with (first | ((with_reducible refine gate_dst (N := 3) rfl ?_); refine box_event ?hg (N := 3) ?hd (cs := #[.slice A0_0 l0_0.length c0_0, .int .i64 a0_1]) (t := 24) ?hr ?_; (case hd => rfl); (case hg => rfl); (case hr => first | (go_simp; done) | (go_simp; rfl)); intro gb284 hg w13 hbox hb; have n0_ := zm (below_step zb hb); have n1_ := zm (hbox); have n2_ := zm (zs hg zb : w.heap.size ≤ gb284); have n3_ := zm (zs hg zb : w.heap.size ≤ gb284); clear HB; have HB := n0_; have BK284 := n1_; have GW284 := n2_; have GE284 := n3_; clear n0_ n1_ n2_ n3_; clear hb hbox hg) | ((with_reducible refine gate_dst (N := 5) rfl ?_); refine box_event ?hg (N := 5) ?hd (cs := #[.int .i64 a2_0, .int .i64 a2_1, .int .i64 a2_2]) (t := 27) ?hr ?_; (case hd => rfl); (case hg => rfl); (case hr => first | (go_simp; done) | (go_simp; rfl)); intro gb285 hg w14 hbox hb; have n0_ := zm (blk_below (g := gb284) zk hb); have n1_ := zm (below_step zb hb); have n2_ := zm (hbox); have n3_ := zm (zs hg zb : w.heap.size ≤ gb285); have n4_ := zm (zs hg zb : w.heap.size ≤ gb285); have n5_ := zm (zl hg zk : gb284 ≠ gb285); have n6_ := zm (zg hg zk : gb285 ≠ gb284); clear BK284; clear HB; have BK284 := n0_; have HB := n1_; have BK285 := n2_; have GW285 := n3_; have GE285 := n4_; have NB284_285 := n5_; have NB285_284 := n6_; clear n0_ n1_ n2_ n3_ n4_ n5_ n6_; clear hb hbox hg; have hnb15 := NB284_285.out; have hnc15 := NB285_284.out; obtain ⟨hcz16_0, hcz16_1, hfz16_0, hfz16_1⟩ := zc2 BK284.out) | ((with_reducible refine gate_callee (f := 11) rfl ?_); refine goesL_ (some 21) rfl rfl Try.func11 (by kernel_rfl) rfl #[.agg #[.slice A0_0 l0_0.length c0_0, .int .i64 a0_1], .int .i64 1048576] rfl (by (try simp only [List.map_toArray, List.map_cons, List.map_nil]); first | done | rfl | (simp only [List.length_drop, List.length_take]; rfl)) ?_; (with_reducible refine (laws_szInstrument.calls _ _ l0_0 a0_1 1048576 t286 _ ?side1 ?side2 A4.out).mono ?_); (case side1 => repeat (first | exact (Kd.C_below HR0_0.out HB.out) | (with_reducible refine Kd.C_alloc ?_ _) | (with_reducible refine Kd.C_drewN ?_ _) | (with_reducible refine Kd.C_drew ?_))); (case side2 => exact HC0_0.out); rintro e w17 ⟨rfl, hb⟩; refine ⟨_, rfl, ?_⟩; have n0_ := zm (blk_below (g := gb284) zk hb); have n1_ := zm (blk_below (g := gb285) zk hb); have n2_ := zm (below_step zb hb); clear BK284; clear BK285; clear HB; have BK284 := n0_; have BK285 := n1_; have HB := n2_; clear n0_ n1_ n2_; (try clear hb); (try clear hb2); (try clear hk); (try clear hi)) | ((with_reducible refine gate_callee (f := 12) rfl ?_); refine goesL_ (some 26) rfl rfl Try.func12 (by kernel_rfl) rfl #[.slice A1 l1.length c1, .int .i64 t286] rfl (by (try simp only [List.map_toArray, List.map_cons, List.map_nil]); first | done | rfl | (simp only [List.length_drop, List.length_take]; rfl)) ?_; (with_reducible refine (laws_szHoleS.calls _ _ l1 t286 t287 _ ?side1 ?side2 A11.out).mono ?_); (case side1 => repeat (first | exact (Kd.C_below HR1.out HB.out) | (with_reducible refine Kd.C_alloc ?_ _) | (with_reducible refine Kd.C_drewN ?_ _) | (with_reducible refine Kd.C_drew ?_))); (case side2 => exact HC1.out); rintro e w' ⟨rfl, ⟨nd, rfl⟩⟩; refine ⟨_, rfl, ?_⟩))
   go_ret
   exact ⟨zr, zb⟩
  ·
   rw [if_neg c12] at H
   have c12b0 : decide (t287 < 0) = false := decide_eq_false c12
   clear c12
   replace H := Option.bind_eq_some_iff.mp H
   obtain ⟨⟨t288, t291⟩, A180, H⟩ := H
   replace H : ((laws_toHoleS.f k l1).bind fun t292 => ((laws_toAction.f a2_0 a2_1 a2_2).bind fun bt295 => ((spec_SilentHoles.f k t288 t291 t292 bt295.1 bt295.2.1 bt295.2.2).bind fun bt298 => ((laws_toInstrument.f k l0_0 a0_1).bind fun bt302 => ((laws_toHoleS.f k l1).bind fun t307 => ((laws_toAction.f a2_0 a2_1 a2_2).bind fun bt310 => ((impl_SilentHoles.f k bt302.1 bt302.2 t307 bt310.1 bt310.2.1 bt310.2.2).bind fun bt313 => ((laws_eqIntS.f k bt313.1 bt298.1).bind fun t317 => (if t317 = true then (laws_FnExactSilentHoles.j0 k l1 bt298.1 bt298.2 t307 bt313.1 bt313.2 (bt313.2 != bt298.2) l0_0 a0_1 a2_0 a2_1 a2_2 bt302.1 bt302.2) else (laws_FnExactSilentHoles.j0 k l1 bt298.1 bt298.2 t307 bt313.1 bt313.2 true l0_0 a0_1 a2_0 a2_1 a2_2 bt302.1 bt302.2)))))))))) = some r := H
   have A18 := zm A180
   clear A180
   replace H := Option.bind_eq_some_iff.mp H
   obtain ⟨t292, A190, H⟩ := H
   replace H : ((laws_toAction.f a2_0 a2_1 a2_2).bind fun bt295 => ((spec_SilentHoles.f k t288 t291 t292 bt295.1 bt295.2.1 bt295.2.2).bind fun bt298 => ((laws_toInstrument.f k l0_0 a0_1).bind fun bt302 => ((laws_toHoleS.f k l1).bind fun t307 => ((laws_toAction.f a2_0 a2_1 a2_2).bind fun bt310 => ((impl_SilentHoles.f k bt302.1 bt302.2 t307 bt310.1 bt310.2.1 bt310.2.2).bind fun bt313 => ((laws_eqIntS.f k bt313.1 bt298.1).bind fun t317 => (if t317 = true then (laws_FnExactSilentHoles.j0 k l1 bt298.1 bt298.2 t307 bt313.1 bt313.2 (bt313.2 != bt298.2) l0_0 a0_1 a2_0 a2_1 a2_2 bt302.1 bt302.2) else (laws_FnExactSilentHoles.j0 k l1 bt298.1 bt298.2 t307 bt313.1 bt313.2 true l0_0 a0_1 a2_0 a2_1 a2_2 bt302.1 bt302.2))))))))) = some r := H
   have A19 := zm A190
   clear A190
   replace H := Option.bind_eq_some_iff.mp H
   obtain ⟨⟨t295, t296, t297⟩, A200, H⟩ := H
   replace H : ((spec_SilentHoles.f k t288 t291 t292 t295 t296 t297).bind fun bt298 => ((laws_toInstrument.f k l0_0 a0_1).bind fun bt302 => ((laws_toHoleS.f k l1).bind fun t307 => ((laws_toAction.f a2_0 a2_1 a2_2).bind fun bt310 => ((impl_SilentHoles.f k bt302.1 bt302.2 t307 bt310.1 bt310.2.1 bt310.2.2).bind fun bt313 => ((laws_eqIntS.f k bt313.1 bt298.1).bind fun t317 => (if t317 = true then (laws_FnExactSilentHoles.j0 k l1 bt298.1 bt298.2 t307 bt313.1 bt313.2 (bt313.2 != bt298.2) l0_0 a0_1 a2_0 a2_1 a2_2 bt302.1 bt302.2) else (laws_FnExactSilentHoles.j0 k l1 bt298.1 bt298.2 t307 bt313.1 bt313.2 true l0_0 a0_1 a2_0 a2_1 a2_2 bt302.1 bt302.2)))))))) = some r := H
   have A20 := zm A200
   clear A200
   replace H := Option.bind_eq_some_iff.mp H
   obtain ⟨⟨t298, t301⟩, A210, H⟩ := H
   replace H : ((laws_toInstrument.f k l0_0 a0_1).bind fun bt302 => ((laws_toHoleS.f k l1).bind fun t307 => ((laws_toAction.f a2_0 a2_1 a2_2).bind fun bt310 => ((impl_SilentHoles.f k bt302.1 bt302.2 t307 bt310.1 bt310.2.1 bt310.2.2).bind fun bt313 => ((laws_eqIntS.f k bt313.1 t298).bind fun t317 => (if t317 = true then (laws_FnExactSilentHoles.j0 k l1 t298 t301 t307 bt313.1 bt313.2 (bt313.2 != t301) l0_0 a0_1 a2_0 a2_1 a2_2 bt302.1 bt302.2) else (laws_FnExactSilentHoles.j0 k l1 t298 t301 t307 bt313.1 bt313.2 true l0_0 a0_1 a2_0 a2_1 a2_2 bt302.1 bt302.2))))))) = some r := H
   have A21 := zm A210
   clear A210
   replace H := Option.bind_eq_some_iff.mp H
   obtain ⟨⟨t302, t305⟩, A220, H⟩ := H
   replace H : ((laws_toHoleS.f k l1).bind fun t307 => ((laws_toAction.f a2_0 a2_1 a2_2).bind fun bt310 => ((impl_SilentHoles.f k t302 t305 t307 bt310.1 bt310.2.1 bt310.2.2).bind fun bt313 => ((laws_eqIntS.f k bt313.1 t298).bind fun t317 => (if t317 = true then (laws_FnExactSilentHoles.j0 k l1 t298 t301 t307 bt313.1 bt313.2 (bt313.2 != t301) l0_0 a0_1 a2_0 a2_1 a2_2 t302 t305) else (laws_FnExactSilentHoles.j0 k l1 t298 t301 t307 bt313.1 bt313.2 true l0_0 a0_1 a2_0 a2_1 a2_2 t302 t305)))))) = some r := H
   have A22 := zm A220
   clear A220
   replace H := Option.bind_eq_some_iff.mp H
   obtain ⟨t307, A230, H⟩ := H
   replace H : ((laws_toAction.f a2_0 a2_1 a2_2).bind fun bt310 => ((impl_SilentHoles.f k t302 t305 t307 bt310.1 bt310.2.1 bt310.2.2).bind fun bt313 => ((laws_eqIntS.f k bt313.1 t298).bind fun t317 => (if t317 = true then (laws_FnExactSilentHoles.j0 k l1 t298 t301 t307 bt313.1 bt313.2 (bt313.2 != t301) l0_0 a0_1 a2_0 a2_1 a2_2 t302 t305) else (laws_FnExactSilentHoles.j0 k l1 t298 t301 t307 bt313.1 bt313.2 true l0_0 a0_1 a2_0 a2_1 a2_2 t302 t305))))) = some r := H
   have A23 := zm A230
   clear A230
   replace H := Option.bind_eq_some_iff.mp H
   obtain ⟨⟨t310, t311, t312⟩, A240, H⟩ := H
   replace H : ((impl_SilentHoles.f k t302 t305 t307 t310 t311 t312).bind fun bt313 => ((laws_eqIntS.f k bt313.1 t298).bind fun t317 => (if t317 = true then (laws_FnExactSilentHoles.j0 k l1 t298 t301 t307 bt313.1 bt313.2 (bt313.2 != t301) l0_0 a0_1 a2_0 a2_1 a2_2 t302 t305) else (laws_FnExactSilentHoles.j0 k l1 t298 t301 t307 bt313.1 bt313.2 true l0_0 a0_1 a2_0 a2_1 a2_2 t302 t305)))) = some r := H
   have A24 := zm A240
   clear A240
   replace H := Option.bind_eq_some_iff.mp H
   obtain ⟨⟨t313, t316⟩, A250, H⟩ := H
   replace H : ((laws_eqIntS.f k t313 t298).bind fun t317 => (if t317 = true then (laws_FnExactSilentHoles.j0 k l1 t298 t301 t307 t313 t316 (t316 != t301) l0_0 a0_1 a2_0 a2_1 a2_2 t302 t305) else (laws_FnExactSilentHoles.j0 k l1 t298 t301 t307 t313 t316 true l0_0 a0_1 a2_0 a2_1 a2_2 t302 t305))) = some r := H
   have A25 := zm A250
   clear A250
   have HC26 := zm H
   clear H
   go_enter Try.func4, Try.ntmps4
   try go_wp2_with (first | ((with_reducible refine gate_dst (N := 3) rfl ?_); refine box_event ?hg (N := 3) ?hd (cs := #[.slice A0_0 l0_0.length c0_0, .int .i64 a0_1]) (t := 24) ?hr ?_; (case hd => rfl); (case hg => rfl); (case hr => first | (go_simp; done) | (go_simp; rfl)); intro gb284 hg w27 hbox hb; have n0_ := zm (below_step zb hb); have n1_ := zm (hbox); have n2_ := zm (zs hg zb : w.heap.size ≤ gb284); have n3_ := zm (zs hg zb : w.heap.size ≤ gb284); clear HB; have HB := n0_; have BK284 := n1_; have GW284 := n2_; have GE284 := n3_; clear n0_ n1_ n2_ n3_; clear hb hbox hg) | ((with_reducible refine gate_dst (N := 5) rfl ?_); refine box_event ?hg (N := 5) ?hd (cs := #[.int .i64 a2_0, .int .i64 a2_1, .int .i64 a2_2]) (t := 27) ?hr ?_; (case hd => rfl); (case hg => rfl); (case hr => first | (go_simp; done) | (go_simp; rfl)); intro gb285 hg w28 hbox hb; have n0_ := zm (blk_below (g := gb284) zk hb); have n1_ := zm (below_step zb hb); have n2_ := zm (hbox); have n3_ := zm (zs hg zb : w.heap.size ≤ gb285); have n4_ := zm (zs hg zb : w.heap.size ≤ gb285); have n5_ := zm (zl hg zk : gb284 ≠ gb285); have n6_ := zm (zg hg zk : gb285 ≠ gb284); clear BK284; clear HB; have BK284 := n0_; have HB := n1_; have BK285 := n2_; have GW285 := n3_; have GE285 := n4_; have NB284_285 := n5_; have NB285_284 := n6_; clear n0_ n1_ n2_ n3_ n4_ n5_ n6_; clear hb hbox hg; have hnb29 := NB284_285.out; have hnc29 := NB285_284.out; obtain ⟨hcz30_0, hcz30_1, hfz30_0, hfz30_1⟩ := zc2 BK284.out) | ((with_reducible refine gate_callee (f := 11) rfl ?_); refine goesL_ (some 21) rfl rfl Try.func11 (by kernel_rfl) rfl #[.agg #[.slice A0_0 l0_0.length c0_0, .int .i64 a0_1], .int .i64 1048576] rfl (by (try simp only [List.map_toArray, List.map_cons, List.map_nil]); first | done | rfl | (simp only [List.length_drop, List.length_take]; rfl)) ?_; (with_reducible refine (laws_szInstrument.calls _ _ l0_0 a0_1 1048576 t286 _ ?side1 ?side2 A4.out).mono ?_); (case side1 => repeat (first | exact (Kd.C_below HR0_0.out HB.out) | (with_reducible refine Kd.C_alloc ?_ _) | (with_reducible refine Kd.C_drewN ?_ _) | (with_reducible refine Kd.C_drew ?_))); (case side2 => exact HC0_0.out); rintro e w31 ⟨rfl, hb⟩; refine ⟨_, rfl, ?_⟩; have n0_ := zm (blk_below (g := gb284) zk hb); have n1_ := zm (blk_below (g := gb285) zk hb); have n2_ := zm (below_step zb hb); clear BK284; clear BK285; clear HB; have BK284 := n0_; have BK285 := n1_; have HB := n2_; clear n0_ n1_ n2_; (try clear hb); (try clear hb2); (try clear hk); (try clear hi)) | ((with_reducible refine gate_callee (f := 12) rfl ?_); refine goesL_ (some 26) rfl rfl Try.func12 (by kernel_rfl) rfl #[.slice A1 l1.length c1, .int .i64 t286] rfl (by (try simp only [List.map_toArray, List.map_cons, List.map_nil]); first | done | rfl | (simp only [List.length_drop, List.length_take]; rfl)) ?_; (with_reducible refine (laws_szHoleS.calls _ _ l1 t286 t287 _ ?side1 ?side2 A11.out).mono ?_); (case side1 => repeat (first | exact (Kd.C_below HR1.out HB.out) | (with_reducible refine Kd.C_alloc ?_ _) | (with_reducible refine Kd.C_drewN ?_ _) | (with_reducible refine Kd.C_drew ?_))); (case side2 => exact HC1.out); rintro e w' ⟨rfl, ⟨nd, rfl⟩⟩; refine ⟨_, rfl, ?_⟩; (try (rw [drewN_self w31]; generalize hq_ : World.drewN w31 _ = w31; have n0_ : Aside0 (w31.heap[gb284]? = some (.cells #[.slice A0_0 l0_0.length c0_0, .int .i64 a0_1] 24 (0, 0))) := ⟨by rw [← hq_]; exact zk⟩; have n1_ : Aside0 (w31.heap[gb285]? = some (.cells #[.int .i64 a2_0, .int .i64 a2_1, .int .i64 a2_2] 27 (0, 0))) := ⟨by rw [← hq_]; exact zk⟩; have n2_ : Aside0 (Below w.heap.size w w31) := ⟨by rw [← hq_]; exact zb⟩; clear BK284 BK285 HB hq_; have BK284 := n0_; have BK285 := n1_; have HB := n2_; clear n0_ n1_ n2_))))
   have n0_ := zm (blk_drew BK284.out)
   have n1_ := zm (blk_drew BK285.out)
   have n2_ := zm (below_drew1 HB.out)
   clear BK284
   clear BK285
   clear HB
   have BK284 := n0_
   have BK285 := n1_
   have HB := n2_
   clear n0_ n1_ n2_
   refine start_ (n := 12) (S := fun w' => w'.cell? ⟨gb284, 0, none⟩ = some (.slice A0_0 l0_0.length c0_0) ∧ w'.cell? ⟨gb284, 1, none⟩ = some (.int .i64 a0_1) ∧ w'.cell? ⟨gb285, 0, none⟩ = some (.int .i64 a2_0) ∧ w'.cell? ⟨gb285, 1, none⟩ = some (.int .i64 a2_1) ∧ w'.cell? ⟨gb285, 2, none⟩ = some (.int .i64 a2_2)) (ds := []) #[false, false, false, false, false, false, false, false, false, false, false, false] (by kernel_rfl) rfl rfl ⟨(blk_cell BK284.out 0).trans rfl, (blk_cell BK284.out 1).trans rfl, (blk_cell BK285.out 0).trans rfl, (blk_cell BK285.out 1).trans rfl, (blk_cell BK285.out 2).trans rfl⟩ (fun hHeld => ?_); refine with_tabW laws_FnExactSilentHoles.tab8 laws_FnExactSilentHoles.bits8 (fun HT_ HW_ => ?_)
   generalize w31.drew = w32 at BK284 BK285 HB hHeld ⊢
   refine pure_ (i := 2) (N := some 32) (v := ?_) (a' := ?_) #[false, false, true, false, false, false, false, false, false, false, false, false] rfl rfl (any_of HT_.out (by kernel_rfl)) (fun _ _ _ h => h) (Or.inl ⟨by rfl, ?_⟩) ?_ ?_
   rotate_left
   ·
    intro w'
    go_simp
    with_reducible rfl
   rotate_left
   ·
    simp only [Act.put, zA, zB, zD, i64_w, i32_w]
    rfl
   refine take_ (i := 0) (N := some 30) (v := ?_) (a' := ?_) #[true, false, true, false, false, false, false, false, false, false, false, false] rfl rfl (take_ofW HT_.out HW_.out (by kernel_rfl)) (fun _ _ _ h => h) (Or.inl ⟨by rfl, ?_⟩) hHeld ?_ ?_
   rotate_left
   ·
    rintro w' ⟨s0, s1, s2, s3, s4⟩
    go_simp
    with_reducible rfl
   rotate_left
   ·
    simp only [Act.put, zA, zB, zD, i64_w, i32_w]
    rfl
   refine take_ (i := 4) (N := some 34) (v := ?_) (a' := ?_) #[true, false, true, false, true, false, false, false, false, false, false, false] rfl rfl (take_ofW HT_.out HW_.out (by kernel_rfl)) (fun _ _ _ h => h) (Or.inl ⟨by rfl, ?_⟩) hHeld ?_ ?_
   rotate_left
   ·
    rintro w' ⟨s0, s1, s2, s3, s4⟩
    go_simp
    with_reducible rfl
   rotate_left
   ·
    simp only [Act.put, zA, zB, zD, i64_w, i32_w]
    rfl
   refine one_ (i := 1) (N := some 31) #[true, true, true, false, true, false, false, false, false, false, false, false] rfl rfl (one_of HT_.out (by kernel_rfl)) (by decide) (fun K hK => ?_)
   refine goes_ Try.func14 (by kernel_rfl) rfl #[.agg #[.slice A0_0 l0_0.length c0_0, .int .i64 a0_1]] (by rfl) rfl rfl (by (try simp only [List.map_toArray, List.map_cons, List.map_nil]); first | done | rfl | (simp only [List.length_drop, List.length_take]; rfl)) ?_
   with_reducible refine (laws_toInstrument.calls k _ _ l0_0 a0_1 t288 t291 _ ?side1 ?side2 A18.out).mono ?_
   (case side1 => repeat (first | exact (Kd.C_below HR0_0.out HB.out) | (with_reducible refine Kd.C_alloc ?_ _) | (with_reducible refine Kd.C_drewN ?_ _) | (with_reducible refine Kd.C_drew ?_)))
   (case side2 => exact HC0_0.out)
   rintro e w33 ⟨v289, rfl, ho0, hb⟩
   refine ⟨_, rfl, ?_⟩
   have n0_ := zm (Kd.R_lower ho0 (below_size zb))
   have n1_ := zm (blk_below (g := gb284) zk hb)
   have n2_ := zm (blk_below (g := gb285) zk hb)
   have n3_ := zm (below_step zb hb)
   clear BK284
   clear BK285
   clear HB
   have HO290 := n0_
   have BK284 := n1_
   have BK285 := n2_
   have HB := n3_
   clear n0_ n1_ n2_ n3_
   (try clear hb)
   (try clear hb2)
   (try clear hk)
   (try clear hi)
   (try clear ho0)
   refine hK.out _ _ ⟨(blk_cell BK284.out 0).trans rfl, (blk_cell BK284.out 1).trans rfl, (blk_cell BK285.out 0).trans rfl, (blk_cell BK285.out 1).trans rfl, (blk_cell BK285.out 2).trans rfl⟩ (fun hHeld => ?_)
   clear hK K
   refine norm_ (a' := ?_) ?_ ?_
   rotate_left
   ·
    show Act.put _ (some 31) _ = _
    simp only [Act.put, zA, zB, zD, i64_w, i32_w]
    rfl
   refine one_ (i := 3) (N := some 33) #[true, true, true, true, true, false, false, false, false, false, false, false] rfl rfl (one_of HT_.out (by kernel_rfl)) (by decide) (fun K hK => ?_)
   refine goes_ Try.func15 (by kernel_rfl) rfl #[.slice A1 l1.length c1] (by rfl) rfl rfl (by (try simp only [List.map_toArray, List.map_cons, List.map_nil]); first | done | rfl | (simp only [List.length_drop, List.length_take]; rfl)) ?_
   with_reducible refine (laws_toHoleS.calls k _ _ l1 t292 _ ?side1 ?side2 A19.out).mono ?_
   (case side1 => repeat (first | exact (Kd.C_below HR1.out HB.out) | (with_reducible refine Kd.C_alloc ?_ _) | (with_reducible refine Kd.C_drewN ?_ _) | (with_reducible refine Kd.C_drew ?_)))
   (case side2 => exact HC1.out)
   rintro e w34 ⟨v293, rfl, ho0, hb⟩
   refine ⟨_, rfl, ?_⟩
   have n0_ := zm (Kd.R_below (by (with_reducible repeat (first | apply Kd.R_alloc | apply Kd.R_drewN | apply Kd.R_drew)); exact HO290.out) hb)
   have n1_ := zm (Kd.R_lower ho0 (below_size zb))
   have n2_ := zm (blk_below (g := gb284) zk hb)
   have n3_ := zm (blk_below (g := gb285) zk hb)
   have n4_ := zm (below_step zb hb)
   clear HO290
   clear BK284
   clear BK285
   clear HB
   have HO290 := n0_
   have HO294 := n1_
   have BK284 := n2_
   have BK285 := n3_
   have HB := n4_
   clear n0_ n1_ n2_ n3_ n4_
   (try clear hb)
   (try clear hb2)
   (try clear hk)
   (try clear hi)
   (try clear ho0)
   refine hK.out _ _ ⟨(blk_cell BK284.out 0).trans rfl, (blk_cell BK284.out 1).trans rfl, (blk_cell BK285.out 0).trans rfl, (blk_cell BK285.out 1).trans rfl, (blk_cell BK285.out 2).trans rfl⟩ (fun hHeld => ?_)
   clear hK K
   refine norm_ (a' := ?_) ?_ ?_
   rotate_left
   ·
    show Act.put _ (some 33) _ = _
    simp only [Act.put, zA, zB, zD, i64_w, i32_w]
    rfl
   refine one_ (i := 5) (N := some 35) #[true, true, true, true, true, true, false, false, false, false, false, false] rfl rfl (one_of HT_.out (by kernel_rfl)) (by decide) (fun K hK => ?_)
   refine goes_ Try.func16 (by kernel_rfl) rfl #[.agg #[.int .i64 a2_0, .int .i64 a2_1, .int .i64 a2_2]] (by rfl) rfl rfl (by (try simp only [List.map_toArray, List.map_cons, List.map_nil]); first | done | rfl | (simp only [List.length_drop, List.length_take]; rfl)) ?_
   with_reducible refine (laws_toAction.calls a2_0 a2_1 a2_2 t295 t296 t297 _ A20.out).mono ?_
   rintro e w35 ⟨rfl, hb⟩
   refine ⟨_, rfl, ?_⟩
   have n0_ := zm (Kd.R_below (by (with_reducible repeat (first | apply Kd.R_alloc | apply Kd.R_drewN | apply Kd.R_drew)); exact HO290.out) hb)
   have n1_ := zm (Kd.R_below (by (with_reducible repeat (first | apply Kd.R_alloc | apply Kd.R_drewN | apply Kd.R_drew)); exact HO294.out) hb)
   have n2_ := zm (blk_below (g := gb284) zk hb)
   have n3_ := zm (blk_below (g := gb285) zk hb)
   have n4_ := zm (below_step zb hb)
   clear HO290
   clear HO294
   clear BK284
   clear BK285
   clear HB
   have HO290 := n0_
   have HO294 := n1_
   have BK284 := n2_
   have BK285 := n3_
   have HB := n4_
   clear n0_ n1_ n2_ n3_ n4_
   (try clear hb)
   (try clear hb2)
   (try clear hk)
   (try clear hi)
   obtain ⟨Ao36, co36, eo36⟩ := Kd.R_slice HO290.out
   (first | subst eo36 | (injection eo36 with f1_ f2_ f3_; have f4_ := f1_.symm; have f5_ := f3_.symm; clear f1_ f2_ f3_; subst f4_; subst f5_))
   obtain ⟨Ao37, co37, eo37⟩ := Kd.R_slice HO294.out
   (first | subst eo37 | (injection eo37 with f1_ f2_ f3_; have f4_ := f1_.symm; have f5_ := f3_.symm; clear f1_ f2_ f3_; subst f4_; subst f5_))
   refine hK.out _ _ ⟨(blk_cell BK284.out 0).trans rfl, (blk_cell BK284.out 1).trans rfl, (blk_cell BK285.out 0).trans rfl, (blk_cell BK285.out 1).trans rfl, (blk_cell BK285.out 2).trans rfl⟩ (fun hHeld => ?_)
   clear hK K
   refine norm_ (a' := ?_) ?_ ?_
   rotate_left
   ·
    show Act.put _ (some 35) _ = _
    simp only [Act.put, zA, zB, zD, i64_w, i32_w]
    rfl
   refine one_ (i := 6) (N := some 36) #[true, true, true, true, true, true, true, false, false, false, false, false] rfl rfl (one_of HT_.out (by kernel_rfl)) (by decide) (fun K hK => ?_)
   refine goes_ Try.func20 (by kernel_rfl) rfl #[.agg #[.slice Ao36 t288.length co36, .int .i64 t291], .slice Ao37 t292.length co37, .agg #[.int .i64 t295, .int .i64 t296, .int .i64 t297]] (by rfl) rfl rfl (by (try simp only [List.map_toArray, List.map_cons, List.map_nil]); first | done | rfl | (simp only [List.length_drop, List.length_take]; rfl)) ?_
   with_reducible refine (spec_SilentHoles.calls k _ _ t288 t291 _ _ t292 t295 t296 t297 t298 t301 _ ?side1 ?side2 ?side3 ?side4 A21.out).mono ?_
   (case side1 => repeat (first | exact (Kd.R_reads' HO290.out).2.2 | (with_reducible refine Kd.C_alloc ?_ _) | (with_reducible refine Kd.C_drewN ?_ _) | (with_reducible refine Kd.C_drew ?_)))
   (case side2 => exact (Kd.R_reads' HO290.out).2.1)
   (case side3 => repeat (first | exact (Kd.R_reads' HO294.out).2.2 | (with_reducible refine Kd.C_alloc ?_ _) | (with_reducible refine Kd.C_drewN ?_ _) | (with_reducible refine Kd.C_drew ?_)))
   (case side4 => exact (Kd.R_reads' HO294.out).2.1)
   rintro e w38 ⟨v299, rfl, ho0, hb⟩
   refine ⟨_, rfl, ?_⟩
   have n0_ := zm (Kd.R_elder' (by (with_reducible repeat (first | apply Kd.R_alloc | apply Kd.R_drewN | apply Kd.R_drew)); exact HO290.out) (Kd.R_base ho0) hb)
   have n1_ := zm (Kd.R_below (by (with_reducible repeat (first | apply Kd.R_alloc | apply Kd.R_drewN | apply Kd.R_drew)); exact HO294.out) hb)
   have n2_ := zm (Kd.R_lower (Kd.R_new' ho0 (Kd.R_lt (by (with_reducible repeat (first | apply Kd.R_alloc | apply Kd.R_drewN | apply Kd.R_drew)); exact HO290.out))) (below_size zb))
   have n3_ := zm (blk_below (g := gb284) zk hb)
   have n4_ := zm (blk_below (g := gb285) zk hb)
   have n5_ := zm (below_step zb hb)
   clear HO290
   clear HO294
   clear BK284
   clear BK285
   clear HB
   have HO290 := n0_
   have HO294 := n1_
   have HO300 := n2_
   have BK284 := n3_
   have BK285 := n4_
   have HB := n5_
   clear n0_ n1_ n2_ n3_ n4_ n5_
   (try clear hb)
   (try clear hb2)
   (try clear hk)
   (try clear hi)
   (try clear ho0)
   refine hK.out _ _ ⟨(blk_cell BK284.out 0).trans rfl, (blk_cell BK284.out 1).trans rfl, (blk_cell BK285.out 0).trans rfl, (blk_cell BK285.out 1).trans rfl, (blk_cell BK285.out 2).trans rfl⟩ (fun hHeld => ?_)
   clear hK K
   refine norm_ (a' := ?_) ?_ ?_
   rotate_left
   ·
    show Act.put _ (some 36) _ = _
    simp only [Act.put, zA, zB, zD, i64_w, i32_w]
    rfl
   refine pure_ (i := 7) (N := some 29) (v := ?_) (a' := ?_) #[true, true, true, true, true, true, true, true, false, false, false, false] rfl rfl (any_of HT_.out (by kernel_rfl)) (fun _ _ _ h => h) (Or.inl ⟨by rfl, ?_⟩) ?_ ?_
   rotate_left
   ·
    intro w'
    go_simp
    with_reducible rfl
   rotate_left
   ·
    simp only [Act.put, zA, zB, zD, i64_w, i32_w]
    rfl
   refine pure_ (i := 8) (N := some 37) (v := ?_) (a' := ?_) #[true, true, true, true, true, true, true, true, true, false, false, false] rfl rfl (any_of HT_.out (by kernel_rfl)) (fun _ _ _ h => h) (Or.inl ⟨by rfl, ?_⟩) ?_ ?_
   rotate_left
   ·
    intro w'
    go_simp
    with_reducible rfl
   rotate_left
   ·
    simp only [Act.put, zA, zB, zD, i64_w, i32_w]
    rfl
   refine pure_ (i := 9) (N := some 38) (v := ?_) (a' := ?_) #[true, true, true, true, true, true, true, true, true, true, false, false] rfl rfl (any_of HT_.out (by kernel_rfl)) (fun _ _ _ h => h) (Or.inl ⟨by rfl, ?_⟩) ?_ ?_
   rotate_left
   ·
    intro w'
    go_simp
    with_reducible rfl
   rotate_left
   ·
    simp only [Act.put, zA, zB, zD, i64_w, i32_w]
    rfl
   refine pure_ (i := 10) (N := some 8) (v := ?_) (a' := ?_) #[true, true, true, true, true, true, true, true, true, true, true, false] rfl rfl (any_of HT_.out (by kernel_rfl)) (fun _ _ _ h => h) (Or.inl ⟨by rfl, ?_⟩) ?_ ?_
   rotate_left
   ·
    intro w'
    go_simp
    with_reducible rfl
   rotate_left
   ·
    simp only [Act.put, zA, zB, zD, i64_w, i32_w]
    rfl
   refine pure_ (i := 11) (N := some 9) (v := ?_) (a' := ?_) #[true, true, true, true, true, true, true, true, true, true, true, true] rfl rfl (any_of HT_.out (by kernel_rfl)) (fun _ _ _ h => h) (Or.inl ⟨by rfl, ?_⟩) ?_ ?_
   rotate_left
   ·
    intro w'
    go_simp
    with_reducible rfl
   rotate_left
   ·
    simp only [Act.put, zA, zB, zD, i64_w, i32_w]
    rfl
   refine done_ (done_of HT_.out (by kernel_rfl)) ?_
   obtain ⟨hcz39_0, hcz39_1, hfz39_0, hfz39_1⟩ := zc2 BK284.out
   try go_wp2_with (first | ((with_reducible refine gate_callee (f := 14) rfl ?_); refine goesL_ (some 40) rfl rfl Try.func14 (by kernel_rfl) rfl #[.agg #[.slice A0_0 l0_0.length c0_0, .int .i64 a0_1]] rfl (by (try simp only [List.map_toArray, List.map_cons, List.map_nil]); first | done | rfl | (simp only [List.length_drop, List.length_take]; rfl)) ?_; (with_reducible refine (laws_toInstrument.calls k _ _ l0_0 a0_1 t302 t305 _ ?side1 ?side2 A22.out).mono ?_); (case side1 => repeat (first | exact (Kd.C_below HR0_0.out HB.out) | (with_reducible refine Kd.C_alloc ?_ _) | (with_reducible refine Kd.C_drewN ?_ _) | (with_reducible refine Kd.C_drew ?_))); (case side2 => exact HC0_0.out); rintro e w40 ⟨v303, rfl, ho0, hb⟩; refine ⟨_, rfl, ?_⟩; have n0_ := zm (Kd.R_elder' (by (with_reducible repeat (first | apply Kd.R_alloc | apply Kd.R_drewN | apply Kd.R_drew)); exact HO290.out) (Kd.R_base ho0) hb); have n1_ := zm (Kd.R_below (by (with_reducible repeat (first | apply Kd.R_alloc | apply Kd.R_drewN | apply Kd.R_drew)); exact HO294.out) hb); have n2_ := zm (Kd.R_elder' (by (with_reducible repeat (first | apply Kd.R_alloc | apply Kd.R_drewN | apply Kd.R_drew)); exact HO300.out) (Kd.R_base ho0) hb); have n3_ := zm (Kd.R_lower (Kd.R_new' (Kd.R_new' ho0 (Kd.R_lt (by (with_reducible repeat (first | apply Kd.R_alloc | apply Kd.R_drewN | apply Kd.R_drew)); exact HO290.out))) (Kd.R_lt (by (with_reducible repeat (first | apply Kd.R_alloc | apply Kd.R_drewN | apply Kd.R_drew)); exact HO300.out))) (below_size zb)); have n4_ := zm (blk_below (g := gb284) zk hb); have n5_ := zm (blk_below (g := gb285) zk hb); have n6_ := zm (below_step zb hb); clear HO290; clear HO294; clear HO300; clear BK284; clear BK285; clear HB; have HO290 := n0_; have HO294 := n1_; have HO300 := n2_; have HO304 := n3_; have BK284 := n4_; have BK285 := n5_; have HB := n6_; clear n0_ n1_ n2_ n3_ n4_ n5_ n6_; (try clear hb); (try clear hb2); (try clear hk); (try clear hi); (try clear ho0)) | ((with_reducible refine gate_dst (N := 10) rfl ?_); refine box_event ?hg (N := 10) ?hd (cs := #[.slice none 0 0, .int .i64 0]) (t := 32) ?hr ?_; (case hd => rfl); (case hg => rfl); (case hr => first | (go_simp; done) | (go_simp; rfl)); intro gb306 hg w41 hbox hb; have n0_ := zm (Kd.R_below (by (with_reducible repeat (first | apply Kd.R_alloc | apply Kd.R_drewN | apply Kd.R_drew)); exact HO290.out) hb); have n1_ := zm (Kd.R_below (by (with_reducible repeat (first | apply Kd.R_alloc | apply Kd.R_drewN | apply Kd.R_drew)); exact HO294.out) hb); have n2_ := zm (Kd.R_below (by (with_reducible repeat (first | apply Kd.R_alloc | apply Kd.R_drewN | apply Kd.R_drew)); exact HO300.out) hb); have n3_ := zm (Kd.R_below (by (with_reducible repeat (first | apply Kd.R_alloc | apply Kd.R_drewN | apply Kd.R_drew)); exact HO304.out) hb); have n4_ := zm (blk_below (g := gb284) zk hb); have n5_ := zm (blk_below (g := gb285) zk hb); have n6_ := zm (below_step zb hb); have n7_ := zm (hbox); have n8_ := zm (zs hg zb : w.heap.size ≤ gb306); have n9_ := zm (zs hg zb : w.heap.size ≤ gb306); have n10_ := zm (zl hg zk : gb284 ≠ gb306); have n11_ := zm (zg hg zk : gb306 ≠ gb284); have n12_ := zm (zl hg zk : gb285 ≠ gb306); have n13_ := zm (zg hg zk : gb306 ≠ gb285); clear HO290; clear HO294; clear HO300; clear HO304; clear BK284; clear BK285; clear HB; have HO290 := n0_; have HO294 := n1_; have HO300 := n2_; have HO304 := n3_; have BK284 := n4_; have BK285 := n5_; have HB := n6_; have BK306 := n7_; have GW306 := n8_; have GE306 := n9_; have NB284_306 := n10_; have NB306_284 := n11_; have NB285_306 := n12_; have NB306_285 := n13_; clear n0_ n1_ n2_ n3_ n4_ n5_ n6_ n7_ n8_ n9_ n10_ n11_ n12_ n13_; clear hb hbox hg; obtain ⟨Ao42, co42, eo42⟩ := Kd.R_slice HO304.out; subst eo42; have hnb43 := NB306_284.out; have hnc43 := NB284_306.out; have hnb44 := NB306_285.out; have hnc44 := NB285_306.out; obtain ⟨hcz45_0, hcz45_1, hfz45_0, hfz45_1⟩ := zc2 BK306.out) | ((with_reducible refine gate_callee (f := 15) rfl ?_); refine goesL_ (some 42) rfl rfl Try.func15 (by kernel_rfl) rfl #[.slice A1 l1.length c1] rfl (by (try simp only [List.map_toArray, List.map_cons, List.map_nil]); first | done | rfl | (simp only [List.length_drop, List.length_take]; rfl)) ?_; (with_reducible refine (laws_toHoleS.calls k _ _ l1 t307 _ ?side1 ?side2 A23.out).mono ?_); (case side1 => exact Kd.C_below HR1.out zb); (case side2 => exact HC1.out); rintro e w46 ⟨v308, rfl, ho0, hb⟩; refine ⟨_, rfl, ?_⟩; have n0_ := zm (Kd.R_below (by (with_reducible repeat (first | apply Kd.R_alloc | apply Kd.R_drewN | apply Kd.R_drew)); exact (Kd.R_mono (Kd.R_far (p := ⟨gb306, 1, none⟩) (Kd.R_far (p := ⟨gb306, 0, none⟩) (Kd.R_types HO290.out BK306.out (by decide)) (fun _ hk => hk.2) (.slice Ao42 t302.length co42)) (fun _ hk => hk.2) (.int .i64 t305)) (fun _ h_ => h_.1))) hb); have n1_ := zm (Kd.R_elder' (by (with_reducible repeat (first | apply Kd.R_alloc | apply Kd.R_drewN | apply Kd.R_drew)); exact (Kd.R_mono (Kd.R_far (p := ⟨gb306, 1, none⟩) (Kd.R_far (p := ⟨gb306, 0, none⟩) (Kd.R_types HO294.out BK306.out (by decide)) (fun _ hk => hk.2) (.slice Ao42 t302.length co42)) (fun _ hk => hk.2) (.int .i64 t305)) (fun _ h_ => h_.1))) (Kd.R_base ho0) hb); have n2_ := zm (Kd.R_below (by (with_reducible repeat (first | apply Kd.R_alloc | apply Kd.R_drewN | apply Kd.R_drew)); exact (Kd.R_mono (Kd.R_far (p := ⟨gb306, 1, none⟩) (Kd.R_far (p := ⟨gb306, 0, none⟩) (Kd.R_types HO300.out BK306.out (by decide)) (fun _ hk => hk.2) (.slice Ao42 t302.length co42)) (fun _ hk => hk.2) (.int .i64 t305)) (fun _ h_ => h_.1))) hb); have n3_ := zm (Kd.R_below (by (with_reducible repeat (first | apply Kd.R_alloc | apply Kd.R_drewN | apply Kd.R_drew)); exact (Kd.R_mono (Kd.R_far (p := ⟨gb306, 1, none⟩) (Kd.R_far (p := ⟨gb306, 0, none⟩) (Kd.R_types HO304.out BK306.out (by decide)) (fun _ hk => hk.2) (.slice Ao42 t302.length co42)) (fun _ hk => hk.2) (.int .i64 t305)) (fun _ h_ => h_.1))) hb); have n4_ := zm (Kd.R_lower (Kd.R_new' ho0 (Kd.R_lt (by (with_reducible repeat (first | apply Kd.R_alloc | apply Kd.R_drewN | apply Kd.R_drew)); exact (Kd.R_mono (Kd.R_far (p := ⟨gb306, 1, none⟩) (Kd.R_far (p := ⟨gb306, 0, none⟩) (Kd.R_types HO294.out BK306.out (by decide)) (fun _ hk => hk.2) (.slice Ao42 t302.length co42)) (fun _ hk => hk.2) (.int .i64 t305)) (fun _ h_ => h_.1))))) (below_size zb)); have n5_ := zm (blk_below (g := gb284) (o := .cells #[.slice A0_0 l0_0.length c0_0, .int .i64 a0_1] 24 (0, 0)) zK hb); have n6_ := zm (blk_below (g := gb285) (o := .cells #[.int .i64 a2_0, .int .i64 a2_1, .int .i64 a2_2] 27 (0, 0)) zK hb); have n7_ := zm (blk_below (g := gb306) (o := .cells #[.slice Ao42 t302.length co42, .int .i64 t305] 32 (0, 0)) (by (with_reducible repeat (first | refine blk_drewN ?_ _ | refine blk_drew ?_ | refine blk_alloc ?_ _)); refine blk_put (cs := #[.slice Ao42 t302.length co42, .int .i64 0]) ?_ 1 _ rfl; (with_reducible repeat (first | refine blk_drewN ?_ _ | refine blk_drew ?_ | refine blk_alloc ?_ _)); refine blk_put (cs := #[.slice none 0 0, .int .i64 0]) ?_ 0 _ rfl; (with_reducible repeat (first | refine blk_drewN ?_ _ | refine blk_drew ?_ | refine blk_alloc ?_ _)); exact BK306.out) hb); have n8_ := zm (below_step zb hb); clear HO290; clear HO294; clear HO300; clear HO304; clear BK284; clear BK285; clear BK306; clear HB; have HO290 := n0_; have HO294 := n1_; have HO300 := n2_; have HO304 := n3_; have HO309 := n4_; have BK284 := n5_; have BK285 := n6_; have BK306 := n7_; have HB := n8_; clear n0_ n1_ n2_ n3_ n4_ n5_ n6_ n7_ n8_; (try clear hb); (try clear hb2); (try clear hk); (try clear hi); (try clear ho0)))
   have n0_ := zm (Kd.R_drew HO290.out)
   have n1_ := zm (Kd.R_drew HO294.out)
   have n2_ := zm (Kd.R_drew HO300.out)
   have n3_ := zm (Kd.R_drew HO304.out)
   have n4_ := zm (Kd.R_drew HO309.out)
   have n5_ := zm (blk_drew BK284.out)
   have n6_ := zm (blk_drew BK285.out)
   have n7_ := zm (blk_drew BK306.out)
   have n8_ := zm (below_drew1 HB.out)
   clear HO290
   clear HO294
   clear HO300
   clear HO304
   clear HO309
   clear BK284
   clear BK285
   clear BK306
   clear HB
   have HO290 := n0_
   have HO294 := n1_
   have HO300 := n2_
   have HO304 := n3_
   have HO309 := n4_
   have BK284 := n5_
   have BK285 := n6_
   have BK306 := n7_
   have HB := n8_
   clear n0_ n1_ n2_ n3_ n4_ n5_ n6_ n7_ n8_
   refine start_ (n := 10) (S := fun w' => w'.cell? ⟨gb306, 0, none⟩ = some (.slice Ao42 t302.length co42) ∧ w'.cell? ⟨gb306, 1, none⟩ = some (.int .i64 t305) ∧ w'.cell? ⟨gb285, 0, none⟩ = some (.int .i64 a2_0) ∧ w'.cell? ⟨gb285, 1, none⟩ = some (.int .i64 a2_1) ∧ w'.cell? ⟨gb285, 2, none⟩ = some (.int .i64 a2_2)) (ds := []) #[false, false, false, false, false, false, false, false, false, false] (by kernel_rfl) rfl rfl ⟨(blk_cell BK306.out 0).trans rfl, (blk_cell BK306.out 1).trans rfl, (blk_cell BK285.out 0).trans rfl, (blk_cell BK285.out 1).trans rfl, (blk_cell BK285.out 2).trans rfl⟩ (fun hHeld => ?_); refine with_tabW laws_FnExactSilentHoles.tab11 laws_FnExactSilentHoles.bits11 (fun HT_ HW_ => ?_)
   generalize w46.drew = w47 at HO290 HO294 HO300 HO304 HO309 BK284 BK285 BK306 HB hHeld ⊢
   refine pure_ (i := 1) (N := some 45) (v := ?_) (a' := ?_) #[false, true, false, false, false, false, false, false, false, false] rfl rfl (any_of HT_.out (by kernel_rfl)) (fun _ _ _ h => h) (Or.inl ⟨by rfl, ?_⟩) ?_ ?_
   rotate_left
   ·
    intro w'
    go_simp
    with_reducible rfl
   rotate_left
   ·
    simp only [Act.put, zA, zB, zD, i64_w, i32_w]
    rfl
   refine take_ (i := 0) (N := some 44) (v := ?_) (a' := ?_) #[true, true, false, false, false, false, false, false, false, false] rfl rfl (take_ofW HT_.out HW_.out (by kernel_rfl)) (fun _ _ _ h => h) (Or.inl ⟨by rfl, ?_⟩) hHeld ?_ ?_
   rotate_left
   ·
    rintro w' ⟨s0, s1, s2, s3, s4⟩
    go_simp
    with_reducible rfl
   rotate_left
   ·
    simp only [Act.put, zA, zB, zD, i64_w, i32_w]
    rfl
   refine take_ (i := 2) (N := some 46) (v := ?_) (a' := ?_) #[true, true, true, false, false, false, false, false, false, false] rfl rfl (take_ofW HT_.out HW_.out (by kernel_rfl)) (fun _ _ _ h => h) (Or.inl ⟨by rfl, ?_⟩) hHeld ?_ ?_
   rotate_left
   ·
    rintro w' ⟨s0, s1, s2, s3, s4⟩
    go_simp
    with_reducible rfl
   rotate_left
   ·
    simp only [Act.put, zA, zB, zD, i64_w, i32_w]
    rfl
   refine one_ (i := 3) (N := some 47) #[true, true, true, true, false, false, false, false, false, false] rfl rfl (one_of HT_.out (by kernel_rfl)) (by decide) (fun K hK => ?_)
   refine goes_ Try.func16 (by kernel_rfl) rfl #[.agg #[.int .i64 a2_0, .int .i64 a2_1, .int .i64 a2_2]] (by rfl) rfl rfl (by (try simp only [List.map_toArray, List.map_cons, List.map_nil]); first | done | rfl | (simp only [List.length_drop, List.length_take]; rfl)) ?_
   with_reducible refine (laws_toAction.calls a2_0 a2_1 a2_2 t310 t311 t312 _ A24.out).mono ?_
   rintro e w48 ⟨rfl, hb⟩
   refine ⟨_, rfl, ?_⟩
   have n0_ := zm (Kd.R_below (by (with_reducible repeat (first | apply Kd.R_alloc | apply Kd.R_drewN | apply Kd.R_drew)); exact HO290.out) hb)
   have n1_ := zm (Kd.R_below (by (with_reducible repeat (first | apply Kd.R_alloc | apply Kd.R_drewN | apply Kd.R_drew)); exact HO294.out) hb)
   have n2_ := zm (Kd.R_below (by (with_reducible repeat (first | apply Kd.R_alloc | apply Kd.R_drewN | apply Kd.R_drew)); exact HO300.out) hb)
   have n3_ := zm (Kd.R_below (by (with_reducible repeat (first | apply Kd.R_alloc | apply Kd.R_drewN | apply Kd.R_drew)); exact HO304.out) hb)
   have n4_ := zm (Kd.R_below (by (with_reducible repeat (first | apply Kd.R_alloc | apply Kd.R_drewN | apply Kd.R_drew)); exact HO309.out) hb)
   have n5_ := zm (blk_below (g := gb284) zk hb)
   have n6_ := zm (blk_below (g := gb285) zk hb)
   have n7_ := zm (blk_below (g := gb306) zk hb)
   have n8_ := zm (below_step zb hb)
   clear HO290
   clear HO294
   clear HO300
   clear HO304
   clear HO309
   clear BK284
   clear BK285
   clear BK306
   clear HB
   have HO290 := n0_
   have HO294 := n1_
   have HO300 := n2_
   have HO304 := n3_
   have HO309 := n4_
   have BK284 := n5_
   have BK285 := n6_
   have BK306 := n7_
   have HB := n8_
   clear n0_ n1_ n2_ n3_ n4_ n5_ n6_ n7_ n8_
   (try clear hb)
   (try clear hb2)
   (try clear hk)
   (try clear hi)
   obtain ⟨Ao49, co49, eo49⟩ := Kd.R_slice HO309.out
   (first | subst eo49 | (injection eo49 with f1_ f2_ f3_; have f4_ := f1_.symm; have f5_ := f3_.symm; clear f1_ f2_ f3_; subst f4_; subst f5_))
   refine hK.out _ _ ⟨(blk_cell BK306.out 0).trans rfl, (blk_cell BK306.out 1).trans rfl, (blk_cell BK285.out 0).trans rfl, (blk_cell BK285.out 1).trans rfl, (blk_cell BK285.out 2).trans rfl⟩ (fun hHeld => ?_)
   clear hK K
   refine norm_ (a' := ?_) ?_ ?_
   rotate_left
   ·
    show Act.put _ (some 47) _ = _
    simp only [Act.put, zA, zB, zD, i64_w, i32_w]
    rfl
   refine one_ (i := 4) (N := some 48) #[true, true, true, true, true, false, false, false, false, false] rfl rfl (one_of HT_.out (by kernel_rfl)) (by decide) (fun K hK => ?_)
   refine goes_ Try.func21 (by kernel_rfl) rfl #[.agg #[.slice Ao42 t302.length co42, .int .i64 t305], .slice Ao49 t307.length co49, .agg #[.int .i64 t310, .int .i64 t311, .int .i64 t312]] (by rfl) rfl rfl (by (try simp only [List.map_toArray, List.map_cons, List.map_nil]); first | done | rfl | (simp only [List.length_drop, List.length_take]; rfl)) ?_
   with_reducible refine (impl_SilentHoles.calls k _ _ t302 t305 _ _ t307 t310 t311 t312 t313 t316 _ ?side1 ?side2 ?side3 ?side4 A25.out).mono ?_
   (case side1 => repeat (first | exact (Kd.R_reads' HO304.out).2.2 | (with_reducible refine Kd.C_alloc ?_ _) | (with_reducible refine Kd.C_drewN ?_ _) | (with_reducible refine Kd.C_drew ?_)))
   (case side2 => exact (Kd.R_reads' HO304.out).2.1)
   (case side3 => repeat (first | exact (Kd.R_reads' HO309.out).2.2 | (with_reducible refine Kd.C_alloc ?_ _) | (with_reducible refine Kd.C_drewN ?_ _) | (with_reducible refine Kd.C_drew ?_)))
   (case side4 => exact (Kd.R_reads' HO309.out).2.1)
   rintro e w50 ⟨v314, rfl, ho0, hb⟩
   refine ⟨_, rfl, ?_⟩
   have n0_ := zm (Kd.R_elder' (by (with_reducible repeat (first | apply Kd.R_alloc | apply Kd.R_drewN | apply Kd.R_drew)); exact HO290.out) (Kd.R_base ho0) hb)
   have n1_ := zm (Kd.R_below (by (with_reducible repeat (first | apply Kd.R_alloc | apply Kd.R_drewN | apply Kd.R_drew)); exact HO294.out) hb)
   have n2_ := zm (Kd.R_elder' (by (with_reducible repeat (first | apply Kd.R_alloc | apply Kd.R_drewN | apply Kd.R_drew)); exact HO300.out) (Kd.R_base ho0) hb)
   have n3_ := zm (Kd.R_elder' (by (with_reducible repeat (first | apply Kd.R_alloc | apply Kd.R_drewN | apply Kd.R_drew)); exact HO304.out) (Kd.R_base ho0) hb)
   have n4_ := zm (Kd.R_below (by (with_reducible repeat (first | apply Kd.R_alloc | apply Kd.R_drewN | apply Kd.R_drew)); exact HO309.out) hb)
   have n5_ := zm (Kd.R_lower (Kd.R_new' (Kd.R_new' (Kd.R_new' ho0 (Kd.R_lt (by (with_reducible repeat (first | apply Kd.R_alloc | apply Kd.R_drewN | apply Kd.R_drew)); exact HO290.out))) (Kd.R_lt (by (with_reducible repeat (first | apply Kd.R_alloc | apply Kd.R_drewN | apply Kd.R_drew)); exact HO300.out))) (Kd.R_lt (by (with_reducible repeat (first | apply Kd.R_alloc | apply Kd.R_drewN | apply Kd.R_drew)); exact HO304.out))) (below_size zb))
   have n6_ := zm (blk_below (g := gb284) zk hb)
   have n7_ := zm (blk_below (g := gb285) zk hb)
   have n8_ := zm (blk_below (g := gb306) zk hb)
   have n9_ := zm (below_step zb hb)
   clear HO290
   clear HO294
   clear HO300
   clear HO304
   clear HO309
   clear BK284
   clear BK285
   clear BK306
   clear HB
   have HO290 := n0_
   have HO294 := n1_
   have HO300 := n2_
   have HO304 := n3_
   have HO309 := n4_
   have HO315 := n5_
   have BK284 := n6_
   have BK285 := n7_
   have BK306 := n8_
   have HB := n9_
   clear n0_ n1_ n2_ n3_ n4_ n5_ n6_ n7_ n8_ n9_
   (try clear hb)
   (try clear hb2)
   (try clear hk)
   (try clear hi)
   (try clear ho0)
   refine hK.out _ _ ⟨(blk_cell BK306.out 0).trans rfl, (blk_cell BK306.out 1).trans rfl, (blk_cell BK285.out 0).trans rfl, (blk_cell BK285.out 1).trans rfl, (blk_cell BK285.out 2).trans rfl⟩ (fun hHeld => ?_)
   clear hK K
   refine norm_ (a' := ?_) ?_ ?_
   rotate_left
   ·
    show Act.put _ (some 48) _ = _
    simp only [Act.put, zA, zB, zD, i64_w, i32_w]
    rfl
   refine pure_ (i := 5) (N := some 43) (v := ?_) (a' := ?_) #[true, true, true, true, true, true, false, false, false, false] rfl rfl (any_of HT_.out (by kernel_rfl)) (fun _ _ _ h => h) (Or.inl ⟨by rfl, ?_⟩) ?_ ?_
   rotate_left
   ·
    intro w'
    go_simp
    with_reducible rfl
   rotate_left
   ·
    simp only [Act.put, zA, zB, zD, i64_w, i32_w]
    rfl
   refine pure_ (i := 6) (N := some 49) (v := ?_) (a' := ?_) #[true, true, true, true, true, true, true, false, false, false] rfl rfl (any_of HT_.out (by kernel_rfl)) (fun _ _ _ h => h) (Or.inl ⟨by rfl, ?_⟩) ?_ ?_
   rotate_left
   ·
    intro w'
    go_simp
    with_reducible rfl
   rotate_left
   ·
    simp only [Act.put, zA, zB, zD, i64_w, i32_w]
    rfl
   refine pure_ (i := 7) (N := some 50) (v := ?_) (a' := ?_) #[true, true, true, true, true, true, true, true, false, false] rfl rfl (any_of HT_.out (by kernel_rfl)) (fun _ _ _ h => h) (Or.inl ⟨by rfl, ?_⟩) ?_ ?_
   rotate_left
   ·
    intro w'
    go_simp
    with_reducible rfl
   rotate_left
   ·
    simp only [Act.put, zA, zB, zD, i64_w, i32_w]
    rfl
   refine pure_ (i := 8) (N := some 12) (v := ?_) (a' := ?_) #[true, true, true, true, true, true, true, true, true, false] rfl rfl (any_of HT_.out (by kernel_rfl)) (fun _ _ _ h => h) (Or.inl ⟨by rfl, ?_⟩) ?_ ?_
   rotate_left
   ·
    intro w'
    go_simp
    with_reducible rfl
   rotate_left
   ·
    simp only [Act.put, zA, zB, zD, i64_w, i32_w]
    rfl
   refine pure_ (i := 9) (N := some 13) (v := ?_) (a' := ?_) #[true, true, true, true, true, true, true, true, true, true] rfl rfl (any_of HT_.out (by kernel_rfl)) (fun _ _ _ h => h) (Or.inl ⟨by rfl, ?_⟩) ?_ ?_
   rotate_left
   ·
    intro w'
    go_simp
    with_reducible rfl
   rotate_left
   ·
    simp only [Act.put, zA, zB, zD, i64_w, i32_w]
    rfl
   refine done_ (done_of HT_.out (by kernel_rfl)) ?_
   go_upto_region 12 with (fail)
   go_cut [59] (fun v59 wc => ∃ (kq : Nat) (x59_25 : Bool), v59 = .bool x59_25 ∧ Aside0 (laws_FnExactSilentHoles.j0 kq l1 t298 t301 t307 t313 t316 x59_25 l0_0 a0_1 a2_0 a2_1 a2_2 t302 t305 = some r) ∧ Aside0 (kq ≤ k) ∧ Aside0 (Kd.R (Kd.int .i64) 3 wc w.heap.size (fun k_ => some k_ ≠ (v314 : Value).ownBlock ∧ some k_ ≠ ((.slice Ao42 t302.length co42) : Value).ownBlock) v299 t298) ∧ Aside0 (Kd.R k73 73 wc w.heap.size (fun _ => True) (.slice Ao49 t307.length co49) t307) ∧ Aside0 (Kd.R (Kd.int .i64) 3 wc w.heap.size (fun k_ => some k_ ≠ (v299 : Value).ownBlock ∧ some k_ ≠ ((.slice Ao42 t302.length co42) : Value).ownBlock) v314 t313) ∧ Aside0 (Kd.R (Kd.int .i64) 3 wc w.heap.size (fun k_ => some k_ ≠ (v299 : Value).ownBlock ∧ some k_ ≠ (v314 : Value).ownBlock) (.slice Ao42 t302.length co42) t302) ∧ Aside0 (wc.heap[gb284]? = some (.cells #[(.slice A0_0 l0_0.length c0_0), .int .i64 a0_1] 24 (0, 0))) ∧ Aside0 (wc.heap[gb285]? = some (.cells #[.int .i64 a2_0, .int .i64 a2_1, .int .i64 a2_2] 27 (0, 0))) ∧ Aside0 (wc.heap[gb306]? = some (.cells #[(.slice Ao42 t302.length co42), .int .i64 t305] 32 (0, 0))) ∧ Aside0 (Below w.heap.size w wc))
   case first =>
    have H := HC26.out
    clear HC26
    replace H := Option.bind_eq_some_iff.mp H
    obtain ⟨t317, A510, H⟩ := H
    replace H : (if t317 = true then (laws_FnExactSilentHoles.j0 k l1 t298 t301 t307 t313 t316 (t316 != t301) l0_0 a0_1 a2_0 a2_1 a2_2 t302 t305) else (laws_FnExactSilentHoles.j0 k l1 t298 t301 t307 t313 t316 true l0_0 a0_1 a2_0 a2_1 a2_2 t302 t305)) = some r := H
    have A51 := zm A510
    clear A510
    by_cases c52 : t317 = true
    ·
     subst c52
     have H1 : (laws_FnExactSilentHoles.j0 k l1 t298 t301 t307 t313 t316 (t316 != t301) l0_0 a0_1 a2_0 a2_1 a2_2 t302 t305) = some r := by rw [if_pos rfl] at H; exact H
     clear H
     have H := H1
     clear H1
     have H' := zm H
     clear H
     obtain ⟨Ao53, co53, eo53⟩ := Kd.R_slice HO315.out
     subst eo53
     obtain ⟨Ao54, co54, eo54⟩ := Kd.R_slice HO300.out
     subst eo54
     go_wp2_with (first | ((with_reducible refine gate_callee (f := 22) rfl ?_); refine goesL_ (some 53) rfl rfl Try.func22 (by kernel_rfl) rfl #[.slice Ao53 t313.length co53, .slice Ao54 t298.length co54] rfl (by (try simp only [List.map_toArray, List.map_cons, List.map_nil]); first | done | rfl | (simp only [List.length_drop, List.length_take]; rfl)) ?_; (with_reducible refine (laws_eqIntS.calls k _ _ t313 _ _ t298 true _ ?side1 ?side2 ?side3 ?side4 A51.out).mono ?_); (case side1 => repeat (first | exact (Kd.R_reads' HO315.out).2.2 | (with_reducible refine Kd.C_alloc ?_ _) | (with_reducible refine Kd.C_drewN ?_ _) | (with_reducible refine Kd.C_drew ?_))); (case side2 => exact (Kd.R_reads' HO315.out).2.1); (case side3 => repeat (first | exact (Kd.R_reads' HO300.out).2.2 | (with_reducible refine Kd.C_alloc ?_ _) | (with_reducible refine Kd.C_drewN ?_ _) | (with_reducible refine Kd.C_drew ?_))); (case side4 => exact (Kd.R_reads' HO300.out).2.1); rintro e w' ⟨rfl, ⟨nd, rfl⟩⟩; refine ⟨_, rfl, ?_⟩))
     go_meet
     case rel => exact ⟨_, ((t316 != t301)), (by first | rfl | (simp; done) | (simp [*]; done)), H', ⟨by first | omega | exact Nat.le_refl _⟩, ⟨by (with_reducible repeat (first | apply Kd.R_alloc | apply Kd.R_drewN | apply Kd.R_drew)); exact Kd.R_mono HO300.out (fun _ hk => ⟨hk.2, hk.1.2⟩)⟩, ⟨by (with_reducible repeat (first | apply Kd.R_alloc | apply Kd.R_drewN | apply Kd.R_drew)); exact Kd.R_mono HO309.out (fun _ hk => trivial)⟩, ⟨by (with_reducible repeat (first | apply Kd.R_alloc | apply Kd.R_drewN | apply Kd.R_drew)); exact Kd.R_mono HO315.out (fun _ hk => ⟨hk.1.2, hk.2⟩)⟩, ⟨by (with_reducible repeat (first | apply Kd.R_alloc | apply Kd.R_drewN | apply Kd.R_drew)); exact Kd.R_mono HO304.out (fun _ hk => ⟨hk.1.2, hk.2⟩)⟩, ⟨zk⟩, ⟨zk⟩, ⟨zk⟩, ⟨zb⟩⟩
    ·
     replace c52 := Bool.eq_false_iff.mpr c52
     subst c52
     have H1 : (laws_FnExactSilentHoles.j0 k l1 t298 t301 t307 t313 t316 true l0_0 a0_1 a2_0 a2_1 a2_2 t302 t305) = some r := by rw [if_neg (show ¬ (false = true) by decide)] at H; exact H
     clear H
     have H := H1
     clear H1
     exact (laws_FnExactSilentHoles.j0_t (H.trans (congrArg some hr_))).elim
   case rest =>
    clear HC26
    try clear c1
    try clear c2
    try clear p2
    try clear c4
    try clear c5
    try clear c5b0
    try clear c8
    try clear c11
    try clear c12
    try clear c12b0
    try clear c14
    try clear c15
    try clear c16
    try clear c20
    try clear c21
    try clear c22
    try clear c29
    try clear c43
    try clear c44
    try clear c52
    try clear hcz16_0
    try clear hcz16_1
    try clear hcz30_0
    try clear hcz30_1
    try clear hcz39_0
    try clear hcz39_1
    try clear hcz45_0
    try clear hcz45_1
    try clear hcz9_0
    try clear hcz9_1
    try clear hfz16_0
    try clear hfz16_1
    try clear hfz30_0
    try clear hfz30_1
    try clear hfz39_0
    try clear hfz39_1
    try clear hfz45_0
    try clear hfz45_1
    try clear hfz9_0
    try clear hfz9_1
    obtain ⟨kq, x59_25, rfl, HA, HJ25, HO_8, HO_11, HO_12, HO_307000, BK284, BK285, BK306, HB⟩ := hcut
    cases kq with
    | zero => exact absurd HA.out (by simp [laws_FnExactSilentHoles.j0])
    | succ kj25 =>
     have H := HA.out
     clear HA
     simp only [laws_FnExactSilentHoles.j0] at H
     by_cases c55 : x59_25 = true
     ·
      subst c55
      have H1 : (some false) = some r := by rw [if_pos rfl] at H; exact H
      clear H
      have H := H1
      clear H1
      exact absurd ((Option.some.inj H).trans hr_) (by decide)
     ·
      replace c55 := Bool.eq_false_iff.mpr c55
      subst c55
      have H1 : ((laws_toInstrument.f kj25 l0_0 a0_1).bind fun bt318 => ((laws_eqInstrument.f kj25 t302 t305 bt318.1 bt318.2).bind fun t322 => (if t322 = true then ((laws_toHoleS.f kj25 l1).bind fun t323 => ((laws_eqHoleS.f kj25 t307 t323).bind fun t326 => (if t326 = true then ((laws_markInstrument.f kj25 t302 t305 1).bind fun bt327 => ((laws_markHoleS.f kj25 t307 bt327.1).bind fun bt329 => (if bt329.1 < 0 then (laws_FnExactSilentHoles.j1 kj25 l1 t298 t301 t313 true l0_0 a0_1 a2_0 a2_1 a2_2) else ((laws_eqIntS.f kj25 t313 t298).bind fun t331 => (if t331 = true then (laws_FnExactSilentHoles.j1 kj25 l1 t298 t301 t313 (t316 != t301) l0_0 a0_1 a2_0 a2_1 a2_2) else (laws_FnExactSilentHoles.j1 kj25 l1 t298 t301 t313 true l0_0 a0_1 a2_0 a2_1 a2_2)))))) else (some false)))) else (some false)))) = some r := by rw [if_neg (show ¬ (false = true) by decide)] at H; exact H
      clear H
      have H := H1
      clear H1
      replace H := Option.bind_eq_some_iff.mp H
      obtain ⟨⟨t318, t321⟩, A560, H⟩ := H
      replace H : ((laws_eqInstrument.f kj25 t302 t305 t318 t321).bind fun t322 => (if t322 = true then ((laws_toHoleS.f kj25 l1).bind fun t323 => ((laws_eqHoleS.f kj25 t307 t323).bind fun t326 => (if t326 = true then ((laws_markInstrument.f kj25 t302 t305 1).bind fun bt327 => ((laws_markHoleS.f kj25 t307 bt327.1).bind fun bt329 => (if bt329.1 < 0 then (laws_FnExactSilentHoles.j1 kj25 l1 t298 t301 t313 true l0_0 a0_1 a2_0 a2_1 a2_2) else ((laws_eqIntS.f kj25 t313 t298).bind fun t331 => (if t331 = true then (laws_FnExactSilentHoles.j1 kj25 l1 t298 t301 t313 (t316 != t301) l0_0 a0_1 a2_0 a2_1 a2_2) else (laws_FnExactSilentHoles.j1 kj25 l1 t298 t301 t313 true l0_0 a0_1 a2_0 a2_1 a2_2)))))) else (some false)))) else (some false))) = some r := H
      have A56 := zm A560
      clear A560
      replace H := Option.bind_eq_some_iff.mp H
      obtain ⟨t322, A570, H⟩ := H
      replace H : (if t322 = true then ((laws_toHoleS.f kj25 l1).bind fun t323 => ((laws_eqHoleS.f kj25 t307 t323).bind fun t326 => (if t326 = true then ((laws_markInstrument.f kj25 t302 t305 1).bind fun bt327 => ((laws_markHoleS.f kj25 t307 bt327.1).bind fun bt329 => (if bt329.1 < 0 then (laws_FnExactSilentHoles.j1 kj25 l1 t298 t301 t313 true l0_0 a0_1 a2_0 a2_1 a2_2) else ((laws_eqIntS.f kj25 t313 t298).bind fun t331 => (if t331 = true then (laws_FnExactSilentHoles.j1 kj25 l1 t298 t301 t313 (t316 != t301) l0_0 a0_1 a2_0 a2_1 a2_2) else (laws_FnExactSilentHoles.j1 kj25 l1 t298 t301 t313 true l0_0 a0_1 a2_0 a2_1 a2_2)))))) else (some false)))) else (some false)) = some r := H
      have A57 := zm A570
      clear A570
      by_cases c58 : t322 = true
      ·
       subst c58
       have H1 : ((laws_toHoleS.f kj25 l1).bind fun t323 => ((laws_eqHoleS.f kj25 t307 t323).bind fun t326 => (if t326 = true then ((laws_markInstrument.f kj25 t302 t305 1).bind fun bt327 => ((laws_markHoleS.f kj25 t307 bt327.1).bind fun bt329 => (if bt329.1 < 0 then (laws_FnExactSilentHoles.j1 kj25 l1 t298 t301 t313 true l0_0 a0_1 a2_0 a2_1 a2_2) else ((laws_eqIntS.f kj25 t313 t298).bind fun t331 => (if t331 = true then (laws_FnExactSilentHoles.j1 kj25 l1 t298 t301 t313 (t316 != t301) l0_0 a0_1 a2_0 a2_1 a2_2) else (laws_FnExactSilentHoles.j1 kj25 l1 t298 t301 t313 true l0_0 a0_1 a2_0 a2_1 a2_2)))))) else (some false)))) = some r := by rw [if_pos rfl] at H; exact H
       clear H
       have H := H1
       clear H1
       replace H := Option.bind_eq_some_iff.mp H
       obtain ⟨t323, A590, H⟩ := H
       replace H : ((laws_eqHoleS.f kj25 t307 t323).bind fun t326 => (if t326 = true then ((laws_markInstrument.f kj25 t302 t305 1).bind fun bt327 => ((laws_markHoleS.f kj25 t307 bt327.1).bind fun bt329 => (if bt329.1 < 0 then (laws_FnExactSilentHoles.j1 kj25 l1 t298 t301 t313 true l0_0 a0_1 a2_0 a2_1 a2_2) else ((laws_eqIntS.f kj25 t313 t298).bind fun t331 => (if t331 = true then (laws_FnExactSilentHoles.j1 kj25 l1 t298 t301 t313 (t316 != t301) l0_0 a0_1 a2_0 a2_1 a2_2) else (laws_FnExactSilentHoles.j1 kj25 l1 t298 t301 t313 true l0_0 a0_1 a2_0 a2_1 a2_2)))))) else (some false))) = some r := H
       have A59 := zm A590
       clear A590
       replace H := Option.bind_eq_some_iff.mp H
       obtain ⟨t326, A600, H⟩ := H
       replace H : (if t326 = true then ((laws_markInstrument.f kj25 t302 t305 1).bind fun bt327 => ((laws_markHoleS.f kj25 t307 bt327.1).bind fun bt329 => (if bt329.1 < 0 then (laws_FnExactSilentHoles.j1 kj25 l1 t298 t301 t313 true l0_0 a0_1 a2_0 a2_1 a2_2) else ((laws_eqIntS.f kj25 t313 t298).bind fun t331 => (if t331 = true then (laws_FnExactSilentHoles.j1 kj25 l1 t298 t301 t313 (t316 != t301) l0_0 a0_1 a2_0 a2_1 a2_2) else (laws_FnExactSilentHoles.j1 kj25 l1 t298 t301 t313 true l0_0 a0_1 a2_0 a2_1 a2_2)))))) else (some false)) = some r := H
       have A60 := zm A600
       clear A600
       by_cases c61 : t326 = true
       ·
        subst c61
        have H1 : ((laws_markInstrument.f kj25 t302 t305 1).bind fun bt327 => ((laws_markHoleS.f kj25 t307 bt327.1).bind fun bt329 => (if bt329.1 < 0 then (laws_FnExactSilentHoles.j1 kj25 l1 t298 t301 t313 true l0_0 a0_1 a2_0 a2_1 a2_2) else ((laws_eqIntS.f kj25 t313 t298).bind fun t331 => (if t331 = true then (laws_FnExactSilentHoles.j1 kj25 l1 t298 t301 t313 (t316 != t301) l0_0 a0_1 a2_0 a2_1 a2_2) else (laws_FnExactSilentHoles.j1 kj25 l1 t298 t301 t313 true l0_0 a0_1 a2_0 a2_1 a2_2)))))) = some r := by rw [if_pos rfl] at H; exact H
        clear H
        have H := H1
        clear H1
        replace H := Option.bind_eq_some_iff.mp H
        obtain ⟨⟨t327, t328⟩, A620, H⟩ := H
        replace H : ((laws_markHoleS.f kj25 t307 t327).bind fun bt329 => (if bt329.1 < 0 then (laws_FnExactSilentHoles.j1 kj25 l1 t298 t301 t313 true l0_0 a0_1 a2_0 a2_1 a2_2) else ((laws_eqIntS.f kj25 t313 t298).bind fun t331 => (if t331 = true then (laws_FnExactSilentHoles.j1 kj25 l1 t298 t301 t313 (t316 != t301) l0_0 a0_1 a2_0 a2_1 a2_2) else (laws_FnExactSilentHoles.j1 kj25 l1 t298 t301 t313 true l0_0 a0_1 a2_0 a2_1 a2_2))))) = some r := H
        have A62 := zm A620
        clear A620
        replace H := Option.bind_eq_some_iff.mp H
        obtain ⟨⟨t329, t330⟩, A630, H⟩ := H
        replace H : (if t329 < 0 then (laws_FnExactSilentHoles.j1 kj25 l1 t298 t301 t313 true l0_0 a0_1 a2_0 a2_1 a2_2) else ((laws_eqIntS.f kj25 t313 t298).bind fun t331 => (if t331 = true then (laws_FnExactSilentHoles.j1 kj25 l1 t298 t301 t313 (t316 != t301) l0_0 a0_1 a2_0 a2_1 a2_2) else (laws_FnExactSilentHoles.j1 kj25 l1 t298 t301 t313 true l0_0 a0_1 a2_0 a2_1 a2_2)))) = some r := H
        have A63 := zm A630
        clear A630
        have HC64 := zm H
        clear H
        try go_wp2
        have n0_ := zm (Kd.R_drew HO_8.out)
        have n1_ := zm (Kd.R_drew HO_11.out)
        have n2_ := zm (Kd.R_drew HO_12.out)
        have n3_ := zm (Kd.R_drew HO_307000.out)
        have n4_ := zm (blk_drew BK284.out)
        have n5_ := zm (blk_drew BK285.out)
        have n6_ := zm (blk_drew BK306.out)
        have n7_ := zm (below_drew1 HB.out)
        clear HO_8
        clear HO_11
        clear HO_12
        clear HO_307000
        clear BK284
        clear BK285
        clear BK306
        clear HB
        have HO_8 := n0_
        have HO_11 := n1_
        have HO_12 := n2_
        have HO_307000 := n3_
        have BK284 := n4_
        have BK285 := n5_
        have BK306 := n6_
        have HB := n7_
        clear n0_ n1_ n2_ n3_ n4_ n5_ n6_ n7_
        refine start_ (n := 5) (S := fun w' => w'.cell? ⟨gb306, 0, none⟩ = some (.slice Ao42 t302.length co42) ∧ w'.cell? ⟨gb306, 1, none⟩ = some (.int .i64 t305) ∧ w'.cell? ⟨gb284, 0, none⟩ = some (.slice A0_0 l0_0.length c0_0) ∧ w'.cell? ⟨gb284, 1, none⟩ = some (.int .i64 a0_1)) (ds := []) #[false, false, false, false, false] (by kernel_rfl) rfl rfl ⟨(blk_cell BK306.out 0).trans rfl, (blk_cell BK306.out 1).trans rfl, (blk_cell BK284.out 0).trans rfl, (blk_cell BK284.out 1).trans rfl⟩ (fun hHeld => ?_)
        generalize wc.drew = w65 at HO_8 HO_11 HO_12 HO_307000 BK284 BK285 BK306 HB hHeld ⊢
        refine take_ (i := 0) (N := some 60) (v := ?_) (a' := ?_) #[true, false, false, false, false] rfl rfl (by kernel_rfl) (fun _ _ _ h => h) (Or.inl ⟨by rfl, ?_⟩) hHeld ?_ ?_
        rotate_left
        ·
         rintro w' ⟨s0, s1, s2, s3⟩
         go_simp
         with_reducible rfl
        rotate_left
        ·
         simp only [Act.put, zA, zB, zD, i64_w, i32_w]
         rfl
        refine take_ (i := 1) (N := some 61) (v := ?_) (a' := ?_) #[true, true, false, false, false] rfl rfl (by kernel_rfl) (fun _ _ _ h => h) (Or.inl ⟨by rfl, ?_⟩) hHeld ?_ ?_
        rotate_left
        ·
         rintro w' ⟨s0, s1, s2, s3⟩
         go_simp
         with_reducible rfl
        rotate_left
        ·
         simp only [Act.put, zA, zB, zD, i64_w, i32_w]
         rfl
        refine one_ (i := 2) (N := some 62) #[true, true, true, false, false] rfl rfl (by kernel_rfl) (by decide) (fun K hK => ?_)
        refine goes_ Try.func14 (by kernel_rfl) rfl #[.agg #[.slice A0_0 l0_0.length c0_0, .int .i64 a0_1]] (by rfl) rfl rfl (by (try simp only [List.map_toArray, List.map_cons, List.map_nil]); first | done | rfl | (simp only [List.length_drop, List.length_take]; rfl)) ?_
        with_reducible refine (laws_toInstrument.calls kj25 _ _ l0_0 a0_1 t318 t321 _ ?side1 ?side2 A56.out).mono ?_
        (case side1 => repeat (first | exact (Kd.C_below HR0_0.out HB.out) | (with_reducible refine Kd.C_alloc ?_ _) | (with_reducible refine Kd.C_drewN ?_ _) | (with_reducible refine Kd.C_drew ?_)))
        (case side2 => exact HC0_0.out)
        rintro e w66 ⟨v319, rfl, ho0, hb⟩
        refine ⟨_, rfl, ?_⟩
        have n0_ := zm (Kd.R_elder' (by (with_reducible repeat (first | apply Kd.R_alloc | apply Kd.R_drewN | apply Kd.R_drew)); exact HO_8.out) (Kd.R_base ho0) hb)
        have n1_ := zm (Kd.R_below (by (with_reducible repeat (first | apply Kd.R_alloc | apply Kd.R_drewN | apply Kd.R_drew)); exact HO_11.out) hb)
        have n2_ := zm (Kd.R_elder' (by (with_reducible repeat (first | apply Kd.R_alloc | apply Kd.R_drewN | apply Kd.R_drew)); exact HO_12.out) (Kd.R_base ho0) hb)
        have n3_ := zm (Kd.R_elder' (by (with_reducible repeat (first | apply Kd.R_alloc | apply Kd.R_drewN | apply Kd.R_drew)); exact HO_307000.out) (Kd.R_base ho0) hb)
        have n4_ := zm (Kd.R_lower (Kd.R_new' (Kd.R_new' (Kd.R_new' ho0 (Kd.R_lt (by (with_reducible repeat (first | apply Kd.R_alloc | apply Kd.R_drewN | apply Kd.R_drew)); exact HO_8.out))) (Kd.R_lt (by (with_reducible repeat (first | apply Kd.R_alloc | apply Kd.R_drewN | apply Kd.R_drew)); exact HO_12.out))) (Kd.R_lt (by (with_reducible repeat (first | apply Kd.R_alloc | apply Kd.R_drewN | apply Kd.R_drew)); exact HO_307000.out))) (below_size zb))
        have n5_ := zm (blk_below (g := gb284) zk hb)
        have n6_ := zm (blk_below (g := gb285) zk hb)
        have n7_ := zm (blk_below (g := gb306) zk hb)
        have n8_ := zm (below_step zb hb)
        clear HO_8
        clear HO_11
        clear HO_12
        clear HO_307000
        clear BK284
        clear BK285
        clear BK306
        clear HB
        have HO_8 := n0_
        have HO_11 := n1_
        have HO_12 := n2_
        have HO_307000 := n3_
        have HO320 := n4_
        have BK284 := n5_
        have BK285 := n6_
        have BK306 := n7_
        have HB := n8_
        clear n0_ n1_ n2_ n3_ n4_ n5_ n6_ n7_ n8_
        (try clear hb)
        (try clear hb2)
        (try clear hk)
        (try clear hi)
        (try clear ho0)
        obtain ⟨Ao67, co67, eo67⟩ := Kd.R_slice HO320.out
        (first | subst eo67 | (injection eo67 with f1_ f2_ f3_; have f4_ := f1_.symm; have f5_ := f3_.symm; clear f1_ f2_ f3_; subst f4_; subst f5_))
        refine hK.out _ _ ⟨(blk_cell BK306.out 0).trans rfl, (blk_cell BK306.out 1).trans rfl, (blk_cell BK284.out 0).trans rfl, (blk_cell BK284.out 1).trans rfl⟩ (fun hHeld => ?_)
        clear hK K
        refine norm_ (a' := ?_) ?_ ?_
        rotate_left
        ·
         show Act.put _ (some 62) _ = _
         simp only [Act.put, zA, zB, zD, i64_w, i32_w]
         rfl
        refine one_ (i := 3) (N := some 63) #[true, true, true, true, false] rfl rfl (by kernel_rfl) (by decide) (fun K hK => ?_)
        refine goes_ Try.func18 (by kernel_rfl) rfl #[.agg #[.slice Ao42 t302.length co42, .int .i64 t305], .agg #[.slice Ao67 t318.length co67, .int .i64 t321]] (by rfl) rfl rfl (by (try simp only [List.map_toArray, List.map_cons, List.map_nil]); first | done | rfl | (simp only [List.length_drop, List.length_take]; rfl)) ?_
        with_reducible refine (laws_eqInstrument.calls kj25 _ _ t302 t305 _ _ t318 t321 true _ ?side1 ?side2 ?side3 ?side4 A57.out).mono ?_
        (case side1 => repeat (first | exact (Kd.R_reads' HO_307000.out).2.2 | (with_reducible refine Kd.C_alloc ?_ _) | (with_reducible refine Kd.C_drewN ?_ _) | (with_reducible refine Kd.C_drew ?_)))
        (case side2 => exact (Kd.R_reads' HO_307000.out).2.1)
        (case side3 => repeat (first | exact (Kd.R_reads' HO320.out).2.2 | (with_reducible refine Kd.C_alloc ?_ _) | (with_reducible refine Kd.C_drewN ?_ _) | (with_reducible refine Kd.C_drew ?_)))
        (case side4 => exact (Kd.R_reads' HO320.out).2.1)
        rintro e w68 ⟨rfl, hb⟩
        refine ⟨_, rfl, ?_⟩
        have n0_ := zm (Kd.R_below (by (with_reducible repeat (first | apply Kd.R_alloc | apply Kd.R_drewN | apply Kd.R_drew)); exact HO_8.out) hb)
        have n1_ := zm (Kd.R_below (by (with_reducible repeat (first | apply Kd.R_alloc | apply Kd.R_drewN | apply Kd.R_drew)); exact HO_11.out) hb)
        have n2_ := zm (Kd.R_below (by (with_reducible repeat (first | apply Kd.R_alloc | apply Kd.R_drewN | apply Kd.R_drew)); exact HO_12.out) hb)
        have n3_ := zm (Kd.R_below (by (with_reducible repeat (first | apply Kd.R_alloc | apply Kd.R_drewN | apply Kd.R_drew)); exact HO_307000.out) hb)
        have n4_ := zm (Kd.R_below (by (with_reducible repeat (first | apply Kd.R_alloc | apply Kd.R_drewN | apply Kd.R_drew)); exact HO320.out) hb)
        have n5_ := zm (blk_below (g := gb284) zk hb)
        have n6_ := zm (blk_below (g := gb285) zk hb)
        have n7_ := zm (blk_below (g := gb306) zk hb)
        have n8_ := zm (below_step zb hb)
        clear HO_8
        clear HO_11
        clear HO_12
        clear HO_307000
        clear HO320
        clear BK284
        clear BK285
        clear BK306
        clear HB
        have HO_8 := n0_
        have HO_11 := n1_
        have HO_12 := n2_
        have HO_307000 := n3_
        have HO320 := n4_
        have BK284 := n5_
        have BK285 := n6_
        have BK306 := n7_
        have HB := n8_
        clear n0_ n1_ n2_ n3_ n4_ n5_ n6_ n7_ n8_
        (try clear hb)
        (try clear hb2)
        (try clear hk)
        (try clear hi)
        refine hK.out _ _ ⟨(blk_cell BK306.out 0).trans rfl, (blk_cell BK306.out 1).trans rfl, (blk_cell BK284.out 0).trans rfl, (blk_cell BK284.out 1).trans rfl⟩ (fun hHeld => ?_)
        clear hK K
        refine norm_ (a' := ?_) ?_ ?_
        rotate_left
        ·
         show Act.put _ (some 63) _ = _
         simp only [Act.put, zA, zB, zD, i64_w, i32_w]
         rfl
        refine pure_ (i := 4) (N := some 64) (v := ?_) (a' := ?_) #[true, true, true, true, true] rfl rfl (by kernel_rfl) (fun _ _ _ h => h) (Or.inl ⟨by rfl, ?_⟩) ?_ ?_
        rotate_left
        ·
         intro w'
         go_simp
         with_reducible rfl
        rotate_left
        ·
         simp only [Act.put, zA, zB, zD, i64_w, i32_w]
         rfl
        refine done_ (by kernel_rfl) ?_
        go_upto_region 21 with (first | ((with_reducible refine gate_callee (f := 15) rfl ?_); refine goesL_ (some 67) rfl rfl Try.func15 (by kernel_rfl) rfl #[.slice A1 l1.length c1] rfl (by (try simp only [List.map_toArray, List.map_cons, List.map_nil]); first | done | rfl | (simp only [List.length_drop, List.length_take]; rfl)) ?_; (with_reducible refine (laws_toHoleS.calls kj25 _ _ l1 t323 _ ?side1 ?side2 A59.out).mono ?_); (case side1 => repeat (first | exact (Kd.C_below HR1.out HB.out) | (with_reducible refine Kd.C_alloc ?_ _) | (with_reducible refine Kd.C_drewN ?_ _) | (with_reducible refine Kd.C_drew ?_))); (case side2 => exact HC1.out); rintro e w69 ⟨v324, rfl, ho0, hb⟩; refine ⟨_, rfl, ?_⟩; have n0_ := zm (Kd.R_below (by (with_reducible repeat (first | apply Kd.R_alloc | apply Kd.R_drewN | apply Kd.R_drew)); exact HO_8.out) hb); have n1_ := zm (Kd.R_elder' (by (with_reducible repeat (first | apply Kd.R_alloc | apply Kd.R_drewN | apply Kd.R_drew)); exact HO_11.out) (Kd.R_base ho0) hb); have n2_ := zm (Kd.R_below (by (with_reducible repeat (first | apply Kd.R_alloc | apply Kd.R_drewN | apply Kd.R_drew)); exact HO_12.out) hb); have n3_ := zm (Kd.R_below (by (with_reducible repeat (first | apply Kd.R_alloc | apply Kd.R_drewN | apply Kd.R_drew)); exact HO_307000.out) hb); have n4_ := zm (Kd.R_below (by (with_reducible repeat (first | apply Kd.R_alloc | apply Kd.R_drewN | apply Kd.R_drew)); exact HO320.out) hb); have n5_ := zm (Kd.R_lower (Kd.R_new' ho0 (Kd.R_lt (by (with_reducible repeat (first | apply Kd.R_alloc | apply Kd.R_drewN | apply Kd.R_drew)); exact HO_11.out))) (below_size zb)); have n6_ := zm (blk_below (g := gb284) zk hb); have n7_ := zm (blk_below (g := gb285) zk hb); have n8_ := zm (blk_below (g := gb306) zk hb); have n9_ := zm (below_step zb hb); clear HO_8; clear HO_11; clear HO_12; clear HO_307000; clear HO320; clear BK284; clear BK285; clear BK306; clear HB; have HO_8 := n0_; have HO_11 := n1_; have HO_12 := n2_; have HO_307000 := n3_; have HO320 := n4_; have HO325 := n5_; have BK284 := n6_; have BK285 := n7_; have BK306 := n8_; have HB := n9_; clear n0_ n1_ n2_ n3_ n4_ n5_ n6_ n7_ n8_ n9_; (try clear hb); (try clear hb2); (try clear hk); (try clear hi); (try clear ho0); obtain ⟨Ao70, co70, eo70⟩ := Kd.R_slice HO325.out; subst eo70) | ((with_reducible refine gate_callee (f := 19) rfl ?_); refine goesL_ (some 68) rfl rfl Try.func19 (by kernel_rfl) rfl #[.slice Ao49 t307.length co49, .slice Ao70 t323.length co70] rfl (by (try simp only [List.map_toArray, List.map_cons, List.map_nil]); first | done | rfl | (simp only [List.length_drop, List.length_take]; rfl)) ?_; (with_reducible refine (laws_eqHoleS.calls kj25 _ _ t307 _ _ t323 true _ ?side1 ?side2 ?side3 ?side4 A60.out).mono ?_); (case side1 => repeat (first | exact (Kd.R_reads' HO_11.out).2.2 | (with_reducible refine Kd.C_alloc ?_ _) | (with_reducible refine Kd.C_drewN ?_ _) | (with_reducible refine Kd.C_drew ?_))); (case side2 => exact (Kd.R_reads' HO_11.out).2.1); (case side3 => repeat (first | exact (Kd.R_reads' HO325.out).2.2 | (with_reducible refine Kd.C_alloc ?_ _) | (with_reducible refine Kd.C_drewN ?_ _) | (with_reducible refine Kd.C_drew ?_))); (case side4 => exact (Kd.R_reads' HO325.out).2.1); rintro e w71 ⟨rfl, hb⟩; refine ⟨_, rfl, ?_⟩; have n0_ := zm (Kd.R_below (by (with_reducible repeat (first | apply Kd.R_alloc | apply Kd.R_drewN | apply Kd.R_drew)); exact HO_8.out) hb); have n1_ := zm (Kd.R_below (by (with_reducible repeat (first | apply Kd.R_alloc | apply Kd.R_drewN | apply Kd.R_drew)); exact HO_11.out) hb); have n2_ := zm (Kd.R_below (by (with_reducible repeat (first | apply Kd.R_alloc | apply Kd.R_drewN | apply Kd.R_drew)); exact HO_12.out) hb); have n3_ := zm (Kd.R_below (by (with_reducible repeat (first | apply Kd.R_alloc | apply Kd.R_drewN | apply Kd.R_drew)); exact HO_307000.out) hb); have n4_ := zm (Kd.R_below (by (with_reducible repeat (first | apply Kd.R_alloc | apply Kd.R_drewN | apply Kd.R_drew)); exact HO320.out) hb); have n5_ := zm (Kd.R_below (by (with_reducible repeat (first | apply Kd.R_alloc | apply Kd.R_drewN | apply Kd.R_drew)); exact HO325.out) hb); have n6_ := zm (blk_below (g := gb284) zk hb); have n7_ := zm (blk_below (g := gb285) zk hb); have n8_ := zm (blk_below (g := gb306) zk hb); have n9_ := zm (below_step zb hb); clear HO_8; clear HO_11; clear HO_12; clear HO_307000; clear HO320; clear HO325; clear BK284; clear BK285; clear BK306; clear HB; have HO_8 := n0_; have HO_11 := n1_; have HO_12 := n2_; have HO_307000 := n3_; have HO320 := n4_; have HO325 := n5_; have BK284 := n6_; have BK285 := n7_; have BK306 := n8_; have HB := n9_; clear n0_ n1_ n2_ n3_ n4_ n5_ n6_ n7_ n8_ n9_; (try clear hb); (try clear hb2); (try clear hk); (try clear hi); have hnb72 := NB306_284.out; have hnc72 := NB284_306.out; have hnb73 := NB306_285.out; have hnc73 := NB285_306.out; obtain ⟨hcz74_0, hcz74_1, hfz74_0, hfz74_1⟩ := zc2 BK306.out) | ((with_reducible refine gate_callee (f := 23) rfl ?_); refine goesL_ (some 72) rfl rfl Try.func23 (by kernel_rfl) rfl #[.agg #[.slice Ao42 t302.length co42, .int .i64 t305], .int .i64 1] rfl (by (try simp only [List.map_toArray, List.map_cons, List.map_nil]); first | done | rfl | (simp only [List.length_drop, List.length_take]; rfl)) ?_; (with_reducible refine (laws_markInstrument.calls kj25 (fun k_ => some k_ = (.slice Ao42 t302.length co42 : Value).ownBlock) (.slice Ao42 t302.length co42) t302 t305 1 t327 t328 w _ ?side1 ?side2 A62.out).mono ?_); (case side1 => repeat (first | (with_reducible first | exact HB.out | apply below_alloc | apply pw_below_drewN | apply below_drew1 | refine below_set ?_ GE284.out | refine below_set ?_ GE285.out | refine below_set ?_ GE306.out) | exact HB.out)); (case side2 => exact Kd.R_tight rfl HO_307000.out); rintro e w75 ⟨rfl, hy0, hb, hkp⟩; refine ⟨_, rfl, ?_⟩; have n0_ := zm (Kd.R_mono (ok' := fun k_ => some k_ ≠ (v314 : Value).ownBlock ∧ some k_ ≠ (.slice Ao42 t302.length co42 : Value).ownBlock ∧ some k_ ≠ (.slice Ao67 t318.length co67 : Value).ownBlock) (Kd.R_keptB (HO_8.out) hkp (fun k_ hk_ hs_ => (hk_.1.2) hs_)) (fun k_ hk_ => ⟨hk_.1.1.1, hk_.1.1.2, hk_.1.2⟩)); have n1_ := zm (Kd.R_mono (ok' := fun k_ => some k_ ≠ (.slice Ao70 t323.length co70 : Value).ownBlock) (Kd.R_keptB ((Kd.R_apart' HO_11.out (Kd.R_typed HO_307000.out) (by decide))) hkp (fun k_ hk_ hs_ => (hk_.2) hs_)) (fun k_ hk_ => hk_.1.1.2)); have n2_ := zm (Kd.R_mono (ok' := fun k_ => some k_ ≠ (v299 : Value).ownBlock ∧ some k_ ≠ (.slice Ao42 t302.length co42 : Value).ownBlock ∧ some k_ ≠ (.slice Ao67 t318.length co67 : Value).ownBlock) (Kd.R_keptB (HO_12.out) hkp (fun k_ hk_ hs_ => (hk_.1.2) hs_)) (fun k_ hk_ => ⟨hk_.1.1.1, hk_.1.1.2, hk_.1.2⟩)); have n3_ := zm (Kd.R_reok rfl hy0 (fun k_ e_ => HO_307000.out.1 k_ e_)); have n4_ := zm (blk_kept zk hkp (fun hs_ => (fun e_ => (Kd.R_ne HO_307000.out BK284.out (by decide)) e_) hs_)); have n5_ := zm (blk_kept zk hkp (fun hs_ => (fun e_ => (Kd.R_ne HO_307000.out BK285.out (by decide)) e_) hs_)); have n6_ := zm (blk_kept zk hkp (fun hs_ => (fun e_ => (Kd.R_ne HO_307000.out BK306.out (by decide)) e_) hs_)); have n7_ := zm (Kd.R_mono (ok' := fun k_ => some k_ ≠ (v299 : Value).ownBlock ∧ some k_ ≠ (v314 : Value).ownBlock ∧ some k_ ≠ (.slice Ao42 t302.length co42 : Value).ownBlock) (Kd.R_keptB (HO320.out) hkp (fun k_ hk_ hs_ => (hk_.2) hs_)) (fun k_ hk_ => ⟨hk_.1.1.1.2, hk_.1.1.2, hk_.1.2⟩)); have n8_ := zm (Kd.R_mono (ok' := fun k_ => some k_ ≠ (.slice Ao49 t307.length co49 : Value).ownBlock) (Kd.R_keptB ((Kd.R_apart' HO325.out (Kd.R_typed HO_307000.out) (by decide))) hkp (fun k_ hk_ hs_ => (hk_.2) hs_)) (fun k_ hk_ => hk_.1.1.2)); have n9_ := zm (hb); clear HO_8; clear HO_11; clear HO_12; clear HO_307000; clear BK284; clear BK285; clear BK306; clear HO320; clear HO325; clear HB; have HO_8 := n0_; have HO_11 := n1_; have HO_12 := n2_; have HO_307000 := n3_; have BK284 := n4_; have BK285 := n5_; have BK306 := n6_; have HO320 := n7_; have HO325 := n8_; have HB := n9_; clear n0_ n1_ n2_ n3_ n4_ n5_ n6_ n7_ n8_ n9_; (try clear hb); (try clear hkp); (try clear hy0)) | ((with_reducible refine gate_callee (f := 24) rfl ?_); refine goesL_ (some 75) rfl rfl Try.func24 (by kernel_rfl) rfl #[.slice Ao49 t307.length co49, .int .i64 t327] rfl (by (try simp only [List.map_toArray, List.map_cons, List.map_nil]); first | done | rfl | (simp only [List.length_drop, List.length_take]; rfl)) ?_; (with_reducible refine (laws_markHoleS.calls kj25 (fun k_ => some k_ = (.slice Ao49 t307.length co49 : Value).ownBlock) (.slice Ao49 t307.length co49) t307 t327 t329 t330 w _ ?side1 ?side2 A63.out).mono ?_); (case side1 => repeat (first | (with_reducible first | exact HB.out | apply below_alloc | apply pw_below_drewN | apply below_drew1 | refine below_set ?_ GE284.out | refine below_set ?_ GE285.out | refine below_set ?_ GE306.out) | exact HB.out)); (case side2 => exact Kd.R_tight rfl HO_11.out); rintro e w76 ⟨rfl, hy0, hb, hkp⟩; refine ⟨_, rfl, ?_⟩; have n0_ := zm (Kd.R_mono (ok' := fun k_ => some k_ ≠ (v314 : Value).ownBlock ∧ some k_ ≠ (.slice Ao42 t302.length co42 : Value).ownBlock ∧ some k_ ≠ (.slice Ao67 t318.length co67 : Value).ownBlock) (Kd.R_keptB ((Kd.R_apart' HO_8.out (Kd.R_typed HO_11.out) (by decide))) hkp (fun k_ hk_ hs_ => (hk_.2) hs_)) (fun k_ hk_ => ⟨hk_.1.1.1, hk_.1.1.2.1, hk_.1.1.2.2⟩)); have n1_ := zm (Kd.R_reok rfl hy0 (fun k_ e_ => HO_11.out.1 k_ e_)); have n2_ := zm (Kd.R_mono (ok' := fun k_ => some k_ ≠ (v299 : Value).ownBlock ∧ some k_ ≠ (.slice Ao42 t302.length co42 : Value).ownBlock ∧ some k_ ≠ (.slice Ao67 t318.length co67 : Value).ownBlock) (Kd.R_keptB ((Kd.R_apart' HO_12.out (Kd.R_typed HO_11.out) (by decide))) hkp (fun k_ hk_ hs_ => (hk_.2) hs_)) (fun k_ hk_ => ⟨hk_.1.1.1, hk_.1.1.2.1, hk_.1.1.2.2⟩)); have n3_ := zm (Kd.R_mono (ok' := fun k_ => some k_ ≠ (v299 : Value).ownBlock ∧ some k_ ≠ (v314 : Value).ownBlock ∧ some k_ ≠ (.slice Ao67 t318.length co67 : Value).ownBlock) (Kd.R_keptB ((Kd.R_apart' HO_307000.out (Kd.R_typed HO_11.out) (by decide))) hkp (fun k_ hk_ hs_ => (hk_.2) hs_)) (fun k_ hk_ => ⟨hk_.1.1.1.1, hk_.1.1.1.2, hk_.1.1.2⟩)); have n4_ := zm (blk_kept zk hkp (fun hs_ => (fun e_ => (Kd.R_ne HO_11.out BK284.out (by decide)) e_) hs_)); have n5_ := zm (blk_kept zk hkp (fun hs_ => (fun e_ => (Kd.R_ne HO_11.out BK285.out (by decide)) e_) hs_)); have n6_ := zm (blk_kept zk hkp (fun hs_ => (fun e_ => (Kd.R_ne HO_11.out BK306.out (by decide)) e_) hs_)); have n7_ := zm (Kd.R_mono (ok' := fun k_ => some k_ ≠ (v299 : Value).ownBlock ∧ some k_ ≠ (v314 : Value).ownBlock ∧ some k_ ≠ (.slice Ao42 t302.length co42 : Value).ownBlock) (Kd.R_keptB ((Kd.R_apart' HO320.out (Kd.R_typed HO_11.out) (by decide))) hkp (fun k_ hk_ hs_ => (hk_.2) hs_)) (fun k_ hk_ => ⟨hk_.1.1.1, hk_.1.1.2.1, hk_.1.1.2.2⟩)); have n8_ := zm (Kd.R_mono (ok' := fun k_ => some k_ ≠ (.slice Ao49 t307.length co49 : Value).ownBlock) (Kd.R_keptB (HO325.out) hkp (fun k_ hk_ hs_ => (hk_) hs_)) (fun k_ hk_ => hk_.1)); have n9_ := zm (hb); clear HO_8; clear HO_11; clear HO_12; clear HO_307000; clear BK284; clear BK285; clear BK306; clear HO320; clear HO325; clear HB; have HO_8 := n0_; have HO_11 := n1_; have HO_12 := n2_; have HO_307000 := n3_; have BK284 := n4_; have BK285 := n5_; have BK306 := n6_; have HO320 := n7_; have HO325 := n8_; have HB := n9_; clear n0_ n1_ n2_ n3_ n4_ n5_ n6_ n7_ n8_ n9_; (try clear hb); (try clear hkp); (try clear hy0)))
        (try simp only [Act.put, List.setIfInBounds_toArray, List.set_cons_zero, List.set_cons_succ])
        go_cut [88] (fun v88 wc => ∃ (kq : Nat) (x88_63 : Bool), v88 = .bool x88_63 ∧ Aside0 (laws_FnExactSilentHoles.j1 kq l1 t298 t301 t313 x88_63 l0_0 a0_1 a2_0 a2_1 a2_2 = some r) ∧ Aside0 (kq ≤ kj25) ∧ Aside0 (Kd.R (Kd.int .i64) 3 wc w.heap.size (fun k_ => some k_ ≠ (v314 : Value).ownBlock ∧ some k_ ≠ ((.slice Ao42 t302.length co42) : Value).ownBlock) v299 t298) ∧ Aside0 (Kd.R (Kd.int .i64) 3 wc w.heap.size (fun k_ => some k_ ≠ (v299 : Value).ownBlock ∧ some k_ ≠ ((.slice Ao42 t302.length co42) : Value).ownBlock) v314 t313) ∧ Aside0 (Kd.R (Kd.int .i64) 3 wc w.heap.size (fun k_ => some k_ ≠ (v299 : Value).ownBlock ∧ some k_ ≠ (v314 : Value).ownBlock) (.slice Ao42 t302.length co42) t328) ∧ Aside0 (wc.heap[gb284]? = some (.cells #[(.slice A0_0 l0_0.length c0_0), .int .i64 a0_1] 24 (0, 0))) ∧ Aside0 (wc.heap[gb285]? = some (.cells #[.int .i64 a2_0, .int .i64 a2_1, .int .i64 a2_2] 27 (0, 0))) ∧ Aside0 (wc.heap[gb306]? = some (.cells #[(.slice Ao42 t302.length co42), .int .i64 t305] 32 (0, 0))) ∧ Aside0 (Below w.heap.size w wc))
        case first =>
         have H := HC64.out
         clear HC64
         by_cases c77 : t329 < 0
         ·
          rw [if_pos c77] at H
          have c77b0 : decide (t329 < 0) = true := decide_eq_true c77
          clear c77
          (first | rw [c77b0] | (simp only [i64_w, i32_w]; rw [c77b0]) | skip)
          exact (laws_FnExactSilentHoles.j1_t (H.trans (congrArg some hr_))).elim
         ·
          rw [if_neg c77] at H
          have c77b0 : decide (t329 < 0) = false := decide_eq_false c77
          clear c77
          (first | rw [c77b0] | (simp only [i64_w, i32_w]; rw [c77b0]) | skip)
          replace H := Option.bind_eq_some_iff.mp H
          obtain ⟨t331, A780, H⟩ := H
          replace H : (if t331 = true then (laws_FnExactSilentHoles.j1 kj25 l1 t298 t301 t313 (t316 != t301) l0_0 a0_1 a2_0 a2_1 a2_2) else (laws_FnExactSilentHoles.j1 kj25 l1 t298 t301 t313 true l0_0 a0_1 a2_0 a2_1 a2_2)) = some r := H
          have A78 := zm A780
          clear A780
          by_cases c79 : t331 = true
          ·
           subst c79
           have H1 : (laws_FnExactSilentHoles.j1 kj25 l1 t298 t301 t313 (t316 != t301) l0_0 a0_1 a2_0 a2_1 a2_2) = some r := by rw [if_pos rfl] at H; exact H
           clear H
           have H := H1
           clear H1
           have H' := zm H
           clear H
           obtain ⟨Ao80, co80, eo80⟩ := Kd.R_slice HO_12.out
           subst eo80
           obtain ⟨Ao81, co81, eo81⟩ := Kd.R_slice HO_8.out
           subst eo81
           go_wp2_with (first | (go_at_call 22; (with_reducible refine (laws_eqIntS.calls kj25 _ _ t313 _ _ t298 true _ ?side1 ?side2 ?side3 ?side4 A78.out).mono ?_); (case side1 => repeat (first | exact (Kd.R_reads' HO_12.out).2.2 | (with_reducible refine Kd.C_alloc ?_ _) | (with_reducible refine Kd.C_drewN ?_ _) | (with_reducible refine Kd.C_drew ?_))); (case side2 => exact (Kd.R_reads' HO_12.out).2.1); (case side3 => repeat (first | exact (Kd.R_reads' HO_8.out).2.2 | (with_reducible refine Kd.C_alloc ?_ _) | (with_reducible refine Kd.C_drewN ?_ _) | (with_reducible refine Kd.C_drew ?_))); (case side4 => exact (Kd.R_reads' HO_8.out).2.1); rintro e w' ⟨rfl, ⟨nd, rfl⟩⟩))
           go_meet
           case rel => exact ⟨_, ((t316 != t301)), (by first | rfl | (simp; done) | (simp [*]; done)), H', ⟨by have := HJ25.out; first | omega | exact Nat.le_refl _⟩, ⟨by (with_reducible repeat (first | apply Kd.R_alloc | apply Kd.R_drewN | apply Kd.R_drew)); exact Kd.R_mono HO_8.out (fun _ hk => ⟨hk.1, hk.2.1⟩)⟩, ⟨by (with_reducible repeat (first | apply Kd.R_alloc | apply Kd.R_drewN | apply Kd.R_drew)); exact Kd.R_mono HO_12.out (fun _ hk => ⟨hk.1, hk.2.1⟩)⟩, ⟨by (with_reducible repeat (first | apply Kd.R_alloc | apply Kd.R_drewN | apply Kd.R_drew)); exact Kd.R_mono HO_307000.out (fun _ hk => ⟨hk.1, hk.2.1⟩)⟩, ⟨zk⟩, ⟨zk⟩, ⟨zk⟩, ⟨zb⟩⟩
          ·
           replace c79 := Bool.eq_false_iff.mpr c79
           subst c79
           have H1 : (laws_FnExactSilentHoles.j1 kj25 l1 t298 t301 t313 true l0_0 a0_1 a2_0 a2_1 a2_2) = some r := by rw [if_neg (show ¬ (false = true) by decide)] at H; exact H
           clear H
           have H := H1
           clear H1
           exact (laws_FnExactSilentHoles.j1_t (H.trans (congrArg some hr_))).elim
        case rest =>
         clear HC64
         try clear c1
         try clear c2
         try clear p2
         try clear c4
         try clear c5
         try clear c5b0
         try clear c6
         try clear c7
         try clear c8
         try clear c11
         try clear c12
         try clear c12b0
         try clear c14
         try clear c15
         try clear c16
         try clear c18
         try clear c19
         try clear c20
         try clear c21
         try clear c22
         try clear c23
         try clear c24
         try clear c29
         try clear c43
         try clear c44
         try clear c52
         try clear c55
         try clear c58
         try clear c61
         try clear c72
         try clear c73
         try clear c77
         try clear c77b0
         try clear c79
         try clear hcz16_0
         try clear hcz16_1
         try clear hcz30_0
         try clear hcz30_1
         try clear hcz39_0
         try clear hcz39_1
         try clear hcz45_0
         try clear hcz45_1
         try clear hcz74_0
         try clear hcz74_1
         try clear hcz9_0
         try clear hcz9_1
         try clear hfz16_0
         try clear hfz16_1
         try clear hfz30_0
         try clear hfz30_1
         try clear hfz39_0
         try clear hfz39_1
         try clear hfz45_0
         try clear hfz45_1
         try clear hfz74_0
         try clear hfz74_1
         try clear hfz9_0
         try clear hfz9_1
         try clear p2
         obtain ⟨kq, x88_63, rfl, HA, HJ63, HO_8, HO_12, HO_307000, BK284, BK285, BK306, HB⟩ := hcut
         have hl307000_63 := (Kd.R_reads' HO_307000.out).1
         rw [hl307000_63] at HO_307000
         (try simp only [hl307000_63])
         (try simp only [hl307000_63] at BK284)
         (try simp only [hl307000_63] at BK285)
         (try simp only [hl307000_63] at BK306)
         (try simp only [hl307000_63] at HO_8)
         (try simp only [hl307000_63] at HO_12)
         cases kq with
         | zero => exact absurd HA.out (by simp [laws_FnExactSilentHoles.j1])
         | succ kj63 =>
          have H := HA.out
          clear HA
          simp only [laws_FnExactSilentHoles.j1] at H
          by_cases c82 : x88_63 = true
          ·
           subst c82
           have H1 : (some false) = some r := by rw [if_pos rfl] at H; exact H
           clear H
           have H := H1
           clear H1
           exact absurd ((Option.some.inj H).trans hr_) (by decide)
          ·
           replace c82 := Bool.eq_false_iff.mpr c82
           subst c82
           have H1 : ((laws_markIntS.f kj63 t313 1).bind fun bt332 => ((laws_heldIntS.f kj63 bt332.2 1).bind fun t334 => (if t334 < 0 then (some false) else (if t334 = bt332.1 then ((laws_toInstrument.f kj63 l0_0 a0_1).bind fun bt335 => ((laws_toHoleS.f kj63 l1).bind fun t339 => ((laws_toAction.f a2_0 a2_1 a2_2).bind fun bt342 => ((impl_SilentHoles.f kj63 bt335.1 bt335.2 t339 bt342.1 bt342.2.1 bt342.2.2).bind fun bt345 => ((laws_eqIntS.f kj63 bt345.1 t298).bind fun t349 => (if t349 = true then (laws_FnExactSilentHoles.j2 kj63 bt332.2 bt332.1 (bt345.2 != t301)) else (laws_FnExactSilentHoles.j2 kj63 bt332.2 bt332.1 true))))))) else (some false))))) = some r := by rw [if_neg (show ¬ (false = true) by decide)] at H; exact H
           clear H
           have H := H1
           clear H1
           replace H := Option.bind_eq_some_iff.mp H
           obtain ⟨⟨t332, t333⟩, A830, H⟩ := H
           replace H : ((laws_heldIntS.f kj63 t333 1).bind fun t334 => (if t334 < 0 then (some false) else (if t334 = t332 then ((laws_toInstrument.f kj63 l0_0 a0_1).bind fun bt335 => ((laws_toHoleS.f kj63 l1).bind fun t339 => ((laws_toAction.f a2_0 a2_1 a2_2).bind fun bt342 => ((impl_SilentHoles.f kj63 bt335.1 bt335.2 t339 bt342.1 bt342.2.1 bt342.2.2).bind fun bt345 => ((laws_eqIntS.f kj63 bt345.1 t298).bind fun t349 => (if t349 = true then (laws_FnExactSilentHoles.j2 kj63 t333 t332 (bt345.2 != t301)) else (laws_FnExactSilentHoles.j2 kj63 t333 t332 true))))))) else (some false)))) = some r := H
           have A83 := zm A830
           clear A830
           replace H := Option.bind_eq_some_iff.mp H
           obtain ⟨t334, A840, H⟩ := H
           replace H : (if t334 < 0 then (some false) else (if t334 = t332 then ((laws_toInstrument.f kj63 l0_0 a0_1).bind fun bt335 => ((laws_toHoleS.f kj63 l1).bind fun t339 => ((laws_toAction.f a2_0 a2_1 a2_2).bind fun bt342 => ((impl_SilentHoles.f kj63 bt335.1 bt335.2 t339 bt342.1 bt342.2.1 bt342.2.2).bind fun bt345 => ((laws_eqIntS.f kj63 bt345.1 t298).bind fun t349 => (if t349 = true then (laws_FnExactSilentHoles.j2 kj63 t333 t332 (bt345.2 != t301)) else (laws_FnExactSilentHoles.j2 kj63 t333 t332 true))))))) else (some false))) = some r := H
           have A84 := zm A840
           clear A840
           by_cases c85 : t334 < 0
           ·
            rw [if_pos c85] at H
            have c85b0 : decide (t334 < 0) = true := decide_eq_true c85
            clear c85
            exact absurd ((Option.some.inj H).trans hr_) (by decide)
           ·
            rw [if_neg c85] at H
            have c85b0 : decide (t334 < 0) = false := decide_eq_false c85
            clear c85
            by_cases c86 : t334 = t332
            ·
             rw [if_pos c86] at H
             have c86b0 : (t334 == t332) = true := beq_iff_eq.mpr c86
             have c86b1 : (t334 != t332) = false := bne_eq_false_iff_eq.mpr c86
             clear c86
             replace H := Option.bind_eq_some_iff.mp H
             obtain ⟨⟨t335, t338⟩, A870, H⟩ := H
             replace H : ((laws_toHoleS.f kj63 l1).bind fun t339 => ((laws_toAction.f a2_0 a2_1 a2_2).bind fun bt342 => ((impl_SilentHoles.f kj63 t335 t338 t339 bt342.1 bt342.2.1 bt342.2.2).bind fun bt345 => ((laws_eqIntS.f kj63 bt345.1 t298).bind fun t349 => (if t349 = true then (laws_FnExactSilentHoles.j2 kj63 t333 t332 (bt345.2 != t301)) else (laws_FnExactSilentHoles.j2 kj63 t333 t332 true)))))) = some r := H
             have A87 := zm A870
             clear A870
             replace H := Option.bind_eq_some_iff.mp H
             obtain ⟨t339, A880, H⟩ := H
             replace H : ((laws_toAction.f a2_0 a2_1 a2_2).bind fun bt342 => ((impl_SilentHoles.f kj63 t335 t338 t339 bt342.1 bt342.2.1 bt342.2.2).bind fun bt345 => ((laws_eqIntS.f kj63 bt345.1 t298).bind fun t349 => (if t349 = true then (laws_FnExactSilentHoles.j2 kj63 t333 t332 (bt345.2 != t301)) else (laws_FnExactSilentHoles.j2 kj63 t333 t332 true))))) = some r := H
             have A88 := zm A880
             clear A880
             replace H := Option.bind_eq_some_iff.mp H
             obtain ⟨⟨t342, t343, t344⟩, A890, H⟩ := H
             replace H : ((impl_SilentHoles.f kj63 t335 t338 t339 t342 t343 t344).bind fun bt345 => ((laws_eqIntS.f kj63 bt345.1 t298).bind fun t349 => (if t349 = true then (laws_FnExactSilentHoles.j2 kj63 t333 t332 (bt345.2 != t301)) else (laws_FnExactSilentHoles.j2 kj63 t333 t332 true)))) = some r := H
             have A89 := zm A890
             clear A890
             replace H := Option.bind_eq_some_iff.mp H
             obtain ⟨⟨t345, t348⟩, A900, H⟩ := H
             replace H : ((laws_eqIntS.f kj63 t345 t298).bind fun t349 => (if t349 = true then (laws_FnExactSilentHoles.j2 kj63 t333 t332 (t348 != t301)) else (laws_FnExactSilentHoles.j2 kj63 t333 t332 true))) = some r := H
             have A90 := zm A900
             clear A900
             have HC91 := zm H
             clear H
             obtain ⟨Ao92, co92, eo92⟩ := Kd.R_slice HO_12.out
             subst eo92
             try go_wp2_with (first | ((with_reducible refine gate_callee (f := 25) rfl ?_); refine goesL_ (some 91) rfl rfl Try.func25 (by kernel_rfl) rfl #[.slice Ao92 t313.length co92, .int .i64 1] rfl (by (try simp only [List.map_toArray, List.map_cons, List.map_nil]); first | done | rfl | (simp only [List.length_drop, List.length_take]; rfl)) ?_; (with_reducible refine (laws_markIntS.calls kj63 (fun k_ => some k_ = (.slice Ao92 t313.length co92 : Value).ownBlock) (.slice Ao92 t313.length co92) t313 1 t332 t333 w _ ?side1 ?side2 A83.out).mono ?_); (case side1 => repeat (first | (with_reducible first | exact HB.out | apply below_alloc | apply pw_below_drewN | apply below_drew1 | refine below_set ?_ GE284.out | refine below_set ?_ GE285.out | refine below_set ?_ GE306.out) | exact HB.out)); (case side2 => exact Kd.R_tight rfl HO_12.out); rintro e w93 ⟨rfl, hy0, hb, hkp⟩; refine ⟨_, rfl, ?_⟩; have n0_ := zm (Kd.R_mono (ok' := fun k_ => some k_ ≠ (.slice Ao92 t313.length co92 : Value).ownBlock ∧ some k_ ≠ (.slice Ao42 t328.length co42 : Value).ownBlock) (Kd.R_keptB (HO_8.out) hkp (fun k_ hk_ hs_ => (hk_.1) hs_)) (fun k_ hk_ => ⟨hk_.1.1, hk_.1.2⟩)); have n1_ := zm (Kd.R_reok rfl hy0 (fun k_ e_ => HO_12.out.1 k_ e_)); have n2_ := zm (Kd.R_mono (ok' := fun k_ => some k_ ≠ (v299 : Value).ownBlock ∧ some k_ ≠ (.slice Ao92 t313.length co92 : Value).ownBlock) (Kd.R_keptB (HO_307000.out) hkp (fun k_ hk_ hs_ => (hk_.2) hs_)) (fun k_ hk_ => ⟨hk_.1.1, hk_.1.2⟩)); have n3_ := zm (blk_kept zk hkp (fun hs_ => (fun e_ => (Kd.R_ne HO_12.out BK284.out (by decide)) e_) hs_)); have n4_ := zm (blk_kept zk hkp (fun hs_ => (fun e_ => (Kd.R_ne HO_12.out BK285.out (by decide)) e_) hs_)); have n5_ := zm (blk_kept zk hkp (fun hs_ => (fun e_ => (Kd.R_ne HO_12.out BK306.out (by decide)) e_) hs_)); have n6_ := zm (hb); clear HO_8; clear HO_12; clear HO_307000; clear BK284; clear BK285; clear BK306; clear HB; have HO_8 := n0_; have HO_12 := n1_; have HO_307000 := n2_; have BK284 := n3_; have BK285 := n4_; have BK306 := n5_; have HB := n6_; clear n0_ n1_ n2_ n3_ n4_ n5_ n6_; (try clear hb); (try clear hkp); (try clear hy0)) | ((with_reducible refine gate_callee (f := 26) rfl ?_); refine goesL_ (some 94) rfl rfl Try.func26 (by kernel_rfl) rfl #[.slice Ao92 t333.length co92, .int .i64 1] rfl (by (try simp only [List.map_toArray, List.map_cons, List.map_nil]); first | done | (rw [show t333.length = t313.length from (Kd.R_reads' HO_12.out).1.symm] <;> rfl) | rfl | (simp only [List.length_drop, List.length_take]; rfl)) ?_; (with_reducible refine (laws_heldIntS.calls kj63 _ _ t333 1 t334 _ ?side1 ?side2 A84.out).mono ?_); (case side1 => repeat (first | exact (Kd.R_reads' HO_12.out).2.2 | (with_reducible refine Kd.C_alloc ?_ _) | (with_reducible refine Kd.C_drewN ?_ _) | (with_reducible refine Kd.C_drew ?_))); (case side2 => rw [show t333.length = t313.length from (Kd.R_reads' HO_12.out).1.symm]; exact (Kd.R_reads' HO_12.out).2.1); rintro e w' ⟨rfl, ⟨nd, rfl⟩⟩; refine ⟨_, rfl, ?_⟩))
             (try (rw [drewN_self w93]; generalize hq_ : World.drewN w93 _ = w93; have n0_ : Aside0 (Kd.R (Kd.int .i64) 3 w93 w.heap.size (fun k_ => some k_ ≠ (.slice Ao42 t328.length co42 : Value).ownBlock ∧ some k_ ≠ (v299 : Value).ownBlock) (.slice Ao92 t313.length co92) t333) := ⟨by rw [← hq_]; exact (by (with_reducible repeat (first | apply Kd.R_alloc | apply Kd.R_drewN | apply Kd.R_drew)); exact Kd.R_mono HO_12.out (fun _ hk => ⟨hk.2, hk.1⟩))⟩; have n1_ : Aside0 (Kd.R (Kd.int .i64) 3 w93 w.heap.size (fun k_ => some k_ ≠ (.slice Ao92 t313.length co92 : Value).ownBlock ∧ some k_ ≠ (v299 : Value).ownBlock) (.slice Ao42 t328.length co42) t328) := ⟨by rw [← hq_]; exact (by (with_reducible repeat (first | apply Kd.R_alloc | apply Kd.R_drewN | apply Kd.R_drew)); exact Kd.R_mono HO_307000.out (fun _ hk => ⟨hk.2, hk.1⟩))⟩; have n2_ : Aside0 (Kd.R (Kd.int .i64) 3 w93 w.heap.size (fun k_ => some k_ ≠ (.slice Ao92 t313.length co92 : Value).ownBlock ∧ some k_ ≠ (.slice Ao42 t328.length co42 : Value).ownBlock) v299 t298) := ⟨by rw [← hq_]; exact (by (with_reducible repeat (first | apply Kd.R_alloc | apply Kd.R_drewN | apply Kd.R_drew)); exact HO_8.out)⟩; have n3_ : Aside0 (w93.heap[gb284]? = some (.cells #[.slice A0_0 l0_0.length c0_0, .int .i64 a0_1] 24 (0, 0))) := ⟨by rw [← hq_]; exact zk⟩; have n4_ : Aside0 (w93.heap[gb285]? = some (.cells #[.int .i64 a2_0, .int .i64 a2_1, .int .i64 a2_2] 27 (0, 0))) := ⟨by rw [← hq_]; exact zk⟩; have n5_ : Aside0 (w93.heap[gb306]? = some (.cells #[.slice Ao42 t328.length co42, .int .i64 t305] 32 (0, 0))) := ⟨by rw [← hq_]; exact zk⟩; have n6_ : Aside0 (Below w.heap.size w w93) := ⟨by rw [← hq_]; exact zb⟩; clear HO_12 HO_307000 HO_8 BK284 BK285 BK306 HB hq_; have HO_12 := n0_; have HO_307000 := n1_; have HO_8 := n2_; have BK284 := n3_; have BK285 := n4_; have BK306 := n5_; have HB := n6_; clear n0_ n1_ n2_ n3_ n4_ n5_ n6_))
             have n0_ := zm (Kd.R_drew HO_8.out)
             have n1_ := zm (Kd.R_drew HO_12.out)
             have n2_ := zm (Kd.R_drew HO_307000.out)
             have n3_ := zm (blk_drew BK284.out)
             have n4_ := zm (blk_drew BK285.out)
             have n5_ := zm (blk_drew BK306.out)
             have n6_ := zm (below_drew1 HB.out)
             clear HO_8
             clear HO_12
             clear HO_307000
             clear BK284
             clear BK285
             clear BK306
             clear HB
             have HO_8 := n0_
             have HO_12 := n1_
             have HO_307000 := n2_
             have BK284 := n3_
             have BK285 := n4_
             have BK306 := n5_
             have HB := n6_
             clear n0_ n1_ n2_ n3_ n4_ n5_ n6_
             refine start_ (n := 12) (S := fun w' => w'.cell? ⟨gb284, 0, none⟩ = some (.slice A0_0 l0_0.length c0_0) ∧ w'.cell? ⟨gb284, 1, none⟩ = some (.int .i64 a0_1) ∧ w'.cell? ⟨gb285, 0, none⟩ = some (.int .i64 a2_0) ∧ w'.cell? ⟨gb285, 1, none⟩ = some (.int .i64 a2_1) ∧ w'.cell? ⟨gb285, 2, none⟩ = some (.int .i64 a2_2)) (ds := []) #[false, false, false, false, false, false, false, false, false, false, false, false] (by kernel_rfl) rfl rfl ⟨(blk_cell BK284.out 0).trans rfl, (blk_cell BK284.out 1).trans rfl, (blk_cell BK285.out 0).trans rfl, (blk_cell BK285.out 1).trans rfl, (blk_cell BK285.out 2).trans rfl⟩ (fun hHeld => ?_); refine with_tabW laws_FnExactSilentHoles.tab31 laws_FnExactSilentHoles.bits31 (fun HT_ HW_ => ?_)
             generalize w93.drew = w94 at HO_8 HO_12 HO_307000 BK284 BK285 BK306 HB hHeld ⊢
             refine pure_ (i := 2) (N := some 103) (v := ?_) (a' := ?_) #[false, false, true, false, false, false, false, false, false, false, false, false] rfl rfl (any_of HT_.out (by kernel_rfl)) (fun _ _ _ h => h) (Or.inl ⟨by rfl, ?_⟩) ?_ ?_
             rotate_left
             ·
              intro w'
              go_simp
              with_reducible rfl
             rotate_left
             ·
              simp only [Act.put, zA, zB, zD, i64_w, i32_w]
              rfl
             refine take_ (i := 0) (N := some 101) (v := ?_) (a' := ?_) #[true, false, true, false, false, false, false, false, false, false, false, false] rfl rfl (take_ofW HT_.out HW_.out (by kernel_rfl)) (fun _ _ _ h => h) (Or.inl ⟨by rfl, ?_⟩) hHeld ?_ ?_
             rotate_left
             ·
              rintro w' ⟨s0, s1, s2, s3, s4⟩
              go_simp
              with_reducible rfl
             rotate_left
             ·
              simp only [Act.put, zA, zB, zD, i64_w, i32_w]
              rfl
             refine take_ (i := 4) (N := some 105) (v := ?_) (a' := ?_) #[true, false, true, false, true, false, false, false, false, false, false, false] rfl rfl (take_ofW HT_.out HW_.out (by kernel_rfl)) (fun _ _ _ h => h) (Or.inl ⟨by rfl, ?_⟩) hHeld ?_ ?_
             rotate_left
             ·
              rintro w' ⟨s0, s1, s2, s3, s4⟩
              go_simp
              with_reducible rfl
             rotate_left
             ·
              simp only [Act.put, zA, zB, zD, i64_w, i32_w]
              rfl
             refine one_ (i := 1) (N := some 102) #[true, true, true, false, true, false, false, false, false, false, false, false] rfl rfl (one_of HT_.out (by kernel_rfl)) (by decide) (fun K hK => ?_)
             refine goes_ Try.func14 (by kernel_rfl) rfl #[.agg #[.slice A0_0 l0_0.length c0_0, .int .i64 a0_1]] (by rfl) rfl rfl (by (try simp only [List.map_toArray, List.map_cons, List.map_nil]); first | done | rfl | (simp only [List.length_drop, List.length_take]; rfl)) ?_
             with_reducible refine (laws_toInstrument.calls kj63 _ _ l0_0 a0_1 t335 t338 _ ?side1 ?side2 A87.out).mono ?_
             (case side1 => repeat (first | exact (Kd.C_below HR0_0.out HB.out) | (with_reducible refine Kd.C_alloc ?_ _) | (with_reducible refine Kd.C_drewN ?_ _) | (with_reducible refine Kd.C_drew ?_)))
             (case side2 => exact HC0_0.out)
             rintro e w95 ⟨v336, rfl, ho0, hb⟩
             refine ⟨_, rfl, ?_⟩
             have n0_ := zm (Kd.R_elder' (by (with_reducible repeat (first | apply Kd.R_alloc | apply Kd.R_drewN | apply Kd.R_drew)); exact HO_8.out) (Kd.R_base ho0) hb)
             have n1_ := zm (Kd.R_elder' (by (with_reducible repeat (first | apply Kd.R_alloc | apply Kd.R_drewN | apply Kd.R_drew)); exact HO_12.out) (Kd.R_base ho0) hb)
             have n2_ := zm (Kd.R_elder' (by (with_reducible repeat (first | apply Kd.R_alloc | apply Kd.R_drewN | apply Kd.R_drew)); exact HO_307000.out) (Kd.R_base ho0) hb)
             have n3_ := zm (Kd.R_lower (Kd.R_new' (Kd.R_new' (Kd.R_new' ho0 (Kd.R_lt (by (with_reducible repeat (first | apply Kd.R_alloc | apply Kd.R_drewN | apply Kd.R_drew)); exact HO_8.out))) (Kd.R_lt (by (with_reducible repeat (first | apply Kd.R_alloc | apply Kd.R_drewN | apply Kd.R_drew)); exact HO_12.out))) (Kd.R_lt (by (with_reducible repeat (first | apply Kd.R_alloc | apply Kd.R_drewN | apply Kd.R_drew)); exact HO_307000.out))) (below_size zb))
             have n4_ := zm (blk_below (g := gb284) zk hb)
             have n5_ := zm (blk_below (g := gb285) zk hb)
             have n6_ := zm (blk_below (g := gb306) zk hb)
             have n7_ := zm (below_step zb hb)
             clear HO_8
             clear HO_12
             clear HO_307000
             clear BK284
             clear BK285
             clear BK306
             clear HB
             have HO_8 := n0_
             have HO_12 := n1_
             have HO_307000 := n2_
             have HO337 := n3_
             have BK284 := n4_
             have BK285 := n5_
             have BK306 := n6_
             have HB := n7_
             clear n0_ n1_ n2_ n3_ n4_ n5_ n6_ n7_
             (try clear hb)
             (try clear hb2)
             (try clear hk)
             (try clear hi)
             (try clear ho0)
             refine hK.out _ _ ⟨(blk_cell BK284.out 0).trans rfl, (blk_cell BK284.out 1).trans rfl, (blk_cell BK285.out 0).trans rfl, (blk_cell BK285.out 1).trans rfl, (blk_cell BK285.out 2).trans rfl⟩ (fun hHeld => ?_)
             clear hK K
             refine norm_ (a' := ?_) ?_ ?_
             rotate_left
             ·
              show Act.put _ (some 102) _ = _
              simp only [Act.put, zA, zB, zD, i64_w, i32_w]
              rfl
             refine one_ (i := 3) (N := some 104) #[true, true, true, true, true, false, false, false, false, false, false, false] rfl rfl (one_of HT_.out (by kernel_rfl)) (by decide) (fun K hK => ?_)
             refine goes_ Try.func15 (by kernel_rfl) rfl #[.slice A1 l1.length c1] (by rfl) rfl rfl (by (try simp only [List.map_toArray, List.map_cons, List.map_nil]); first | done | rfl | (simp only [List.length_drop, List.length_take]; rfl)) ?_
             with_reducible refine (laws_toHoleS.calls kj63 _ _ l1 t339 _ ?side1 ?side2 A88.out).mono ?_
             (case side1 => repeat (first | exact (Kd.C_below HR1.out HB.out) | (with_reducible refine Kd.C_alloc ?_ _) | (with_reducible refine Kd.C_drewN ?_ _) | (with_reducible refine Kd.C_drew ?_)))
             (case side2 => exact HC1.out)
             rintro e w96 ⟨v340, rfl, ho0, hb⟩
             refine ⟨_, rfl, ?_⟩
             have n0_ := zm (Kd.R_below (by (with_reducible repeat (first | apply Kd.R_alloc | apply Kd.R_drewN | apply Kd.R_drew)); exact HO_8.out) hb)
             have n1_ := zm (Kd.R_below (by (with_reducible repeat (first | apply Kd.R_alloc | apply Kd.R_drewN | apply Kd.R_drew)); exact HO_12.out) hb)
             have n2_ := zm (Kd.R_below (by (with_reducible repeat (first | apply Kd.R_alloc | apply Kd.R_drewN | apply Kd.R_drew)); exact HO_307000.out) hb)
             have n3_ := zm (Kd.R_below (by (with_reducible repeat (first | apply Kd.R_alloc | apply Kd.R_drewN | apply Kd.R_drew)); exact HO337.out) hb)
             have n4_ := zm (Kd.R_lower ho0 (below_size zb))
             have n5_ := zm (blk_below (g := gb284) zk hb)
             have n6_ := zm (blk_below (g := gb285) zk hb)
             have n7_ := zm (blk_below (g := gb306) zk hb)
             have n8_ := zm (below_step zb hb)
             clear HO_8
             clear HO_12
             clear HO_307000
             clear HO337
             clear BK284
             clear BK285
             clear BK306
             clear HB
             have HO_8 := n0_
             have HO_12 := n1_
             have HO_307000 := n2_
             have HO337 := n3_
             have HO341 := n4_
             have BK284 := n5_
             have BK285 := n6_
             have BK306 := n7_
             have HB := n8_
             clear n0_ n1_ n2_ n3_ n4_ n5_ n6_ n7_ n8_
             (try clear hb)
             (try clear hb2)
             (try clear hk)
             (try clear hi)
             (try clear ho0)
             refine hK.out _ _ ⟨(blk_cell BK284.out 0).trans rfl, (blk_cell BK284.out 1).trans rfl, (blk_cell BK285.out 0).trans rfl, (blk_cell BK285.out 1).trans rfl, (blk_cell BK285.out 2).trans rfl⟩ (fun hHeld => ?_)
             clear hK K
             refine norm_ (a' := ?_) ?_ ?_
             rotate_left
             ·
              show Act.put _ (some 104) _ = _
              simp only [Act.put, zA, zB, zD, i64_w, i32_w]
              rfl
             refine one_ (i := 5) (N := some 106) #[true, true, true, true, true, true, false, false, false, false, false, false] rfl rfl (one_of HT_.out (by kernel_rfl)) (by decide) (fun K hK => ?_)
             refine goes_ Try.func16 (by kernel_rfl) rfl #[.agg #[.int .i64 a2_0, .int .i64 a2_1, .int .i64 a2_2]] (by rfl) rfl rfl (by (try simp only [List.map_toArray, List.map_cons, List.map_nil]); first | done | rfl | (simp only [List.length_drop, List.length_take]; rfl)) ?_
             with_reducible refine (laws_toAction.calls a2_0 a2_1 a2_2 t342 t343 t344 _ A89.out).mono ?_
             rintro e w97 ⟨rfl, hb⟩
             refine ⟨_, rfl, ?_⟩
             have n0_ := zm (Kd.R_below (by (with_reducible repeat (first | apply Kd.R_alloc | apply Kd.R_drewN | apply Kd.R_drew)); exact HO_8.out) hb)
             have n1_ := zm (Kd.R_below (by (with_reducible repeat (first | apply Kd.R_alloc | apply Kd.R_drewN | apply Kd.R_drew)); exact HO_12.out) hb)
             have n2_ := zm (Kd.R_below (by (with_reducible repeat (first | apply Kd.R_alloc | apply Kd.R_drewN | apply Kd.R_drew)); exact HO_307000.out) hb)
             have n3_ := zm (Kd.R_below (by (with_reducible repeat (first | apply Kd.R_alloc | apply Kd.R_drewN | apply Kd.R_drew)); exact HO337.out) hb)
             have n4_ := zm (Kd.R_below (by (with_reducible repeat (first | apply Kd.R_alloc | apply Kd.R_drewN | apply Kd.R_drew)); exact HO341.out) hb)
             have n5_ := zm (blk_below (g := gb284) zk hb)
             have n6_ := zm (blk_below (g := gb285) zk hb)
             have n7_ := zm (blk_below (g := gb306) zk hb)
             have n8_ := zm (below_step zb hb)
             clear HO_8
             clear HO_12
             clear HO_307000
             clear HO337
             clear HO341
             clear BK284
             clear BK285
             clear BK306
             clear HB
             have HO_8 := n0_
             have HO_12 := n1_
             have HO_307000 := n2_
             have HO337 := n3_
             have HO341 := n4_
             have BK284 := n5_
             have BK285 := n6_
             have BK306 := n7_
             have HB := n8_
             clear n0_ n1_ n2_ n3_ n4_ n5_ n6_ n7_ n8_
             (try clear hb)
             (try clear hb2)
             (try clear hk)
             (try clear hi)
             obtain ⟨Ao98, co98, eo98⟩ := Kd.R_slice HO337.out
             (first | subst eo98 | (injection eo98 with f1_ f2_ f3_; have f4_ := f1_.symm; have f5_ := f3_.symm; clear f1_ f2_ f3_; subst f4_; subst f5_))
             obtain ⟨Ao99, co99, eo99⟩ := Kd.R_slice HO341.out
             (first | subst eo99 | (injection eo99 with f1_ f2_ f3_; have f4_ := f1_.symm; have f5_ := f3_.symm; clear f1_ f2_ f3_; subst f4_; subst f5_))
             refine hK.out _ _ ⟨(blk_cell BK284.out 0).trans rfl, (blk_cell BK284.out 1).trans rfl, (blk_cell BK285.out 0).trans rfl, (blk_cell BK285.out 1).trans rfl, (blk_cell BK285.out 2).trans rfl⟩ (fun hHeld => ?_)
             clear hK K
             refine norm_ (a' := ?_) ?_ ?_
             rotate_left
             ·
              show Act.put _ (some 106) _ = _
              simp only [Act.put, zA, zB, zD, i64_w, i32_w]
              rfl
             refine one_ (i := 6) (N := some 107) #[true, true, true, true, true, true, true, false, false, false, false, false] rfl rfl (one_of HT_.out (by kernel_rfl)) (by decide) (fun K hK => ?_)
             refine goes_ Try.func21 (by kernel_rfl) rfl #[.agg #[.slice Ao98 t335.length co98, .int .i64 t338], .slice Ao99 t339.length co99, .agg #[.int .i64 t342, .int .i64 t343, .int .i64 t344]] (by rfl) rfl rfl (by (try simp only [List.map_toArray, List.map_cons, List.map_nil]); first | done | rfl | (simp only [List.length_drop, List.length_take]; rfl)) ?_
             with_reducible refine (impl_SilentHoles.calls kj63 _ _ t335 t338 _ _ t339 t342 t343 t344 t345 t348 _ ?side1 ?side2 ?side3 ?side4 A90.out).mono ?_
             (case side1 => repeat (first | exact (Kd.R_reads' HO337.out).2.2 | (with_reducible refine Kd.C_alloc ?_ _) | (with_reducible refine Kd.C_drewN ?_ _) | (with_reducible refine Kd.C_drew ?_)))
             (case side2 => exact (Kd.R_reads' HO337.out).2.1)
             (case side3 => repeat (first | exact (Kd.R_reads' HO341.out).2.2 | (with_reducible refine Kd.C_alloc ?_ _) | (with_reducible refine Kd.C_drewN ?_ _) | (with_reducible refine Kd.C_drew ?_)))
             (case side4 => exact (Kd.R_reads' HO341.out).2.1)
             rintro e w100 ⟨v346, rfl, ho0, hb⟩
             refine ⟨_, rfl, ?_⟩
             have n0_ := zm (Kd.R_elder' (by (with_reducible repeat (first | apply Kd.R_alloc | apply Kd.R_drewN | apply Kd.R_drew)); exact HO_8.out) (Kd.R_base ho0) hb)
             have n1_ := zm (Kd.R_elder' (by (with_reducible repeat (first | apply Kd.R_alloc | apply Kd.R_drewN | apply Kd.R_drew)); exact HO_12.out) (Kd.R_base ho0) hb)
             have n2_ := zm (Kd.R_elder' (by (with_reducible repeat (first | apply Kd.R_alloc | apply Kd.R_drewN | apply Kd.R_drew)); exact HO_307000.out) (Kd.R_base ho0) hb)
             have n3_ := zm (Kd.R_elder' (by (with_reducible repeat (first | apply Kd.R_alloc | apply Kd.R_drewN | apply Kd.R_drew)); exact HO337.out) (Kd.R_base ho0) hb)
             have n4_ := zm (Kd.R_below (by (with_reducible repeat (first | apply Kd.R_alloc | apply Kd.R_drewN | apply Kd.R_drew)); exact HO341.out) hb)
             have n5_ := zm (Kd.R_lower (Kd.R_new' (Kd.R_new' (Kd.R_new' (Kd.R_new' ho0 (Kd.R_lt (by (with_reducible repeat (first | apply Kd.R_alloc | apply Kd.R_drewN | apply Kd.R_drew)); exact HO_8.out))) (Kd.R_lt (by (with_reducible repeat (first | apply Kd.R_alloc | apply Kd.R_drewN | apply Kd.R_drew)); exact HO_12.out))) (Kd.R_lt (by (with_reducible repeat (first | apply Kd.R_alloc | apply Kd.R_drewN | apply Kd.R_drew)); exact HO_307000.out))) (Kd.R_lt (by (with_reducible repeat (first | apply Kd.R_alloc | apply Kd.R_drewN | apply Kd.R_drew)); exact HO337.out))) (below_size zb))
             have n6_ := zm (blk_below (g := gb284) zk hb)
             have n7_ := zm (blk_below (g := gb285) zk hb)
             have n8_ := zm (blk_below (g := gb306) zk hb)
             have n9_ := zm (below_step zb hb)
             clear HO_8
             clear HO_12
             clear HO_307000
             clear HO337
             clear HO341
             clear BK284
             clear BK285
             clear BK306
             clear HB
             have HO_8 := n0_
             have HO_12 := n1_
             have HO_307000 := n2_
             have HO337 := n3_
             have HO341 := n4_
             have HO347 := n5_
             have BK284 := n6_
             have BK285 := n7_
             have BK306 := n8_
             have HB := n9_
             clear n0_ n1_ n2_ n3_ n4_ n5_ n6_ n7_ n8_ n9_
             (try clear hb)
             (try clear hb2)
             (try clear hk)
             (try clear hi)
             (try clear ho0)
             refine hK.out _ _ ⟨(blk_cell BK284.out 0).trans rfl, (blk_cell BK284.out 1).trans rfl, (blk_cell BK285.out 0).trans rfl, (blk_cell BK285.out 1).trans rfl, (blk_cell BK285.out 2).trans rfl⟩ (fun hHeld => ?_)
             clear hK K
             refine norm_ (a' := ?_) ?_ ?_
             rotate_left
             ·
              show Act.put _ (some 107) _ = _
              simp only [Act.put, zA, zB, zD, i64_w, i32_w]
              rfl
             refine pure_ (i := 7) (N := some 100) (v := ?_) (a' := ?_) #[true, true, true, true, true, true, true, true, false, false, false, false] rfl rfl (any_of HT_.out (by kernel_rfl)) (fun _ _ _ h => h) (Or.inl ⟨by rfl, ?_⟩) ?_ ?_
             rotate_left
             ·
              intro w'
              go_simp
              with_reducible rfl
             rotate_left
             ·
              simp only [Act.put, zA, zB, zD, i64_w, i32_w]
              rfl
             refine pure_ (i := 8) (N := some 108) (v := ?_) (a' := ?_) #[true, true, true, true, true, true, true, true, true, false, false, false] rfl rfl (any_of HT_.out (by kernel_rfl)) (fun _ _ _ h => h) (Or.inl ⟨by rfl, ?_⟩) ?_ ?_
             rotate_left
             ·
              intro w'
              go_simp
              with_reducible rfl
             rotate_left
             ·
              simp only [Act.put, zA, zB, zD, i64_w, i32_w]
              rfl
             refine pure_ (i := 9) (N := some 109) (v := ?_) (a' := ?_) #[true, true, true, true, true, true, true, true, true, true, false, false] rfl rfl (any_of HT_.out (by kernel_rfl)) (fun _ _ _ h => h) (Or.inl ⟨by rfl, ?_⟩) ?_ ?_
             rotate_left
             ·
              intro w'
              go_simp
              with_reducible rfl
             rotate_left
             ·
              simp only [Act.put, zA, zB, zD, i64_w, i32_w]
              rfl
             refine pure_ (i := 10) (N := some 17) (v := ?_) (a' := ?_) #[true, true, true, true, true, true, true, true, true, true, true, false] rfl rfl (any_of HT_.out (by kernel_rfl)) (fun _ _ _ h => h) (Or.inl ⟨by rfl, ?_⟩) ?_ ?_
             rotate_left
             ·
              intro w'
              go_simp
              with_reducible rfl
             rotate_left
             ·
              simp only [Act.put, zA, zB, zD, i64_w, i32_w]
              rfl
             refine pure_ (i := 11) (N := some 18) (v := ?_) (a' := ?_) #[true, true, true, true, true, true, true, true, true, true, true, true] rfl rfl (any_of HT_.out (by kernel_rfl)) (fun _ _ _ h => h) (Or.inl ⟨by rfl, ?_⟩) ?_ ?_
             rotate_left
             ·
              intro w'
              go_simp
              with_reducible rfl
             rotate_left
             ·
              simp only [Act.put, zA, zB, zD, i64_w, i32_w]
              rfl
             refine done_ (done_of HT_.out (by kernel_rfl)) ?_
             go_upto_region 32 with (fail)
             go_cut [118] (fun v118 wc => ∃ (kq : Nat) (x118_90 : Bool), v118 = .bool x118_90 ∧ Aside0 (laws_FnExactSilentHoles.j2 kq t333 t332 x118_90 = some r) ∧ Aside0 (kq ≤ kj63) ∧ Aside0 (Kd.R (Kd.int .i64) 3 wc w.heap.size (fun k_ => some k_ ≠ ((.slice Ao42 t328.length co42) : Value).ownBlock) (.slice Ao92 t313.length co92) t333) ∧ Aside0 (Kd.R (Kd.int .i64) 3 wc w.heap.size (fun k_ => some k_ ≠ ((.slice Ao92 t313.length co92) : Value).ownBlock) (.slice Ao42 t328.length co42) t328) ∧ Aside0 (wc.heap[gb284]? = some (.cells #[(.slice A0_0 l0_0.length c0_0), .int .i64 a0_1] 24 (0, 0))) ∧ Aside0 (wc.heap[gb285]? = some (.cells #[.int .i64 a2_0, .int .i64 a2_1, .int .i64 a2_2] 27 (0, 0))) ∧ Aside0 (wc.heap[gb306]? = some (.cells #[(.slice Ao42 t328.length co42), .int .i64 t305] 32 (0, 0))) ∧ Aside0 (Below w.heap.size w wc))
             case first =>
              have H := HC91.out
              clear HC91
              replace H := Option.bind_eq_some_iff.mp H
              obtain ⟨t349, A1010, H⟩ := H
              replace H : (if t349 = true then (laws_FnExactSilentHoles.j2 kj63 t333 t332 (t348 != t301)) else (laws_FnExactSilentHoles.j2 kj63 t333 t332 true)) = some r := H
              have A101 := zm A1010
              clear A1010
              by_cases c102 : t349 = true
              ·
               subst c102
               have H1 : (laws_FnExactSilentHoles.j2 kj63 t333 t332 (t348 != t301)) = some r := by rw [if_pos rfl] at H; exact H
               clear H
               have H := H1
               clear H1
               have H' := zm H
               clear H
               obtain ⟨Ao103, co103, eo103⟩ := Kd.R_slice HO347.out
               subst eo103
               obtain ⟨Ao104, co104, eo104⟩ := Kd.R_slice HO_8.out
               subst eo104
               go_wp2_with (first | ((with_reducible refine gate_callee (f := 22) rfl ?_); refine goesL_ (some 112) rfl rfl Try.func22 (by kernel_rfl) rfl #[.slice Ao103 t345.length co103, .slice Ao104 t298.length co104] rfl (by (try simp only [List.map_toArray, List.map_cons, List.map_nil]); first | done | rfl | (simp only [List.length_drop, List.length_take]; rfl)) ?_; (with_reducible refine (laws_eqIntS.calls kj63 _ _ t345 _ _ t298 true _ ?side1 ?side2 ?side3 ?side4 A101.out).mono ?_); (case side1 => repeat (first | exact (Kd.R_reads' HO347.out).2.2 | (with_reducible refine Kd.C_alloc ?_ _) | (with_reducible refine Kd.C_drewN ?_ _) | (with_reducible refine Kd.C_drew ?_))); (case side2 => exact (Kd.R_reads' HO347.out).2.1); (case side3 => repeat (first | exact (Kd.R_reads' HO_8.out).2.2 | (with_reducible refine Kd.C_alloc ?_ _) | (with_reducible refine Kd.C_drewN ?_ _) | (with_reducible refine Kd.C_drew ?_))); (case side4 => exact (Kd.R_reads' HO_8.out).2.1); rintro e w' ⟨rfl, ⟨nd, rfl⟩⟩; refine ⟨_, rfl, ?_⟩))
               go_meet
               case rel => exact ⟨_, ((t348 != t301)), (by first | rfl | (simp; done) | (simp [*]; done)), H', ⟨by have := HJ25.out; have := HJ63.out; first | omega | exact Nat.le_refl _⟩, ⟨by (try simp only [hl307000_63]); (with_reducible repeat (first | apply Kd.R_alloc | apply Kd.R_drewN | apply Kd.R_drew)); exact zM HO_12.out⟩, ⟨by (try simp only [hl307000_63]); (with_reducible repeat (first | apply Kd.R_alloc | apply Kd.R_drewN | apply Kd.R_drew)); exact zM HO_307000.out⟩, ⟨by (try simp only [hl307000_63]); (with_reducible repeat (first | refine blk_drewN ?_ _ | refine blk_drew ?_ | refine blk_alloc ?_ _)); exact BK284.out⟩, ⟨by (try simp only [hl307000_63]); (with_reducible repeat (first | refine blk_drewN ?_ _ | refine blk_drew ?_ | refine blk_alloc ?_ _)); exact BK285.out⟩, ⟨by (try simp only [hl307000_63]); (with_reducible repeat (first | refine blk_drewN ?_ _ | refine blk_drew ?_ | refine blk_alloc ?_ _)); exact BK306.out⟩, ⟨zb⟩⟩
              ·
               replace c102 := Bool.eq_false_iff.mpr c102
               subst c102
               have H1 : (laws_FnExactSilentHoles.j2 kj63 t333 t332 true) = some r := by rw [if_neg (show ¬ (false = true) by decide)] at H; exact H
               clear H
               have H := H1
               clear H1
               exact (laws_FnExactSilentHoles.j2_t (H.trans (congrArg some hr_))).elim
             case rest =>
              clear HC91
              try clear c1
              try clear c2
              try clear p2
              try clear c4
              try clear c5
              try clear c5b0
              try clear c6
              try clear c7
              try clear c8
              try clear c10
              try clear c11
              try clear c12
              try clear c12b0
              try clear c14
              try clear c15
              try clear c16
              try clear c18
              try clear c19
              try clear c20
              try clear c21
              try clear c22
              try clear c23
              try clear c24
              try clear c25
              try clear c26
              try clear c29
              try clear c43
              try clear c44
              try clear c52
              try clear c55
              try clear c58
              try clear c61
              try clear c72
              try clear c73
              try clear c77
              try clear c77b0
              try clear c79
              try clear c82
              try clear c85
              try clear c85b0
              try clear c86
              try clear c86b0
              try clear c86b1
              try clear c102
              try clear hcz16_0
              try clear hcz16_1
              try clear hcz30_0
              try clear hcz30_1
              try clear hcz39_0
              try clear hcz39_1
              try clear hcz45_0
              try clear hcz45_1
              try clear hcz74_0
              try clear hcz74_1
              try clear hcz9_0
              try clear hcz9_1
              try clear hfz16_0
              try clear hfz16_1
              try clear hfz30_0
              try clear hfz30_1
              try clear hfz39_0
              try clear hfz39_1
              try clear hfz45_0
              try clear hfz45_1
              try clear hfz74_0
              try clear hfz74_1
              try clear hfz9_0
              try clear hfz9_1
              try clear p2
              obtain ⟨kq, x118_90, rfl, HA, HJ90, HO_12, HO_307000, BK284, BK285, BK306, HB⟩ := hcut
              have hl12_90 := (Kd.R_reads' HO_12.out).1
              rw [hl12_90] at HO_12
              (try simp only [hl12_90])
              (try simp only [hl12_90] at BK284)
              (try simp only [hl12_90] at BK285)
              (try simp only [hl12_90] at BK306)
              (try simp only [hl12_90] at HO_307000)
              cases kq with
              | zero => exact absurd HA.out (by simp [laws_FnExactSilentHoles.j2])
              | succ kj90 =>
               have H := HA.out
               clear HA
               simp only [laws_FnExactSilentHoles.j2] at H
               by_cases c105 : x118_90 = true
               ·
                subst c105
                have H1 : (some false) = some r := by rw [if_pos rfl] at H; exact H
                clear H
                have H := H1
                clear H1
                exact absurd ((Option.some.inj H).trans hr_) (by decide)
               ·
                replace c105 := Bool.eq_false_iff.mpr c105
                subst c105
                have H1 : ((laws_heldIntS.f kj90 t333 1).bind fun t350 => (if t350 < 0 then (some false) else (if t350 = t332 then (some true) else (some false)))) = some r := by rw [if_neg (show ¬ (false = true) by decide)] at H; exact H
                clear H
                have H := H1
                clear H1
                replace H := Option.bind_eq_some_iff.mp H
                obtain ⟨t350, A1060, H⟩ := H
                replace H : (if t350 < 0 then (some false) else (if t350 = t332 then (some true) else (some false))) = some r := H
                have A106 := zm A1060
                clear A1060
                by_cases c107 : t350 < 0
                ·
                 rw [if_pos c107] at H
                 have c107b0 : decide (t350 < 0) = true := decide_eq_true c107
                 clear c107
                 exact absurd ((Option.some.inj H).trans hr_) (by decide)
                ·
                 rw [if_neg c107] at H
                 have c107b0 : decide (t350 < 0) = false := decide_eq_false c107
                 clear c107
                 by_cases c108 : t350 = t332
                 ·
                  rw [if_pos c108] at H
                  have c108b0 : (t350 == t332) = true := beq_iff_eq.mpr c108
                  have c108b1 : (t350 != t332) = false := bne_eq_false_iff_eq.mpr c108
                  clear c108
                  obtain rfl := Option.some.inj H
                  go_wp2_with (first | ((with_reducible refine gate_callee (f := 26) rfl ?_); refine goesL_ (some 121) rfl rfl Try.func26 (by kernel_rfl) rfl #[.slice Ao92 t333.length co92, .int .i64 1] rfl (by (try simp only [List.map_toArray, List.map_cons, List.map_nil]); first | done | rfl | (simp only [List.length_drop, List.length_take]; rfl)) ?_; (with_reducible refine (laws_heldIntS.calls kj90 _ _ t333 1 t350 _ ?side1 ?side2 A106.out).mono ?_); (case side1 => repeat (first | exact (Kd.R_reads' HO_12.out).2.2 | (with_reducible refine Kd.C_alloc ?_ _) | (with_reducible refine Kd.C_drewN ?_ _) | (with_reducible refine Kd.C_drew ?_))); (case side2 => exact (Kd.R_reads' HO_12.out).2.1); rintro e w' ⟨rfl, ⟨nd, rfl⟩⟩; refine ⟨_, rfl, ?_⟩))
                  go_ret
                  exact ⟨zr, zb⟩
                 ·
                  rw [if_neg c108] at H
                  have c108b0 : (t350 == t332) = false := beq_eq_false_iff_ne.mpr c108
                  have c108b1 : (t350 != t332) = true := bne_iff_ne.mpr c108
                  exact absurd ((Option.some.inj H).trans hr_) (by decide)
            ·
             rw [if_neg c86] at H
             have c86b0 : (t334 == t332) = false := beq_eq_false_iff_ne.mpr c86
             have c86b1 : (t334 != t332) = true := bne_iff_ne.mpr c86
             exact absurd ((Option.some.inj H).trans hr_) (by decide)
       ·
        replace c61 := Bool.eq_false_iff.mpr c61
        subst c61
        have H1 : (some false) = some r := by rw [if_neg (show ¬ (false = true) by decide)] at H; exact H
        clear H
        have H := H1
        clear H1
        exact absurd ((Option.some.inj H).trans hr_) (by decide)
      ·
       replace c58 := Bool.eq_false_iff.mpr c58
       subst c58
       have H1 : (some false) = some r := by rw [if_neg (show ¬ (false = true) by decide)] at H; exact H
       clear H
       have H := H1
       clear H1
       exact absurd ((Option.some.inj H).trans hr_) (by decide)

end Go.Proofs.Ytioheacdldgaaaa.PAll
