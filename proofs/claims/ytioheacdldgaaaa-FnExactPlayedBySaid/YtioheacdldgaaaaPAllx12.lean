-- Written for this claim by a program of this session (wip/tpl/patchprint.py), not by print.sh.
import Derived.Test.YtioheacdldgaaaaPAllx0
import Derived.Test.YtioheacdldgaaaaPAllx1
import Derived.Test.YtioheacdldgaaaaPAllx2
import Derived.Test.YtioheacdldgaaaaPAllx7
import Derived.Test.YtioheacdldgaaaaPAllx8
import Derived.Test.YtioheacdldgaaaaPAllx10
import Derived.Test.YtioheacdldgaaaaPAllx11
namespace Go.Proofs.Ytioheacdldgaaaa.PAll
open Go.RowKit Go.Proofs.YtioheacdldgaaaaW.PrintWords Go.Proofs.YtioheacdldgaaaaW.PrintLast Go.Proofs.YtioheacdldgaaaaW.PrintMore
attribute [local go_sem] max2_int min2_int max_two min_two max_three min_three max_four min_four   -- for this text's walks alone
set_option linter.unusedVariables false
set_option linter.unusedSimpArgs false

/-! ### laws_FnExactPlayedBy: function 5 -/
mutual
def laws_FnExactPlayedBy.j0 : Nat → List (S75) → List (S79) → Bool → List (S73) → List (S79) → Bool → Bool → List Int → Int → Int → Int → Int → List Int → Int → Option (Bool)
  | 0, _, _, _, _, _, _, _, _, _, _, _, _, _, _ => none
  | k + 1, x1, x8, x9, x11, x12, x13, x59, x381000, x381001, x382000, x382001, x382002, x403000, x403001 => if x59 = true then (some false) else ((laws_toInstrument.f k x381000 x381001).bind fun bt414 => ((laws_eqInstrument.f k x403000 x403001 bt414.1 bt414.2).bind fun t418 => (if t418 = true then ((laws_toHoleS.f k x1).bind fun t419 => ((laws_eqHoleS.f k x11 t419).bind fun t422 => (if t422 = true then ((laws_markInstrument.f k x403000 x403001 1).bind fun bt423 => ((laws_markHoleS.f k x11 bt423.1).bind fun bt425 => (if bt425.1 < 0 then (laws_FnExactPlayedBy.j1 k x1 x8 x9 x12 true x381000 x381001 x382000 x382001 x382002) else ((laws_eqPlayedS.f k x12 x8).bind fun t427 => (if t427 = true then (laws_FnExactPlayedBy.j1 k x1 x8 x9 x12 (x13 != x9) x381000 x381001 x382000 x382001 x382002) else (laws_FnExactPlayedBy.j1 k x1 x8 x9 x12 true x381000 x381001 x382000 x382001 x382002)))))) else (some false)))) else (some false))))
def laws_FnExactPlayedBy.j1 : Nat → List (S75) → List (S79) → Bool → List (S79) → Bool → List Int → Int → Int → Int → Int → Option (Bool)
  | 0, _, _, _, _, _, _, _, _, _, _ => none
  | k + 1, x1, x8, x9, x12, x88, x381000, x381001, x382000, x382001, x382002 => if x88 = true then (some false) else ((laws_markPlayedS.f k x12 1).bind fun bt428 => ((laws_heldPlayedS.f k bt428.2 1).bind fun t430 => (if t430 < 0 then (some false) else (if t430 = bt428.1 then ((laws_toInstrument.f k x381000 x381001).bind fun bt431 => ((laws_toHoleS.f k x1).bind fun t435 => ((laws_toAction.f x382000 x382001 x382002).bind fun bt438 => ((impl_PlayedBy.f k bt431.1 bt431.2 t435 bt438.1 bt438.2.1 bt438.2.2).bind fun bt441 => ((laws_eqPlayedS.f k bt441.1 x8).bind fun t445 => (if t445 = true then (laws_FnExactPlayedBy.j2 k bt428.2 bt428.1 (bt441.2 != x9)) else (laws_FnExactPlayedBy.j2 k bt428.2 bt428.1 true))))))) else (some false)))))
def laws_FnExactPlayedBy.j2 : Nat → List (S79) → Int → Bool → Option (Bool)
  | 0, _, _, _ => none
  | k + 1, x12, x15, x118 => if x118 = true then (some false) else ((laws_heldPlayedS.f k x12 1).bind fun t446 => (if t446 < 0 then (some false) else (if t446 = x15 then (some true) else (some false))))
end
def laws_FnExactPlayedBy.f (k : Nat) (l0_0 : List Int) (a0_1 : Int) (l1 : List (S75)) (a2_0 : Int) (a2_1 : Int) (a2_2 : Int) : Option (Bool) := (laws_szInstrument.f l0_0 a0_1 1048576).bind fun t382 => (if t382 < 0 then (some true) else ((laws_szHoleS.f l1 t382).bind fun t383 => (if t383 < 0 then (some true) else ((laws_toInstrument.f k l0_0 a0_1).bind fun bt384 => ((laws_toHoleS.f k l1).bind fun t388 => ((laws_toAction.f a2_0 a2_1 a2_2).bind fun bt391 => ((spec_PlayedBy.f k bt384.1 bt384.2 t388 bt391.1 bt391.2.1 bt391.2.2).bind fun bt394 => ((laws_toInstrument.f k l0_0 a0_1).bind fun bt398 => ((laws_toHoleS.f k l1).bind fun t403 => ((laws_toAction.f a2_0 a2_1 a2_2).bind fun bt406 => ((impl_PlayedBy.f k bt398.1 bt398.2 t403 bt406.1 bt406.2.1 bt406.2.2).bind fun bt409 => ((laws_eqPlayedS.f k bt409.1 bt394.1).bind fun t413 => (if t413 = true then (laws_FnExactPlayedBy.j0 k l1 bt394.1 bt394.2 t403 bt409.1 bt409.2 (bt409.2 != bt394.2) l0_0 a0_1 a2_0 a2_1 a2_2 bt398.1 bt398.2) else (laws_FnExactPlayedBy.j0 k l1 bt394.1 bt394.2 t403 bt409.1 bt409.2 true l0_0 a0_1 a2_0 a2_1 a2_2 bt398.1 bt398.2))))))))))))))
theorem laws_FnExactPlayedBy.mono_l : ∀ k, (∀ y0 y1 y2 y3 y4 y5 y6 y7 y8 y9 y10 y11 y12 y13, LeO (laws_FnExactPlayedBy.j0 k y0 y1 y2 y3 y4 y5 y6 y7 y8 y9 y10 y11 y12 y13) (laws_FnExactPlayedBy.j0 (k + 1) y0 y1 y2 y3 y4 y5 y6 y7 y8 y9 y10 y11 y12 y13)) ∧ (∀ y0 y1 y2 y3 y4 y5 y6 y7 y8 y9, LeO (laws_FnExactPlayedBy.j1 k y0 y1 y2 y3 y4 y5 y6 y7 y8 y9) (laws_FnExactPlayedBy.j1 (k + 1) y0 y1 y2 y3 y4 y5 y6 y7 y8 y9)) ∧ (∀ y0 y1 y2, LeO (laws_FnExactPlayedBy.j2 k y0 y1 y2) (laws_FnExactPlayedBy.j2 (k + 1) y0 y1 y2))
  | 0 => ⟨fun _ _ _ _ _ _ _ _ _ _ _ _ _ _ r h => by simp [laws_FnExactPlayedBy.j0] at h, fun _ _ _ _ _ _ _ _ _ _ r h => by simp [laws_FnExactPlayedBy.j1] at h, fun _ _ _ r h => by simp [laws_FnExactPlayedBy.j2] at h⟩
  | k + 1 => by
    obtain ⟨ih0, ih1, ih2⟩ := laws_FnExactPlayedBy.mono_l k
    refine ⟨?_, ?_, ?_⟩
    · intro y0 y1 y2 y3 y4 y5 y6 y7 y8 y9 y10 y11 y12 y13
      unfold laws_FnExactPlayedBy.j0
      repeat' first
      | (with_reducible exact ih0 _ _ _ _ _ _ _ _ _ _ _ _ _ _)
      | (with_reducible exact ih1 _ _ _ _ _ _ _ _ _ _)
      | (with_reducible exact ih2 _ _ _)
      | (with_reducible exact impl_PlayedBy.mono _ _ _ _ _ _ _)
      | (with_reducible exact laws_eqHoleS.mono _ _ _)
      | (with_reducible exact laws_eqInstrument.mono _ _ _ _ _)
      | (with_reducible exact laws_eqPlayedS.mono _ _ _)
      | (with_reducible exact laws_heldPlayedS.mono _ _ _)
      | (with_reducible exact laws_markHoleS.mono _ _ _)
      | (with_reducible exact laws_markInstrument.mono _ _ _ _)
      | (with_reducible exact laws_markPlayedS.mono _ _ _)
      | (with_reducible exact laws_toHoleS.mono _ _)
      | (with_reducible exact laws_toInstrument.mono _ _ _)
      | (with_reducible exact spec_PlayedBy.mono _ _ _ _ _ _ _)
      | (with_reducible exact LeO.refl _)
      | (with_reducible exact LeO.none _)
      | (with_reducible refine LeO.ite ?_ ?_)
      | (with_reducible refine LeO.bind ?_ (fun _ => ?_))
      | exact ih0 _ _ _ _ _ _ _ _ _ _ _ _ _ _
      | exact ih1 _ _ _ _ _ _ _ _ _ _
      | exact ih2 _ _ _
      | exact impl_PlayedBy.mono _ _ _ _ _ _ _
      | exact laws_eqHoleS.mono _ _ _
      | exact laws_eqInstrument.mono _ _ _ _ _
      | exact laws_eqPlayedS.mono _ _ _
      | exact laws_heldPlayedS.mono _ _ _
      | exact laws_markHoleS.mono _ _ _
      | exact laws_markInstrument.mono _ _ _ _
      | exact laws_markPlayedS.mono _ _ _
      | exact laws_toHoleS.mono _ _
      | exact laws_toInstrument.mono _ _ _
      | exact spec_PlayedBy.mono _ _ _ _ _ _ _
      | exact LeO.none _
      | refine LeO.ite ?_ ?_
      | refine LeO.bind ?_ (fun _ => ?_)
    · intro y0 y1 y2 y3 y4 y5 y6 y7 y8 y9
      unfold laws_FnExactPlayedBy.j1
      repeat' first
      | (with_reducible exact ih0 _ _ _ _ _ _ _ _ _ _ _ _ _ _)
      | (with_reducible exact ih1 _ _ _ _ _ _ _ _ _ _)
      | (with_reducible exact ih2 _ _ _)
      | (with_reducible exact impl_PlayedBy.mono _ _ _ _ _ _ _)
      | (with_reducible exact laws_eqHoleS.mono _ _ _)
      | (with_reducible exact laws_eqInstrument.mono _ _ _ _ _)
      | (with_reducible exact laws_eqPlayedS.mono _ _ _)
      | (with_reducible exact laws_heldPlayedS.mono _ _ _)
      | (with_reducible exact laws_markHoleS.mono _ _ _)
      | (with_reducible exact laws_markInstrument.mono _ _ _ _)
      | (with_reducible exact laws_markPlayedS.mono _ _ _)
      | (with_reducible exact laws_toHoleS.mono _ _)
      | (with_reducible exact laws_toInstrument.mono _ _ _)
      | (with_reducible exact spec_PlayedBy.mono _ _ _ _ _ _ _)
      | (with_reducible exact LeO.refl _)
      | (with_reducible exact LeO.none _)
      | (with_reducible refine LeO.ite ?_ ?_)
      | (with_reducible refine LeO.bind ?_ (fun _ => ?_))
      | exact ih0 _ _ _ _ _ _ _ _ _ _ _ _ _ _
      | exact ih1 _ _ _ _ _ _ _ _ _ _
      | exact ih2 _ _ _
      | exact impl_PlayedBy.mono _ _ _ _ _ _ _
      | exact laws_eqHoleS.mono _ _ _
      | exact laws_eqInstrument.mono _ _ _ _ _
      | exact laws_eqPlayedS.mono _ _ _
      | exact laws_heldPlayedS.mono _ _ _
      | exact laws_markHoleS.mono _ _ _
      | exact laws_markInstrument.mono _ _ _ _
      | exact laws_markPlayedS.mono _ _ _
      | exact laws_toHoleS.mono _ _
      | exact laws_toInstrument.mono _ _ _
      | exact spec_PlayedBy.mono _ _ _ _ _ _ _
      | exact LeO.none _
      | refine LeO.ite ?_ ?_
      | refine LeO.bind ?_ (fun _ => ?_)
    · intro y0 y1 y2
      unfold laws_FnExactPlayedBy.j2
      repeat' first
      | (with_reducible exact ih0 _ _ _ _ _ _ _ _ _ _ _ _ _ _)
      | (with_reducible exact ih1 _ _ _ _ _ _ _ _ _ _)
      | (with_reducible exact ih2 _ _ _)
      | (with_reducible exact impl_PlayedBy.mono _ _ _ _ _ _ _)
      | (with_reducible exact laws_eqHoleS.mono _ _ _)
      | (with_reducible exact laws_eqInstrument.mono _ _ _ _ _)
      | (with_reducible exact laws_eqPlayedS.mono _ _ _)
      | (with_reducible exact laws_heldPlayedS.mono _ _ _)
      | (with_reducible exact laws_markHoleS.mono _ _ _)
      | (with_reducible exact laws_markInstrument.mono _ _ _ _)
      | (with_reducible exact laws_markPlayedS.mono _ _ _)
      | (with_reducible exact laws_toHoleS.mono _ _)
      | (with_reducible exact laws_toInstrument.mono _ _ _)
      | (with_reducible exact spec_PlayedBy.mono _ _ _ _ _ _ _)
      | (with_reducible exact LeO.refl _)
      | (with_reducible exact LeO.none _)
      | (with_reducible refine LeO.ite ?_ ?_)
      | (with_reducible refine LeO.bind ?_ (fun _ => ?_))
      | exact ih0 _ _ _ _ _ _ _ _ _ _ _ _ _ _
      | exact ih1 _ _ _ _ _ _ _ _ _ _
      | exact ih2 _ _ _
      | exact impl_PlayedBy.mono _ _ _ _ _ _ _
      | exact laws_eqHoleS.mono _ _ _
      | exact laws_eqInstrument.mono _ _ _ _ _
      | exact laws_eqPlayedS.mono _ _ _
      | exact laws_heldPlayedS.mono _ _ _
      | exact laws_markHoleS.mono _ _ _
      | exact laws_markInstrument.mono _ _ _ _
      | exact laws_markPlayedS.mono _ _ _
      | exact laws_toHoleS.mono _ _
      | exact laws_toInstrument.mono _ _ _
      | exact spec_PlayedBy.mono _ _ _ _ _ _ _
      | exact LeO.none _
      | refine LeO.ite ?_ ?_
      | refine LeO.bind ?_ (fun _ => ?_)
theorem laws_FnExactPlayedBy.mono : ∀ a0 a1 a2 a3 a4 a5 k, LeO (laws_FnExactPlayedBy.f k a0 a1 a2 a3 a4 a5) (laws_FnExactPlayedBy.f (k + 1) a0 a1 a2 a3 a4 a5) := by
  intro a0 a1 a2 a3 a4 a5 k
  obtain ⟨ih0, ih1, ih2⟩ := laws_FnExactPlayedBy.mono_l k
  unfold laws_FnExactPlayedBy.f
  repeat' first
      | (with_reducible exact ih0 _ _ _ _ _ _ _ _ _ _ _ _ _ _)
      | (with_reducible exact ih1 _ _ _ _ _ _ _ _ _ _)
      | (with_reducible exact ih2 _ _ _)
      | (with_reducible exact impl_PlayedBy.mono _ _ _ _ _ _ _)
      | (with_reducible exact laws_eqHoleS.mono _ _ _)
      | (with_reducible exact laws_eqInstrument.mono _ _ _ _ _)
      | (with_reducible exact laws_eqPlayedS.mono _ _ _)
      | (with_reducible exact laws_heldPlayedS.mono _ _ _)
      | (with_reducible exact laws_markHoleS.mono _ _ _)
      | (with_reducible exact laws_markInstrument.mono _ _ _ _)
      | (with_reducible exact laws_markPlayedS.mono _ _ _)
      | (with_reducible exact laws_toHoleS.mono _ _)
      | (with_reducible exact laws_toInstrument.mono _ _ _)
      | (with_reducible exact spec_PlayedBy.mono _ _ _ _ _ _ _)
      | (with_reducible exact LeO.refl _)
      | (with_reducible exact LeO.none _)
      | (with_reducible refine LeO.ite ?_ ?_)
      | (with_reducible refine LeO.bind ?_ (fun _ => ?_))
      | exact ih0 _ _ _ _ _ _ _ _ _ _ _ _ _ _
      | exact ih1 _ _ _ _ _ _ _ _ _ _
      | exact ih2 _ _ _
      | exact impl_PlayedBy.mono _ _ _ _ _ _ _
      | exact laws_eqHoleS.mono _ _ _
      | exact laws_eqInstrument.mono _ _ _ _ _
      | exact laws_eqPlayedS.mono _ _ _
      | exact laws_heldPlayedS.mono _ _ _
      | exact laws_markHoleS.mono _ _ _
      | exact laws_markInstrument.mono _ _ _ _
      | exact laws_markPlayedS.mono _ _ _
      | exact laws_toHoleS.mono _ _
      | exact laws_toInstrument.mono _ _ _
      | exact spec_PlayedBy.mono _ _ _ _ _ _ _
      | exact LeO.none _
      | refine LeO.ite ?_ ?_
      | refine LeO.bind ?_ (fun _ => ?_)
def laws_FnExactPlayedBy.T8 : Bool × List (List Nat × List Nat) := (true, [([], []), ([0], [0]), ([], []), ([2, 1], [2]), ([], []), ([4, 3], [4]), ([1, 3, 5, 5], [1, 3, 5]), ([6], [6]), ([7], [7]), ([7], [7]), ([8, 6, 0, 1, 2, 3, 4, 5, 6, 7, 8], [8]), ([9, 10, 0, 1, 2, 3, 4, 5, 6, 7, 8, 9, 10], [9])])
def laws_FnExactPlayedBy.B8 : List Nat := [0, 1, 0, 7, 0, 31, 63, 127, 255, 255, 511, 2047]
theorem laws_FnExactPlayedBy.tab8 : rtab .any (opsOf Try.f5 8) = laws_FnExactPlayedBy.T8 := by kernel_rfl
theorem laws_FnExactPlayedBy.bits8 : waitsOk laws_FnExactPlayedBy.T8.2 laws_FnExactPlayedBy.B8 = true := by kernel_rfl
def laws_FnExactPlayedBy.T11 : Bool × List (List Nat × List Nat) := (true, [([], []), ([], []), ([], []), ([2], [2]), ([0, 1, 3, 3], [0, 1, 3]), ([4], [4]), ([5], [5]), ([5], [5]), ([6, 4, 0, 1, 2, 3, 4, 5, 6], [6]), ([7, 8, 0, 1, 2, 3, 4, 5, 6, 7, 8], [7])])
def laws_FnExactPlayedBy.B11 : List Nat := [0, 0, 0, 4, 15, 31, 63, 63, 127, 511]
theorem laws_FnExactPlayedBy.tab11 : rtab .any (opsOf Try.f5 11) = laws_FnExactPlayedBy.T11 := by kernel_rfl
theorem laws_FnExactPlayedBy.bits11 : waitsOk laws_FnExactPlayedBy.T11.2 laws_FnExactPlayedBy.B11 = true := by kernel_rfl
def laws_FnExactPlayedBy.T31 : Bool × List (List Nat × List Nat) := (true, [([], []), ([0], [0]), ([], []), ([2, 1], [2]), ([], []), ([4, 3], [4]), ([1, 3, 5, 5], [1, 3, 5]), ([6], [6]), ([7], [7]), ([7], [7]), ([8, 6, 0, 1, 2, 3, 4, 5, 6, 7, 8], [8]), ([9, 10, 0, 1, 2, 3, 4, 5, 6, 7, 8, 9, 10], [9])])
def laws_FnExactPlayedBy.B31 : List Nat := [0, 1, 0, 7, 0, 31, 63, 127, 255, 255, 511, 2047]
theorem laws_FnExactPlayedBy.tab31 : rtab .any (opsOf Try.f5 31) = laws_FnExactPlayedBy.T31 := by kernel_rfl
theorem laws_FnExactPlayedBy.bits31 : waitsOk laws_FnExactPlayedBy.T31.2 laws_FnExactPlayedBy.B31 = true := by kernel_rfl
theorem laws_FnExactPlayedBy.j0_t {k : Nat} : ∀ {a0_ a1_ a2_ a3_ a4_ a5_ a7_ a8_ a9_ a10_ a11_ a12_ a13_}, laws_FnExactPlayedBy.j0 k a0_ a1_ a2_ a3_ a4_ a5_ true a7_ a8_ a9_ a10_ a11_ a12_ a13_ = some true → False := by
  intros; rename_i h; revert h; cases k <;> simp [laws_FnExactPlayedBy.j0]
theorem laws_FnExactPlayedBy.j1_t {k : Nat} : ∀ {a0_ a1_ a2_ a3_ a5_ a6_ a7_ a8_ a9_}, laws_FnExactPlayedBy.j1 k a0_ a1_ a2_ a3_ true a5_ a6_ a7_ a8_ a9_ = some true → False := by
  intros; rename_i h; revert h; cases k <;> simp [laws_FnExactPlayedBy.j1]
theorem laws_FnExactPlayedBy.j2_t {k : Nat} : ∀ {a0_ a1_}, laws_FnExactPlayedBy.j2 k a0_ a1_ true = some true → False := by
  intros; rename_i h; revert h; cases k <;> simp [laws_FnExactPlayedBy.j2]
set_option maxHeartbeats 8000000 in
set_option maxRecDepth 100000 in
theorem laws_FnExactPlayedBy.calls (k : Nat) (A0_0 : Option Addr) (c0_0 : Nat) (l0_0 : List Int) (a0_1 : Int) (A1 : Option Addr) (c1 : Nat) (l1 : List (S75)) (a2_0 : Int) (a2_1 : Int) (a2_2 : Int) (r : Bool) (w : World) (hr0_0 : Kd.C (Kd.int .i64) w A0_0 l0_0.length l0_0) (hc0_0 : l0_0.length ≤ c0_0) (hr1 : Kd.C k75 w A1 l1.length l1) (hc1 : l1.length ≤ c1) (h : laws_FnExactPlayedBy.f k l0_0 a0_1 l1 a2_0 a2_1 a2_2 = some r) (hr_ : r = true) :
  Calls Try.prog 5 #[.agg #[.slice A0_0 l0_0.length c0_0, .int .i64 a0_1], .slice A1 l1.length c1, .agg #[.int .i64 a2_0, .int .i64 a2_1, .int .i64 a2_2]] w fun e w' => e = .returned (.bool r) ∧ Below w.heap.size w w' := by
 have hu24 := Try.underlying24
 have hu27 := Try.underlying27
 have hu32 := Try.underlying32
 have HR0_0 := zm hr0_0
 have HC0_0 := zm hc0_0
 clear hr0_0 hc0_0
 have HR1 := zm hr1
 have HC1 := zm hc1
 clear hr1 hc1
 have HB := zm (Below.refl w.heap.size w)
 have H : ((laws_szInstrument.f l0_0 a0_1 1048576).bind fun t382 => (if t382 < 0 then (some true) else ((laws_szHoleS.f l1 t382).bind fun t383 => (if t383 < 0 then (some true) else ((laws_toInstrument.f k l0_0 a0_1).bind fun bt384 => ((laws_toHoleS.f k l1).bind fun t388 => ((laws_toAction.f a2_0 a2_1 a2_2).bind fun bt391 => ((spec_PlayedBy.f k bt384.1 bt384.2 t388 bt391.1 bt391.2.1 bt391.2.2).bind fun bt394 => ((laws_toInstrument.f k l0_0 a0_1).bind fun bt398 => ((laws_toHoleS.f k l1).bind fun t403 => ((laws_toAction.f a2_0 a2_1 a2_2).bind fun bt406 => ((impl_PlayedBy.f k bt398.1 bt398.2 t403 bt406.1 bt406.2.1 bt406.2.2).bind fun bt409 => ((laws_eqPlayedS.f k bt409.1 bt394.1).bind fun t413 => (if t413 = true then (laws_FnExactPlayedBy.j0 k l1 bt394.1 bt394.2 t403 bt409.1 bt409.2 (bt409.2 != bt394.2) l0_0 a0_1 a2_0 a2_1 a2_2 bt398.1 bt398.2) else (laws_FnExactPlayedBy.j0 k l1 bt394.1 bt394.2 t403 bt409.1 bt409.2 true l0_0 a0_1 a2_0 a2_1 a2_2 bt398.1 bt398.2))))))))))))))) = some r := h
 clear h
 replace H := Option.bind_eq_some_iff.mp H
 obtain ⟨t382, A40, H⟩ := H
 replace H : (if t382 < 0 then (some true) else ((laws_szHoleS.f l1 t382).bind fun t383 => (if t383 < 0 then (some true) else ((laws_toInstrument.f k l0_0 a0_1).bind fun bt384 => ((laws_toHoleS.f k l1).bind fun t388 => ((laws_toAction.f a2_0 a2_1 a2_2).bind fun bt391 => ((spec_PlayedBy.f k bt384.1 bt384.2 t388 bt391.1 bt391.2.1 bt391.2.2).bind fun bt394 => ((laws_toInstrument.f k l0_0 a0_1).bind fun bt398 => ((laws_toHoleS.f k l1).bind fun t403 => ((laws_toAction.f a2_0 a2_1 a2_2).bind fun bt406 => ((impl_PlayedBy.f k bt398.1 bt398.2 t403 bt406.1 bt406.2.1 bt406.2.2).bind fun bt409 => ((laws_eqPlayedS.f k bt409.1 bt394.1).bind fun t413 => (if t413 = true then (laws_FnExactPlayedBy.j0 k l1 bt394.1 bt394.2 t403 bt409.1 bt409.2 (bt409.2 != bt394.2) l0_0 a0_1 a2_0 a2_1 a2_2 bt398.1 bt398.2) else (laws_FnExactPlayedBy.j0 k l1 bt394.1 bt394.2 t403 bt409.1 bt409.2 true l0_0 a0_1 a2_0 a2_1 a2_2 bt398.1 bt398.2)))))))))))))) = some r := H
 have A4 := zm A40
 clear A40
 by_cases c5 : t382 < 0
 ·
  rw [if_pos c5] at H
  have c5b0 : decide (t382 < 0) = true := decide_eq_true c5
  clear c5
  obtain rfl := Option.some.inj H
  go_enter Try.func5, Try.ntmps5
  go_wp2_with (first | ((with_reducible refine gate_dst (N := 3) rfl ?_); refine box_event ?hg (N := 3) ?hd (cs := #[.slice A0_0 l0_0.length c0_0, .int .i64 a0_1]) (t := 24) ?hr ?_; (case hd => rfl); (case hg => rfl); (case hr => first | (go_simp; done) | (go_simp; rfl)); intro gb380 hg w6 hbox hb; have n0_ := zm (below_step zb hb); have n1_ := zm (hbox); have n2_ := zm (zs hg zb : w.heap.size ≤ gb380); have n3_ := zm (zs hg zb : w.heap.size ≤ gb380); clear HB; have HB := n0_; have BK380 := n1_; have GW380 := n2_; have GE380 := n3_; clear n0_ n1_ n2_ n3_; clear hb hbox hg) | ((with_reducible refine gate_dst (N := 5) rfl ?_); refine box_event ?hg (N := 5) ?hd (cs := #[.int .i64 a2_0, .int .i64 a2_1, .int .i64 a2_2]) (t := 27) ?hr ?_; (case hd => rfl); (case hg => rfl); (case hr => first | (go_simp; done) | (go_simp; rfl)); intro gb381 hg w7 hbox hb; have n0_ := zm (blk_below (g := gb380) zk hb); have n1_ := zm (below_step zb hb); have n2_ := zm (hbox); have n3_ := zm (zs hg zb : w.heap.size ≤ gb381); have n4_ := zm (zs hg zb : w.heap.size ≤ gb381); have n5_ := zm (zl hg zk : gb380 ≠ gb381); have n6_ := zm (zg hg zk : gb381 ≠ gb380); clear BK380; clear HB; have BK380 := n0_; have HB := n1_; have BK381 := n2_; have GW381 := n3_; have GE381 := n4_; have NB380_381 := n5_; have NB381_380 := n6_; clear n0_ n1_ n2_ n3_ n4_ n5_ n6_; clear hb hbox hg; have hnb8 := NB380_381.out; have hnc8 := NB381_380.out; obtain ⟨hcz9_0, hcz9_1, hfz9_0, hfz9_1⟩ := zc2 BK380.out) | ((with_reducible refine gate_callee (f := 11) rfl ?_); refine goesL_ (some 21) rfl rfl Try.func11 (by kernel_rfl) rfl #[.agg #[.slice A0_0 l0_0.length c0_0, .int .i64 a0_1], .int .i64 1048576] rfl (by (try simp only [List.map_toArray, List.map_cons, List.map_nil]); first | done | rfl | (simp only [List.length_drop, List.length_take]; rfl)) ?_; (with_reducible refine (laws_szInstrument.calls _ _ l0_0 a0_1 1048576 t382 _ ?side1 ?side2 A4.out).mono ?_); (case side1 => repeat (first | exact (Kd.C_below HR0_0.out HB.out) | (with_reducible refine Kd.C_alloc ?_ _) | (with_reducible refine Kd.C_drewN ?_ _) | (with_reducible refine Kd.C_drew ?_))); (case side2 => exact HC0_0.out); rintro e w10 ⟨rfl, hb⟩; refine ⟨_, rfl, ?_⟩; have n0_ := zm (blk_below (g := gb380) zk hb); have n1_ := zm (blk_below (g := gb381) zk hb); have n2_ := zm (below_step zb hb); clear BK380; clear BK381; clear HB; have BK380 := n0_; have BK381 := n1_; have HB := n2_; clear n0_ n1_ n2_; (try clear hb); (try clear hb2); (try clear hk); (try clear hi)))
  go_ret
  exact ⟨zr, zb⟩
 ·
  rw [if_neg c5] at H
  have c5b0 : decide (t382 < 0) = false := decide_eq_false c5
  clear c5
  replace H := Option.bind_eq_some_iff.mp H
  obtain ⟨t383, A110, H⟩ := H
  replace H : (if t383 < 0 then (some true) else ((laws_toInstrument.f k l0_0 a0_1).bind fun bt384 => ((laws_toHoleS.f k l1).bind fun t388 => ((laws_toAction.f a2_0 a2_1 a2_2).bind fun bt391 => ((spec_PlayedBy.f k bt384.1 bt384.2 t388 bt391.1 bt391.2.1 bt391.2.2).bind fun bt394 => ((laws_toInstrument.f k l0_0 a0_1).bind fun bt398 => ((laws_toHoleS.f k l1).bind fun t403 => ((laws_toAction.f a2_0 a2_1 a2_2).bind fun bt406 => ((impl_PlayedBy.f k bt398.1 bt398.2 t403 bt406.1 bt406.2.1 bt406.2.2).bind fun bt409 => ((laws_eqPlayedS.f k bt409.1 bt394.1).bind fun t413 => (if t413 = true then (laws_FnExactPlayedBy.j0 k l1 bt394.1 bt394.2 t403 bt409.1 bt409.2 (bt409.2 != bt394.2) l0_0 a0_1 a2_0 a2_1 a2_2 bt398.1 bt398.2) else (laws_FnExactPlayedBy.j0 k l1 bt394.1 bt394.2 t403 bt409.1 bt409.2 true l0_0 a0_1 a2_0 a2_1 a2_2 bt398.1 bt398.2)))))))))))) = some r := H
  have A11 := zm A110
  clear A110
  by_cases c12 : t383 < 0
  ·
   rw [if_pos c12] at H
   have c12b0 : decide (t383 < 0) = true := decide_eq_true c12
   clear c12
   obtain rfl := Option.some.inj H
   go_enter Try.func5, Try.ntmps5
   go_wp2_with (first | ((with_reducible refine gate_dst (N := 3) rfl ?_); refine box_event ?hg (N := 3) ?hd (cs := #[.slice A0_0 l0_0.length c0_0, .int .i64 a0_1]) (t := 24) ?hr ?_; (case hd => rfl); (case hg => rfl); (case hr => first | (go_simp; done) | (go_simp; rfl)); intro gb380 hg w13 hbox hb; have n0_ := zm (below_step zb hb); have n1_ := zm (hbox); have n2_ := zm (zs hg zb : w.heap.size ≤ gb380); have n3_ := zm (zs hg zb : w.heap.size ≤ gb380); clear HB; have HB := n0_; have BK380 := n1_; have GW380 := n2_; have GE380 := n3_; clear n0_ n1_ n2_ n3_; clear hb hbox hg) | ((with_reducible refine gate_dst (N := 5) rfl ?_); refine box_event ?hg (N := 5) ?hd (cs := #[.int .i64 a2_0, .int .i64 a2_1, .int .i64 a2_2]) (t := 27) ?hr ?_; (case hd => rfl); (case hg => rfl); (case hr => first | (go_simp; done) | (go_simp; rfl)); intro gb381 hg w14 hbox hb; have n0_ := zm (blk_below (g := gb380) zk hb); have n1_ := zm (below_step zb hb); have n2_ := zm (hbox); have n3_ := zm (zs hg zb : w.heap.size ≤ gb381); have n4_ := zm (zs hg zb : w.heap.size ≤ gb381); have n5_ := zm (zl hg zk : gb380 ≠ gb381); have n6_ := zm (zg hg zk : gb381 ≠ gb380); clear BK380; clear HB; have BK380 := n0_; have HB := n1_; have BK381 := n2_; have GW381 := n3_; have GE381 := n4_; have NB380_381 := n5_; have NB381_380 := n6_; clear n0_ n1_ n2_ n3_ n4_ n5_ n6_; clear hb hbox hg; have hnb15 := NB380_381.out; have hnc15 := NB381_380.out; obtain ⟨hcz16_0, hcz16_1, hfz16_0, hfz16_1⟩ := zc2 BK380.out) | ((with_reducible refine gate_callee (f := 11) rfl ?_); refine goesL_ (some 21) rfl rfl Try.func11 (by kernel_rfl) rfl #[.agg #[.slice A0_0 l0_0.length c0_0, .int .i64 a0_1], .int .i64 1048576] rfl (by (try simp only [List.map_toArray, List.map_cons, List.map_nil]); first | done | rfl | (simp only [List.length_drop, List.length_take]; rfl)) ?_; (with_reducible refine (laws_szInstrument.calls _ _ l0_0 a0_1 1048576 t382 _ ?side1 ?side2 A4.out).mono ?_); (case side1 => repeat (first | exact (Kd.C_below HR0_0.out HB.out) | (with_reducible refine Kd.C_alloc ?_ _) | (with_reducible refine Kd.C_drewN ?_ _) | (with_reducible refine Kd.C_drew ?_))); (case side2 => exact HC0_0.out); rintro e w17 ⟨rfl, hb⟩; refine ⟨_, rfl, ?_⟩; have n0_ := zm (blk_below (g := gb380) zk hb); have n1_ := zm (blk_below (g := gb381) zk hb); have n2_ := zm (below_step zb hb); clear BK380; clear BK381; clear HB; have BK380 := n0_; have BK381 := n1_; have HB := n2_; clear n0_ n1_ n2_; (try clear hb); (try clear hb2); (try clear hk); (try clear hi)) | ((with_reducible refine gate_callee (f := 12) rfl ?_); refine goesL_ (some 26) rfl rfl Try.func12 (by kernel_rfl) rfl #[.slice A1 l1.length c1, .int .i64 t382] rfl (by (try simp only [List.map_toArray, List.map_cons, List.map_nil]); first | done | rfl | (simp only [List.length_drop, List.length_take]; rfl)) ?_; (with_reducible refine (laws_szHoleS.calls _ _ l1 t382 t383 _ ?side1 ?side2 A11.out).mono ?_); (case side1 => repeat (first | exact (Kd.C_below HR1.out HB.out) | (with_reducible refine Kd.C_alloc ?_ _) | (with_reducible refine Kd.C_drewN ?_ _) | (with_reducible refine Kd.C_drew ?_))); (case side2 => exact HC1.out); rintro e w' ⟨rfl, ⟨nd, rfl⟩⟩; refine ⟨_, rfl, ?_⟩))
   go_ret
   exact ⟨zr, zb⟩
  ·
   rw [if_neg c12] at H
   have c12b0 : decide (t383 < 0) = false := decide_eq_false c12
   clear c12
   replace H := Option.bind_eq_some_iff.mp H
   obtain ⟨⟨t384, t387⟩, A180, H⟩ := H
   replace H : ((laws_toHoleS.f k l1).bind fun t388 => ((laws_toAction.f a2_0 a2_1 a2_2).bind fun bt391 => ((spec_PlayedBy.f k t384 t387 t388 bt391.1 bt391.2.1 bt391.2.2).bind fun bt394 => ((laws_toInstrument.f k l0_0 a0_1).bind fun bt398 => ((laws_toHoleS.f k l1).bind fun t403 => ((laws_toAction.f a2_0 a2_1 a2_2).bind fun bt406 => ((impl_PlayedBy.f k bt398.1 bt398.2 t403 bt406.1 bt406.2.1 bt406.2.2).bind fun bt409 => ((laws_eqPlayedS.f k bt409.1 bt394.1).bind fun t413 => (if t413 = true then (laws_FnExactPlayedBy.j0 k l1 bt394.1 bt394.2 t403 bt409.1 bt409.2 (bt409.2 != bt394.2) l0_0 a0_1 a2_0 a2_1 a2_2 bt398.1 bt398.2) else (laws_FnExactPlayedBy.j0 k l1 bt394.1 bt394.2 t403 bt409.1 bt409.2 true l0_0 a0_1 a2_0 a2_1 a2_2 bt398.1 bt398.2)))))))))) = some r := H
   have A18 := zm A180
   clear A180
   replace H := Option.bind_eq_some_iff.mp H
   obtain ⟨t388, A190, H⟩ := H
   replace H : ((laws_toAction.f a2_0 a2_1 a2_2).bind fun bt391 => ((spec_PlayedBy.f k t384 t387 t388 bt391.1 bt391.2.1 bt391.2.2).bind fun bt394 => ((laws_toInstrument.f k l0_0 a0_1).bind fun bt398 => ((laws_toHoleS.f k l1).bind fun t403 => ((laws_toAction.f a2_0 a2_1 a2_2).bind fun bt406 => ((impl_PlayedBy.f k bt398.1 bt398.2 t403 bt406.1 bt406.2.1 bt406.2.2).bind fun bt409 => ((laws_eqPlayedS.f k bt409.1 bt394.1).bind fun t413 => (if t413 = true then (laws_FnExactPlayedBy.j0 k l1 bt394.1 bt394.2 t403 bt409.1 bt409.2 (bt409.2 != bt394.2) l0_0 a0_1 a2_0 a2_1 a2_2 bt398.1 bt398.2) else (laws_FnExactPlayedBy.j0 k l1 bt394.1 bt394.2 t403 bt409.1 bt409.2 true l0_0 a0_1 a2_0 a2_1 a2_2 bt398.1 bt398.2))))))))) = some r := H
   have A19 := zm A190
   clear A190
   replace H := Option.bind_eq_some_iff.mp H
   obtain ⟨⟨t391, t392, t393⟩, A200, H⟩ := H
   replace H : ((spec_PlayedBy.f k t384 t387 t388 t391 t392 t393).bind fun bt394 => ((laws_toInstrument.f k l0_0 a0_1).bind fun bt398 => ((laws_toHoleS.f k l1).bind fun t403 => ((laws_toAction.f a2_0 a2_1 a2_2).bind fun bt406 => ((impl_PlayedBy.f k bt398.1 bt398.2 t403 bt406.1 bt406.2.1 bt406.2.2).bind fun bt409 => ((laws_eqPlayedS.f k bt409.1 bt394.1).bind fun t413 => (if t413 = true then (laws_FnExactPlayedBy.j0 k l1 bt394.1 bt394.2 t403 bt409.1 bt409.2 (bt409.2 != bt394.2) l0_0 a0_1 a2_0 a2_1 a2_2 bt398.1 bt398.2) else (laws_FnExactPlayedBy.j0 k l1 bt394.1 bt394.2 t403 bt409.1 bt409.2 true l0_0 a0_1 a2_0 a2_1 a2_2 bt398.1 bt398.2)))))))) = some r := H
   have A20 := zm A200
   clear A200
   replace H := Option.bind_eq_some_iff.mp H
   obtain ⟨⟨t394, t397⟩, A210, H⟩ := H
   replace H : ((laws_toInstrument.f k l0_0 a0_1).bind fun bt398 => ((laws_toHoleS.f k l1).bind fun t403 => ((laws_toAction.f a2_0 a2_1 a2_2).bind fun bt406 => ((impl_PlayedBy.f k bt398.1 bt398.2 t403 bt406.1 bt406.2.1 bt406.2.2).bind fun bt409 => ((laws_eqPlayedS.f k bt409.1 t394).bind fun t413 => (if t413 = true then (laws_FnExactPlayedBy.j0 k l1 t394 t397 t403 bt409.1 bt409.2 (bt409.2 != t397) l0_0 a0_1 a2_0 a2_1 a2_2 bt398.1 bt398.2) else (laws_FnExactPlayedBy.j0 k l1 t394 t397 t403 bt409.1 bt409.2 true l0_0 a0_1 a2_0 a2_1 a2_2 bt398.1 bt398.2))))))) = some r := H
   have A21 := zm A210
   clear A210
   replace H := Option.bind_eq_some_iff.mp H
   obtain ⟨⟨t398, t401⟩, A220, H⟩ := H
   replace H : ((laws_toHoleS.f k l1).bind fun t403 => ((laws_toAction.f a2_0 a2_1 a2_2).bind fun bt406 => ((impl_PlayedBy.f k t398 t401 t403 bt406.1 bt406.2.1 bt406.2.2).bind fun bt409 => ((laws_eqPlayedS.f k bt409.1 t394).bind fun t413 => (if t413 = true then (laws_FnExactPlayedBy.j0 k l1 t394 t397 t403 bt409.1 bt409.2 (bt409.2 != t397) l0_0 a0_1 a2_0 a2_1 a2_2 t398 t401) else (laws_FnExactPlayedBy.j0 k l1 t394 t397 t403 bt409.1 bt409.2 true l0_0 a0_1 a2_0 a2_1 a2_2 t398 t401)))))) = some r := H
   have A22 := zm A220
   clear A220
   replace H := Option.bind_eq_some_iff.mp H
   obtain ⟨t403, A230, H⟩ := H
   replace H : ((laws_toAction.f a2_0 a2_1 a2_2).bind fun bt406 => ((impl_PlayedBy.f k t398 t401 t403 bt406.1 bt406.2.1 bt406.2.2).bind fun bt409 => ((laws_eqPlayedS.f k bt409.1 t394).bind fun t413 => (if t413 = true then (laws_FnExactPlayedBy.j0 k l1 t394 t397 t403 bt409.1 bt409.2 (bt409.2 != t397) l0_0 a0_1 a2_0 a2_1 a2_2 t398 t401) else (laws_FnExactPlayedBy.j0 k l1 t394 t397 t403 bt409.1 bt409.2 true l0_0 a0_1 a2_0 a2_1 a2_2 t398 t401))))) = some r := H
   have A23 := zm A230
   clear A230
   replace H := Option.bind_eq_some_iff.mp H
   obtain ⟨⟨t406, t407, t408⟩, A240, H⟩ := H
   replace H : ((impl_PlayedBy.f k t398 t401 t403 t406 t407 t408).bind fun bt409 => ((laws_eqPlayedS.f k bt409.1 t394).bind fun t413 => (if t413 = true then (laws_FnExactPlayedBy.j0 k l1 t394 t397 t403 bt409.1 bt409.2 (bt409.2 != t397) l0_0 a0_1 a2_0 a2_1 a2_2 t398 t401) else (laws_FnExactPlayedBy.j0 k l1 t394 t397 t403 bt409.1 bt409.2 true l0_0 a0_1 a2_0 a2_1 a2_2 t398 t401)))) = some r := H
   have A24 := zm A240
   clear A240
   replace H := Option.bind_eq_some_iff.mp H
   obtain ⟨⟨t409, t412⟩, A250, H⟩ := H
   replace H : ((laws_eqPlayedS.f k t409 t394).bind fun t413 => (if t413 = true then (laws_FnExactPlayedBy.j0 k l1 t394 t397 t403 t409 t412 (t412 != t397) l0_0 a0_1 a2_0 a2_1 a2_2 t398 t401) else (laws_FnExactPlayedBy.j0 k l1 t394 t397 t403 t409 t412 true l0_0 a0_1 a2_0 a2_1 a2_2 t398 t401))) = some r := H
   have A25 := zm A250
   clear A250
   have HC26 := zm H
   clear H
   go_enter Try.func5, Try.ntmps5
   try go_wp2_with (first | ((with_reducible refine gate_dst (N := 3) rfl ?_); refine box_event ?hg (N := 3) ?hd (cs := #[.slice A0_0 l0_0.length c0_0, .int .i64 a0_1]) (t := 24) ?hr ?_; (case hd => rfl); (case hg => rfl); (case hr => first | (go_simp; done) | (go_simp; rfl)); intro gb380 hg w27 hbox hb; have n0_ := zm (below_step zb hb); have n1_ := zm (hbox); have n2_ := zm (zs hg zb : w.heap.size ≤ gb380); have n3_ := zm (zs hg zb : w.heap.size ≤ gb380); clear HB; have HB := n0_; have BK380 := n1_; have GW380 := n2_; have GE380 := n3_; clear n0_ n1_ n2_ n3_; clear hb hbox hg) | ((with_reducible refine gate_dst (N := 5) rfl ?_); refine box_event ?hg (N := 5) ?hd (cs := #[.int .i64 a2_0, .int .i64 a2_1, .int .i64 a2_2]) (t := 27) ?hr ?_; (case hd => rfl); (case hg => rfl); (case hr => first | (go_simp; done) | (go_simp; rfl)); intro gb381 hg w28 hbox hb; have n0_ := zm (blk_below (g := gb380) zk hb); have n1_ := zm (below_step zb hb); have n2_ := zm (hbox); have n3_ := zm (zs hg zb : w.heap.size ≤ gb381); have n4_ := zm (zs hg zb : w.heap.size ≤ gb381); have n5_ := zm (zl hg zk : gb380 ≠ gb381); have n6_ := zm (zg hg zk : gb381 ≠ gb380); clear BK380; clear HB; have BK380 := n0_; have HB := n1_; have BK381 := n2_; have GW381 := n3_; have GE381 := n4_; have NB380_381 := n5_; have NB381_380 := n6_; clear n0_ n1_ n2_ n3_ n4_ n5_ n6_; clear hb hbox hg; have hnb29 := NB380_381.out; have hnc29 := NB381_380.out; obtain ⟨hcz30_0, hcz30_1, hfz30_0, hfz30_1⟩ := zc2 BK380.out) | ((with_reducible refine gate_callee (f := 11) rfl ?_); refine goesL_ (some 21) rfl rfl Try.func11 (by kernel_rfl) rfl #[.agg #[.slice A0_0 l0_0.length c0_0, .int .i64 a0_1], .int .i64 1048576] rfl (by (try simp only [List.map_toArray, List.map_cons, List.map_nil]); first | done | rfl | (simp only [List.length_drop, List.length_take]; rfl)) ?_; (with_reducible refine (laws_szInstrument.calls _ _ l0_0 a0_1 1048576 t382 _ ?side1 ?side2 A4.out).mono ?_); (case side1 => repeat (first | exact (Kd.C_below HR0_0.out HB.out) | (with_reducible refine Kd.C_alloc ?_ _) | (with_reducible refine Kd.C_drewN ?_ _) | (with_reducible refine Kd.C_drew ?_))); (case side2 => exact HC0_0.out); rintro e w31 ⟨rfl, hb⟩; refine ⟨_, rfl, ?_⟩; have n0_ := zm (blk_below (g := gb380) zk hb); have n1_ := zm (blk_below (g := gb381) zk hb); have n2_ := zm (below_step zb hb); clear BK380; clear BK381; clear HB; have BK380 := n0_; have BK381 := n1_; have HB := n2_; clear n0_ n1_ n2_; (try clear hb); (try clear hb2); (try clear hk); (try clear hi)) | ((with_reducible refine gate_callee (f := 12) rfl ?_); refine goesL_ (some 26) rfl rfl Try.func12 (by kernel_rfl) rfl #[.slice A1 l1.length c1, .int .i64 t382] rfl (by (try simp only [List.map_toArray, List.map_cons, List.map_nil]); first | done | rfl | (simp only [List.length_drop, List.length_take]; rfl)) ?_; (with_reducible refine (laws_szHoleS.calls _ _ l1 t382 t383 _ ?side1 ?side2 A11.out).mono ?_); (case side1 => repeat (first | exact (Kd.C_below HR1.out HB.out) | (with_reducible refine Kd.C_alloc ?_ _) | (with_reducible refine Kd.C_drewN ?_ _) | (with_reducible refine Kd.C_drew ?_))); (case side2 => exact HC1.out); rintro e w' ⟨rfl, ⟨nd, rfl⟩⟩; refine ⟨_, rfl, ?_⟩; (try (rw [drewN_self w31]; generalize hq_ : World.drewN w31 _ = w31; have n0_ : Aside0 (w31.heap[gb380]? = some (.cells #[.slice A0_0 l0_0.length c0_0, .int .i64 a0_1] 24 (0, 0))) := ⟨by rw [← hq_]; exact zk⟩; have n1_ : Aside0 (w31.heap[gb381]? = some (.cells #[.int .i64 a2_0, .int .i64 a2_1, .int .i64 a2_2] 27 (0, 0))) := ⟨by rw [← hq_]; exact zk⟩; have n2_ : Aside0 (Below w.heap.size w w31) := ⟨by rw [← hq_]; exact zb⟩; clear BK380 BK381 HB hq_; have BK380 := n0_; have BK381 := n1_; have HB := n2_; clear n0_ n1_ n2_))))
   have n0_ := zm (blk_drew BK380.out)
   have n1_ := zm (blk_drew BK381.out)
   have n2_ := zm (below_drew1 HB.out)
   clear BK380
   clear BK381
   clear HB
   have BK380 := n0_
   have BK381 := n1_
   have HB := n2_
   clear n0_ n1_ n2_
   refine start_ (n := 12) (S := fun w' => w'.cell? ⟨gb380, 0, none⟩ = some (.slice A0_0 l0_0.length c0_0) ∧ w'.cell? ⟨gb380, 1, none⟩ = some (.int .i64 a0_1) ∧ w'.cell? ⟨gb381, 0, none⟩ = some (.int .i64 a2_0) ∧ w'.cell? ⟨gb381, 1, none⟩ = some (.int .i64 a2_1) ∧ w'.cell? ⟨gb381, 2, none⟩ = some (.int .i64 a2_2)) (ds := []) #[false, false, false, false, false, false, false, false, false, false, false, false] (by kernel_rfl) rfl rfl ⟨(blk_cell BK380.out 0).trans rfl, (blk_cell BK380.out 1).trans rfl, (blk_cell BK381.out 0).trans rfl, (blk_cell BK381.out 1).trans rfl, (blk_cell BK381.out 2).trans rfl⟩ (fun hHeld => ?_); refine with_tabW laws_FnExactPlayedBy.tab8 laws_FnExactPlayedBy.bits8 (fun HT_ HW_ => ?_)
   generalize w31.drew = w32 at BK380 BK381 HB hHeld ⊢
   refine pure_ (i := 2) (N := some 32) (v := ?_) (a' := ?_) #[false, false, true, false, false, false, false, false, false, false, false, false] rfl rfl (any_of HT_.out (by kernel_rfl)) (fun _ _ _ h => h) (Or.inl ⟨by rfl, ?_⟩) ?_ ?_
   rotate_left
   ·
    intro w'
    go_simp
    with_reducible rfl
   rotate_left
   ·
    simp only [Act.put, zA, zB, zD, i64_w, i32_w]
    rfl
   refine take_ (i := 0) (N := some 30) (v := ?_) (a' := ?_) #[true, false, true, false, false, false, false, false, false, false, false, false] rfl rfl (take_ofW HT_.out HW_.out (by kernel_rfl)) (fun _ _ _ h => h) (Or.inl ⟨by rfl, ?_⟩) hHeld ?_ ?_
   rotate_left
   ·
    rintro w' ⟨s0, s1, s2, s3, s4⟩
    go_simp
    with_reducible rfl
   rotate_left
   ·
    simp only [Act.put, zA, zB, zD, i64_w, i32_w]
    rfl
   refine take_ (i := 4) (N := some 34) (v := ?_) (a' := ?_) #[true, false, true, false, true, false, false, false, false, false, false, false] rfl rfl (take_ofW HT_.out HW_.out (by kernel_rfl)) (fun _ _ _ h => h) (Or.inl ⟨by rfl, ?_⟩) hHeld ?_ ?_
   rotate_left
   ·
    rintro w' ⟨s0, s1, s2, s3, s4⟩
    go_simp
    with_reducible rfl
   rotate_left
   ·
    simp only [Act.put, zA, zB, zD, i64_w, i32_w]
    rfl
   refine one_ (i := 1) (N := some 31) #[true, true, true, false, true, false, false, false, false, false, false, false] rfl rfl (one_of HT_.out (by kernel_rfl)) (by decide) (fun K hK => ?_)
   refine goes_ Try.func14 (by kernel_rfl) rfl #[.agg #[.slice A0_0 l0_0.length c0_0, .int .i64 a0_1]] (by rfl) rfl rfl (by (try simp only [List.map_toArray, List.map_cons, List.map_nil]); first | done | rfl | (simp only [List.length_drop, List.length_take]; rfl)) ?_
   with_reducible refine (laws_toInstrument.calls k _ _ l0_0 a0_1 t384 t387 _ ?side1 ?side2 A18.out).mono ?_
   (case side1 => repeat (first | exact (Kd.C_below HR0_0.out HB.out) | (with_reducible refine Kd.C_alloc ?_ _) | (with_reducible refine Kd.C_drewN ?_ _) | (with_reducible refine Kd.C_drew ?_)))
   (case side2 => exact HC0_0.out)
   rintro e w33 ⟨v385, rfl, ho0, hb⟩
   refine ⟨_, rfl, ?_⟩
   have n0_ := zm (Kd.R_lower ho0 (below_size zb))
   have n1_ := zm (blk_below (g := gb380) zk hb)
   have n2_ := zm (blk_below (g := gb381) zk hb)
   have n3_ := zm (below_step zb hb)
   clear BK380
   clear BK381
   clear HB
   have HO386 := n0_
   have BK380 := n1_
   have BK381 := n2_
   have HB := n3_
   clear n0_ n1_ n2_ n3_
   (try clear hb)
   (try clear hb2)
   (try clear hk)
   (try clear hi)
   (try clear ho0)
   refine hK.out _ _ ⟨(blk_cell BK380.out 0).trans rfl, (blk_cell BK380.out 1).trans rfl, (blk_cell BK381.out 0).trans rfl, (blk_cell BK381.out 1).trans rfl, (blk_cell BK381.out 2).trans rfl⟩ (fun hHeld => ?_)
   clear hK K
   refine norm_ (a' := ?_) ?_ ?_
   rotate_left
   ·
    show Act.put _ (some 31) _ = _
    simp only [Act.put, zA, zB, zD, i64_w, i32_w]
    rfl
   refine one_ (i := 3) (N := some 33) #[true, true, true, true, true, false, false, false, false, false, false, false] rfl rfl (one_of HT_.out (by kernel_rfl)) (by decide) (fun K hK => ?_)
   refine goes_ Try.func15 (by kernel_rfl) rfl #[.slice A1 l1.length c1] (by rfl) rfl rfl (by (try simp only [List.map_toArray, List.map_cons, List.map_nil]); first | done | rfl | (simp only [List.length_drop, List.length_take]; rfl)) ?_
   with_reducible refine (laws_toHoleS.calls k _ _ l1 t388 _ ?side1 ?side2 A19.out).mono ?_
   (case side1 => repeat (first | exact (Kd.C_below HR1.out HB.out) | (with_reducible refine Kd.C_alloc ?_ _) | (with_reducible refine Kd.C_drewN ?_ _) | (with_reducible refine Kd.C_drew ?_)))
   (case side2 => exact HC1.out)
   rintro e w34 ⟨v389, rfl, ho0, hb⟩
   refine ⟨_, rfl, ?_⟩
   have n0_ := zm (Kd.R_below (by (with_reducible repeat (first | apply Kd.R_alloc | apply Kd.R_drewN | apply Kd.R_drew)); exact HO386.out) hb)
   have n1_ := zm (Kd.R_lower ho0 (below_size zb))
   have n2_ := zm (blk_below (g := gb380) zk hb)
   have n3_ := zm (blk_below (g := gb381) zk hb)
   have n4_ := zm (below_step zb hb)
   clear HO386
   clear BK380
   clear BK381
   clear HB
   have HO386 := n0_
   have HO390 := n1_
   have BK380 := n2_
   have BK381 := n3_
   have HB := n4_
   clear n0_ n1_ n2_ n3_ n4_
   (try clear hb)
   (try clear hb2)
   (try clear hk)
   (try clear hi)
   (try clear ho0)
   refine hK.out _ _ ⟨(blk_cell BK380.out 0).trans rfl, (blk_cell BK380.out 1).trans rfl, (blk_cell BK381.out 0).trans rfl, (blk_cell BK381.out 1).trans rfl, (blk_cell BK381.out 2).trans rfl⟩ (fun hHeld => ?_)
   clear hK K
   refine norm_ (a' := ?_) ?_ ?_
   rotate_left
   ·
    show Act.put _ (some 33) _ = _
    simp only [Act.put, zA, zB, zD, i64_w, i32_w]
    rfl
   refine one_ (i := 5) (N := some 35) #[true, true, true, true, true, true, false, false, false, false, false, false] rfl rfl (one_of HT_.out (by kernel_rfl)) (by decide) (fun K hK => ?_)
   refine goes_ Try.func16 (by kernel_rfl) rfl #[.agg #[.int .i64 a2_0, .int .i64 a2_1, .int .i64 a2_2]] (by rfl) rfl rfl (by (try simp only [List.map_toArray, List.map_cons, List.map_nil]); first | done | rfl | (simp only [List.length_drop, List.length_take]; rfl)) ?_
   with_reducible refine (laws_toAction.calls a2_0 a2_1 a2_2 t391 t392 t393 _ A20.out).mono ?_
   rintro e w35 ⟨rfl, hb⟩
   refine ⟨_, rfl, ?_⟩
   have n0_ := zm (Kd.R_below (by (with_reducible repeat (first | apply Kd.R_alloc | apply Kd.R_drewN | apply Kd.R_drew)); exact HO386.out) hb)
   have n1_ := zm (Kd.R_below (by (with_reducible repeat (first | apply Kd.R_alloc | apply Kd.R_drewN | apply Kd.R_drew)); exact HO390.out) hb)
   have n2_ := zm (blk_below (g := gb380) zk hb)
   have n3_ := zm (blk_below (g := gb381) zk hb)
   have n4_ := zm (below_step zb hb)
   clear HO386
   clear HO390
   clear BK380
   clear BK381
   clear HB
   have HO386 := n0_
   have HO390 := n1_
   have BK380 := n2_
   have BK381 := n3_
   have HB := n4_
   clear n0_ n1_ n2_ n3_ n4_
   (try clear hb)
   (try clear hb2)
   (try clear hk)
   (try clear hi)
   obtain ⟨Ao36, co36, eo36⟩ := Kd.R_slice HO386.out
   (first | subst eo36 | (injection eo36 with f1_ f2_ f3_; have f4_ := f1_.symm; have f5_ := f3_.symm; clear f1_ f2_ f3_; subst f4_; subst f5_))
   obtain ⟨Ao37, co37, eo37⟩ := Kd.R_slice HO390.out
   (first | subst eo37 | (injection eo37 with f1_ f2_ f3_; have f4_ := f1_.symm; have f5_ := f3_.symm; clear f1_ f2_ f3_; subst f4_; subst f5_))
   refine hK.out _ _ ⟨(blk_cell BK380.out 0).trans rfl, (blk_cell BK380.out 1).trans rfl, (blk_cell BK381.out 0).trans rfl, (blk_cell BK381.out 1).trans rfl, (blk_cell BK381.out 2).trans rfl⟩ (fun hHeld => ?_)
   clear hK K
   refine norm_ (a' := ?_) ?_ ?_
   rotate_left
   ·
    show Act.put _ (some 35) _ = _
    simp only [Act.put, zA, zB, zD, i64_w, i32_w]
    rfl
   refine one_ (i := 6) (N := some 36) #[true, true, true, true, true, true, true, false, false, false, false, false] rfl rfl (one_of HT_.out (by kernel_rfl)) (by decide) (fun K hK => ?_)
   refine goes_ Try.func27 (by kernel_rfl) rfl #[.agg #[.slice Ao36 t384.length co36, .int .i64 t387], .slice Ao37 t388.length co37, .agg #[.int .i64 t391, .int .i64 t392, .int .i64 t393]] (by rfl) rfl rfl (by (try simp only [List.map_toArray, List.map_cons, List.map_nil]); first | done | rfl | (simp only [List.length_drop, List.length_take]; rfl)) ?_
   with_reducible refine (spec_PlayedBy.calls k _ _ t384 t387 _ _ t388 t391 t392 t393 t394 t397 _ ?side1 ?side2 ?side3 ?side4 A21.out).mono ?_
   (case side1 => repeat (first | exact (Kd.R_reads' HO386.out).2.2 | (with_reducible refine Kd.C_alloc ?_ _) | (with_reducible refine Kd.C_drewN ?_ _) | (with_reducible refine Kd.C_drew ?_)))
   (case side2 => exact (Kd.R_reads' HO386.out).2.1)
   (case side3 => repeat (first | exact (Kd.R_reads' HO390.out).2.2 | (with_reducible refine Kd.C_alloc ?_ _) | (with_reducible refine Kd.C_drewN ?_ _) | (with_reducible refine Kd.C_drew ?_)))
   (case side4 => exact (Kd.R_reads' HO390.out).2.1)
   rintro e w38 ⟨v395, rfl, ho0, hb⟩
   refine ⟨_, rfl, ?_⟩
   have n0_ := zm (Kd.R_below (by (with_reducible repeat (first | apply Kd.R_alloc | apply Kd.R_drewN | apply Kd.R_drew)); exact HO386.out) hb)
   have n1_ := zm (Kd.R_below (by (with_reducible repeat (first | apply Kd.R_alloc | apply Kd.R_drewN | apply Kd.R_drew)); exact HO390.out) hb)
   have n2_ := zm (Kd.R_lower ho0 (below_size zb))
   have n3_ := zm (blk_below (g := gb380) zk hb)
   have n4_ := zm (blk_below (g := gb381) zk hb)
   have n5_ := zm (below_step zb hb)
   clear HO386
   clear HO390
   clear BK380
   clear BK381
   clear HB
   have HO386 := n0_
   have HO390 := n1_
   have HO396 := n2_
   have BK380 := n3_
   have BK381 := n4_
   have HB := n5_
   clear n0_ n1_ n2_ n3_ n4_ n5_
   (try clear hb)
   (try clear hb2)
   (try clear hk)
   (try clear hi)
   (try clear ho0)
   refine hK.out _ _ ⟨(blk_cell BK380.out 0).trans rfl, (blk_cell BK380.out 1).trans rfl, (blk_cell BK381.out 0).trans rfl, (blk_cell BK381.out 1).trans rfl, (blk_cell BK381.out 2).trans rfl⟩ (fun hHeld => ?_)
   clear hK K
   refine norm_ (a' := ?_) ?_ ?_
   rotate_left
   ·
    show Act.put _ (some 36) _ = _
    simp only [Act.put, zA, zB, zD, i64_w, i32_w]
    rfl
   refine pure_ (i := 7) (N := some 29) (v := ?_) (a' := ?_) #[true, true, true, true, true, true, true, true, false, false, false, false] rfl rfl (any_of HT_.out (by kernel_rfl)) (fun _ _ _ h => h) (Or.inl ⟨by rfl, ?_⟩) ?_ ?_
   rotate_left
   ·
    intro w'
    go_simp
    with_reducible rfl
   rotate_left
   ·
    simp only [Act.put, zA, zB, zD, i64_w, i32_w]
    rfl
   refine pure_ (i := 8) (N := some 37) (v := ?_) (a' := ?_) #[true, true, true, true, true, true, true, true, true, false, false, false] rfl rfl (any_of HT_.out (by kernel_rfl)) (fun _ _ _ h => h) (Or.inl ⟨by rfl, ?_⟩) ?_ ?_
   rotate_left
   ·
    intro w'
    go_simp
    with_reducible rfl
   rotate_left
   ·
    simp only [Act.put, zA, zB, zD, i64_w, i32_w]
    rfl
   refine pure_ (i := 9) (N := some 38) (v := ?_) (a' := ?_) #[true, true, true, true, true, true, true, true, true, true, false, false] rfl rfl (any_of HT_.out (by kernel_rfl)) (fun _ _ _ h => h) (Or.inl ⟨by rfl, ?_⟩) ?_ ?_
   rotate_left
   ·
    intro w'
    go_simp
    with_reducible rfl
   rotate_left
   ·
    simp only [Act.put, zA, zB, zD, i64_w, i32_w]
    rfl
   refine pure_ (i := 10) (N := some 8) (v := ?_) (a' := ?_) #[true, true, true, true, true, true, true, true, true, true, true, false] rfl rfl (any_of HT_.out (by kernel_rfl)) (fun _ _ _ h => h) (Or.inl ⟨by rfl, ?_⟩) ?_ ?_
   rotate_left
   ·
    intro w'
    go_simp
    with_reducible rfl
   rotate_left
   ·
    simp only [Act.put, zA, zB, zD, i64_w, i32_w]
    rfl
   refine pure_ (i := 11) (N := some 9) (v := ?_) (a' := ?_) #[true, true, true, true, true, true, true, true, true, true, true, true] rfl rfl (any_of HT_.out (by kernel_rfl)) (fun _ _ _ h => h) (Or.inl ⟨by rfl, ?_⟩) ?_ ?_
   rotate_left
   ·
    intro w'
    go_simp
    with_reducible rfl
   rotate_left
   ·
    simp only [Act.put, zA, zB, zD, i64_w, i32_w]
    rfl
   refine done_ (done_of HT_.out (by kernel_rfl)) ?_
   obtain ⟨hcz39_0, hcz39_1, hfz39_0, hfz39_1⟩ := zc2 BK380.out
   try go_wp2_with (first | ((with_reducible refine gate_callee (f := 14) rfl ?_); refine goesL_ (some 40) rfl rfl Try.func14 (by kernel_rfl) rfl #[.agg #[.slice A0_0 l0_0.length c0_0, .int .i64 a0_1]] rfl (by (try simp only [List.map_toArray, List.map_cons, List.map_nil]); first | done | rfl | (simp only [List.length_drop, List.length_take]; rfl)) ?_; (with_reducible refine (laws_toInstrument.calls k _ _ l0_0 a0_1 t398 t401 _ ?side1 ?side2 A22.out).mono ?_); (case side1 => repeat (first | exact (Kd.C_below HR0_0.out HB.out) | (with_reducible refine Kd.C_alloc ?_ _) | (with_reducible refine Kd.C_drewN ?_ _) | (with_reducible refine Kd.C_drew ?_))); (case side2 => exact HC0_0.out); rintro e w40 ⟨v399, rfl, ho0, hb⟩; refine ⟨_, rfl, ?_⟩; have n0_ := zm (Kd.R_elder' (by (with_reducible repeat (first | apply Kd.R_alloc | apply Kd.R_drewN | apply Kd.R_drew)); exact HO386.out) (Kd.R_base ho0) hb); have n1_ := zm (Kd.R_below (by (with_reducible repeat (first | apply Kd.R_alloc | apply Kd.R_drewN | apply Kd.R_drew)); exact HO390.out) hb); have n2_ := zm (Kd.R_below (by (with_reducible repeat (first | apply Kd.R_alloc | apply Kd.R_drewN | apply Kd.R_drew)); exact HO396.out) hb); have n3_ := zm (Kd.R_lower (Kd.R_new' ho0 (Kd.R_lt (by (with_reducible repeat (first | apply Kd.R_alloc | apply Kd.R_drewN | apply Kd.R_drew)); exact HO386.out))) (below_size zb)); have n4_ := zm (blk_below (g := gb380) zk hb); have n5_ := zm (blk_below (g := gb381) zk hb); have n6_ := zm (below_step zb hb); clear HO386; clear HO390; clear HO396; clear BK380; clear BK381; clear HB; have HO386 := n0_; have HO390 := n1_; have HO396 := n2_; have HO400 := n3_; have BK380 := n4_; have BK381 := n5_; have HB := n6_; clear n0_ n1_ n2_ n3_ n4_ n5_ n6_; (try clear hb); (try clear hb2); (try clear hk); (try clear hi); (try clear ho0)) | ((with_reducible refine gate_dst (N := 10) rfl ?_); refine box_event ?hg (N := 10) ?hd (cs := #[.slice none 0 0, .int .i64 0]) (t := 32) ?hr ?_; (case hd => rfl); (case hg => rfl); (case hr => first | (go_simp; done) | (go_simp; rfl)); intro gb402 hg w41 hbox hb; have n0_ := zm (Kd.R_below (by (with_reducible repeat (first | apply Kd.R_alloc | apply Kd.R_drewN | apply Kd.R_drew)); exact HO386.out) hb); have n1_ := zm (Kd.R_below (by (with_reducible repeat (first | apply Kd.R_alloc | apply Kd.R_drewN | apply Kd.R_drew)); exact HO390.out) hb); have n2_ := zm (Kd.R_below (by (with_reducible repeat (first | apply Kd.R_alloc | apply Kd.R_drewN | apply Kd.R_drew)); exact HO396.out) hb); have n3_ := zm (Kd.R_below (by (with_reducible repeat (first | apply Kd.R_alloc | apply Kd.R_drewN | apply Kd.R_drew)); exact HO400.out) hb); have n4_ := zm (blk_below (g := gb380) zk hb); have n5_ := zm (blk_below (g := gb381) zk hb); have n6_ := zm (below_step zb hb); have n7_ := zm (hbox); have n8_ := zm (zs hg zb : w.heap.size ≤ gb402); have n9_ := zm (zs hg zb : w.heap.size ≤ gb402); have n10_ := zm (zl hg zk : gb380 ≠ gb402); have n11_ := zm (zg hg zk : gb402 ≠ gb380); have n12_ := zm (zl hg zk : gb381 ≠ gb402); have n13_ := zm (zg hg zk : gb402 ≠ gb381); clear HO386; clear HO390; clear HO396; clear HO400; clear BK380; clear BK381; clear HB; have HO386 := n0_; have HO390 := n1_; have HO396 := n2_; have HO400 := n3_; have BK380 := n4_; have BK381 := n5_; have HB := n6_; have BK402 := n7_; have GW402 := n8_; have GE402 := n9_; have NB380_402 := n10_; have NB402_380 := n11_; have NB381_402 := n12_; have NB402_381 := n13_; clear n0_ n1_ n2_ n3_ n4_ n5_ n6_ n7_ n8_ n9_ n10_ n11_ n12_ n13_; clear hb hbox hg; obtain ⟨Ao42, co42, eo42⟩ := Kd.R_slice HO400.out; subst eo42; have hnb43 := NB402_380.out; have hnc43 := NB380_402.out; have hnb44 := NB402_381.out; have hnc44 := NB381_402.out; obtain ⟨hcz45_0, hcz45_1, hfz45_0, hfz45_1⟩ := zc2 BK402.out) | ((with_reducible refine gate_callee (f := 15) rfl ?_); refine goesL_ (some 42) rfl rfl Try.func15 (by kernel_rfl) rfl #[.slice A1 l1.length c1] rfl (by (try simp only [List.map_toArray, List.map_cons, List.map_nil]); first | done | rfl | (simp only [List.length_drop, List.length_take]; rfl)) ?_; (with_reducible refine (laws_toHoleS.calls k _ _ l1 t403 _ ?side1 ?side2 A23.out).mono ?_); (case side1 => exact Kd.C_below HR1.out zb); (case side2 => exact HC1.out); rintro e w46 ⟨v404, rfl, ho0, hb⟩; refine ⟨_, rfl, ?_⟩; have n0_ := zm (Kd.R_below (by (with_reducible repeat (first | apply Kd.R_alloc | apply Kd.R_drewN | apply Kd.R_drew)); exact (Kd.R_mono (Kd.R_far (p := ⟨gb402, 1, none⟩) (Kd.R_far (p := ⟨gb402, 0, none⟩) (Kd.R_types HO386.out BK402.out (by decide)) (fun _ hk => hk.2) (.slice Ao42 t398.length co42)) (fun _ hk => hk.2) (.int .i64 t401)) (fun _ h_ => h_.1))) hb); have n1_ := zm (Kd.R_elder' (by (with_reducible repeat (first | apply Kd.R_alloc | apply Kd.R_drewN | apply Kd.R_drew)); exact (Kd.R_mono (Kd.R_far (p := ⟨gb402, 1, none⟩) (Kd.R_far (p := ⟨gb402, 0, none⟩) (Kd.R_types HO390.out BK402.out (by decide)) (fun _ hk => hk.2) (.slice Ao42 t398.length co42)) (fun _ hk => hk.2) (.int .i64 t401)) (fun _ h_ => h_.1))) (Kd.R_base ho0) hb); have n2_ := zm (Kd.R_below (by (with_reducible repeat (first | apply Kd.R_alloc | apply Kd.R_drewN | apply Kd.R_drew)); exact (Kd.R_mono (Kd.R_far (p := ⟨gb402, 1, none⟩) (Kd.R_far (p := ⟨gb402, 0, none⟩) (Kd.R_types HO396.out BK402.out (by decide)) (fun _ hk => hk.2) (.slice Ao42 t398.length co42)) (fun _ hk => hk.2) (.int .i64 t401)) (fun _ h_ => h_.1))) hb); have n3_ := zm (Kd.R_below (by (with_reducible repeat (first | apply Kd.R_alloc | apply Kd.R_drewN | apply Kd.R_drew)); exact (Kd.R_mono (Kd.R_far (p := ⟨gb402, 1, none⟩) (Kd.R_far (p := ⟨gb402, 0, none⟩) (Kd.R_types HO400.out BK402.out (by decide)) (fun _ hk => hk.2) (.slice Ao42 t398.length co42)) (fun _ hk => hk.2) (.int .i64 t401)) (fun _ h_ => h_.1))) hb); have n4_ := zm (Kd.R_lower (Kd.R_new' ho0 (Kd.R_lt (by (with_reducible repeat (first | apply Kd.R_alloc | apply Kd.R_drewN | apply Kd.R_drew)); exact (Kd.R_mono (Kd.R_far (p := ⟨gb402, 1, none⟩) (Kd.R_far (p := ⟨gb402, 0, none⟩) (Kd.R_types HO390.out BK402.out (by decide)) (fun _ hk => hk.2) (.slice Ao42 t398.length co42)) (fun _ hk => hk.2) (.int .i64 t401)) (fun _ h_ => h_.1))))) (below_size zb)); have n5_ := zm (blk_below (g := gb380) (o := .cells #[.slice A0_0 l0_0.length c0_0, .int .i64 a0_1] 24 (0, 0)) zK hb); have n6_ := zm (blk_below (g := gb381) (o := .cells #[.int .i64 a2_0, .int .i64 a2_1, .int .i64 a2_2] 27 (0, 0)) zK hb); have n7_ := zm (blk_below (g := gb402) (o := .cells #[.slice Ao42 t398.length co42, .int .i64 t401] 32 (0, 0)) (by (with_reducible repeat (first | refine blk_drewN ?_ _ | refine blk_drew ?_ | refine blk_alloc ?_ _)); refine blk_put (cs := #[.slice Ao42 t398.length co42, .int .i64 0]) ?_ 1 _ rfl; (with_reducible repeat (first | refine blk_drewN ?_ _ | refine blk_drew ?_ | refine blk_alloc ?_ _)); refine blk_put (cs := #[.slice none 0 0, .int .i64 0]) ?_ 0 _ rfl; (with_reducible repeat (first | refine blk_drewN ?_ _ | refine blk_drew ?_ | refine blk_alloc ?_ _)); exact BK402.out) hb); have n8_ := zm (below_step zb hb); clear HO386; clear HO390; clear HO396; clear HO400; clear BK380; clear BK381; clear BK402; clear HB; have HO386 := n0_; have HO390 := n1_; have HO396 := n2_; have HO400 := n3_; have HO405 := n4_; have BK380 := n5_; have BK381 := n6_; have BK402 := n7_; have HB := n8_; clear n0_ n1_ n2_ n3_ n4_ n5_ n6_ n7_ n8_; (try clear hb); (try clear hb2); (try clear hk); (try clear hi); (try clear ho0)))
   have n0_ := zm (Kd.R_drew HO386.out)
   have n1_ := zm (Kd.R_drew HO390.out)
   have n2_ := zm (Kd.R_drew HO396.out)
   have n3_ := zm (Kd.R_drew HO400.out)
   have n4_ := zm (Kd.R_drew HO405.out)
   have n5_ := zm (blk_drew BK380.out)
   have n6_ := zm (blk_drew BK381.out)
   have n7_ := zm (blk_drew BK402.out)
   have n8_ := zm (below_drew1 HB.out)
   clear HO386
   clear HO390
   clear HO396
   clear HO400
   clear HO405
   clear BK380
   clear BK381
   clear BK402
   clear HB
   have HO386 := n0_
   have HO390 := n1_
   have HO396 := n2_
   have HO400 := n3_
   have HO405 := n4_
   have BK380 := n5_
   have BK381 := n6_
   have BK402 := n7_
   have HB := n8_
   clear n0_ n1_ n2_ n3_ n4_ n5_ n6_ n7_ n8_
   refine start_ (n := 10) (S := fun w' => w'.cell? ⟨gb402, 0, none⟩ = some (.slice Ao42 t398.length co42) ∧ w'.cell? ⟨gb402, 1, none⟩ = some (.int .i64 t401) ∧ w'.cell? ⟨gb381, 0, none⟩ = some (.int .i64 a2_0) ∧ w'.cell? ⟨gb381, 1, none⟩ = some (.int .i64 a2_1) ∧ w'.cell? ⟨gb381, 2, none⟩ = some (.int .i64 a2_2)) (ds := []) #[false, false, false, false, false, false, false, false, false, false] (by kernel_rfl) rfl rfl ⟨(blk_cell BK402.out 0).trans rfl, (blk_cell BK402.out 1).trans rfl, (blk_cell BK381.out 0).trans rfl, (blk_cell BK381.out 1).trans rfl, (blk_cell BK381.out 2).trans rfl⟩ (fun hHeld => ?_); refine with_tabW laws_FnExactPlayedBy.tab11 laws_FnExactPlayedBy.bits11 (fun HT_ HW_ => ?_)
   generalize w46.drew = w47 at HO386 HO390 HO396 HO400 HO405 BK380 BK381 BK402 HB hHeld ⊢
   refine pure_ (i := 1) (N := some 45) (v := ?_) (a' := ?_) #[false, true, false, false, false, false, false, false, false, false] rfl rfl (any_of HT_.out (by kernel_rfl)) (fun _ _ _ h => h) (Or.inl ⟨by rfl, ?_⟩) ?_ ?_
   rotate_left
   ·
    intro w'
    go_simp
    with_reducible rfl
   rotate_left
   ·
    simp only [Act.put, zA, zB, zD, i64_w, i32_w]
    rfl
   refine take_ (i := 0) (N := some 44) (v := ?_) (a' := ?_) #[true, true, false, false, false, false, false, false, false, false] rfl rfl (take_ofW HT_.out HW_.out (by kernel_rfl)) (fun _ _ _ h => h) (Or.inl ⟨by rfl, ?_⟩) hHeld ?_ ?_
   rotate_left
   ·
    rintro w' ⟨s0, s1, s2, s3, s4⟩
    go_simp
    with_reducible rfl
   rotate_left
   ·
    simp only [Act.put, zA, zB, zD, i64_w, i32_w]
    rfl
   refine take_ (i := 2) (N := some 46) (v := ?_) (a' := ?_) #[true, true, true, false, false, false, false, false, false, false] rfl rfl (take_ofW HT_.out HW_.out (by kernel_rfl)) (fun _ _ _ h => h) (Or.inl ⟨by rfl, ?_⟩) hHeld ?_ ?_
   rotate_left
   ·
    rintro w' ⟨s0, s1, s2, s3, s4⟩
    go_simp
    with_reducible rfl
   rotate_left
   ·
    simp only [Act.put, zA, zB, zD, i64_w, i32_w]
    rfl
   refine one_ (i := 3) (N := some 47) #[true, true, true, true, false, false, false, false, false, false] rfl rfl (one_of HT_.out (by kernel_rfl)) (by decide) (fun K hK => ?_)
   refine goes_ Try.func16 (by kernel_rfl) rfl #[.agg #[.int .i64 a2_0, .int .i64 a2_1, .int .i64 a2_2]] (by rfl) rfl rfl (by (try simp only [List.map_toArray, List.map_cons, List.map_nil]); first | done | rfl | (simp only [List.length_drop, List.length_take]; rfl)) ?_
   with_reducible refine (laws_toAction.calls a2_0 a2_1 a2_2 t406 t407 t408 _ A24.out).mono ?_
   rintro e w48 ⟨rfl, hb⟩
   refine ⟨_, rfl, ?_⟩
   have n0_ := zm (Kd.R_below (by (with_reducible repeat (first | apply Kd.R_alloc | apply Kd.R_drewN | apply Kd.R_drew)); exact HO386.out) hb)
   have n1_ := zm (Kd.R_below (by (with_reducible repeat (first | apply Kd.R_alloc | apply Kd.R_drewN | apply Kd.R_drew)); exact HO390.out) hb)
   have n2_ := zm (Kd.R_below (by (with_reducible repeat (first | apply Kd.R_alloc | apply Kd.R_drewN | apply Kd.R_drew)); exact HO396.out) hb)
   have n3_ := zm (Kd.R_below (by (with_reducible repeat (first | apply Kd.R_alloc | apply Kd.R_drewN | apply Kd.R_drew)); exact HO400.out) hb)
   have n4_ := zm (Kd.R_below (by (with_reducible repeat (first | apply Kd.R_alloc | apply Kd.R_drewN | apply Kd.R_drew)); exact HO405.out) hb)
   have n5_ := zm (blk_below (g := gb380) zk hb)
   have n6_ := zm (blk_below (g := gb381) zk hb)
   have n7_ := zm (blk_below (g := gb402) zk hb)
   have n8_ := zm (below_step zb hb)
   clear HO386
   clear HO390
   clear HO396
   clear HO400
   clear HO405
   clear BK380
   clear BK381
   clear BK402
   clear HB
   have HO386 := n0_
   have HO390 := n1_
   have HO396 := n2_
   have HO400 := n3_
   have HO405 := n4_
   have BK380 := n5_
   have BK381 := n6_
   have BK402 := n7_
   have HB := n8_
   clear n0_ n1_ n2_ n3_ n4_ n5_ n6_ n7_ n8_
   (try clear hb)
   (try clear hb2)
   (try clear hk)
   (try clear hi)
   obtain ⟨Ao49, co49, eo49⟩ := Kd.R_slice HO405.out
   (first | subst eo49 | (injection eo49 with f1_ f2_ f3_; have f4_ := f1_.symm; have f5_ := f3_.symm; clear f1_ f2_ f3_; subst f4_; subst f5_))
   refine hK.out _ _ ⟨(blk_cell BK402.out 0).trans rfl, (blk_cell BK402.out 1).trans rfl, (blk_cell BK381.out 0).trans rfl, (blk_cell BK381.out 1).trans rfl, (blk_cell BK381.out 2).trans rfl⟩ (fun hHeld => ?_)
   clear hK K
   refine norm_ (a' := ?_) ?_ ?_
   rotate_left
   ·
    show Act.put _ (some 47) _ = _
    simp only [Act.put, zA, zB, zD, i64_w, i32_w]
    rfl
   refine one_ (i := 4) (N := some 48) #[true, true, true, true, true, false, false, false, false, false] rfl rfl (one_of HT_.out (by kernel_rfl)) (by decide) (fun K hK => ?_)
   refine goes_ Try.func28 (by kernel_rfl) rfl #[.agg #[.slice Ao42 t398.length co42, .int .i64 t401], .slice Ao49 t403.length co49, .agg #[.int .i64 t406, .int .i64 t407, .int .i64 t408]] (by rfl) rfl rfl (by (try simp only [List.map_toArray, List.map_cons, List.map_nil]); first | done | rfl | (simp only [List.length_drop, List.length_take]; rfl)) ?_
   with_reducible refine (impl_PlayedBy.calls k _ _ t398 t401 _ _ t403 t406 t407 t408 t409 t412 _ ?side1 ?side2 ?side3 ?side4 A25.out).mono ?_
   (case side1 => repeat (first | exact (Kd.R_reads' HO400.out).2.2 | (with_reducible refine Kd.C_alloc ?_ _) | (with_reducible refine Kd.C_drewN ?_ _) | (with_reducible refine Kd.C_drew ?_)))
   (case side2 => exact (Kd.R_reads' HO400.out).2.1)
   (case side3 => repeat (first | exact (Kd.R_reads' HO405.out).2.2 | (with_reducible refine Kd.C_alloc ?_ _) | (with_reducible refine Kd.C_drewN ?_ _) | (with_reducible refine Kd.C_drew ?_)))
   (case side4 => exact (Kd.R_reads' HO405.out).2.1)
   rintro e w50 ⟨v410, rfl, ho0, hb⟩
   refine ⟨_, rfl, ?_⟩
   have n0_ := zm (Kd.R_below (by (with_reducible repeat (first | apply Kd.R_alloc | apply Kd.R_drewN | apply Kd.R_drew)); exact HO386.out) hb)
   have n1_ := zm (Kd.R_below (by (with_reducible repeat (first | apply Kd.R_alloc | apply Kd.R_drewN | apply Kd.R_drew)); exact HO390.out) hb)
   have n2_ := zm (Kd.R_elder' (by (with_reducible repeat (first | apply Kd.R_alloc | apply Kd.R_drewN | apply Kd.R_drew)); exact HO396.out) (Kd.R_base ho0) hb)
   have n3_ := zm (Kd.R_below (by (with_reducible repeat (first | apply Kd.R_alloc | apply Kd.R_drewN | apply Kd.R_drew)); exact HO400.out) hb)
   have n4_ := zm (Kd.R_below (by (with_reducible repeat (first | apply Kd.R_alloc | apply Kd.R_drewN | apply Kd.R_drew)); exact HO405.out) hb)
   have n5_ := zm (Kd.R_lower (Kd.R_new' ho0 (Kd.R_lt (by (with_reducible repeat (first | apply Kd.R_alloc | apply Kd.R_drewN | apply Kd.R_drew)); exact HO396.out))) (below_size zb))
   have n6_ := zm (blk_below (g := gb380) zk hb)
   have n7_ := zm (blk_below (g := gb381) zk hb)
   have n8_ := zm (blk_below (g := gb402) zk hb)
   have n9_ := zm (below_step zb hb)
   clear HO386
   clear HO390
   clear HO396
   clear HO400
   clear HO405
   clear BK380
   clear BK381
   clear BK402
   clear HB
   have HO386 := n0_
   have HO390 := n1_
   have HO396 := n2_
   have HO400 := n3_
   have HO405 := n4_
   have HO411 := n5_
   have BK380 := n6_
   have BK381 := n7_
   have BK402 := n8_
   have HB := n9_
   clear n0_ n1_ n2_ n3_ n4_ n5_ n6_ n7_ n8_ n9_
   (try clear hb)
   (try clear hb2)
   (try clear hk)
   (try clear hi)
   (try clear ho0)
   refine hK.out _ _ ⟨(blk_cell BK402.out 0).trans rfl, (blk_cell BK402.out 1).trans rfl, (blk_cell BK381.out 0).trans rfl, (blk_cell BK381.out 1).trans rfl, (blk_cell BK381.out 2).trans rfl⟩ (fun hHeld => ?_)
   clear hK K
   refine norm_ (a' := ?_) ?_ ?_
   rotate_left
   ·
    show Act.put _ (some 48) _ = _
    simp only [Act.put, zA, zB, zD, i64_w, i32_w]
    rfl
   refine pure_ (i := 5) (N := some 43) (v := ?_) (a' := ?_) #[true, true, true, true, true, true, false, false, false, false] rfl rfl (any_of HT_.out (by kernel_rfl)) (fun _ _ _ h => h) (Or.inl ⟨by rfl, ?_⟩) ?_ ?_
   rotate_left
   ·
    intro w'
    go_simp
    with_reducible rfl
   rotate_left
   ·
    simp only [Act.put, zA, zB, zD, i64_w, i32_w]
    rfl
   refine pure_ (i := 6) (N := some 49) (v := ?_) (a' := ?_) #[true, true, true, true, true, true, true, false, false, false] rfl rfl (any_of HT_.out (by kernel_rfl)) (fun _ _ _ h => h) (Or.inl ⟨by rfl, ?_⟩) ?_ ?_
   rotate_left
   ·
    intro w'
    go_simp
    with_reducible rfl
   rotate_left
   ·
    simp only [Act.put, zA, zB, zD, i64_w, i32_w]
    rfl
   refine pure_ (i := 7) (N := some 50) (v := ?_) (a' := ?_) #[true, true, true, true, true, true, true, true, false, false] rfl rfl (any_of HT_.out (by kernel_rfl)) (fun _ _ _ h => h) (Or.inl ⟨by rfl, ?_⟩) ?_ ?_
   rotate_left
   ·
    intro w'
    go_simp
    with_reducible rfl
   rotate_left
   ·
    simp only [Act.put, zA, zB, zD, i64_w, i32_w]
    rfl
   refine pure_ (i := 8) (N := some 12) (v := ?_) (a' := ?_) #[true, true, true, true, true, true, true, true, true, false] rfl rfl (any_of HT_.out (by kernel_rfl)) (fun _ _ _ h => h) (Or.inl ⟨by rfl, ?_⟩) ?_ ?_
   rotate_left
   ·
    intro w'
    go_simp
    with_reducible rfl
   rotate_left
   ·
    simp only [Act.put, zA, zB, zD, i64_w, i32_w]
    rfl
   refine pure_ (i := 9) (N := some 13) (v := ?_) (a' := ?_) #[true, true, true, true, true, true, true, true, true, true] rfl rfl (any_of HT_.out (by kernel_rfl)) (fun _ _ _ h => h) (Or.inl ⟨by rfl, ?_⟩) ?_ ?_
   rotate_left
   ·
    intro w'
    go_simp
    with_reducible rfl
   rotate_left
   ·
    simp only [Act.put, zA, zB, zD, i64_w, i32_w]
    rfl
   refine done_ (done_of HT_.out (by kernel_rfl)) ?_
   go_upto_region 12 with (fail)
   go_cut [59] (fun v59 wc => ∃ (kq : Nat) (x59_25 : Bool), v59 = .bool x59_25 ∧ Aside0 (laws_FnExactPlayedBy.j0 kq l1 t394 t397 t403 t409 t412 x59_25 l0_0 a0_1 a2_0 a2_1 a2_2 t398 t401 = some r) ∧ Aside0 (kq ≤ k) ∧ Aside0 (Kd.R k79 79 wc w.heap.size (fun k_ => some k_ ≠ (v410 : Value).ownBlock) v395 t394) ∧ Aside0 (Kd.R k73 73 wc w.heap.size (fun _ => True) (.slice Ao49 t403.length co49) t403) ∧ Aside0 (Kd.R k79 79 wc w.heap.size (fun k_ => some k_ ≠ (v395 : Value).ownBlock) v410 t409) ∧ Aside0 (Kd.R (Kd.int .i64) 3 wc w.heap.size (fun _ => True) (.slice Ao42 t398.length co42) t398) ∧ Aside0 (wc.heap[gb380]? = some (.cells #[(.slice A0_0 l0_0.length c0_0), .int .i64 a0_1] 24 (0, 0))) ∧ Aside0 (wc.heap[gb381]? = some (.cells #[.int .i64 a2_0, .int .i64 a2_1, .int .i64 a2_2] 27 (0, 0))) ∧ Aside0 (wc.heap[gb402]? = some (.cells #[(.slice Ao42 t398.length co42), .int .i64 t401] 32 (0, 0))) ∧ Aside0 (Below w.heap.size w wc))
   case first =>
    have H := HC26.out
    clear HC26
    replace H := Option.bind_eq_some_iff.mp H
    obtain ⟨t413, A510, H⟩ := H
    replace H : (if t413 = true then (laws_FnExactPlayedBy.j0 k l1 t394 t397 t403 t409 t412 (t412 != t397) l0_0 a0_1 a2_0 a2_1 a2_2 t398 t401) else (laws_FnExactPlayedBy.j0 k l1 t394 t397 t403 t409 t412 true l0_0 a0_1 a2_0 a2_1 a2_2 t398 t401)) = some r := H
    have A51 := zm A510
    clear A510
    by_cases c52 : t413 = true
    ·
     subst c52
     have H1 : (laws_FnExactPlayedBy.j0 k l1 t394 t397 t403 t409 t412 (t412 != t397) l0_0 a0_1 a2_0 a2_1 a2_2 t398 t401) = some r := by rw [if_pos rfl] at H; exact H
     clear H
     have H := H1
     clear H1
     have H' := zm H
     clear H
     obtain ⟨Ao53, co53, eo53⟩ := Kd.R_slice HO411.out
     subst eo53
     obtain ⟨Ao54, co54, eo54⟩ := Kd.R_slice HO396.out
     subst eo54
     go_wp2_with (first | ((with_reducible refine gate_callee (f := 29) rfl ?_); refine goesL_ (some 53) rfl rfl Try.func29 (by kernel_rfl) rfl #[.slice Ao53 t409.length co53, .slice Ao54 t394.length co54] rfl (by (try simp only [List.map_toArray, List.map_cons, List.map_nil]); first | done | rfl | (simp only [List.length_drop, List.length_take]; rfl)) ?_; (with_reducible refine (laws_eqPlayedS.calls k _ _ t409 _ _ t394 true _ ?side1 ?side2 ?side3 ?side4 A51.out).mono ?_); (case side1 => repeat (first | exact (Kd.R_reads' HO411.out).2.2 | (with_reducible refine Kd.C_alloc ?_ _) | (with_reducible refine Kd.C_drewN ?_ _) | (with_reducible refine Kd.C_drew ?_))); (case side2 => exact (Kd.R_reads' HO411.out).2.1); (case side3 => repeat (first | exact (Kd.R_reads' HO396.out).2.2 | (with_reducible refine Kd.C_alloc ?_ _) | (with_reducible refine Kd.C_drewN ?_ _) | (with_reducible refine Kd.C_drew ?_))); (case side4 => exact (Kd.R_reads' HO396.out).2.1); rintro e w55 ⟨rfl, hb⟩; refine ⟨_, rfl, ?_⟩; have n0_ := zm (Kd.R_below (by (with_reducible repeat (first | apply Kd.R_alloc | apply Kd.R_drewN | apply Kd.R_drew)); exact HO386.out) hb); have n1_ := zm (Kd.R_below (by (with_reducible repeat (first | apply Kd.R_alloc | apply Kd.R_drewN | apply Kd.R_drew)); exact HO390.out) hb); have n2_ := zm (Kd.R_below (by (with_reducible repeat (first | apply Kd.R_alloc | apply Kd.R_drewN | apply Kd.R_drew)); exact HO396.out) hb); have n3_ := zm (Kd.R_below (by (with_reducible repeat (first | apply Kd.R_alloc | apply Kd.R_drewN | apply Kd.R_drew)); exact HO400.out) hb); have n4_ := zm (Kd.R_below (by (with_reducible repeat (first | apply Kd.R_alloc | apply Kd.R_drewN | apply Kd.R_drew)); exact HO405.out) hb); have n5_ := zm (Kd.R_below (by (with_reducible repeat (first | apply Kd.R_alloc | apply Kd.R_drewN | apply Kd.R_drew)); exact HO411.out) hb); have n6_ := zm (blk_below (g := gb380) zk hb); have n7_ := zm (blk_below (g := gb381) zk hb); have n8_ := zm (blk_below (g := gb402) zk hb); have n9_ := zm (below_step zb hb); clear HO386; clear HO390; clear HO396; clear HO400; clear HO405; clear HO411; clear BK380; clear BK381; clear BK402; clear HB; have HO386 := n0_; have HO390 := n1_; have HO396 := n2_; have HO400 := n3_; have HO405 := n4_; have HO411 := n5_; have BK380 := n6_; have BK381 := n7_; have BK402 := n8_; have HB := n9_; clear n0_ n1_ n2_ n3_ n4_ n5_ n6_ n7_ n8_ n9_; (try clear hb); (try clear hb2); (try clear hk); (try clear hi)))
     go_meet
     case rel => exact ⟨_, ((t412 != t397)), (by first | rfl | (simp; done) | (simp [*]; done)), H', ⟨by first | omega | exact Nat.le_refl _⟩, ⟨by (with_reducible repeat (first | apply Kd.R_alloc | apply Kd.R_drewN | apply Kd.R_drew)); exact Kd.R_mono HO396.out (fun _ hk => hk.2)⟩, ⟨by (with_reducible repeat (first | apply Kd.R_alloc | apply Kd.R_drewN | apply Kd.R_drew)); exact Kd.R_mono HO405.out (fun _ hk => trivial)⟩, ⟨by (with_reducible repeat (first | apply Kd.R_alloc | apply Kd.R_drewN | apply Kd.R_drew)); exact Kd.R_mono HO411.out (fun _ hk => hk.2)⟩, ⟨by (with_reducible repeat (first | apply Kd.R_alloc | apply Kd.R_drewN | apply Kd.R_drew)); exact Kd.R_mono HO400.out (fun _ hk => trivial)⟩, ⟨zk⟩, ⟨zk⟩, ⟨zk⟩, ⟨zb⟩⟩
    ·
     replace c52 := Bool.eq_false_iff.mpr c52
     subst c52
     have H1 : (laws_FnExactPlayedBy.j0 k l1 t394 t397 t403 t409 t412 true l0_0 a0_1 a2_0 a2_1 a2_2 t398 t401) = some r := by rw [if_neg (show ¬ (false = true) by decide)] at H; exact H
     clear H
     have H := H1
     clear H1
     exact (laws_FnExactPlayedBy.j0_t (H.trans (congrArg some hr_))).elim
   case rest =>
    clear HC26
    try clear c1
    try clear c2
    try clear p2
    try clear c4
    try clear c5
    try clear c5b0
    try clear c8
    try clear c11
    try clear c12
    try clear c12b0
    try clear c14
    try clear c15
    try clear c16
    try clear c27
    try clear c28
    try clear c29
    try clear c43
    try clear c44
    try clear c52
    try clear hcz16_0
    try clear hcz16_1
    try clear hcz30_0
    try clear hcz30_1
    try clear hcz39_0
    try clear hcz39_1
    try clear hcz45_0
    try clear hcz45_1
    try clear hcz9_0
    try clear hcz9_1
    try clear hfz16_0
    try clear hfz16_1
    try clear hfz30_0
    try clear hfz30_1
    try clear hfz39_0
    try clear hfz39_1
    try clear hfz45_0
    try clear hfz45_1
    try clear hfz9_0
    try clear hfz9_1
    obtain ⟨kq, x59_25, rfl, HA, HJ25, HO_8, HO_11, HO_12, HO_403000, BK380, BK381, BK402, HB⟩ := hcut
    cases kq with
    | zero => exact absurd HA.out (by simp [laws_FnExactPlayedBy.j0])
    | succ kj25 =>
     have H := HA.out
     clear HA
     simp only [laws_FnExactPlayedBy.j0] at H
     by_cases c56 : x59_25 = true
     ·
      subst c56
      have H1 : (some false) = some r := by rw [if_pos rfl] at H; exact H
      clear H
      have H := H1
      clear H1
      exact absurd ((Option.some.inj H).trans hr_) (by decide)
     ·
      replace c56 := Bool.eq_false_iff.mpr c56
      subst c56
      have H1 : ((laws_toInstrument.f kj25 l0_0 a0_1).bind fun bt414 => ((laws_eqInstrument.f kj25 t398 t401 bt414.1 bt414.2).bind fun t418 => (if t418 = true then ((laws_toHoleS.f kj25 l1).bind fun t419 => ((laws_eqHoleS.f kj25 t403 t419).bind fun t422 => (if t422 = true then ((laws_markInstrument.f kj25 t398 t401 1).bind fun bt423 => ((laws_markHoleS.f kj25 t403 bt423.1).bind fun bt425 => (if bt425.1 < 0 then (laws_FnExactPlayedBy.j1 kj25 l1 t394 t397 t409 true l0_0 a0_1 a2_0 a2_1 a2_2) else ((laws_eqPlayedS.f kj25 t409 t394).bind fun t427 => (if t427 = true then (laws_FnExactPlayedBy.j1 kj25 l1 t394 t397 t409 (t412 != t397) l0_0 a0_1 a2_0 a2_1 a2_2) else (laws_FnExactPlayedBy.j1 kj25 l1 t394 t397 t409 true l0_0 a0_1 a2_0 a2_1 a2_2)))))) else (some false)))) else (some false)))) = some r := by rw [if_neg (show ¬ (false = true) by decide)] at H; exact H
      clear H
      have H := H1
      clear H1
      replace H := Option.bind_eq_some_iff.mp H
      obtain ⟨⟨t414, t417⟩, A570, H⟩ := H
      replace H : ((laws_eqInstrument.f kj25 t398 t401 t414 t417).bind fun t418 => (if t418 = true then ((laws_toHoleS.f kj25 l1).bind fun t419 => ((laws_eqHoleS.f kj25 t403 t419).bind fun t422 => (if t422 = true then ((laws_markInstrument.f kj25 t398 t401 1).bind fun bt423 => ((laws_markHoleS.f kj25 t403 bt423.1).bind fun bt425 => (if bt425.1 < 0 then (laws_FnExactPlayedBy.j1 kj25 l1 t394 t397 t409 true l0_0 a0_1 a2_0 a2_1 a2_2) else ((laws_eqPlayedS.f kj25 t409 t394).bind fun t427 => (if t427 = true then (laws_FnExactPlayedBy.j1 kj25 l1 t394 t397 t409 (t412 != t397) l0_0 a0_1 a2_0 a2_1 a2_2) else (laws_FnExactPlayedBy.j1 kj25 l1 t394 t397 t409 true l0_0 a0_1 a2_0 a2_1 a2_2)))))) else (some false)))) else (some false))) = some r := H
      have A57 := zm A570
      clear A570
      replace H := Option.bind_eq_some_iff.mp H
      obtain ⟨t418, A580, H⟩ := H
      replace H : (if t418 = true then ((laws_toHoleS.f kj25 l1).bind fun t419 => ((laws_eqHoleS.f kj25 t403 t419).bind fun t422 => (if t422 = true then ((laws_markInstrument.f kj25 t398 t401 1).bind fun bt423 => ((laws_markHoleS.f kj25 t403 bt423.1).bind fun bt425 => (if bt425.1 < 0 then (laws_FnExactPlayedBy.j1 kj25 l1 t394 t397 t409 true l0_0 a0_1 a2_0 a2_1 a2_2) else ((laws_eqPlayedS.f kj25 t409 t394).bind fun t427 => (if t427 = true then (laws_FnExactPlayedBy.j1 kj25 l1 t394 t397 t409 (t412 != t397) l0_0 a0_1 a2_0 a2_1 a2_2) else (laws_FnExactPlayedBy.j1 kj25 l1 t394 t397 t409 true l0_0 a0_1 a2_0 a2_1 a2_2)))))) else (some false)))) else (some false)) = some r := H
      have A58 := zm A580
      clear A580
      by_cases c59 : t418 = true
      ·
       subst c59
       have H1 : ((laws_toHoleS.f kj25 l1).bind fun t419 => ((laws_eqHoleS.f kj25 t403 t419).bind fun t422 => (if t422 = true then ((laws_markInstrument.f kj25 t398 t401 1).bind fun bt423 => ((laws_markHoleS.f kj25 t403 bt423.1).bind fun bt425 => (if bt425.1 < 0 then (laws_FnExactPlayedBy.j1 kj25 l1 t394 t397 t409 true l0_0 a0_1 a2_0 a2_1 a2_2) else ((laws_eqPlayedS.f kj25 t409 t394).bind fun t427 => (if t427 = true then (laws_FnExactPlayedBy.j1 kj25 l1 t394 t397 t409 (t412 != t397) l0_0 a0_1 a2_0 a2_1 a2_2) else (laws_FnExactPlayedBy.j1 kj25 l1 t394 t397 t409 true l0_0 a0_1 a2_0 a2_1 a2_2)))))) else (some false)))) = some r := by rw [if_pos rfl] at H; exact H
       clear H
       have H := H1
       clear H1
       replace H := Option.bind_eq_some_iff.mp H
       obtain ⟨t419, A600, H⟩ := H
       replace H : ((laws_eqHoleS.f kj25 t403 t419).bind fun t422 => (if t422 = true then ((laws_markInstrument.f kj25 t398 t401 1).bind fun bt423 => ((laws_markHoleS.f kj25 t403 bt423.1).bind fun bt425 => (if bt425.1 < 0 then (laws_FnExactPlayedBy.j1 kj25 l1 t394 t397 t409 true l0_0 a0_1 a2_0 a2_1 a2_2) else ((laws_eqPlayedS.f kj25 t409 t394).bind fun t427 => (if t427 = true then (laws_FnExactPlayedBy.j1 kj25 l1 t394 t397 t409 (t412 != t397) l0_0 a0_1 a2_0 a2_1 a2_2) else (laws_FnExactPlayedBy.j1 kj25 l1 t394 t397 t409 true l0_0 a0_1 a2_0 a2_1 a2_2)))))) else (some false))) = some r := H
       have A60 := zm A600
       clear A600
       replace H := Option.bind_eq_some_iff.mp H
       obtain ⟨t422, A610, H⟩ := H
       replace H : (if t422 = true then ((laws_markInstrument.f kj25 t398 t401 1).bind fun bt423 => ((laws_markHoleS.f kj25 t403 bt423.1).bind fun bt425 => (if bt425.1 < 0 then (laws_FnExactPlayedBy.j1 kj25 l1 t394 t397 t409 true l0_0 a0_1 a2_0 a2_1 a2_2) else ((laws_eqPlayedS.f kj25 t409 t394).bind fun t427 => (if t427 = true then (laws_FnExactPlayedBy.j1 kj25 l1 t394 t397 t409 (t412 != t397) l0_0 a0_1 a2_0 a2_1 a2_2) else (laws_FnExactPlayedBy.j1 kj25 l1 t394 t397 t409 true l0_0 a0_1 a2_0 a2_1 a2_2)))))) else (some false)) = some r := H
       have A61 := zm A610
       clear A610
       by_cases c62 : t422 = true
       ·
        subst c62
        have H1 : ((laws_markInstrument.f kj25 t398 t401 1).bind fun bt423 => ((laws_markHoleS.f kj25 t403 bt423.1).bind fun bt425 => (if bt425.1 < 0 then (laws_FnExactPlayedBy.j1 kj25 l1 t394 t397 t409 true l0_0 a0_1 a2_0 a2_1 a2_2) else ((laws_eqPlayedS.f kj25 t409 t394).bind fun t427 => (if t427 = true then (laws_FnExactPlayedBy.j1 kj25 l1 t394 t397 t409 (t412 != t397) l0_0 a0_1 a2_0 a2_1 a2_2) else (laws_FnExactPlayedBy.j1 kj25 l1 t394 t397 t409 true l0_0 a0_1 a2_0 a2_1 a2_2)))))) = some r := by rw [if_pos rfl] at H; exact H
        clear H
        have H := H1
        clear H1
        replace H := Option.bind_eq_some_iff.mp H
        obtain ⟨⟨t423, t424⟩, A630, H⟩ := H
        replace H : ((laws_markHoleS.f kj25 t403 t423).bind fun bt425 => (if bt425.1 < 0 then (laws_FnExactPlayedBy.j1 kj25 l1 t394 t397 t409 true l0_0 a0_1 a2_0 a2_1 a2_2) else ((laws_eqPlayedS.f kj25 t409 t394).bind fun t427 => (if t427 = true then (laws_FnExactPlayedBy.j1 kj25 l1 t394 t397 t409 (t412 != t397) l0_0 a0_1 a2_0 a2_1 a2_2) else (laws_FnExactPlayedBy.j1 kj25 l1 t394 t397 t409 true l0_0 a0_1 a2_0 a2_1 a2_2))))) = some r := H
        have A63 := zm A630
        clear A630
        replace H := Option.bind_eq_some_iff.mp H
        obtain ⟨⟨t425, t426⟩, A640, H⟩ := H
        replace H : (if t425 < 0 then (laws_FnExactPlayedBy.j1 kj25 l1 t394 t397 t409 true l0_0 a0_1 a2_0 a2_1 a2_2) else ((laws_eqPlayedS.f kj25 t409 t394).bind fun t427 => (if t427 = true then (laws_FnExactPlayedBy.j1 kj25 l1 t394 t397 t409 (t412 != t397) l0_0 a0_1 a2_0 a2_1 a2_2) else (laws_FnExactPlayedBy.j1 kj25 l1 t394 t397 t409 true l0_0 a0_1 a2_0 a2_1 a2_2)))) = some r := H
        have A64 := zm A640
        clear A640
        have HC65 := zm H
        clear H
        try go_wp2
        have n0_ := zm (Kd.R_drew HO_8.out)
        have n1_ := zm (Kd.R_drew HO_11.out)
        have n2_ := zm (Kd.R_drew HO_12.out)
        have n3_ := zm (Kd.R_drew HO_403000.out)
        have n4_ := zm (blk_drew BK380.out)
        have n5_ := zm (blk_drew BK381.out)
        have n6_ := zm (blk_drew BK402.out)
        have n7_ := zm (below_drew1 HB.out)
        clear HO_8
        clear HO_11
        clear HO_12
        clear HO_403000
        clear BK380
        clear BK381
        clear BK402
        clear HB
        have HO_8 := n0_
        have HO_11 := n1_
        have HO_12 := n2_
        have HO_403000 := n3_
        have BK380 := n4_
        have BK381 := n5_
        have BK402 := n6_
        have HB := n7_
        clear n0_ n1_ n2_ n3_ n4_ n5_ n6_ n7_
        refine start_ (n := 5) (S := fun w' => w'.cell? ⟨gb402, 0, none⟩ = some (.slice Ao42 t398.length co42) ∧ w'.cell? ⟨gb402, 1, none⟩ = some (.int .i64 t401) ∧ w'.cell? ⟨gb380, 0, none⟩ = some (.slice A0_0 l0_0.length c0_0) ∧ w'.cell? ⟨gb380, 1, none⟩ = some (.int .i64 a0_1)) (ds := []) #[false, false, false, false, false] (by kernel_rfl) rfl rfl ⟨(blk_cell BK402.out 0).trans rfl, (blk_cell BK402.out 1).trans rfl, (blk_cell BK380.out 0).trans rfl, (blk_cell BK380.out 1).trans rfl⟩ (fun hHeld => ?_)
        generalize wc.drew = w66 at HO_8 HO_11 HO_12 HO_403000 BK380 BK381 BK402 HB hHeld ⊢
        refine take_ (i := 0) (N := some 60) (v := ?_) (a' := ?_) #[true, false, false, false, false] rfl rfl (by kernel_rfl) (fun _ _ _ h => h) (Or.inl ⟨by rfl, ?_⟩) hHeld ?_ ?_
        rotate_left
        ·
         rintro w' ⟨s0, s1, s2, s3⟩
         go_simp
         with_reducible rfl
        rotate_left
        ·
         simp only [Act.put, zA, zB, zD, i64_w, i32_w]
         rfl
        refine take_ (i := 1) (N := some 61) (v := ?_) (a' := ?_) #[true, true, false, false, false] rfl rfl (by kernel_rfl) (fun _ _ _ h => h) (Or.inl ⟨by rfl, ?_⟩) hHeld ?_ ?_
        rotate_left
        ·
         rintro w' ⟨s0, s1, s2, s3⟩
         go_simp
         with_reducible rfl
        rotate_left
        ·
         simp only [Act.put, zA, zB, zD, i64_w, i32_w]
         rfl
        refine one_ (i := 2) (N := some 62) #[true, true, true, false, false] rfl rfl (by kernel_rfl) (by decide) (fun K hK => ?_)
        refine goes_ Try.func14 (by kernel_rfl) rfl #[.agg #[.slice A0_0 l0_0.length c0_0, .int .i64 a0_1]] (by rfl) rfl rfl (by (try simp only [List.map_toArray, List.map_cons, List.map_nil]); first | done | rfl | (simp only [List.length_drop, List.length_take]; rfl)) ?_
        with_reducible refine (laws_toInstrument.calls kj25 _ _ l0_0 a0_1 t414 t417 _ ?side1 ?side2 A57.out).mono ?_
        (case side1 => repeat (first | exact (Kd.C_below HR0_0.out HB.out) | (with_reducible refine Kd.C_alloc ?_ _) | (with_reducible refine Kd.C_drewN ?_ _) | (with_reducible refine Kd.C_drew ?_)))
        (case side2 => exact HC0_0.out)
        rintro e w67 ⟨v415, rfl, ho0, hb⟩
        refine ⟨_, rfl, ?_⟩
        have n0_ := zm (Kd.R_below (by (with_reducible repeat (first | apply Kd.R_alloc | apply Kd.R_drewN | apply Kd.R_drew)); exact HO_8.out) hb)
        have n1_ := zm (Kd.R_below (by (with_reducible repeat (first | apply Kd.R_alloc | apply Kd.R_drewN | apply Kd.R_drew)); exact HO_11.out) hb)
        have n2_ := zm (Kd.R_below (by (with_reducible repeat (first | apply Kd.R_alloc | apply Kd.R_drewN | apply Kd.R_drew)); exact HO_12.out) hb)
        have n3_ := zm (Kd.R_elder' (by (with_reducible repeat (first | apply Kd.R_alloc | apply Kd.R_drewN | apply Kd.R_drew)); exact HO_403000.out) (Kd.R_base ho0) hb)
        have n4_ := zm (Kd.R_lower (Kd.R_new' ho0 (Kd.R_lt (by (with_reducible repeat (first | apply Kd.R_alloc | apply Kd.R_drewN | apply Kd.R_drew)); exact HO_403000.out))) (below_size zb))
        have n5_ := zm (blk_below (g := gb380) zk hb)
        have n6_ := zm (blk_below (g := gb381) zk hb)
        have n7_ := zm (blk_below (g := gb402) zk hb)
        have n8_ := zm (below_step zb hb)
        clear HO_8
        clear HO_11
        clear HO_12
        clear HO_403000
        clear BK380
        clear BK381
        clear BK402
        clear HB
        have HO_8 := n0_
        have HO_11 := n1_
        have HO_12 := n2_
        have HO_403000 := n3_
        have HO416 := n4_
        have BK380 := n5_
        have BK381 := n6_
        have BK402 := n7_
        have HB := n8_
        clear n0_ n1_ n2_ n3_ n4_ n5_ n6_ n7_ n8_
        (try clear hb)
        (try clear hb2)
        (try clear hk)
        (try clear hi)
        (try clear ho0)
        obtain ⟨Ao68, co68, eo68⟩ := Kd.R_slice HO416.out
        (first | subst eo68 | (injection eo68 with f1_ f2_ f3_; have f4_ := f1_.symm; have f5_ := f3_.symm; clear f1_ f2_ f3_; subst f4_; subst f5_))
        refine hK.out _ _ ⟨(blk_cell BK402.out 0).trans rfl, (blk_cell BK402.out 1).trans rfl, (blk_cell BK380.out 0).trans rfl, (blk_cell BK380.out 1).trans rfl⟩ (fun hHeld => ?_)
        clear hK K
        refine norm_ (a' := ?_) ?_ ?_
        rotate_left
        ·
         show Act.put _ (some 62) _ = _
         simp only [Act.put, zA, zB, zD, i64_w, i32_w]
         rfl
        refine one_ (i := 3) (N := some 63) #[true, true, true, true, false] rfl rfl (by kernel_rfl) (by decide) (fun K hK => ?_)
        refine goes_ Try.func18 (by kernel_rfl) rfl #[.agg #[.slice Ao42 t398.length co42, .int .i64 t401], .agg #[.slice Ao68 t414.length co68, .int .i64 t417]] (by rfl) rfl rfl (by (try simp only [List.map_toArray, List.map_cons, List.map_nil]); first | done | rfl | (simp only [List.length_drop, List.length_take]; rfl)) ?_
        with_reducible refine (laws_eqInstrument.calls kj25 _ _ t398 t401 _ _ t414 t417 true _ ?side1 ?side2 ?side3 ?side4 A58.out).mono ?_
        (case side1 => repeat (first | exact (Kd.R_reads' HO_403000.out).2.2 | (with_reducible refine Kd.C_alloc ?_ _) | (with_reducible refine Kd.C_drewN ?_ _) | (with_reducible refine Kd.C_drew ?_)))
        (case side2 => exact (Kd.R_reads' HO_403000.out).2.1)
        (case side3 => repeat (first | exact (Kd.R_reads' HO416.out).2.2 | (with_reducible refine Kd.C_alloc ?_ _) | (with_reducible refine Kd.C_drewN ?_ _) | (with_reducible refine Kd.C_drew ?_)))
        (case side4 => exact (Kd.R_reads' HO416.out).2.1)
        rintro e w69 ⟨rfl, hb⟩
        refine ⟨_, rfl, ?_⟩
        have n0_ := zm (Kd.R_below (by (with_reducible repeat (first | apply Kd.R_alloc | apply Kd.R_drewN | apply Kd.R_drew)); exact HO_8.out) hb)
        have n1_ := zm (Kd.R_below (by (with_reducible repeat (first | apply Kd.R_alloc | apply Kd.R_drewN | apply Kd.R_drew)); exact HO_11.out) hb)
        have n2_ := zm (Kd.R_below (by (with_reducible repeat (first | apply Kd.R_alloc | apply Kd.R_drewN | apply Kd.R_drew)); exact HO_12.out) hb)
        have n3_ := zm (Kd.R_below (by (with_reducible repeat (first | apply Kd.R_alloc | apply Kd.R_drewN | apply Kd.R_drew)); exact HO_403000.out) hb)
        have n4_ := zm (Kd.R_below (by (with_reducible repeat (first | apply Kd.R_alloc | apply Kd.R_drewN | apply Kd.R_drew)); exact HO416.out) hb)
        have n5_ := zm (blk_below (g := gb380) zk hb)
        have n6_ := zm (blk_below (g := gb381) zk hb)
        have n7_ := zm (blk_below (g := gb402) zk hb)
        have n8_ := zm (below_step zb hb)
        clear HO_8
        clear HO_11
        clear HO_12
        clear HO_403000
        clear HO416
        clear BK380
        clear BK381
        clear BK402
        clear HB
        have HO_8 := n0_
        have HO_11 := n1_
        have HO_12 := n2_
        have HO_403000 := n3_
        have HO416 := n4_
        have BK380 := n5_
        have BK381 := n6_
        have BK402 := n7_
        have HB := n8_
        clear n0_ n1_ n2_ n3_ n4_ n5_ n6_ n7_ n8_
        (try clear hb)
        (try clear hb2)
        (try clear hk)
        (try clear hi)
        refine hK.out _ _ ⟨(blk_cell BK402.out 0).trans rfl, (blk_cell BK402.out 1).trans rfl, (blk_cell BK380.out 0).trans rfl, (blk_cell BK380.out 1).trans rfl⟩ (fun hHeld => ?_)
        clear hK K
        refine norm_ (a' := ?_) ?_ ?_
        rotate_left
        ·
         show Act.put _ (some 63) _ = _
         simp only [Act.put, zA, zB, zD, i64_w, i32_w]
         rfl
        refine pure_ (i := 4) (N := some 64) (v := ?_) (a' := ?_) #[true, true, true, true, true] rfl rfl (by kernel_rfl) (fun _ _ _ h => h) (Or.inl ⟨by rfl, ?_⟩) ?_ ?_
        rotate_left
        ·
         intro w'
         go_simp
         with_reducible rfl
        rotate_left
        ·
         simp only [Act.put, zA, zB, zD, i64_w, i32_w]
         rfl
        refine done_ (by kernel_rfl) ?_
        go_upto_region 21 with (first | ((with_reducible refine gate_callee (f := 15) rfl ?_); refine goesL_ (some 67) rfl rfl Try.func15 (by kernel_rfl) rfl #[.slice A1 l1.length c1] rfl (by (try simp only [List.map_toArray, List.map_cons, List.map_nil]); first | done | rfl | (simp only [List.length_drop, List.length_take]; rfl)) ?_; (with_reducible refine (laws_toHoleS.calls kj25 _ _ l1 t419 _ ?side1 ?side2 A60.out).mono ?_); (case side1 => repeat (first | exact (Kd.C_below HR1.out HB.out) | (with_reducible refine Kd.C_alloc ?_ _) | (with_reducible refine Kd.C_drewN ?_ _) | (with_reducible refine Kd.C_drew ?_))); (case side2 => exact HC1.out); rintro e w70 ⟨v420, rfl, ho0, hb⟩; refine ⟨_, rfl, ?_⟩; have n0_ := zm (Kd.R_below (by (with_reducible repeat (first | apply Kd.R_alloc | apply Kd.R_drewN | apply Kd.R_drew)); exact HO_8.out) hb); have n1_ := zm (Kd.R_elder' (by (with_reducible repeat (first | apply Kd.R_alloc | apply Kd.R_drewN | apply Kd.R_drew)); exact HO_11.out) (Kd.R_base ho0) hb); have n2_ := zm (Kd.R_below (by (with_reducible repeat (first | apply Kd.R_alloc | apply Kd.R_drewN | apply Kd.R_drew)); exact HO_12.out) hb); have n3_ := zm (Kd.R_below (by (with_reducible repeat (first | apply Kd.R_alloc | apply Kd.R_drewN | apply Kd.R_drew)); exact HO_403000.out) hb); have n4_ := zm (Kd.R_below (by (with_reducible repeat (first | apply Kd.R_alloc | apply Kd.R_drewN | apply Kd.R_drew)); exact HO416.out) hb); have n5_ := zm (Kd.R_lower (Kd.R_new' ho0 (Kd.R_lt (by (with_reducible repeat (first | apply Kd.R_alloc | apply Kd.R_drewN | apply Kd.R_drew)); exact HO_11.out))) (below_size zb)); have n6_ := zm (blk_below (g := gb380) zk hb); have n7_ := zm (blk_below (g := gb381) zk hb); have n8_ := zm (blk_below (g := gb402) zk hb); have n9_ := zm (below_step zb hb); clear HO_8; clear HO_11; clear HO_12; clear HO_403000; clear HO416; clear BK380; clear BK381; clear BK402; clear HB; have HO_8 := n0_; have HO_11 := n1_; have HO_12 := n2_; have HO_403000 := n3_; have HO416 := n4_; have HO421 := n5_; have BK380 := n6_; have BK381 := n7_; have BK402 := n8_; have HB := n9_; clear n0_ n1_ n2_ n3_ n4_ n5_ n6_ n7_ n8_ n9_; (try clear hb); (try clear hb2); (try clear hk); (try clear hi); (try clear ho0); obtain ⟨Ao71, co71, eo71⟩ := Kd.R_slice HO421.out; subst eo71) | ((with_reducible refine gate_callee (f := 19) rfl ?_); refine goesL_ (some 68) rfl rfl Try.func19 (by kernel_rfl) rfl #[.slice Ao49 t403.length co49, .slice Ao71 t419.length co71] rfl (by (try simp only [List.map_toArray, List.map_cons, List.map_nil]); first | done | rfl | (simp only [List.length_drop, List.length_take]; rfl)) ?_; (with_reducible refine (laws_eqHoleS.calls kj25 _ _ t403 _ _ t419 true _ ?side1 ?side2 ?side3 ?side4 A61.out).mono ?_); (case side1 => repeat (first | exact (Kd.R_reads' HO_11.out).2.2 | (with_reducible refine Kd.C_alloc ?_ _) | (with_reducible refine Kd.C_drewN ?_ _) | (with_reducible refine Kd.C_drew ?_))); (case side2 => exact (Kd.R_reads' HO_11.out).2.1); (case side3 => repeat (first | exact (Kd.R_reads' HO421.out).2.2 | (with_reducible refine Kd.C_alloc ?_ _) | (with_reducible refine Kd.C_drewN ?_ _) | (with_reducible refine Kd.C_drew ?_))); (case side4 => exact (Kd.R_reads' HO421.out).2.1); rintro e w72 ⟨rfl, hb⟩; refine ⟨_, rfl, ?_⟩; have n0_ := zm (Kd.R_below (by (with_reducible repeat (first | apply Kd.R_alloc | apply Kd.R_drewN | apply Kd.R_drew)); exact HO_8.out) hb); have n1_ := zm (Kd.R_below (by (with_reducible repeat (first | apply Kd.R_alloc | apply Kd.R_drewN | apply Kd.R_drew)); exact HO_11.out) hb); have n2_ := zm (Kd.R_below (by (with_reducible repeat (first | apply Kd.R_alloc | apply Kd.R_drewN | apply Kd.R_drew)); exact HO_12.out) hb); have n3_ := zm (Kd.R_below (by (with_reducible repeat (first | apply Kd.R_alloc | apply Kd.R_drewN | apply Kd.R_drew)); exact HO_403000.out) hb); have n4_ := zm (Kd.R_below (by (with_reducible repeat (first | apply Kd.R_alloc | apply Kd.R_drewN | apply Kd.R_drew)); exact HO416.out) hb); have n5_ := zm (Kd.R_below (by (with_reducible repeat (first | apply Kd.R_alloc | apply Kd.R_drewN | apply Kd.R_drew)); exact HO421.out) hb); have n6_ := zm (blk_below (g := gb380) zk hb); have n7_ := zm (blk_below (g := gb381) zk hb); have n8_ := zm (blk_below (g := gb402) zk hb); have n9_ := zm (below_step zb hb); clear HO_8; clear HO_11; clear HO_12; clear HO_403000; clear HO416; clear HO421; clear BK380; clear BK381; clear BK402; clear HB; have HO_8 := n0_; have HO_11 := n1_; have HO_12 := n2_; have HO_403000 := n3_; have HO416 := n4_; have HO421 := n5_; have BK380 := n6_; have BK381 := n7_; have BK402 := n8_; have HB := n9_; clear n0_ n1_ n2_ n3_ n4_ n5_ n6_ n7_ n8_ n9_; (try clear hb); (try clear hb2); (try clear hk); (try clear hi); have hnb73 := NB402_380.out; have hnc73 := NB380_402.out; have hnb74 := NB402_381.out; have hnc74 := NB381_402.out; obtain ⟨hcz75_0, hcz75_1, hfz75_0, hfz75_1⟩ := zc2 BK402.out) | ((with_reducible refine gate_callee (f := 23) rfl ?_); refine goesL_ (some 72) rfl rfl Try.func23 (by kernel_rfl) rfl #[.agg #[.slice Ao42 t398.length co42, .int .i64 t401], .int .i64 1] rfl (by (try simp only [List.map_toArray, List.map_cons, List.map_nil]); first | done | rfl | (simp only [List.length_drop, List.length_take]; rfl)) ?_; (with_reducible refine (laws_markInstrument.calls kj25 (fun k_ => some k_ = (.slice Ao42 t398.length co42 : Value).ownBlock) (.slice Ao42 t398.length co42) t398 t401 1 t423 t424 w _ ?side1 ?side2 A63.out).mono ?_); (case side1 => repeat (first | (with_reducible first | exact HB.out | apply below_alloc | apply pw_below_drewN | apply below_drew1 | refine below_set ?_ GE380.out | refine below_set ?_ GE381.out | refine below_set ?_ GE402.out) | exact HB.out)); (case side2 => exact Kd.R_tight rfl HO_403000.out); rintro e w76 ⟨rfl, hy0, hb, hkp⟩; refine ⟨_, rfl, ?_⟩; have n0_ := zm (Kd.R_mono (ok' := fun k_ => some k_ ≠ (v410 : Value).ownBlock) (Kd.R_keptB ((Kd.R_apart' HO_8.out (Kd.R_typed HO_403000.out) (by decide))) hkp (fun k_ hk_ hs_ => (hk_.2) hs_)) (fun k_ hk_ => hk_.1.1)); have n1_ := zm (Kd.R_mono (ok' := fun k_ => some k_ ≠ (.slice Ao71 t419.length co71 : Value).ownBlock) (Kd.R_keptB ((Kd.R_apart' HO_11.out (Kd.R_typed HO_403000.out) (by decide))) hkp (fun k_ hk_ hs_ => (hk_.2) hs_)) (fun k_ hk_ => hk_.1.1.2)); have n2_ := zm (Kd.R_mono (ok' := fun k_ => some k_ ≠ (v395 : Value).ownBlock) (Kd.R_keptB ((Kd.R_apart' HO_12.out (Kd.R_typed HO_403000.out) (by decide))) hkp (fun k_ hk_ hs_ => (hk_.2) hs_)) (fun k_ hk_ => hk_.1.1)); have n3_ := zm (Kd.R_reok rfl hy0 (fun k_ e_ => HO_403000.out.1 k_ e_)); have n4_ := zm (blk_kept zk hkp (fun hs_ => (fun e_ => (Kd.R_ne HO_403000.out BK380.out (by decide)) e_) hs_)); have n5_ := zm (blk_kept zk hkp (fun hs_ => (fun e_ => (Kd.R_ne HO_403000.out BK381.out (by decide)) e_) hs_)); have n6_ := zm (blk_kept zk hkp (fun hs_ => (fun e_ => (Kd.R_ne HO_403000.out BK402.out (by decide)) e_) hs_)); have n7_ := zm (Kd.R_mono (ok' := fun k_ => some k_ ≠ (.slice Ao42 t398.length co42 : Value).ownBlock) (Kd.R_keptB (HO416.out) hkp (fun k_ hk_ hs_ => (hk_.2) hs_)) (fun k_ hk_ => hk_.1.2)); have n8_ := zm (Kd.R_mono (ok' := fun k_ => some k_ ≠ (.slice Ao49 t403.length co49 : Value).ownBlock) (Kd.R_keptB ((Kd.R_apart' HO421.out (Kd.R_typed HO_403000.out) (by decide))) hkp (fun k_ hk_ hs_ => (hk_.2) hs_)) (fun k_ hk_ => hk_.1.1.2)); have n9_ := zm (hb); clear HO_8; clear HO_11; clear HO_12; clear HO_403000; clear BK380; clear BK381; clear BK402; clear HO416; clear HO421; clear HB; have HO_8 := n0_; have HO_11 := n1_; have HO_12 := n2_; have HO_403000 := n3_; have BK380 := n4_; have BK381 := n5_; have BK402 := n6_; have HO416 := n7_; have HO421 := n8_; have HB := n9_; clear n0_ n1_ n2_ n3_ n4_ n5_ n6_ n7_ n8_ n9_; (try clear hb); (try clear hkp); (try clear hy0)) | ((with_reducible refine gate_callee (f := 24) rfl ?_); refine goesL_ (some 75) rfl rfl Try.func24 (by kernel_rfl) rfl #[.slice Ao49 t403.length co49, .int .i64 t423] rfl (by (try simp only [List.map_toArray, List.map_cons, List.map_nil]); first | done | rfl | (simp only [List.length_drop, List.length_take]; rfl)) ?_; (with_reducible refine (laws_markHoleS.calls kj25 (fun k_ => some k_ = (.slice Ao49 t403.length co49 : Value).ownBlock) (.slice Ao49 t403.length co49) t403 t423 t425 t426 w _ ?side1 ?side2 A64.out).mono ?_); (case side1 => repeat (first | (with_reducible first | exact HB.out | apply below_alloc | apply pw_below_drewN | apply below_drew1 | refine below_set ?_ GE380.out | refine below_set ?_ GE381.out | refine below_set ?_ GE402.out) | exact HB.out)); (case side2 => exact Kd.R_tight rfl HO_11.out); rintro e w77 ⟨rfl, hy0, hb, hkp⟩; refine ⟨_, rfl, ?_⟩; have n0_ := zm (Kd.R_mono (ok' := fun k_ => some k_ ≠ (v410 : Value).ownBlock) (Kd.R_keptB ((Kd.R_apart' HO_8.out (Kd.R_typed HO_11.out) (by decide))) hkp (fun k_ hk_ hs_ => (hk_.2) hs_)) (fun k_ hk_ => hk_.1.1)); have n1_ := zm (Kd.R_reok rfl hy0 (fun k_ e_ => HO_11.out.1 k_ e_)); have n2_ := zm (Kd.R_mono (ok' := fun k_ => some k_ ≠ (v395 : Value).ownBlock) (Kd.R_keptB ((Kd.R_apart' HO_12.out (Kd.R_typed HO_11.out) (by decide))) hkp (fun k_ hk_ hs_ => (hk_.2) hs_)) (fun k_ hk_ => hk_.1.1)); have n3_ := zm (Kd.R_mono (ok' := fun k_ => some k_ ≠ (.slice Ao68 t414.length co68 : Value).ownBlock) (Kd.R_keptB ((Kd.R_apart' HO_403000.out (Kd.R_typed HO_11.out) (by decide))) hkp (fun k_ hk_ hs_ => (hk_.2) hs_)) (fun k_ hk_ => hk_.1.1.2)); have n4_ := zm (blk_kept zk hkp (fun hs_ => (fun e_ => (Kd.R_ne HO_11.out BK380.out (by decide)) e_) hs_)); have n5_ := zm (blk_kept zk hkp (fun hs_ => (fun e_ => (Kd.R_ne HO_11.out BK381.out (by decide)) e_) hs_)); have n6_ := zm (blk_kept zk hkp (fun hs_ => (fun e_ => (Kd.R_ne HO_11.out BK402.out (by decide)) e_) hs_)); have n7_ := zm (Kd.R_mono (ok' := fun k_ => some k_ ≠ (.slice Ao42 t398.length co42 : Value).ownBlock) (Kd.R_keptB ((Kd.R_apart' HO416.out (Kd.R_typed HO_11.out) (by decide))) hkp (fun k_ hk_ hs_ => (hk_.2) hs_)) (fun k_ hk_ => hk_.1.1)); have n8_ := zm (Kd.R_mono (ok' := fun k_ => some k_ ≠ (.slice Ao49 t403.length co49 : Value).ownBlock) (Kd.R_keptB (HO421.out) hkp (fun k_ hk_ hs_ => (hk_) hs_)) (fun k_ hk_ => hk_.1)); have n9_ := zm (hb); clear HO_8; clear HO_11; clear HO_12; clear HO_403000; clear BK380; clear BK381; clear BK402; clear HO416; clear HO421; clear HB; have HO_8 := n0_; have HO_11 := n1_; have HO_12 := n2_; have HO_403000 := n3_; have BK380 := n4_; have BK381 := n5_; have BK402 := n6_; have HO416 := n7_; have HO421 := n8_; have HB := n9_; clear n0_ n1_ n2_ n3_ n4_ n5_ n6_ n7_ n8_ n9_; (try clear hb); (try clear hkp); (try clear hy0)))
        (try simp only [Act.put, List.setIfInBounds_toArray, List.set_cons_zero, List.set_cons_succ])
        go_cut [88] (fun v88 wc => ∃ (kq : Nat) (x88_64 : Bool), v88 = .bool x88_64 ∧ Aside0 (laws_FnExactPlayedBy.j1 kq l1 t394 t397 t409 x88_64 l0_0 a0_1 a2_0 a2_1 a2_2 = some r) ∧ Aside0 (kq ≤ kj25) ∧ Aside0 (Kd.R k79 79 wc w.heap.size (fun k_ => some k_ ≠ (v410 : Value).ownBlock) v395 t394) ∧ Aside0 (Kd.R k79 79 wc w.heap.size (fun k_ => some k_ ≠ (v395 : Value).ownBlock) v410 t409) ∧ Aside0 (Kd.R (Kd.int .i64) 3 wc w.heap.size (fun _ => True) (.slice Ao42 t398.length co42) t424) ∧ Aside0 (wc.heap[gb380]? = some (.cells #[(.slice A0_0 l0_0.length c0_0), .int .i64 a0_1] 24 (0, 0))) ∧ Aside0 (wc.heap[gb381]? = some (.cells #[.int .i64 a2_0, .int .i64 a2_1, .int .i64 a2_2] 27 (0, 0))) ∧ Aside0 (wc.heap[gb402]? = some (.cells #[(.slice Ao42 t398.length co42), .int .i64 t401] 32 (0, 0))) ∧ Aside0 (Below w.heap.size w wc))
        case first =>
         have H := HC65.out
         clear HC65
         by_cases c78 : t425 < 0
         ·
          rw [if_pos c78] at H
          have c78b0 : decide (t425 < 0) = true := decide_eq_true c78
          clear c78
          (first | rw [c78b0] | (simp only [i64_w, i32_w]; rw [c78b0]) | skip)
          exact (laws_FnExactPlayedBy.j1_t (H.trans (congrArg some hr_))).elim
         ·
          rw [if_neg c78] at H
          have c78b0 : decide (t425 < 0) = false := decide_eq_false c78
          clear c78
          (first | rw [c78b0] | (simp only [i64_w, i32_w]; rw [c78b0]) | skip)
          replace H := Option.bind_eq_some_iff.mp H
          obtain ⟨t427, A790, H⟩ := H
          replace H : (if t427 = true then (laws_FnExactPlayedBy.j1 kj25 l1 t394 t397 t409 (t412 != t397) l0_0 a0_1 a2_0 a2_1 a2_2) else (laws_FnExactPlayedBy.j1 kj25 l1 t394 t397 t409 true l0_0 a0_1 a2_0 a2_1 a2_2)) = some r := H
          have A79 := zm A790
          clear A790
          by_cases c80 : t427 = true
          ·
           subst c80
           have H1 : (laws_FnExactPlayedBy.j1 kj25 l1 t394 t397 t409 (t412 != t397) l0_0 a0_1 a2_0 a2_1 a2_2) = some r := by rw [if_pos rfl] at H; exact H
           clear H
           have H := H1
           clear H1
           have H' := zm H
           clear H
           obtain ⟨Ao81, co81, eo81⟩ := Kd.R_slice HO_12.out
           subst eo81
           obtain ⟨Ao82, co82, eo82⟩ := Kd.R_slice HO_8.out
           subst eo82
           go_wp2_with (first | (go_at_call 29; (with_reducible refine (laws_eqPlayedS.calls kj25 _ _ t409 _ _ t394 true _ ?side1 ?side2 ?side3 ?side4 A79.out).mono ?_); (case side1 => repeat (first | exact (Kd.R_reads' HO_12.out).2.2 | (with_reducible refine Kd.C_alloc ?_ _) | (with_reducible refine Kd.C_drewN ?_ _) | (with_reducible refine Kd.C_drew ?_))); (case side2 => exact (Kd.R_reads' HO_12.out).2.1); (case side3 => repeat (first | exact (Kd.R_reads' HO_8.out).2.2 | (with_reducible refine Kd.C_alloc ?_ _) | (with_reducible refine Kd.C_drewN ?_ _) | (with_reducible refine Kd.C_drew ?_))); (case side4 => exact (Kd.R_reads' HO_8.out).2.1); rintro e w83 ⟨rfl, hb⟩; have n0_ := zm (Kd.R_below (by (with_reducible repeat (first | apply Kd.R_alloc | apply Kd.R_drewN | apply Kd.R_drew)); exact HO_8.out) hb); have n1_ := zm (Kd.R_below (by (with_reducible repeat (first | apply Kd.R_alloc | apply Kd.R_drewN | apply Kd.R_drew)); exact HO_11.out) hb); have n2_ := zm (Kd.R_below (by (with_reducible repeat (first | apply Kd.R_alloc | apply Kd.R_drewN | apply Kd.R_drew)); exact HO_12.out) hb); have n3_ := zm (Kd.R_below (by (with_reducible repeat (first | apply Kd.R_alloc | apply Kd.R_drewN | apply Kd.R_drew)); exact HO_403000.out) hb); have n4_ := zm (Kd.R_below (by (with_reducible repeat (first | apply Kd.R_alloc | apply Kd.R_drewN | apply Kd.R_drew)); exact HO416.out) hb); have n5_ := zm (Kd.R_below (by (with_reducible repeat (first | apply Kd.R_alloc | apply Kd.R_drewN | apply Kd.R_drew)); exact HO421.out) hb); have n6_ := zm (blk_below (g := gb380) zk hb); have n7_ := zm (blk_below (g := gb381) zk hb); have n8_ := zm (blk_below (g := gb402) zk hb); have n9_ := zm (below_step zb hb); clear HO_8; clear HO_11; clear HO_12; clear HO_403000; clear HO416; clear HO421; clear BK380; clear BK381; clear BK402; clear HB; have HO_8 := n0_; have HO_11 := n1_; have HO_12 := n2_; have HO_403000 := n3_; have HO416 := n4_; have HO421 := n5_; have BK380 := n6_; have BK381 := n7_; have BK402 := n8_; have HB := n9_; clear n0_ n1_ n2_ n3_ n4_ n5_ n6_ n7_ n8_ n9_; (try clear hb); (try clear hb2); (try clear hk); (try clear hi)))
           go_meet
           case rel => exact ⟨_, ((t412 != t397)), (by first | rfl | (simp; done) | (simp [*]; done)), H', ⟨by have := HJ25.out; first | omega | exact Nat.le_refl _⟩, ⟨by (with_reducible repeat (first | apply Kd.R_alloc | apply Kd.R_drewN | apply Kd.R_drew)); exact HO_8.out⟩, ⟨by (with_reducible repeat (first | apply Kd.R_alloc | apply Kd.R_drewN | apply Kd.R_drew)); exact HO_12.out⟩, ⟨by (with_reducible repeat (first | apply Kd.R_alloc | apply Kd.R_drewN | apply Kd.R_drew)); exact Kd.R_mono HO_403000.out (fun _ hk => trivial)⟩, ⟨zk⟩, ⟨zk⟩, ⟨zk⟩, ⟨zb⟩⟩
          ·
           replace c80 := Bool.eq_false_iff.mpr c80
           subst c80
           have H1 : (laws_FnExactPlayedBy.j1 kj25 l1 t394 t397 t409 true l0_0 a0_1 a2_0 a2_1 a2_2) = some r := by rw [if_neg (show ¬ (false = true) by decide)] at H; exact H
           clear H
           have H := H1
           clear H1
           exact (laws_FnExactPlayedBy.j1_t (H.trans (congrArg some hr_))).elim
        case rest =>
         clear HC65
         try clear c1
         try clear c2
         try clear p2
         try clear c4
         try clear c5
         try clear c5b0
         try clear c6
         try clear c7
         try clear c8
         try clear c11
         try clear c12
         try clear c12b0
         try clear c14
         try clear c15
         try clear c16
         try clear c18
         try clear c19
         try clear c23
         try clear c24
         try clear c27
         try clear c28
         try clear c29
         try clear c43
         try clear c44
         try clear c52
         try clear c56
         try clear c59
         try clear c62
         try clear c73
         try clear c74
         try clear c78
         try clear c78b0
         try clear c80
         try clear hcz16_0
         try clear hcz16_1
         try clear hcz30_0
         try clear hcz30_1
         try clear hcz39_0
         try clear hcz39_1
         try clear hcz45_0
         try clear hcz45_1
         try clear hcz75_0
         try clear hcz75_1
         try clear hcz9_0
         try clear hcz9_1
         try clear hfz16_0
         try clear hfz16_1
         try clear hfz30_0
         try clear hfz30_1
         try clear hfz39_0
         try clear hfz39_1
         try clear hfz45_0
         try clear hfz45_1
         try clear hfz75_0
         try clear hfz75_1
         try clear hfz9_0
         try clear hfz9_1
         try clear p2
         obtain ⟨kq, x88_64, rfl, HA, HJ64, HO_8, HO_12, HO_403000, BK380, BK381, BK402, HB⟩ := hcut
         have hl403000_64 := (Kd.R_reads' HO_403000.out).1
         rw [hl403000_64] at HO_403000
         (try simp only [hl403000_64])
         (try simp only [hl403000_64] at BK380)
         (try simp only [hl403000_64] at BK381)
         (try simp only [hl403000_64] at BK402)
         (try simp only [hl403000_64] at HO_8)
         (try simp only [hl403000_64] at HO_12)
         cases kq with
         | zero => exact absurd HA.out (by simp [laws_FnExactPlayedBy.j1])
         | succ kj64 =>
          have H := HA.out
          clear HA
          simp only [laws_FnExactPlayedBy.j1] at H
          by_cases c84 : x88_64 = true
          ·
           subst c84
           have H1 : (some false) = some r := by rw [if_pos rfl] at H; exact H
           clear H
           have H := H1
           clear H1
           exact absurd ((Option.some.inj H).trans hr_) (by decide)
          ·
           replace c84 := Bool.eq_false_iff.mpr c84
           subst c84
           have H1 : ((laws_markPlayedS.f kj64 t409 1).bind fun bt428 => ((laws_heldPlayedS.f kj64 bt428.2 1).bind fun t430 => (if t430 < 0 then (some false) else (if t430 = bt428.1 then ((laws_toInstrument.f kj64 l0_0 a0_1).bind fun bt431 => ((laws_toHoleS.f kj64 l1).bind fun t435 => ((laws_toAction.f a2_0 a2_1 a2_2).bind fun bt438 => ((impl_PlayedBy.f kj64 bt431.1 bt431.2 t435 bt438.1 bt438.2.1 bt438.2.2).bind fun bt441 => ((laws_eqPlayedS.f kj64 bt441.1 t394).bind fun t445 => (if t445 = true then (laws_FnExactPlayedBy.j2 kj64 bt428.2 bt428.1 (bt441.2 != t397)) else (laws_FnExactPlayedBy.j2 kj64 bt428.2 bt428.1 true))))))) else (some false))))) = some r := by rw [if_neg (show ¬ (false = true) by decide)] at H; exact H
           clear H
           have H := H1
           clear H1
           replace H := Option.bind_eq_some_iff.mp H
           obtain ⟨⟨t428, t429⟩, A850, H⟩ := H
           replace H : ((laws_heldPlayedS.f kj64 t429 1).bind fun t430 => (if t430 < 0 then (some false) else (if t430 = t428 then ((laws_toInstrument.f kj64 l0_0 a0_1).bind fun bt431 => ((laws_toHoleS.f kj64 l1).bind fun t435 => ((laws_toAction.f a2_0 a2_1 a2_2).bind fun bt438 => ((impl_PlayedBy.f kj64 bt431.1 bt431.2 t435 bt438.1 bt438.2.1 bt438.2.2).bind fun bt441 => ((laws_eqPlayedS.f kj64 bt441.1 t394).bind fun t445 => (if t445 = true then (laws_FnExactPlayedBy.j2 kj64 t429 t428 (bt441.2 != t397)) else (laws_FnExactPlayedBy.j2 kj64 t429 t428 true))))))) else (some false)))) = some r := H
           have A85 := zm A850
           clear A850
           replace H := Option.bind_eq_some_iff.mp H
           obtain ⟨t430, A860, H⟩ := H
           replace H : (if t430 < 0 then (some false) else (if t430 = t428 then ((laws_toInstrument.f kj64 l0_0 a0_1).bind fun bt431 => ((laws_toHoleS.f kj64 l1).bind fun t435 => ((laws_toAction.f a2_0 a2_1 a2_2).bind fun bt438 => ((impl_PlayedBy.f kj64 bt431.1 bt431.2 t435 bt438.1 bt438.2.1 bt438.2.2).bind fun bt441 => ((laws_eqPlayedS.f kj64 bt441.1 t394).bind fun t445 => (if t445 = true then (laws_FnExactPlayedBy.j2 kj64 t429 t428 (bt441.2 != t397)) else (laws_FnExactPlayedBy.j2 kj64 t429 t428 true))))))) else (some false))) = some r := H
           have A86 := zm A860
           clear A860
           by_cases c87 : t430 < 0
           ·
            rw [if_pos c87] at H
            have c87b0 : decide (t430 < 0) = true := decide_eq_true c87
            clear c87
            exact absurd ((Option.some.inj H).trans hr_) (by decide)
           ·
            rw [if_neg c87] at H
            have c87b0 : decide (t430 < 0) = false := decide_eq_false c87
            clear c87
            by_cases c88 : t430 = t428
            ·
             rw [if_pos c88] at H
             have c88b0 : (t430 == t428) = true := beq_iff_eq.mpr c88
             have c88b1 : (t430 != t428) = false := bne_eq_false_iff_eq.mpr c88
             clear c88
             replace H := Option.bind_eq_some_iff.mp H
             obtain ⟨⟨t431, t434⟩, A890, H⟩ := H
             replace H : ((laws_toHoleS.f kj64 l1).bind fun t435 => ((laws_toAction.f a2_0 a2_1 a2_2).bind fun bt438 => ((impl_PlayedBy.f kj64 t431 t434 t435 bt438.1 bt438.2.1 bt438.2.2).bind fun bt441 => ((laws_eqPlayedS.f kj64 bt441.1 t394).bind fun t445 => (if t445 = true then (laws_FnExactPlayedBy.j2 kj64 t429 t428 (bt441.2 != t397)) else (laws_FnExactPlayedBy.j2 kj64 t429 t428 true)))))) = some r := H
             have A89 := zm A890
             clear A890
             replace H := Option.bind_eq_some_iff.mp H
             obtain ⟨t435, A900, H⟩ := H
             replace H : ((laws_toAction.f a2_0 a2_1 a2_2).bind fun bt438 => ((impl_PlayedBy.f kj64 t431 t434 t435 bt438.1 bt438.2.1 bt438.2.2).bind fun bt441 => ((laws_eqPlayedS.f kj64 bt441.1 t394).bind fun t445 => (if t445 = true then (laws_FnExactPlayedBy.j2 kj64 t429 t428 (bt441.2 != t397)) else (laws_FnExactPlayedBy.j2 kj64 t429 t428 true))))) = some r := H
             have A90 := zm A900
             clear A900
             replace H := Option.bind_eq_some_iff.mp H
             obtain ⟨⟨t438, t439, t440⟩, A910, H⟩ := H
             replace H : ((impl_PlayedBy.f kj64 t431 t434 t435 t438 t439 t440).bind fun bt441 => ((laws_eqPlayedS.f kj64 bt441.1 t394).bind fun t445 => (if t445 = true then (laws_FnExactPlayedBy.j2 kj64 t429 t428 (bt441.2 != t397)) else (laws_FnExactPlayedBy.j2 kj64 t429 t428 true)))) = some r := H
             have A91 := zm A910
             clear A910
             replace H := Option.bind_eq_some_iff.mp H
             obtain ⟨⟨t441, t444⟩, A920, H⟩ := H
             replace H : ((laws_eqPlayedS.f kj64 t441 t394).bind fun t445 => (if t445 = true then (laws_FnExactPlayedBy.j2 kj64 t429 t428 (t444 != t397)) else (laws_FnExactPlayedBy.j2 kj64 t429 t428 true))) = some r := H
             have A92 := zm A920
             clear A920
             have HC93 := zm H
             clear H
             obtain ⟨Ao94, co94, eo94⟩ := Kd.R_slice HO_12.out
             subst eo94
             try go_wp2_with (first | ((with_reducible refine gate_callee (f := 30) rfl ?_); refine goesL_ (some 91) rfl rfl Try.func30 (by kernel_rfl) rfl #[.slice Ao94 t409.length co94, .int .i64 1] rfl (by (try simp only [List.map_toArray, List.map_cons, List.map_nil]); first | done | rfl | (simp only [List.length_drop, List.length_take]; rfl)) ?_; (with_reducible refine (laws_markPlayedS.calls kj64 (fun k_ => some k_ = (.slice Ao94 t409.length co94 : Value).ownBlock) (.slice Ao94 t409.length co94) t409 1 t428 t429 w _ ?side1 ?side2 A85.out).mono ?_); (case side1 => repeat (first | (with_reducible first | exact HB.out | apply below_alloc | apply pw_below_drewN | apply below_drew1 | refine below_set ?_ GE380.out | refine below_set ?_ GE381.out | refine below_set ?_ GE402.out) | exact HB.out)); (case side2 => exact Kd.R_tight rfl HO_12.out); rintro e w95 ⟨rfl, hy0, hb, hkp⟩; refine ⟨_, rfl, ?_⟩; have n0_ := zm (Kd.R_mono (ok' := fun k_ => some k_ ≠ (.slice Ao94 t409.length co94 : Value).ownBlock) (Kd.R_keptB (HO_8.out) hkp (fun k_ hk_ hs_ => (hk_) hs_)) (fun k_ hk_ => hk_.1)); have n1_ := zm (Kd.R_reok rfl hy0 (fun k_ e_ => HO_12.out.1 k_ e_)); have n2_ := zm (Kd.R_mono (ok' := fun k_ => True) (Kd.R_keptB ((Kd.R_apart' HO_403000.out (Kd.R_typed HO_12.out) (by decide))) hkp (fun k_ hk_ hs_ => (hk_.2) hs_)) (fun k_ hk_ => trivial)); have n3_ := zm (blk_kept zk hkp (fun hs_ => (fun e_ => (Kd.R_ne HO_12.out BK380.out (by decide)) e_) hs_)); have n4_ := zm (blk_kept zk hkp (fun hs_ => (fun e_ => (Kd.R_ne HO_12.out BK381.out (by decide)) e_) hs_)); have n5_ := zm (blk_kept zk hkp (fun hs_ => (fun e_ => (Kd.R_ne HO_12.out BK402.out (by decide)) e_) hs_)); have n6_ := zm (hb); clear HO_8; clear HO_12; clear HO_403000; clear BK380; clear BK381; clear BK402; clear HB; have HO_8 := n0_; have HO_12 := n1_; have HO_403000 := n2_; have BK380 := n3_; have BK381 := n4_; have BK402 := n5_; have HB := n6_; clear n0_ n1_ n2_ n3_ n4_ n5_ n6_; (try clear hb); (try clear hkp); (try clear hy0)) | ((with_reducible refine gate_callee (f := 31) rfl ?_); refine goesL_ (some 94) rfl rfl Try.func31 (by kernel_rfl) rfl #[.slice Ao94 t429.length co94, .int .i64 1] rfl (by (try simp only [List.map_toArray, List.map_cons, List.map_nil]); first | done | (rw [show t429.length = t409.length from (Kd.R_reads' HO_12.out).1.symm] <;> rfl) | rfl | (simp only [List.length_drop, List.length_take]; rfl)) ?_; (with_reducible refine (laws_heldPlayedS.calls kj64 _ _ t429 1 t430 _ ?side1 ?side2 A86.out).mono ?_); (case side1 => repeat (first | exact (Kd.R_reads' HO_12.out).2.2 | (with_reducible refine Kd.C_alloc ?_ _) | (with_reducible refine Kd.C_drewN ?_ _) | (with_reducible refine Kd.C_drew ?_))); (case side2 => rw [show t429.length = t409.length from (Kd.R_reads' HO_12.out).1.symm]; exact (Kd.R_reads' HO_12.out).2.1); rintro e w' ⟨rfl, ⟨nd, rfl⟩⟩; refine ⟨_, rfl, ?_⟩))
             (try (rw [drewN_self w95]; generalize hq_ : World.drewN w95 _ = w95; have n0_ : Aside0 (Kd.R k79 79 w95 w.heap.size (fun k_ => some k_ ≠ (v395 : Value).ownBlock) (.slice Ao94 t409.length co94) t429) := ⟨by rw [← hq_]; exact (by (with_reducible repeat (first | apply Kd.R_alloc | apply Kd.R_drewN | apply Kd.R_drew)); exact HO_12.out)⟩; have n1_ : Aside0 (Kd.R (Kd.int .i64) 3 w95 w.heap.size (fun _ => True) (.slice Ao42 t424.length co42) t424) := ⟨by rw [← hq_]; exact (by (with_reducible repeat (first | apply Kd.R_alloc | apply Kd.R_drewN | apply Kd.R_drew)); exact HO_403000.out)⟩; have n2_ : Aside0 (Kd.R k79 79 w95 w.heap.size (fun k_ => some k_ ≠ (.slice Ao94 t409.length co94 : Value).ownBlock) v395 t394) := ⟨by rw [← hq_]; exact (by (with_reducible repeat (first | apply Kd.R_alloc | apply Kd.R_drewN | apply Kd.R_drew)); exact HO_8.out)⟩; have n3_ : Aside0 (w95.heap[gb380]? = some (.cells #[.slice A0_0 l0_0.length c0_0, .int .i64 a0_1] 24 (0, 0))) := ⟨by rw [← hq_]; exact zk⟩; have n4_ : Aside0 (w95.heap[gb381]? = some (.cells #[.int .i64 a2_0, .int .i64 a2_1, .int .i64 a2_2] 27 (0, 0))) := ⟨by rw [← hq_]; exact zk⟩; have n5_ : Aside0 (w95.heap[gb402]? = some (.cells #[.slice Ao42 t424.length co42, .int .i64 t401] 32 (0, 0))) := ⟨by rw [← hq_]; exact zk⟩; have n6_ : Aside0 (Below w.heap.size w w95) := ⟨by rw [← hq_]; exact zb⟩; clear HO_12 HO_403000 HO_8 BK380 BK381 BK402 HB hq_; have HO_12 := n0_; have HO_403000 := n1_; have HO_8 := n2_; have BK380 := n3_; have BK381 := n4_; have BK402 := n5_; have HB := n6_; clear n0_ n1_ n2_ n3_ n4_ n5_ n6_))
             have n0_ := zm (Kd.R_drew HO_8.out)
             have n1_ := zm (Kd.R_drew HO_12.out)
             have n2_ := zm (Kd.R_drew HO_403000.out)
             have n3_ := zm (blk_drew BK380.out)
             have n4_ := zm (blk_drew BK381.out)
             have n5_ := zm (blk_drew BK402.out)
             have n6_ := zm (below_drew1 HB.out)
             clear HO_8
             clear HO_12
             clear HO_403000
             clear BK380
             clear BK381
             clear BK402
             clear HB
             have HO_8 := n0_
             have HO_12 := n1_
             have HO_403000 := n2_
             have BK380 := n3_
             have BK381 := n4_
             have BK402 := n5_
             have HB := n6_
             clear n0_ n1_ n2_ n3_ n4_ n5_ n6_
             refine start_ (n := 12) (S := fun w' => w'.cell? ⟨gb380, 0, none⟩ = some (.slice A0_0 l0_0.length c0_0) ∧ w'.cell? ⟨gb380, 1, none⟩ = some (.int .i64 a0_1) ∧ w'.cell? ⟨gb381, 0, none⟩ = some (.int .i64 a2_0) ∧ w'.cell? ⟨gb381, 1, none⟩ = some (.int .i64 a2_1) ∧ w'.cell? ⟨gb381, 2, none⟩ = some (.int .i64 a2_2)) (ds := []) #[false, false, false, false, false, false, false, false, false, false, false, false] (by kernel_rfl) rfl rfl ⟨(blk_cell BK380.out 0).trans rfl, (blk_cell BK380.out 1).trans rfl, (blk_cell BK381.out 0).trans rfl, (blk_cell BK381.out 1).trans rfl, (blk_cell BK381.out 2).trans rfl⟩ (fun hHeld => ?_); refine with_tabW laws_FnExactPlayedBy.tab31 laws_FnExactPlayedBy.bits31 (fun HT_ HW_ => ?_)
             generalize w95.drew = w96 at HO_8 HO_12 HO_403000 BK380 BK381 BK402 HB hHeld ⊢
             refine pure_ (i := 2) (N := some 103) (v := ?_) (a' := ?_) #[false, false, true, false, false, false, false, false, false, false, false, false] rfl rfl (any_of HT_.out (by kernel_rfl)) (fun _ _ _ h => h) (Or.inl ⟨by rfl, ?_⟩) ?_ ?_
             rotate_left
             ·
              intro w'
              go_simp
              with_reducible rfl
             rotate_left
             ·
              simp only [Act.put, zA, zB, zD, i64_w, i32_w]
              rfl
             refine take_ (i := 0) (N := some 101) (v := ?_) (a' := ?_) #[true, false, true, false, false, false, false, false, false, false, false, false] rfl rfl (take_ofW HT_.out HW_.out (by kernel_rfl)) (fun _ _ _ h => h) (Or.inl ⟨by rfl, ?_⟩) hHeld ?_ ?_
             rotate_left
             ·
              rintro w' ⟨s0, s1, s2, s3, s4⟩
              go_simp
              with_reducible rfl
             rotate_left
             ·
              simp only [Act.put, zA, zB, zD, i64_w, i32_w]
              rfl
             refine take_ (i := 4) (N := some 105) (v := ?_) (a' := ?_) #[true, false, true, false, true, false, false, false, false, false, false, false] rfl rfl (take_ofW HT_.out HW_.out (by kernel_rfl)) (fun _ _ _ h => h) (Or.inl ⟨by rfl, ?_⟩) hHeld ?_ ?_
             rotate_left
             ·
              rintro w' ⟨s0, s1, s2, s3, s4⟩
              go_simp
              with_reducible rfl
             rotate_left
             ·
              simp only [Act.put, zA, zB, zD, i64_w, i32_w]
              rfl
             refine one_ (i := 1) (N := some 102) #[true, true, true, false, true, false, false, false, false, false, false, false] rfl rfl (one_of HT_.out (by kernel_rfl)) (by decide) (fun K hK => ?_)
             refine goes_ Try.func14 (by kernel_rfl) rfl #[.agg #[.slice A0_0 l0_0.length c0_0, .int .i64 a0_1]] (by rfl) rfl rfl (by (try simp only [List.map_toArray, List.map_cons, List.map_nil]); first | done | rfl | (simp only [List.length_drop, List.length_take]; rfl)) ?_
             with_reducible refine (laws_toInstrument.calls kj64 _ _ l0_0 a0_1 t431 t434 _ ?side1 ?side2 A89.out).mono ?_
             (case side1 => repeat (first | exact (Kd.C_below HR0_0.out HB.out) | (with_reducible refine Kd.C_alloc ?_ _) | (with_reducible refine Kd.C_drewN ?_ _) | (with_reducible refine Kd.C_drew ?_)))
             (case side2 => exact HC0_0.out)
             rintro e w97 ⟨v432, rfl, ho0, hb⟩
             refine ⟨_, rfl, ?_⟩
             have n0_ := zm (Kd.R_below (by (with_reducible repeat (first | apply Kd.R_alloc | apply Kd.R_drewN | apply Kd.R_drew)); exact HO_8.out) hb)
             have n1_ := zm (Kd.R_below (by (with_reducible repeat (first | apply Kd.R_alloc | apply Kd.R_drewN | apply Kd.R_drew)); exact HO_12.out) hb)
             have n2_ := zm (Kd.R_elder' (by (with_reducible repeat (first | apply Kd.R_alloc | apply Kd.R_drewN | apply Kd.R_drew)); exact HO_403000.out) (Kd.R_base ho0) hb)
             have n3_ := zm (Kd.R_lower (Kd.R_new' ho0 (Kd.R_lt (by (with_reducible repeat (first | apply Kd.R_alloc | apply Kd.R_drewN | apply Kd.R_drew)); exact HO_403000.out))) (below_size zb))
             have n4_ := zm (blk_below (g := gb380) zk hb)
             have n5_ := zm (blk_below (g := gb381) zk hb)
             have n6_ := zm (blk_below (g := gb402) zk hb)
             have n7_ := zm (below_step zb hb)
             clear HO_8
             clear HO_12
             clear HO_403000
             clear BK380
             clear BK381
             clear BK402
             clear HB
             have HO_8 := n0_
             have HO_12 := n1_
             have HO_403000 := n2_
             have HO433 := n3_
             have BK380 := n4_
             have BK381 := n5_
             have BK402 := n6_
             have HB := n7_
             clear n0_ n1_ n2_ n3_ n4_ n5_ n6_ n7_
             (try clear hb)
             (try clear hb2)
             (try clear hk)
             (try clear hi)
             (try clear ho0)
             refine hK.out _ _ ⟨(blk_cell BK380.out 0).trans rfl, (blk_cell BK380.out 1).trans rfl, (blk_cell BK381.out 0).trans rfl, (blk_cell BK381.out 1).trans rfl, (blk_cell BK381.out 2).trans rfl⟩ (fun hHeld => ?_)
             clear hK K
             refine norm_ (a' := ?_) ?_ ?_
             rotate_left
             ·
              show Act.put _ (some 102) _ = _
              simp only [Act.put, zA, zB, zD, i64_w, i32_w]
              rfl
             refine one_ (i := 3) (N := some 104) #[true, true, true, true, true, false, false, false, false, false, false, false] rfl rfl (one_of HT_.out (by kernel_rfl)) (by decide) (fun K hK => ?_)
             refine goes_ Try.func15 (by kernel_rfl) rfl #[.slice A1 l1.length c1] (by rfl) rfl rfl (by (try simp only [List.map_toArray, List.map_cons, List.map_nil]); first | done | rfl | (simp only [List.length_drop, List.length_take]; rfl)) ?_
             with_reducible refine (laws_toHoleS.calls kj64 _ _ l1 t435 _ ?side1 ?side2 A90.out).mono ?_
             (case side1 => repeat (first | exact (Kd.C_below HR1.out HB.out) | (with_reducible refine Kd.C_alloc ?_ _) | (with_reducible refine Kd.C_drewN ?_ _) | (with_reducible refine Kd.C_drew ?_)))
             (case side2 => exact HC1.out)
             rintro e w98 ⟨v436, rfl, ho0, hb⟩
             refine ⟨_, rfl, ?_⟩
             have n0_ := zm (Kd.R_below (by (with_reducible repeat (first | apply Kd.R_alloc | apply Kd.R_drewN | apply Kd.R_drew)); exact HO_8.out) hb)
             have n1_ := zm (Kd.R_below (by (with_reducible repeat (first | apply Kd.R_alloc | apply Kd.R_drewN | apply Kd.R_drew)); exact HO_12.out) hb)
             have n2_ := zm (Kd.R_below (by (with_reducible repeat (first | apply Kd.R_alloc | apply Kd.R_drewN | apply Kd.R_drew)); exact HO_403000.out) hb)
             have n3_ := zm (Kd.R_below (by (with_reducible repeat (first | apply Kd.R_alloc | apply Kd.R_drewN | apply Kd.R_drew)); exact HO433.out) hb)
             have n4_ := zm (Kd.R_lower ho0 (below_size zb))
             have n5_ := zm (blk_below (g := gb380) zk hb)
             have n6_ := zm (blk_below (g := gb381) zk hb)
             have n7_ := zm (blk_below (g := gb402) zk hb)
             have n8_ := zm (below_step zb hb)
             clear HO_8
             clear HO_12
             clear HO_403000
             clear HO433
             clear BK380
             clear BK381
             clear BK402
             clear HB
             have HO_8 := n0_
             have HO_12 := n1_
             have HO_403000 := n2_
             have HO433 := n3_
             have HO437 := n4_
             have BK380 := n5_
             have BK381 := n6_
             have BK402 := n7_
             have HB := n8_
             clear n0_ n1_ n2_ n3_ n4_ n5_ n6_ n7_ n8_
             (try clear hb)
             (try clear hb2)
             (try clear hk)
             (try clear hi)
             (try clear ho0)
             refine hK.out _ _ ⟨(blk_cell BK380.out 0).trans rfl, (blk_cell BK380.out 1).trans rfl, (blk_cell BK381.out 0).trans rfl, (blk_cell BK381.out 1).trans rfl, (blk_cell BK381.out 2).trans rfl⟩ (fun hHeld => ?_)
             clear hK K
             refine norm_ (a' := ?_) ?_ ?_
             rotate_left
             ·
              show Act.put _ (some 104) _ = _
              simp only [Act.put, zA, zB, zD, i64_w, i32_w]
              rfl
             refine one_ (i := 5) (N := some 106) #[true, true, true, true, true, true, false, false, false, false, false, false] rfl rfl (one_of HT_.out (by kernel_rfl)) (by decide) (fun K hK => ?_)
             refine goes_ Try.func16 (by kernel_rfl) rfl #[.agg #[.int .i64 a2_0, .int .i64 a2_1, .int .i64 a2_2]] (by rfl) rfl rfl (by (try simp only [List.map_toArray, List.map_cons, List.map_nil]); first | done | rfl | (simp only [List.length_drop, List.length_take]; rfl)) ?_
             with_reducible refine (laws_toAction.calls a2_0 a2_1 a2_2 t438 t439 t440 _ A91.out).mono ?_
             rintro e w99 ⟨rfl, hb⟩
             refine ⟨_, rfl, ?_⟩
             have n0_ := zm (Kd.R_below (by (with_reducible repeat (first | apply Kd.R_alloc | apply Kd.R_drewN | apply Kd.R_drew)); exact HO_8.out) hb)
             have n1_ := zm (Kd.R_below (by (with_reducible repeat (first | apply Kd.R_alloc | apply Kd.R_drewN | apply Kd.R_drew)); exact HO_12.out) hb)
             have n2_ := zm (Kd.R_below (by (with_reducible repeat (first | apply Kd.R_alloc | apply Kd.R_drewN | apply Kd.R_drew)); exact HO_403000.out) hb)
             have n3_ := zm (Kd.R_below (by (with_reducible repeat (first | apply Kd.R_alloc | apply Kd.R_drewN | apply Kd.R_drew)); exact HO433.out) hb)
             have n4_ := zm (Kd.R_below (by (with_reducible repeat (first | apply Kd.R_alloc | apply Kd.R_drewN | apply Kd.R_drew)); exact HO437.out) hb)
             have n5_ := zm (blk_below (g := gb380) zk hb)
             have n6_ := zm (blk_below (g := gb381) zk hb)
             have n7_ := zm (blk_below (g := gb402) zk hb)
             have n8_ := zm (below_step zb hb)
             clear HO_8
             clear HO_12
             clear HO_403000
             clear HO433
             clear HO437
             clear BK380
             clear BK381
             clear BK402
             clear HB
             have HO_8 := n0_
             have HO_12 := n1_
             have HO_403000 := n2_
             have HO433 := n3_
             have HO437 := n4_
             have BK380 := n5_
             have BK381 := n6_
             have BK402 := n7_
             have HB := n8_
             clear n0_ n1_ n2_ n3_ n4_ n5_ n6_ n7_ n8_
             (try clear hb)
             (try clear hb2)
             (try clear hk)
             (try clear hi)
             obtain ⟨Ao100, co100, eo100⟩ := Kd.R_slice HO433.out
             (first | subst eo100 | (injection eo100 with f1_ f2_ f3_; have f4_ := f1_.symm; have f5_ := f3_.symm; clear f1_ f2_ f3_; subst f4_; subst f5_))
             obtain ⟨Ao101, co101, eo101⟩ := Kd.R_slice HO437.out
             (first | subst eo101 | (injection eo101 with f1_ f2_ f3_; have f4_ := f1_.symm; have f5_ := f3_.symm; clear f1_ f2_ f3_; subst f4_; subst f5_))
             refine hK.out _ _ ⟨(blk_cell BK380.out 0).trans rfl, (blk_cell BK380.out 1).trans rfl, (blk_cell BK381.out 0).trans rfl, (blk_cell BK381.out 1).trans rfl, (blk_cell BK381.out 2).trans rfl⟩ (fun hHeld => ?_)
             clear hK K
             refine norm_ (a' := ?_) ?_ ?_
             rotate_left
             ·
              show Act.put _ (some 106) _ = _
              simp only [Act.put, zA, zB, zD, i64_w, i32_w]
              rfl
             refine one_ (i := 6) (N := some 107) #[true, true, true, true, true, true, true, false, false, false, false, false] rfl rfl (one_of HT_.out (by kernel_rfl)) (by decide) (fun K hK => ?_)
             refine goes_ Try.func28 (by kernel_rfl) rfl #[.agg #[.slice Ao100 t431.length co100, .int .i64 t434], .slice Ao101 t435.length co101, .agg #[.int .i64 t438, .int .i64 t439, .int .i64 t440]] (by rfl) rfl rfl (by (try simp only [List.map_toArray, List.map_cons, List.map_nil]); first | done | rfl | (simp only [List.length_drop, List.length_take]; rfl)) ?_
             with_reducible refine (impl_PlayedBy.calls kj64 _ _ t431 t434 _ _ t435 t438 t439 t440 t441 t444 _ ?side1 ?side2 ?side3 ?side4 A92.out).mono ?_
             (case side1 => repeat (first | exact (Kd.R_reads' HO433.out).2.2 | (with_reducible refine Kd.C_alloc ?_ _) | (with_reducible refine Kd.C_drewN ?_ _) | (with_reducible refine Kd.C_drew ?_)))
             (case side2 => exact (Kd.R_reads' HO433.out).2.1)
             (case side3 => repeat (first | exact (Kd.R_reads' HO437.out).2.2 | (with_reducible refine Kd.C_alloc ?_ _) | (with_reducible refine Kd.C_drewN ?_ _) | (with_reducible refine Kd.C_drew ?_)))
             (case side4 => exact (Kd.R_reads' HO437.out).2.1)
             rintro e w102 ⟨v442, rfl, ho0, hb⟩
             refine ⟨_, rfl, ?_⟩
             have n0_ := zm (Kd.R_elder' (by (with_reducible repeat (first | apply Kd.R_alloc | apply Kd.R_drewN | apply Kd.R_drew)); exact HO_8.out) (Kd.R_base ho0) hb)
             have n1_ := zm (Kd.R_elder' (by (with_reducible repeat (first | apply Kd.R_alloc | apply Kd.R_drewN | apply Kd.R_drew)); exact HO_12.out) (Kd.R_base ho0) hb)
             have n2_ := zm (Kd.R_below (by (with_reducible repeat (first | apply Kd.R_alloc | apply Kd.R_drewN | apply Kd.R_drew)); exact HO_403000.out) hb)
             have n3_ := zm (Kd.R_below (by (with_reducible repeat (first | apply Kd.R_alloc | apply Kd.R_drewN | apply Kd.R_drew)); exact HO433.out) hb)
             have n4_ := zm (Kd.R_below (by (with_reducible repeat (first | apply Kd.R_alloc | apply Kd.R_drewN | apply Kd.R_drew)); exact HO437.out) hb)
             have n5_ := zm (Kd.R_lower (Kd.R_new' (Kd.R_new' ho0 (Kd.R_lt (by (with_reducible repeat (first | apply Kd.R_alloc | apply Kd.R_drewN | apply Kd.R_drew)); exact HO_8.out))) (Kd.R_lt (by (with_reducible repeat (first | apply Kd.R_alloc | apply Kd.R_drewN | apply Kd.R_drew)); exact HO_12.out))) (below_size zb))
             have n6_ := zm (blk_below (g := gb380) zk hb)
             have n7_ := zm (blk_below (g := gb381) zk hb)
             have n8_ := zm (blk_below (g := gb402) zk hb)
             have n9_ := zm (below_step zb hb)
             clear HO_8
             clear HO_12
             clear HO_403000
             clear HO433
             clear HO437
             clear BK380
             clear BK381
             clear BK402
             clear HB
             have HO_8 := n0_
             have HO_12 := n1_
             have HO_403000 := n2_
             have HO433 := n3_
             have HO437 := n4_
             have HO443 := n5_
             have BK380 := n6_
             have BK381 := n7_
             have BK402 := n8_
             have HB := n9_
             clear n0_ n1_ n2_ n3_ n4_ n5_ n6_ n7_ n8_ n9_
             (try clear hb)
             (try clear hb2)
             (try clear hk)
             (try clear hi)
             (try clear ho0)
             refine hK.out _ _ ⟨(blk_cell BK380.out 0).trans rfl, (blk_cell BK380.out 1).trans rfl, (blk_cell BK381.out 0).trans rfl, (blk_cell BK381.out 1).trans rfl, (blk_cell BK381.out 2).trans rfl⟩ (fun hHeld => ?_)
             clear hK K
             refine norm_ (a' := ?_) ?_ ?_
             rotate_left
             ·
              show Act.put _ (some 107) _ = _
              simp only [Act.put, zA, zB, zD, i64_w, i32_w]
              rfl
             refine pure_ (i := 7) (N := some 100) (v := ?_) (a' := ?_) #[true, true, true, true, true, true, true, true, false, false, false, false] rfl rfl (any_of HT_.out (by kernel_rfl)) (fun _ _ _ h => h) (Or.inl ⟨by rfl, ?_⟩) ?_ ?_
             rotate_left
             ·
              intro w'
              go_simp
              with_reducible rfl
             rotate_left
             ·
              simp only [Act.put, zA, zB, zD, i64_w, i32_w]
              rfl
             refine pure_ (i := 8) (N := some 108) (v := ?_) (a' := ?_) #[true, true, true, true, true, true, true, true, true, false, false, false] rfl rfl (any_of HT_.out (by kernel_rfl)) (fun _ _ _ h => h) (Or.inl ⟨by rfl, ?_⟩) ?_ ?_
             rotate_left
             ·
              intro w'
              go_simp
              with_reducible rfl
             rotate_left
             ·
              simp only [Act.put, zA, zB, zD, i64_w, i32_w]
              rfl
             refine pure_ (i := 9) (N := some 109) (v := ?_) (a' := ?_) #[true, true, true, true, true, true, true, true, true, true, false, false] rfl rfl (any_of HT_.out (by kernel_rfl)) (fun _ _ _ h => h) (Or.inl ⟨by rfl, ?_⟩) ?_ ?_
             rotate_left
             ·
              intro w'
              go_simp
              with_reducible rfl
             rotate_left
             ·
              simp only [Act.put, zA, zB, zD, i64_w, i32_w]
              rfl
             refine pure_ (i := 10) (N := some 17) (v := ?_) (a' := ?_) #[true, true, true, true, true, true, true, true, true, true, true, false] rfl rfl (any_of HT_.out (by kernel_rfl)) (fun _ _ _ h => h) (Or.inl ⟨by rfl, ?_⟩) ?_ ?_
             rotate_left
             ·
              intro w'
              go_simp
              with_reducible rfl
             rotate_left
             ·
              simp only [Act.put, zA, zB, zD, i64_w, i32_w]
              rfl
             refine pure_ (i := 11) (N := some 18) (v := ?_) (a' := ?_) #[true, true, true, true, true, true, true, true, true, true, true, true] rfl rfl (any_of HT_.out (by kernel_rfl)) (fun _ _ _ h => h) (Or.inl ⟨by rfl, ?_⟩) ?_ ?_
             rotate_left
             ·
              intro w'
              go_simp
              with_reducible rfl
             rotate_left
             ·
              simp only [Act.put, zA, zB, zD, i64_w, i32_w]
              rfl
             refine done_ (done_of HT_.out (by kernel_rfl)) ?_
             go_upto_region 32 with (fail)
             go_cut [118] (fun v118 wc => ∃ (kq : Nat) (x118_92 : Bool), v118 = .bool x118_92 ∧ Aside0 (laws_FnExactPlayedBy.j2 kq t429 t428 x118_92 = some r) ∧ Aside0 (kq ≤ kj64) ∧ Aside0 (Kd.R k79 79 wc w.heap.size (fun _ => True) (.slice Ao94 t409.length co94) t429) ∧ Aside0 (Kd.R (Kd.int .i64) 3 wc w.heap.size (fun _ => True) (.slice Ao42 t424.length co42) t424) ∧ Aside0 (wc.heap[gb380]? = some (.cells #[(.slice A0_0 l0_0.length c0_0), .int .i64 a0_1] 24 (0, 0))) ∧ Aside0 (wc.heap[gb381]? = some (.cells #[.int .i64 a2_0, .int .i64 a2_1, .int .i64 a2_2] 27 (0, 0))) ∧ Aside0 (wc.heap[gb402]? = some (.cells #[(.slice Ao42 t424.length co42), .int .i64 t401] 32 (0, 0))) ∧ Aside0 (Below w.heap.size w wc))
             case first =>
              have H := HC93.out
              clear HC93
              replace H := Option.bind_eq_some_iff.mp H
              obtain ⟨t445, A1030, H⟩ := H
              replace H : (if t445 = true then (laws_FnExactPlayedBy.j2 kj64 t429 t428 (t444 != t397)) else (laws_FnExactPlayedBy.j2 kj64 t429 t428 true)) = some r := H
              have A103 := zm A1030
              clear A1030
              by_cases c104 : t445 = true
              ·
               subst c104
               have H1 : (laws_FnExactPlayedBy.j2 kj64 t429 t428 (t444 != t397)) = some r := by rw [if_pos rfl] at H; exact H
               clear H
               have H := H1
               clear H1
               have H' := zm H
               clear H
               obtain ⟨Ao105, co105, eo105⟩ := Kd.R_slice HO443.out
               subst eo105
               obtain ⟨Ao106, co106, eo106⟩ := Kd.R_slice HO_8.out
               subst eo106
               go_wp2_with (first | ((with_reducible refine gate_callee (f := 29) rfl ?_); refine goesL_ (some 112) rfl rfl Try.func29 (by kernel_rfl) rfl #[.slice Ao105 t441.length co105, .slice Ao106 t394.length co106] rfl (by (try simp only [List.map_toArray, List.map_cons, List.map_nil]); first | done | rfl | (simp only [List.length_drop, List.length_take]; rfl)) ?_; (with_reducible refine (laws_eqPlayedS.calls kj64 _ _ t441 _ _ t394 true _ ?side1 ?side2 ?side3 ?side4 A103.out).mono ?_); (case side1 => repeat (first | exact (Kd.R_reads' HO443.out).2.2 | (with_reducible refine Kd.C_alloc ?_ _) | (with_reducible refine Kd.C_drewN ?_ _) | (with_reducible refine Kd.C_drew ?_))); (case side2 => exact (Kd.R_reads' HO443.out).2.1); (case side3 => repeat (first | exact (Kd.R_reads' HO_8.out).2.2 | (with_reducible refine Kd.C_alloc ?_ _) | (with_reducible refine Kd.C_drewN ?_ _) | (with_reducible refine Kd.C_drew ?_))); (case side4 => exact (Kd.R_reads' HO_8.out).2.1); rintro e w107 ⟨rfl, hb⟩; refine ⟨_, rfl, ?_⟩; have n0_ := zm (Kd.R_below (by (with_reducible repeat (first | apply Kd.R_alloc | apply Kd.R_drewN | apply Kd.R_drew)); exact HO_8.out) hb); have n1_ := zm (Kd.R_below (by (with_reducible repeat (first | apply Kd.R_alloc | apply Kd.R_drewN | apply Kd.R_drew)); exact HO_12.out) hb); have n2_ := zm (Kd.R_below (by (with_reducible repeat (first | apply Kd.R_alloc | apply Kd.R_drewN | apply Kd.R_drew)); exact HO_403000.out) hb); have n3_ := zm (Kd.R_below (by (with_reducible repeat (first | apply Kd.R_alloc | apply Kd.R_drewN | apply Kd.R_drew)); exact HO433.out) hb); have n4_ := zm (Kd.R_below (by (with_reducible repeat (first | apply Kd.R_alloc | apply Kd.R_drewN | apply Kd.R_drew)); exact HO437.out) hb); have n5_ := zm (Kd.R_below (by (with_reducible repeat (first | apply Kd.R_alloc | apply Kd.R_drewN | apply Kd.R_drew)); exact HO443.out) hb); have n6_ := zm (blk_below (g := gb380) zk hb); have n7_ := zm (blk_below (g := gb381) zk hb); have n8_ := zm (blk_below (g := gb402) zk hb); have n9_ := zm (below_step zb hb); clear HO_8; clear HO_12; clear HO_403000; clear HO433; clear HO437; clear HO443; clear BK380; clear BK381; clear BK402; clear HB; have HO_8 := n0_; have HO_12 := n1_; have HO_403000 := n2_; have HO433 := n3_; have HO437 := n4_; have HO443 := n5_; have BK380 := n6_; have BK381 := n7_; have BK402 := n8_; have HB := n9_; clear n0_ n1_ n2_ n3_ n4_ n5_ n6_ n7_ n8_ n9_; (try clear hb); (try clear hb2); (try clear hk); (try clear hi)))
               go_meet
               case rel => exact ⟨_, ((t444 != t397)), (by first | rfl | (simp; done) | (simp [*]; done)), H', ⟨by have := HJ25.out; have := HJ64.out; first | omega | exact Nat.le_refl _⟩, ⟨by (try simp only [hl403000_64]); (with_reducible repeat (first | apply Kd.R_alloc | apply Kd.R_drewN | apply Kd.R_drew)); exact Kd.R_mono HO_12.out (fun _ hk => trivial)⟩, ⟨by (try simp only [hl403000_64]); (with_reducible repeat (first | apply Kd.R_alloc | apply Kd.R_drewN | apply Kd.R_drew)); exact Kd.R_mono HO_403000.out (fun _ hk => trivial)⟩, ⟨by (try simp only [hl403000_64]); (with_reducible repeat (first | refine blk_drewN ?_ _ | refine blk_drew ?_ | refine blk_alloc ?_ _)); exact BK380.out⟩, ⟨by (try simp only [hl403000_64]); (with_reducible repeat (first | refine blk_drewN ?_ _ | refine blk_drew ?_ | refine blk_alloc ?_ _)); exact BK381.out⟩, ⟨by (try simp only [hl403000_64]); (with_reducible repeat (first | refine blk_drewN ?_ _ | refine blk_drew ?_ | refine blk_alloc ?_ _)); exact BK402.out⟩, ⟨zb⟩⟩
              ·
               replace c104 := Bool.eq_false_iff.mpr c104
               subst c104
               have H1 : (laws_FnExactPlayedBy.j2 kj64 t429 t428 true) = some r := by rw [if_neg (show ¬ (false = true) by decide)] at H; exact H
               clear H
               have H := H1
               clear H1
               exact (laws_FnExactPlayedBy.j2_t (H.trans (congrArg some hr_))).elim
             case rest =>
              clear HC93
              try clear c1
              try clear c2
              try clear p2
              try clear c3
              try clear c4
              try clear c5
              try clear c5b0
              try clear c6
              try clear c7
              try clear c8
              try clear c10
              try clear c11
              try clear c12
              try clear c12b0
              try clear c14
              try clear c15
              try clear c16
              try clear c18
              try clear c19
              try clear c23
              try clear c24
              try clear c27
              try clear c28
              try clear c29
              try clear c30
              try clear c31
              try clear c43
              try clear c44
              try clear c52
              try clear c56
              try clear c59
              try clear c62
              try clear c73
              try clear c74
              try clear c78
              try clear c78b0
              try clear c80
              try clear c84
              try clear c87
              try clear c87b0
              try clear c88
              try clear c88b0
              try clear c88b1
              try clear c104
              try clear hcz16_0
              try clear hcz16_1
              try clear hcz30_0
              try clear hcz30_1
              try clear hcz39_0
              try clear hcz39_1
              try clear hcz45_0
              try clear hcz45_1
              try clear hcz75_0
              try clear hcz75_1
              try clear hcz9_0
              try clear hcz9_1
              try clear hfz16_0
              try clear hfz16_1
              try clear hfz30_0
              try clear hfz30_1
              try clear hfz39_0
              try clear hfz39_1
              try clear hfz45_0
              try clear hfz45_1
              try clear hfz75_0
              try clear hfz75_1
              try clear hfz9_0
              try clear hfz9_1
              try clear p2
              obtain ⟨kq, x118_92, rfl, HA, HJ92, HO_12, HO_403000, BK380, BK381, BK402, HB⟩ := hcut
              have hl12_92 := (Kd.R_reads' HO_12.out).1
              rw [hl12_92] at HO_12
              (try simp only [hl12_92])
              (try simp only [hl12_92] at BK380)
              (try simp only [hl12_92] at BK381)
              (try simp only [hl12_92] at BK402)
              (try simp only [hl12_92] at HO_403000)
              cases kq with
              | zero => exact absurd HA.out (by simp [laws_FnExactPlayedBy.j2])
              | succ kj92 =>
               have H := HA.out
               clear HA
               simp only [laws_FnExactPlayedBy.j2] at H
               by_cases c108 : x118_92 = true
               ·
                subst c108
                have H1 : (some false) = some r := by rw [if_pos rfl] at H; exact H
                clear H
                have H := H1
                clear H1
                exact absurd ((Option.some.inj H).trans hr_) (by decide)
               ·
                replace c108 := Bool.eq_false_iff.mpr c108
                subst c108
                have H1 : ((laws_heldPlayedS.f kj92 t429 1).bind fun t446 => (if t446 < 0 then (some false) else (if t446 = t428 then (some true) else (some false)))) = some r := by rw [if_neg (show ¬ (false = true) by decide)] at H; exact H
                clear H
                have H := H1
                clear H1
                replace H := Option.bind_eq_some_iff.mp H
                obtain ⟨t446, A1090, H⟩ := H
                replace H : (if t446 < 0 then (some false) else (if t446 = t428 then (some true) else (some false))) = some r := H
                have A109 := zm A1090
                clear A1090
                by_cases c110 : t446 < 0
                ·
                 rw [if_pos c110] at H
                 have c110b0 : decide (t446 < 0) = true := decide_eq_true c110
                 clear c110
                 exact absurd ((Option.some.inj H).trans hr_) (by decide)
                ·
                 rw [if_neg c110] at H
                 have c110b0 : decide (t446 < 0) = false := decide_eq_false c110
                 clear c110
                 by_cases c111 : t446 = t428
                 ·
                  rw [if_pos c111] at H
                  have c111b0 : (t446 == t428) = true := beq_iff_eq.mpr c111
                  have c111b1 : (t446 != t428) = false := bne_eq_false_iff_eq.mpr c111
                  clear c111
                  obtain rfl := Option.some.inj H
                  go_wp2_with (first | ((with_reducible refine gate_callee (f := 31) rfl ?_); refine goesL_ (some 121) rfl rfl Try.func31 (by kernel_rfl) rfl #[.slice Ao94 t429.length co94, .int .i64 1] rfl (by (try simp only [List.map_toArray, List.map_cons, List.map_nil]); first | done | rfl | (simp only [List.length_drop, List.length_take]; rfl)) ?_; (with_reducible refine (laws_heldPlayedS.calls kj92 _ _ t429 1 t446 _ ?side1 ?side2 A109.out).mono ?_); (case side1 => repeat (first | exact (Kd.R_reads' HO_12.out).2.2 | (with_reducible refine Kd.C_alloc ?_ _) | (with_reducible refine Kd.C_drewN ?_ _) | (with_reducible refine Kd.C_drew ?_))); (case side2 => exact (Kd.R_reads' HO_12.out).2.1); rintro e w' ⟨rfl, ⟨nd, rfl⟩⟩; refine ⟨_, rfl, ?_⟩))
                  go_ret
                  exact ⟨zr, zb⟩
                 ·
                  rw [if_neg c111] at H
                  have c111b0 : (t446 == t428) = false := beq_eq_false_iff_ne.mpr c111
                  have c111b1 : (t446 != t428) = true := bne_iff_ne.mpr c111
                  exact absurd ((Option.some.inj H).trans hr_) (by decide)
            ·
             rw [if_neg c88] at H
             have c88b0 : (t430 == t428) = false := beq_eq_false_iff_ne.mpr c88
             have c88b1 : (t430 != t428) = true := bne_iff_ne.mpr c88
             exact absurd ((Option.some.inj H).trans hr_) (by decide)
       ·
        replace c62 := Bool.eq_false_iff.mpr c62
        subst c62
        have H1 : (some false) = some r := by rw [if_neg (show ¬ (false = true) by decide)] at H; exact H
        clear H
        have H := H1
        clear H1
        exact absurd ((Option.some.inj H).trans hr_) (by decide)
      ·
       replace c59 := Bool.eq_false_iff.mpr c59
       subst c59
       have H1 : (some false) = some r := by rw [if_neg (show ¬ (false = true) by decide)] at H; exact H
       clear H
       have H := H1
       clear H1
       exact absurd ((Option.some.inj H).trans hr_) (by decide)

end Go.Proofs.Ytioheacdldgaaaa.PAll
