-- Written for this claim by a program of this session (wip/tpl/patchprint.py), not by print.sh.
import Derived.Test.YtjjjikdpegogcaaPRrx0
import Derived.Test.YtjjjikdpegogcaaPRrx3
import Derived.Test.YtjjjikdpegogcaaPRrx5
import Derived.Test.YtjjjikdpegogcaaPRrx6
import Derived.Test.YtjjjikdpegogcaaPRrx7
import Derived.Test.YtjjjikdpegogcaaPRrx9
import Derived.Test.YtjjjikdpegogcaaPRrx12
import Derived.Test.YtjjjikdpegogcaaPRrx15
import Derived.Test.YtjjjikdpegogcaaPRrx16
namespace Go.Proofs.Ytjjjikdpegogcaa.PRr
open Go.RowKit Go.Proofs.YtjjjikdpegogcaaW.PrintWords Go.Proofs.YtjjjikdpegogcaaW.PrintLast Go.Proofs.YtjjjikdpegogcaaW.PrintMore
theorem zO {k n n' c c' : Nat} {A : Option Addr} (h : some k = (Value.slice A n c).ownBlock) : some k = (Value.slice A n' c').ownBlock := by cases A <;> exact h
attribute [local go_sem] max2_int min2_int max_two min_two max_three min_three max_four min_four   -- for this text's walks alone
set_option linter.unusedVariables false
set_option linter.unusedSimpArgs false

/-! ### laws_FnExactBlurredPairs: function 4 -/
mutual
def laws_FnExactBlurredPairs.j0 : Nat → List (S98) → List (List Int) → Bool → List (S96) → List (List Int) → Bool → Bool → List Int → Int → Int → Int → Int → List Int → Int → Option (Bool)
  | 0, _, _, _, _, _, _, _, _, _, _, _, _, _, _ => none
  | k + 1, x1, x8, x9, x11, x12, x13, x59, x450000, x450001, x451000, x451001, x451002, x472000, x472001 => if x59 = true then (some false) else ((laws_toInstrument.f k x450000 x450001).bind fun bt483 => ((laws_eqInstrument.f k x472000 x472001 bt483.1 bt483.2).bind fun t487 => (if t487 = true then ((laws_toHoleS.f k x1).bind fun t488 => ((laws_eqHoleS.f k x11 t488).bind fun t491 => (if t491 = true then ((laws_markInstrument.f k x472000 x472001 1).bind fun bt492 => ((laws_markHoleS.f k x11 bt492.1).bind fun bt494 => (if bt494.1 < 0 then (laws_FnExactBlurredPairs.j1 k x1 x8 x9 x12 true x450000 x450001 x451000 x451001 x451002) else ((laws_eqIntSS.f k x12 x8).bind fun t496 => (if t496 = true then (laws_FnExactBlurredPairs.j1 k x1 x8 x9 x12 (x13 != x9) x450000 x450001 x451000 x451001 x451002) else (laws_FnExactBlurredPairs.j1 k x1 x8 x9 x12 true x450000 x450001 x451000 x451001 x451002)))))) else (some false)))) else (some false))))
def laws_FnExactBlurredPairs.j1 : Nat → List (S98) → List (List Int) → Bool → List (List Int) → Bool → List Int → Int → Int → Int → Int → Option (Bool)
  | 0, _, _, _, _, _, _, _, _, _, _ => none
  | k + 1, x1, x8, x9, x12, x88, x450000, x450001, x451000, x451001, x451002 => if x88 = true then (some false) else ((laws_markIntSS.f k x12 1).bind fun bt497 => ((laws_heldIntSS.f k bt497.2 1).bind fun t499 => (if t499 < 0 then (some false) else (if t499 = bt497.1 then ((laws_toInstrument.f k x450000 x450001).bind fun bt500 => ((laws_toHoleS.f k x1).bind fun t504 => ((laws_toAction.f x451000 x451001 x451002).bind fun bt507 => ((impl_BlurredPairs.f k bt500.1 bt500.2 t504 bt507.1 bt507.2.1 bt507.2.2).bind fun bt510 => ((laws_eqIntSS.f k bt510.1 x8).bind fun t514 => (if t514 = true then (laws_FnExactBlurredPairs.j2 k bt497.2 bt497.1 (bt510.2 != x9)) else (laws_FnExactBlurredPairs.j2 k bt497.2 bt497.1 true))))))) else (some false)))))
def laws_FnExactBlurredPairs.j2 : Nat → List (List Int) → Int → Bool → Option (Bool)
  | 0, _, _, _ => none
  | k + 1, x12, x15, x118 => if x118 = true then (some false) else ((laws_heldIntSS.f k x12 1).bind fun t515 => (if t515 < 0 then (some false) else (if t515 = x15 then (some true) else (some false))))
end
def laws_FnExactBlurredPairs.f (k : Nat) (l0_0 : List Int) (a0_1 : Int) (l1 : List (S98)) (a2_0 : Int) (a2_1 : Int) (a2_2 : Int) : Option (Bool) := (laws_szInstrument.f l0_0 a0_1 1048576).bind fun t451 => (if t451 < 0 then (some true) else ((laws_szHoleS.f l1 t451).bind fun t452 => (if t452 < 0 then (some true) else ((laws_toInstrument.f k l0_0 a0_1).bind fun bt453 => ((laws_toHoleS.f k l1).bind fun t457 => ((laws_toAction.f a2_0 a2_1 a2_2).bind fun bt460 => ((spec_BlurredPairs.f k bt453.1 bt453.2 t457 bt460.1 bt460.2.1 bt460.2.2).bind fun bt463 => ((laws_toInstrument.f k l0_0 a0_1).bind fun bt467 => ((laws_toHoleS.f k l1).bind fun t472 => ((laws_toAction.f a2_0 a2_1 a2_2).bind fun bt475 => ((impl_BlurredPairs.f k bt467.1 bt467.2 t472 bt475.1 bt475.2.1 bt475.2.2).bind fun bt478 => ((laws_eqIntSS.f k bt478.1 bt463.1).bind fun t482 => (if t482 = true then (laws_FnExactBlurredPairs.j0 k l1 bt463.1 bt463.2 t472 bt478.1 bt478.2 (bt478.2 != bt463.2) l0_0 a0_1 a2_0 a2_1 a2_2 bt467.1 bt467.2) else (laws_FnExactBlurredPairs.j0 k l1 bt463.1 bt463.2 t472 bt478.1 bt478.2 true l0_0 a0_1 a2_0 a2_1 a2_2 bt467.1 bt467.2))))))))))))))
theorem laws_FnExactBlurredPairs.mono_l : ∀ k, (∀ y0 y1 y2 y3 y4 y5 y6 y7 y8 y9 y10 y11 y12 y13, LeO (laws_FnExactBlurredPairs.j0 k y0 y1 y2 y3 y4 y5 y6 y7 y8 y9 y10 y11 y12 y13) (laws_FnExactBlurredPairs.j0 (k + 1) y0 y1 y2 y3 y4 y5 y6 y7 y8 y9 y10 y11 y12 y13)) ∧ (∀ y0 y1 y2 y3 y4 y5 y6 y7 y8 y9, LeO (laws_FnExactBlurredPairs.j1 k y0 y1 y2 y3 y4 y5 y6 y7 y8 y9) (laws_FnExactBlurredPairs.j1 (k + 1) y0 y1 y2 y3 y4 y5 y6 y7 y8 y9)) ∧ (∀ y0 y1 y2, LeO (laws_FnExactBlurredPairs.j2 k y0 y1 y2) (laws_FnExactBlurredPairs.j2 (k + 1) y0 y1 y2))
  | 0 => ⟨fun _ _ _ _ _ _ _ _ _ _ _ _ _ _ r h => by simp [laws_FnExactBlurredPairs.j0] at h, fun _ _ _ _ _ _ _ _ _ _ r h => by simp [laws_FnExactBlurredPairs.j1] at h, fun _ _ _ r h => by simp [laws_FnExactBlurredPairs.j2] at h⟩
  | k + 1 => by
    obtain ⟨ih0, ih1, ih2⟩ := laws_FnExactBlurredPairs.mono_l k
    refine ⟨?_, ?_, ?_⟩
    · intro y0 y1 y2 y3 y4 y5 y6 y7 y8 y9 y10 y11 y12 y13
      unfold laws_FnExactBlurredPairs.j0
      repeat' first
      | (with_reducible exact ih0 _ _ _ _ _ _ _ _ _ _ _ _ _ _)
      | (with_reducible exact ih1 _ _ _ _ _ _ _ _ _ _)
      | (with_reducible exact ih2 _ _ _)
      | (with_reducible exact impl_BlurredPairs.mono _ _ _ _ _ _ _)
      | (with_reducible exact laws_eqHoleS.mono _ _ _)
      | (with_reducible exact laws_eqInstrument.mono _ _ _ _ _)
      | (with_reducible exact laws_eqIntSS.mono _ _ _)
      | (with_reducible exact laws_heldIntSS.mono _ _ _)
      | (with_reducible exact laws_markHoleS.mono _ _ _)
      | (with_reducible exact laws_markInstrument.mono _ _ _ _)
      | (with_reducible exact laws_markIntSS.mono _ _ _)
      | (with_reducible exact laws_toHoleS.mono _ _)
      | (with_reducible exact laws_toInstrument.mono _ _ _)
      | (with_reducible exact spec_BlurredPairs.mono _ _ _ _ _ _ _)
      | (with_reducible exact LeO.refl _)
      | (with_reducible exact LeO.none _)
      | (with_reducible refine LeO.ite ?_ ?_)
      | (with_reducible refine LeO.bind ?_ (fun _ => ?_))
      | exact ih0 _ _ _ _ _ _ _ _ _ _ _ _ _ _
      | exact ih1 _ _ _ _ _ _ _ _ _ _
      | exact ih2 _ _ _
      | exact impl_BlurredPairs.mono _ _ _ _ _ _ _
      | exact laws_eqHoleS.mono _ _ _
      | exact laws_eqInstrument.mono _ _ _ _ _
      | exact laws_eqIntSS.mono _ _ _
      | exact laws_heldIntSS.mono _ _ _
      | exact laws_markHoleS.mono _ _ _
      | exact laws_markInstrument.mono _ _ _ _
      | exact laws_markIntSS.mono _ _ _
      | exact laws_toHoleS.mono _ _
      | exact laws_toInstrument.mono _ _ _
      | exact spec_BlurredPairs.mono _ _ _ _ _ _ _
      | exact LeO.none _
      | refine LeO.ite ?_ ?_
      | refine LeO.bind ?_ (fun _ => ?_)
    · intro y0 y1 y2 y3 y4 y5 y6 y7 y8 y9
      unfold laws_FnExactBlurredPairs.j1
      repeat' first
      | (with_reducible exact ih0 _ _ _ _ _ _ _ _ _ _ _ _ _ _)
      | (with_reducible exact ih1 _ _ _ _ _ _ _ _ _ _)
      | (with_reducible exact ih2 _ _ _)
      | (with_reducible exact impl_BlurredPairs.mono _ _ _ _ _ _ _)
      | (with_reducible exact laws_eqHoleS.mono _ _ _)
      | (with_reducible exact laws_eqInstrument.mono _ _ _ _ _)
      | (with_reducible exact laws_eqIntSS.mono _ _ _)
      | (with_reducible exact laws_heldIntSS.mono _ _ _)
      | (with_reducible exact laws_markHoleS.mono _ _ _)
      | (with_reducible exact laws_markInstrument.mono _ _ _ _)
      | (with_reducible exact laws_markIntSS.mono _ _ _)
      | (with_reducible exact laws_toHoleS.mono _ _)
      | (with_reducible exact laws_toInstrument.mono _ _ _)
      | (with_reducible exact spec_BlurredPairs.mono _ _ _ _ _ _ _)
      | (with_reducible exact LeO.refl _)
      | (with_reducible exact LeO.none _)
      | (with_reducible refine LeO.ite ?_ ?_)
      | (with_reducible refine LeO.bind ?_ (fun _ => ?_))
      | exact ih0 _ _ _ _ _ _ _ _ _ _ _ _ _ _
      | exact ih1 _ _ _ _ _ _ _ _ _ _
      | exact ih2 _ _ _
      | exact impl_BlurredPairs.mono _ _ _ _ _ _ _
      | exact laws_eqHoleS.mono _ _ _
      | exact laws_eqInstrument.mono _ _ _ _ _
      | exact laws_eqIntSS.mono _ _ _
      | exact laws_heldIntSS.mono _ _ _
      | exact laws_markHoleS.mono _ _ _
      | exact laws_markInstrument.mono _ _ _ _
      | exact laws_markIntSS.mono _ _ _
      | exact laws_toHoleS.mono _ _
      | exact laws_toInstrument.mono _ _ _
      | exact spec_BlurredPairs.mono _ _ _ _ _ _ _
      | exact LeO.none _
      | refine LeO.ite ?_ ?_
      | refine LeO.bind ?_ (fun _ => ?_)
    · intro y0 y1 y2
      unfold laws_FnExactBlurredPairs.j2
      repeat' first
      | (with_reducible exact ih0 _ _ _ _ _ _ _ _ _ _ _ _ _ _)
      | (with_reducible exact ih1 _ _ _ _ _ _ _ _ _ _)
      | (with_reducible exact ih2 _ _ _)
      | (with_reducible exact impl_BlurredPairs.mono _ _ _ _ _ _ _)
      | (with_reducible exact laws_eqHoleS.mono _ _ _)
      | (with_reducible exact laws_eqInstrument.mono _ _ _ _ _)
      | (with_reducible exact laws_eqIntSS.mono _ _ _)
      | (with_reducible exact laws_heldIntSS.mono _ _ _)
      | (with_reducible exact laws_markHoleS.mono _ _ _)
      | (with_reducible exact laws_markInstrument.mono _ _ _ _)
      | (with_reducible exact laws_markIntSS.mono _ _ _)
      | (with_reducible exact laws_toHoleS.mono _ _)
      | (with_reducible exact laws_toInstrument.mono _ _ _)
      | (with_reducible exact spec_BlurredPairs.mono _ _ _ _ _ _ _)
      | (with_reducible exact LeO.refl _)
      | (with_reducible exact LeO.none _)
      | (with_reducible refine LeO.ite ?_ ?_)
      | (with_reducible refine LeO.bind ?_ (fun _ => ?_))
      | exact ih0 _ _ _ _ _ _ _ _ _ _ _ _ _ _
      | exact ih1 _ _ _ _ _ _ _ _ _ _
      | exact ih2 _ _ _
      | exact impl_BlurredPairs.mono _ _ _ _ _ _ _
      | exact laws_eqHoleS.mono _ _ _
      | exact laws_eqInstrument.mono _ _ _ _ _
      | exact laws_eqIntSS.mono _ _ _
      | exact laws_heldIntSS.mono _ _ _
      | exact laws_markHoleS.mono _ _ _
      | exact laws_markInstrument.mono _ _ _ _
      | exact laws_markIntSS.mono _ _ _
      | exact laws_toHoleS.mono _ _
      | exact laws_toInstrument.mono _ _ _
      | exact spec_BlurredPairs.mono _ _ _ _ _ _ _
      | exact LeO.none _
      | refine LeO.ite ?_ ?_
      | refine LeO.bind ?_ (fun _ => ?_)
theorem laws_FnExactBlurredPairs.mono : ∀ a0 a1 a2 a3 a4 a5 k, LeO (laws_FnExactBlurredPairs.f k a0 a1 a2 a3 a4 a5) (laws_FnExactBlurredPairs.f (k + 1) a0 a1 a2 a3 a4 a5) := by
  intro a0 a1 a2 a3 a4 a5 k
  obtain ⟨ih0, ih1, ih2⟩ := laws_FnExactBlurredPairs.mono_l k
  unfold laws_FnExactBlurredPairs.f
  repeat' first
      | (with_reducible exact ih0 _ _ _ _ _ _ _ _ _ _ _ _ _ _)
      | (with_reducible exact ih1 _ _ _ _ _ _ _ _ _ _)
      | (with_reducible exact ih2 _ _ _)
      | (with_reducible exact impl_BlurredPairs.mono _ _ _ _ _ _ _)
      | (with_reducible exact laws_eqHoleS.mono _ _ _)
      | (with_reducible exact laws_eqInstrument.mono _ _ _ _ _)
      | (with_reducible exact laws_eqIntSS.mono _ _ _)
      | (with_reducible exact laws_heldIntSS.mono _ _ _)
      | (with_reducible exact laws_markHoleS.mono _ _ _)
      | (with_reducible exact laws_markInstrument.mono _ _ _ _)
      | (with_reducible exact laws_markIntSS.mono _ _ _)
      | (with_reducible exact laws_toHoleS.mono _ _)
      | (with_reducible exact laws_toInstrument.mono _ _ _)
      | (with_reducible exact spec_BlurredPairs.mono _ _ _ _ _ _ _)
      | (with_reducible exact LeO.refl _)
      | (with_reducible exact LeO.none _)
      | (with_reducible refine LeO.ite ?_ ?_)
      | (with_reducible refine LeO.bind ?_ (fun _ => ?_))
      | exact ih0 _ _ _ _ _ _ _ _ _ _ _ _ _ _
      | exact ih1 _ _ _ _ _ _ _ _ _ _
      | exact ih2 _ _ _
      | exact impl_BlurredPairs.mono _ _ _ _ _ _ _
      | exact laws_eqHoleS.mono _ _ _
      | exact laws_eqInstrument.mono _ _ _ _ _
      | exact laws_eqIntSS.mono _ _ _
      | exact laws_heldIntSS.mono _ _ _
      | exact laws_markHoleS.mono _ _ _
      | exact laws_markInstrument.mono _ _ _ _
      | exact laws_markIntSS.mono _ _ _
      | exact laws_toHoleS.mono _ _
      | exact laws_toInstrument.mono _ _ _
      | exact spec_BlurredPairs.mono _ _ _ _ _ _ _
      | exact LeO.none _
      | refine LeO.ite ?_ ?_
      | refine LeO.bind ?_ (fun _ => ?_)
def laws_FnExactBlurredPairs.T8 : Bool × List (List Nat × List Nat) := (true, [([], []), ([0], [0]), ([], []), ([2, 1], [2]), ([], []), ([4, 3], [4]), ([1, 3, 5, 5], [1, 3, 5]), ([6], [6]), ([7], [7]), ([7], [7]), ([8, 6, 0, 1, 2, 3, 4, 5, 6, 7, 8], [8]), ([9, 10, 0, 1, 2, 3, 4, 5, 6, 7, 8, 9, 10], [9])])
def laws_FnExactBlurredPairs.B8 : List Nat := [0, 1, 0, 7, 0, 31, 63, 127, 255, 255, 511, 2047]
theorem laws_FnExactBlurredPairs.tab8 : rtab .any (opsOf Try.f4 8) = laws_FnExactBlurredPairs.T8 := by kernel_rfl
theorem laws_FnExactBlurredPairs.bits8 : waitsOk laws_FnExactBlurredPairs.T8.2 laws_FnExactBlurredPairs.B8 = true := by kernel_rfl
def laws_FnExactBlurredPairs.T11 : Bool × List (List Nat × List Nat) := (true, [([], []), ([], []), ([], []), ([2], [2]), ([0, 1, 3, 3], [0, 1, 3]), ([4], [4]), ([5], [5]), ([5], [5]), ([6, 4, 0, 1, 2, 3, 4, 5, 6], [6]), ([7, 8, 0, 1, 2, 3, 4, 5, 6, 7, 8], [7])])
def laws_FnExactBlurredPairs.B11 : List Nat := [0, 0, 0, 4, 15, 31, 63, 63, 127, 511]
theorem laws_FnExactBlurredPairs.tab11 : rtab .any (opsOf Try.f4 11) = laws_FnExactBlurredPairs.T11 := by kernel_rfl
theorem laws_FnExactBlurredPairs.bits11 : waitsOk laws_FnExactBlurredPairs.T11.2 laws_FnExactBlurredPairs.B11 = true := by kernel_rfl
def laws_FnExactBlurredPairs.T31 : Bool × List (List Nat × List Nat) := (true, [([], []), ([0], [0]), ([], []), ([2, 1], [2]), ([], []), ([4, 3], [4]), ([1, 3, 5, 5], [1, 3, 5]), ([6], [6]), ([7], [7]), ([7], [7]), ([8, 6, 0, 1, 2, 3, 4, 5, 6, 7, 8], [8]), ([9, 10, 0, 1, 2, 3, 4, 5, 6, 7, 8, 9, 10], [9])])
def laws_FnExactBlurredPairs.B31 : List Nat := [0, 1, 0, 7, 0, 31, 63, 127, 255, 255, 511, 2047]
theorem laws_FnExactBlurredPairs.tab31 : rtab .any (opsOf Try.f4 31) = laws_FnExactBlurredPairs.T31 := by kernel_rfl
theorem laws_FnExactBlurredPairs.bits31 : waitsOk laws_FnExactBlurredPairs.T31.2 laws_FnExactBlurredPairs.B31 = true := by kernel_rfl
theorem laws_FnExactBlurredPairs.j0_t {k : Nat} : ∀ {a0_ a1_ a2_ a3_ a4_ a5_ a7_ a8_ a9_ a10_ a11_ a12_ a13_}, laws_FnExactBlurredPairs.j0 k a0_ a1_ a2_ a3_ a4_ a5_ true a7_ a8_ a9_ a10_ a11_ a12_ a13_ = some true → False := by
  intros; rename_i h; revert h; cases k <;> simp [laws_FnExactBlurredPairs.j0]
theorem laws_FnExactBlurredPairs.j1_t {k : Nat} : ∀ {a0_ a1_ a2_ a3_ a5_ a6_ a7_ a8_ a9_}, laws_FnExactBlurredPairs.j1 k a0_ a1_ a2_ a3_ true a5_ a6_ a7_ a8_ a9_ = some true → False := by
  intros; rename_i h; revert h; cases k <;> simp [laws_FnExactBlurredPairs.j1]
theorem laws_FnExactBlurredPairs.j2_t {k : Nat} : ∀ {a0_ a1_}, laws_FnExactBlurredPairs.j2 k a0_ a1_ true = some true → False := by
  intros; rename_i h; revert h; cases k <;> simp [laws_FnExactBlurredPairs.j2]
set_option maxHeartbeats 8000000 in
set_option maxRecDepth 100000 in
theorem laws_FnExactBlurredPairs.calls (k : Nat) (A0_0 : Option Addr) (c0_0 : Nat) (l0_0 : List Int) (a0_1 : Int) (A1 : Option Addr) (c1 : Nat) (l1 : List (S98)) (a2_0 : Int) (a2_1 : Int) (a2_2 : Int) (r : Bool) (w : World) (hr0_0 : Kd.C (Kd.int .i64) w A0_0 l0_0.length l0_0) (hc0_0 : l0_0.length ≤ c0_0) (hr1 : Kd.C k98 w A1 l1.length l1) (hc1 : l1.length ≤ c1) (h : laws_FnExactBlurredPairs.f k l0_0 a0_1 l1 a2_0 a2_1 a2_2 = some r) (hr_ : r = true) :
  Calls Try.prog 4 #[.agg #[.slice A0_0 l0_0.length c0_0, .int .i64 a0_1], .slice A1 l1.length c1, .agg #[.int .i64 a2_0, .int .i64 a2_1, .int .i64 a2_2]] w fun e w' => e = .returned (.bool r) ∧ Below w.heap.size w w' := by
 have hu40 := Try.underlying40
 have hu24 := Try.underlying24
 have hu45 := Try.underlying45
 have HR0_0 := zm hr0_0
 have HC0_0 := zm hc0_0
 clear hr0_0 hc0_0
 have HR1 := zm hr1
 have HC1 := zm hc1
 clear hr1 hc1
 have HB := zm (Below.refl w.heap.size w)
 have H : ((laws_szInstrument.f l0_0 a0_1 1048576).bind fun t451 => (if t451 < 0 then (some true) else ((laws_szHoleS.f l1 t451).bind fun t452 => (if t452 < 0 then (some true) else ((laws_toInstrument.f k l0_0 a0_1).bind fun bt453 => ((laws_toHoleS.f k l1).bind fun t457 => ((laws_toAction.f a2_0 a2_1 a2_2).bind fun bt460 => ((spec_BlurredPairs.f k bt453.1 bt453.2 t457 bt460.1 bt460.2.1 bt460.2.2).bind fun bt463 => ((laws_toInstrument.f k l0_0 a0_1).bind fun bt467 => ((laws_toHoleS.f k l1).bind fun t472 => ((laws_toAction.f a2_0 a2_1 a2_2).bind fun bt475 => ((impl_BlurredPairs.f k bt467.1 bt467.2 t472 bt475.1 bt475.2.1 bt475.2.2).bind fun bt478 => ((laws_eqIntSS.f k bt478.1 bt463.1).bind fun t482 => (if t482 = true then (laws_FnExactBlurredPairs.j0 k l1 bt463.1 bt463.2 t472 bt478.1 bt478.2 (bt478.2 != bt463.2) l0_0 a0_1 a2_0 a2_1 a2_2 bt467.1 bt467.2) else (laws_FnExactBlurredPairs.j0 k l1 bt463.1 bt463.2 t472 bt478.1 bt478.2 true l0_0 a0_1 a2_0 a2_1 a2_2 bt467.1 bt467.2))))))))))))))) = some r := h
 clear h
 replace H := Option.bind_eq_some_iff.mp H
 obtain ⟨t451, A40, H⟩ := H
 (try dsimp only at H)
 have A4 := zm A40
 clear A40
 by_cases c5 : t451 < 0
 ·
  rw [if_pos c5] at H
  have c5b0 : decide (t451 < 0) = true := decide_eq_true c5
  clear c5
  obtain rfl := Option.some.inj H
  go_enter Try.func4, Try.ntmps4
  go_wp2_with (first | ((with_reducible refine gate_dst (N := 3) rfl ?_); refine box_event ?hg (N := 3) ?hd (cs := #[.slice A0_0 l0_0.length c0_0, .int .i64 a0_1]) (t := 40) ?hr ?_; (case hd => rfl); (case hg => rfl); (case hr => first | (go_simp; done) | (go_simp; rfl)); intro gb449 hg w6 hbox hb; have n0_ := zm (below_step zb hb); have n1_ := zm (hbox); have n2_ := zm (zs hg zb : w.heap.size ≤ gb449); have n3_ := zm (zs hg zb : w.heap.size ≤ gb449); clear HB; have HB := n0_; have BK449 := n1_; have GW449 := n2_; have GE449 := n3_; clear n0_ n1_ n2_ n3_; clear hb hbox hg) | ((with_reducible refine gate_dst (N := 5) rfl ?_); refine box_event ?hg (N := 5) ?hd (cs := #[.int .i64 a2_0, .int .i64 a2_1, .int .i64 a2_2]) (t := 24) ?hr ?_; (case hd => rfl); (case hg => rfl); (case hr => first | (go_simp; done) | (go_simp; rfl)); intro gb450 hg w7 hbox hb; have n0_ := zm (blk_below (g := gb449) (o := .cells #[.slice A0_0 l0_0.length c0_0, .int .i64 a0_1] 40 (0, 0)) zk hb); have n1_ := zm (below_step zb hb); have n2_ := zm (hbox); have n3_ := zm (zs hg zb : w.heap.size ≤ gb450); have n4_ := zm (zs hg zb : w.heap.size ≤ gb450); have n5_ := zm (zl hg zk : gb449 ≠ gb450); have n6_ := zm (zg hg zk : gb450 ≠ gb449); clear BK449; clear HB; have BK449 := n0_; have HB := n1_; have BK450 := n2_; have GW450 := n3_; have GE450 := n4_; have NB449_450 := n5_; have NB450_449 := n6_; clear n0_ n1_ n2_ n3_ n4_ n5_ n6_; clear hb hbox hg; have hnb8 := NB449_450.out; have hnc8 := NB450_449.out; obtain ⟨hcz9_0, hcz9_1, hfz9_0, hfz9_1⟩ := zc2 BK449.out) | ((with_reducible refine gate_callee (f := 21) rfl ?_); refine goesA_ (some 21) Try.func21 #[.agg #[.slice A0_0 l0_0.length c0_0, .int .i64 a0_1], .int .i64 1048576] rfl ?_; (with_reducible refine (laws_szInstrument.calls _ _ l0_0 a0_1 1048576 t451 _ ?side1 ?side2 A4.out).mono ?_); (case side1 => repeat (first | exact (Kd.C_below HR0_0.out HB.out) | (with_reducible refine Kd.C_alloc ?_ _) | (with_reducible refine Kd.C_drewN ?_ _) | (with_reducible refine Kd.C_drew ?_))); (case side2 => exact HC0_0.out); rintro e w10 ⟨rfl, hb⟩; refine ⟨_, rfl, ?_⟩; have n0_ := zm (blk_below (g := gb449) (o := .cells #[.slice A0_0 l0_0.length c0_0, .int .i64 a0_1] 40 (0, 0)) zk hb); have n1_ := zm (blk_below (g := gb450) (o := .cells #[.int .i64 a2_0, .int .i64 a2_1, .int .i64 a2_2] 24 (0, 0)) zk hb); have n2_ := zm (below_step zb hb); clear BK449; clear BK450; clear HB; have BK449 := n0_; have BK450 := n1_; have HB := n2_; clear n0_ n1_ n2_; (try clear hb); (try clear hb2); (try clear hk); (try clear hi)))
  go_ret
  exact ⟨zr, zb⟩
 ·
  rw [if_neg c5] at H
  have c5b0 : decide (t451 < 0) = false := decide_eq_false c5
  clear c5
  replace H := Option.bind_eq_some_iff.mp H
  obtain ⟨t452, A110, H⟩ := H
  (try dsimp only at H)
  have A11 := zm A110
  clear A110
  by_cases c12 : t452 < 0
  ·
   rw [if_pos c12] at H
   have c12b0 : decide (t452 < 0) = true := decide_eq_true c12
   clear c12
   obtain rfl := Option.some.inj H
   go_enter Try.func4, Try.ntmps4
   go_wp2_with (first | ((with_reducible refine gate_dst (N := 3) rfl ?_); refine box_event ?hg (N := 3) ?hd (cs := #[.slice A0_0 l0_0.length c0_0, .int .i64 a0_1]) (t := 40) ?hr ?_; (case hd => rfl); (case hg => rfl); (case hr => first | (go_simp; done) | (go_simp; rfl)); intro gb449 hg w13 hbox hb; have n0_ := zm (below_step zb hb); have n1_ := zm (hbox); have n2_ := zm (zs hg zb : w.heap.size ≤ gb449); have n3_ := zm (zs hg zb : w.heap.size ≤ gb449); clear HB; have HB := n0_; have BK449 := n1_; have GW449 := n2_; have GE449 := n3_; clear n0_ n1_ n2_ n3_; clear hb hbox hg) | ((with_reducible refine gate_dst (N := 5) rfl ?_); refine box_event ?hg (N := 5) ?hd (cs := #[.int .i64 a2_0, .int .i64 a2_1, .int .i64 a2_2]) (t := 24) ?hr ?_; (case hd => rfl); (case hg => rfl); (case hr => first | (go_simp; done) | (go_simp; rfl)); intro gb450 hg w14 hbox hb; have n0_ := zm (blk_below (g := gb449) (o := .cells #[.slice A0_0 l0_0.length c0_0, .int .i64 a0_1] 40 (0, 0)) zk hb); have n1_ := zm (below_step zb hb); have n2_ := zm (hbox); have n3_ := zm (zs hg zb : w.heap.size ≤ gb450); have n4_ := zm (zs hg zb : w.heap.size ≤ gb450); have n5_ := zm (zl hg zk : gb449 ≠ gb450); have n6_ := zm (zg hg zk : gb450 ≠ gb449); clear BK449; clear HB; have BK449 := n0_; have HB := n1_; have BK450 := n2_; have GW450 := n3_; have GE450 := n4_; have NB449_450 := n5_; have NB450_449 := n6_; clear n0_ n1_ n2_ n3_ n4_ n5_ n6_; clear hb hbox hg; have hnb15 := NB449_450.out; have hnc15 := NB450_449.out; obtain ⟨hcz16_0, hcz16_1, hfz16_0, hfz16_1⟩ := zc2 BK449.out) | ((with_reducible refine gate_callee (f := 21) rfl ?_); refine goesA_ (some 21) Try.func21 #[.agg #[.slice A0_0 l0_0.length c0_0, .int .i64 a0_1], .int .i64 1048576] rfl ?_; (with_reducible refine (laws_szInstrument.calls _ _ l0_0 a0_1 1048576 t451 _ ?side1 ?side2 A4.out).mono ?_); (case side1 => repeat (first | exact (Kd.C_below HR0_0.out HB.out) | (with_reducible refine Kd.C_alloc ?_ _) | (with_reducible refine Kd.C_drewN ?_ _) | (with_reducible refine Kd.C_drew ?_))); (case side2 => exact HC0_0.out); rintro e w17 ⟨rfl, hb⟩; refine ⟨_, rfl, ?_⟩; have n0_ := zm (blk_below (g := gb449) (o := .cells #[.slice A0_0 l0_0.length c0_0, .int .i64 a0_1] 40 (0, 0)) zk hb); have n1_ := zm (blk_below (g := gb450) (o := .cells #[.int .i64 a2_0, .int .i64 a2_1, .int .i64 a2_2] 24 (0, 0)) zk hb); have n2_ := zm (below_step zb hb); clear BK449; clear BK450; clear HB; have BK449 := n0_; have BK450 := n1_; have HB := n2_; clear n0_ n1_ n2_; (try clear hb); (try clear hb2); (try clear hk); (try clear hi)) | ((with_reducible refine gate_callee (f := 22) rfl ?_); refine goesA_ (some 26) Try.func22 #[.slice A1 l1.length c1, .int .i64 t451] rfl ?_; (with_reducible refine (laws_szHoleS.calls _ _ l1 t451 t452 _ ?side1 ?side2 A11.out).mono ?_); (case side1 => repeat (first | exact (Kd.C_below HR1.out HB.out) | (with_reducible refine Kd.C_alloc ?_ _) | (with_reducible refine Kd.C_drewN ?_ _) | (with_reducible refine Kd.C_drew ?_))); (case side2 => exact HC1.out); rintro e w' ⟨rfl, ⟨nd, rfl⟩⟩; refine ⟨_, rfl, ?_⟩))
   go_ret
   exact ⟨zr, zb⟩
  ·
   rw [if_neg c12] at H
   have c12b0 : decide (t452 < 0) = false := decide_eq_false c12
   clear c12
   replace H := Option.bind_eq_some_iff.mp H
   obtain ⟨⟨t453, t456⟩, A180, H⟩ := H
   (try dsimp only at H)
   have A18 := zm A180
   clear A180
   replace H := Option.bind_eq_some_iff.mp H
   obtain ⟨t457, A190, H⟩ := H
   (try dsimp only at H)
   have A19 := zm A190
   clear A190
   replace H := Option.bind_eq_some_iff.mp H
   obtain ⟨⟨t460, t461, t462⟩, A200, H⟩ := H
   (try dsimp only at H)
   have A20 := zm A200
   clear A200
   replace H := Option.bind_eq_some_iff.mp H
   obtain ⟨⟨t463, t466⟩, A210, H⟩ := H
   (try dsimp only at H)
   have A21 := zm A210
   clear A210
   replace H := Option.bind_eq_some_iff.mp H
   obtain ⟨⟨t467, t470⟩, A220, H⟩ := H
   (try dsimp only at H)
   have A22 := zm A220
   clear A220
   replace H := Option.bind_eq_some_iff.mp H
   obtain ⟨t472, A230, H⟩ := H
   (try dsimp only at H)
   have A23 := zm A230
   clear A230
   replace H := Option.bind_eq_some_iff.mp H
   obtain ⟨⟨t475, t476, t477⟩, A240, H⟩ := H
   (try dsimp only at H)
   have A24 := zm A240
   clear A240
   replace H := Option.bind_eq_some_iff.mp H
   obtain ⟨⟨t478, t481⟩, A250, H⟩ := H
   (try dsimp only at H)
   have A25 := zm A250
   clear A250
   have HC26 := zm H
   clear H
   go_enter Try.func4, Try.ntmps4
   try go_wp2_with (first | ((with_reducible refine gate_dst (N := 3) rfl ?_); refine box_event ?hg (N := 3) ?hd (cs := #[.slice A0_0 l0_0.length c0_0, .int .i64 a0_1]) (t := 40) ?hr ?_; (case hd => rfl); (case hg => rfl); (case hr => first | (go_simp; done) | (go_simp; rfl)); intro gb449 hg w27 hbox hb; have n0_ := zm (below_step zb hb); have n1_ := zm (hbox); have n2_ := zm (zs hg zb : w.heap.size ≤ gb449); have n3_ := zm (zs hg zb : w.heap.size ≤ gb449); clear HB; have HB := n0_; have BK449 := n1_; have GW449 := n2_; have GE449 := n3_; clear n0_ n1_ n2_ n3_; clear hb hbox hg) | ((with_reducible refine gate_dst (N := 5) rfl ?_); refine box_event ?hg (N := 5) ?hd (cs := #[.int .i64 a2_0, .int .i64 a2_1, .int .i64 a2_2]) (t := 24) ?hr ?_; (case hd => rfl); (case hg => rfl); (case hr => first | (go_simp; done) | (go_simp; rfl)); intro gb450 hg w28 hbox hb; have n0_ := zm (blk_below (g := gb449) (o := .cells #[.slice A0_0 l0_0.length c0_0, .int .i64 a0_1] 40 (0, 0)) zk hb); have n1_ := zm (below_step zb hb); have n2_ := zm (hbox); have n3_ := zm (zs hg zb : w.heap.size ≤ gb450); have n4_ := zm (zs hg zb : w.heap.size ≤ gb450); have n5_ := zm (zl hg zk : gb449 ≠ gb450); have n6_ := zm (zg hg zk : gb450 ≠ gb449); clear BK449; clear HB; have BK449 := n0_; have HB := n1_; have BK450 := n2_; have GW450 := n3_; have GE450 := n4_; have NB449_450 := n5_; have NB450_449 := n6_; clear n0_ n1_ n2_ n3_ n4_ n5_ n6_; clear hb hbox hg; have hnb29 := NB449_450.out; have hnc29 := NB450_449.out; obtain ⟨hcz30_0, hcz30_1, hfz30_0, hfz30_1⟩ := zc2 BK449.out) | ((with_reducible refine gate_callee (f := 21) rfl ?_); refine goesA_ (some 21) Try.func21 #[.agg #[.slice A0_0 l0_0.length c0_0, .int .i64 a0_1], .int .i64 1048576] rfl ?_; (with_reducible refine (laws_szInstrument.calls _ _ l0_0 a0_1 1048576 t451 _ ?side1 ?side2 A4.out).mono ?_); (case side1 => repeat (first | exact (Kd.C_below HR0_0.out HB.out) | (with_reducible refine Kd.C_alloc ?_ _) | (with_reducible refine Kd.C_drewN ?_ _) | (with_reducible refine Kd.C_drew ?_))); (case side2 => exact HC0_0.out); rintro e w31 ⟨rfl, hb⟩; refine ⟨_, rfl, ?_⟩; have n0_ := zm (blk_below (g := gb449) (o := .cells #[.slice A0_0 l0_0.length c0_0, .int .i64 a0_1] 40 (0, 0)) zk hb); have n1_ := zm (blk_below (g := gb450) (o := .cells #[.int .i64 a2_0, .int .i64 a2_1, .int .i64 a2_2] 24 (0, 0)) zk hb); have n2_ := zm (below_step zb hb); clear BK449; clear BK450; clear HB; have BK449 := n0_; have BK450 := n1_; have HB := n2_; clear n0_ n1_ n2_; (try clear hb); (try clear hb2); (try clear hk); (try clear hi)) | ((with_reducible refine gate_callee (f := 22) rfl ?_); refine goesA_ (some 26) Try.func22 #[.slice A1 l1.length c1, .int .i64 t451] rfl ?_; (with_reducible refine (laws_szHoleS.calls _ _ l1 t451 t452 _ ?side1 ?side2 A11.out).mono ?_); (case side1 => repeat (first | exact (Kd.C_below HR1.out HB.out) | (with_reducible refine Kd.C_alloc ?_ _) | (with_reducible refine Kd.C_drewN ?_ _) | (with_reducible refine Kd.C_drew ?_))); (case side2 => exact HC1.out); rintro e w' ⟨rfl, ⟨nd, rfl⟩⟩; refine ⟨_, rfl, ?_⟩; (try (rw [drewN_self w31]; generalize hq_ : World.drewN w31 _ = w31; have n0_ : Aside0 (w31.heap[gb449]? = some (.cells #[.slice A0_0 l0_0.length c0_0, .int .i64 a0_1] 40 (0, 0))) := ⟨by rw [← hq_]; exact zk⟩; have n1_ : Aside0 (w31.heap[gb450]? = some (.cells #[.int .i64 a2_0, .int .i64 a2_1, .int .i64 a2_2] 24 (0, 0))) := ⟨by rw [← hq_]; exact zk⟩; have n2_ : Aside0 (Below w.heap.size w w31) := ⟨by rw [← hq_]; exact zb⟩; clear BK449 BK450 HB hq_; have BK449 := n0_; have BK450 := n1_; have HB := n2_; clear n0_ n1_ n2_))))
   have n0_ := zm (blk_drew BK449.out)
   have n1_ := zm (blk_drew BK450.out)
   have n2_ := zm (below_drew1 HB.out)
   clear BK449
   clear BK450
   clear HB
   have BK449 := n0_
   have BK450 := n1_
   have HB := n2_
   clear n0_ n1_ n2_
   refine start_ (n := 12) (S := fun w' => w'.cell? ⟨gb449, 0, none⟩ = some (.slice A0_0 l0_0.length c0_0) ∧ w'.cell? ⟨gb449, 1, none⟩ = some (.int .i64 a0_1) ∧ w'.cell? ⟨gb450, 0, none⟩ = some (.int .i64 a2_0) ∧ w'.cell? ⟨gb450, 1, none⟩ = some (.int .i64 a2_1) ∧ w'.cell? ⟨gb450, 2, none⟩ = some (.int .i64 a2_2)) (ds := []) #[false, false, false, false, false, false, false, false, false, false, false, false] (by kernel_rfl) rfl rfl ⟨(blk_cell BK449.out 0).trans rfl, (blk_cell BK449.out 1).trans rfl, (blk_cell BK450.out 0).trans rfl, (blk_cell BK450.out 1).trans rfl, (blk_cell BK450.out 2).trans rfl⟩ (fun hHeld => ?_); refine with_tabW laws_FnExactBlurredPairs.tab8 laws_FnExactBlurredPairs.bits8 (fun HT_ HW_ => ?_)
   generalize w31.drew = w32 at BK449 BK450 HB hHeld ⊢
   refine pure_ (i := 2) (N := some 32) (v := ?_) (a' := ?_) #[false, false, true, false, false, false, false, false, false, false, false, false] rfl rfl (any_of HT_.out (by kernel_rfl)) (fun _ _ _ h => h) (Or.inl ⟨by rfl, ?_⟩) ?_ ?_
   rotate_left
   ·
    intro w'
    go_simp
    with_reducible rfl
   rotate_left
   ·
    simp only [Act.put, zA, zB, zD, i64_w, i32_w]
    rfl
   refine take_ (i := 0) (N := some 30) (v := ?_) (a' := ?_) #[true, false, true, false, false, false, false, false, false, false, false, false] rfl rfl (take_ofW HT_.out HW_.out (by kernel_rfl)) (fun _ _ _ h => h) (Or.inl ⟨by rfl, ?_⟩) hHeld ?_ ?_
   rotate_left
   ·
    rintro w' ⟨s0, s1, s2, s3, s4⟩
    go_simp
    with_reducible rfl
   rotate_left
   ·
    simp only [Act.put, zA, zB, zD, i64_w, i32_w]
    rfl
   refine take_ (i := 4) (N := some 34) (v := ?_) (a' := ?_) #[true, false, true, false, true, false, false, false, false, false, false, false] rfl rfl (take_ofW HT_.out HW_.out (by kernel_rfl)) (fun _ _ _ h => h) (Or.inl ⟨by rfl, ?_⟩) hHeld ?_ ?_
   rotate_left
   ·
    rintro w' ⟨s0, s1, s2, s3, s4⟩
    go_simp
    with_reducible rfl
   rotate_left
   ·
    simp only [Act.put, zA, zB, zD, i64_w, i32_w]
    rfl
   refine one_ (i := 1) (N := some 31) #[true, true, true, false, true, false, false, false, false, false, false, false] rfl rfl (one_of HT_.out (by kernel_rfl)) (by decide) (fun K hK => ?_)
   refine goes_ Try.func24 (by kernel_rfl) rfl #[.agg #[.slice A0_0 l0_0.length c0_0, .int .i64 a0_1]] (by rfl) rfl rfl (by (try simp only [List.map_toArray, List.map_cons, List.map_nil]); first | done | rfl | (simp only [List.length_drop, List.length_take]; rfl)) ?_
   with_reducible refine (laws_toInstrument.calls k _ _ l0_0 a0_1 t453 t456 _ ?side1 ?side2 A18.out).mono ?_
   (case side1 => repeat (first | exact (Kd.C_below HR0_0.out HB.out) | (with_reducible refine Kd.C_alloc ?_ _) | (with_reducible refine Kd.C_drewN ?_ _) | (with_reducible refine Kd.C_drew ?_)))
   (case side2 => exact HC0_0.out)
   rintro e w33 ⟨v454, rfl, ho0, hb⟩
   refine ⟨_, rfl, ?_⟩
   have n0_ := zm (Kd.R_lower ho0 (below_size zb))
   have n1_ := zm (blk_below (g := gb449) (o := .cells #[.slice A0_0 l0_0.length c0_0, .int .i64 a0_1] 40 (0, 0)) zk hb)
   have n2_ := zm (blk_below (g := gb450) (o := .cells #[.int .i64 a2_0, .int .i64 a2_1, .int .i64 a2_2] 24 (0, 0)) zk hb)
   have n3_ := zm (below_step zb hb)
   clear BK449
   clear BK450
   clear HB
   have HO455 := n0_
   have BK449 := n1_
   have BK450 := n2_
   have HB := n3_
   clear n0_ n1_ n2_ n3_
   (try clear hb)
   (try clear hb2)
   (try clear hk)
   (try clear hi)
   (try clear ho0)
   refine hK.out _ _ ⟨(blk_cell BK449.out 0).trans rfl, (blk_cell BK449.out 1).trans rfl, (blk_cell BK450.out 0).trans rfl, (blk_cell BK450.out 1).trans rfl, (blk_cell BK450.out 2).trans rfl⟩ (fun hHeld => ?_)
   clear hK K
   refine norm_ (a' := ?_) ?_ ?_
   rotate_left
   ·
    show Act.put _ (some 31) _ = _
    simp only [Act.put, zA, zB, zD, i64_w, i32_w]
    rfl
   refine one_ (i := 3) (N := some 33) #[true, true, true, true, true, false, false, false, false, false, false, false] rfl rfl (one_of HT_.out (by kernel_rfl)) (by decide) (fun K hK => ?_)
   refine goes_ Try.func25 (by kernel_rfl) rfl #[.slice A1 l1.length c1] (by rfl) rfl rfl (by (try simp only [List.map_toArray, List.map_cons, List.map_nil]); first | done | rfl | (simp only [List.length_drop, List.length_take]; rfl)) ?_
   with_reducible refine (laws_toHoleS.calls k _ _ l1 t457 _ ?side1 ?side2 A19.out).mono ?_
   (case side1 => repeat (first | exact (Kd.C_below HR1.out HB.out) | (with_reducible refine Kd.C_alloc ?_ _) | (with_reducible refine Kd.C_drewN ?_ _) | (with_reducible refine Kd.C_drew ?_)))
   (case side2 => exact HC1.out)
   rintro e w34 ⟨v458, rfl, ho0, hb⟩
   refine ⟨_, rfl, ?_⟩
   have n0_ := zm (Kd.R_below (by (with_reducible repeat (first | apply Kd.R_alloc | apply Kd.R_drewN | apply Kd.R_drew)); exact HO455.out) hb)
   have n1_ := zm (Kd.R_lower ho0 (below_size zb))
   have n2_ := zm (blk_below (g := gb449) (o := .cells #[.slice A0_0 l0_0.length c0_0, .int .i64 a0_1] 40 (0, 0)) zk hb)
   have n3_ := zm (blk_below (g := gb450) (o := .cells #[.int .i64 a2_0, .int .i64 a2_1, .int .i64 a2_2] 24 (0, 0)) zk hb)
   have n4_ := zm (below_step zb hb)
   clear HO455
   clear BK449
   clear BK450
   clear HB
   have HO455 := n0_
   have HO459 := n1_
   have BK449 := n2_
   have BK450 := n3_
   have HB := n4_
   clear n0_ n1_ n2_ n3_ n4_
   (try clear hb)
   (try clear hb2)
   (try clear hk)
   (try clear hi)
   (try clear ho0)
   refine hK.out _ _ ⟨(blk_cell BK449.out 0).trans rfl, (blk_cell BK449.out 1).trans rfl, (blk_cell BK450.out 0).trans rfl, (blk_cell BK450.out 1).trans rfl, (blk_cell BK450.out 2).trans rfl⟩ (fun hHeld => ?_)
   clear hK K
   refine norm_ (a' := ?_) ?_ ?_
   rotate_left
   ·
    show Act.put _ (some 33) _ = _
    simp only [Act.put, zA, zB, zD, i64_w, i32_w]
    rfl
   refine one_ (i := 5) (N := some 35) #[true, true, true, true, true, true, false, false, false, false, false, false] rfl rfl (one_of HT_.out (by kernel_rfl)) (by decide) (fun K hK => ?_)
   refine goes_ Try.func14 (by kernel_rfl) rfl #[.agg #[.int .i64 a2_0, .int .i64 a2_1, .int .i64 a2_2]] (by rfl) rfl rfl (by (try simp only [List.map_toArray, List.map_cons, List.map_nil]); first | done | rfl | (simp only [List.length_drop, List.length_take]; rfl)) ?_
   with_reducible refine (laws_toAction.calls a2_0 a2_1 a2_2 t460 t461 t462 _ A20.out).mono ?_
   rintro e w35 ⟨rfl, hb⟩
   refine ⟨_, rfl, ?_⟩
   have n0_ := zm (Kd.R_below (by (with_reducible repeat (first | apply Kd.R_alloc | apply Kd.R_drewN | apply Kd.R_drew)); exact HO455.out) hb)
   have n1_ := zm (Kd.R_below (by (with_reducible repeat (first | apply Kd.R_alloc | apply Kd.R_drewN | apply Kd.R_drew)); exact HO459.out) hb)
   have n2_ := zm (blk_below (g := gb449) (o := .cells #[.slice A0_0 l0_0.length c0_0, .int .i64 a0_1] 40 (0, 0)) zk hb)
   have n3_ := zm (blk_below (g := gb450) (o := .cells #[.int .i64 a2_0, .int .i64 a2_1, .int .i64 a2_2] 24 (0, 0)) zk hb)
   have n4_ := zm (below_step zb hb)
   clear HO455
   clear HO459
   clear BK449
   clear BK450
   clear HB
   have HO455 := n0_
   have HO459 := n1_
   have BK449 := n2_
   have BK450 := n3_
   have HB := n4_
   clear n0_ n1_ n2_ n3_ n4_
   (try clear hb)
   (try clear hb2)
   (try clear hk)
   (try clear hi)
   obtain ⟨Ao36, co36, eo36⟩ := Kd.R_slice HO455.out
   (first | subst eo36 | (injection eo36 with f1_ f2_ f3_; have f4_ := f1_.symm; have f5_ := f3_.symm; clear f1_ f2_ f3_; subst f4_; subst f5_))
   obtain ⟨Ao37, co37, eo37⟩ := Kd.R_slice HO459.out
   (first | subst eo37 | (injection eo37 with f1_ f2_ f3_; have f4_ := f1_.symm; have f5_ := f3_.symm; clear f1_ f2_ f3_; subst f4_; subst f5_))
   refine hK.out _ _ ⟨(blk_cell BK449.out 0).trans rfl, (blk_cell BK449.out 1).trans rfl, (blk_cell BK450.out 0).trans rfl, (blk_cell BK450.out 1).trans rfl, (blk_cell BK450.out 2).trans rfl⟩ (fun hHeld => ?_)
   clear hK K
   refine norm_ (a' := ?_) ?_ ?_
   rotate_left
   ·
    show Act.put _ (some 35) _ = _
    simp only [Act.put, zA, zB, zD, i64_w, i32_w]
    rfl
   refine one_ (i := 6) (N := some 36) #[true, true, true, true, true, true, true, false, false, false, false, false] rfl rfl (one_of HT_.out (by kernel_rfl)) (by decide) (fun K hK => ?_)
   refine goes_ Try.func23 (by kernel_rfl) rfl #[.agg #[.slice Ao36 t453.length co36, .int .i64 t456], .slice Ao37 t457.length co37, .agg #[.int .i64 t460, .int .i64 t461, .int .i64 t462]] (by rfl) rfl rfl (by (try simp only [List.map_toArray, List.map_cons, List.map_nil]); first | done | rfl | (simp only [List.length_drop, List.length_take]; rfl)) ?_
   with_reducible refine (spec_BlurredPairs.calls k _ _ t453 t456 _ _ t457 t460 t461 t462 t463 t466 _ ?side1 ?side2 ?side3 ?side4 A21.out).mono ?_
   (case side1 => repeat (first | exact (Kd.R_reads' HO455.out).2.2 | (with_reducible refine Kd.C_alloc ?_ _) | (with_reducible refine Kd.C_drewN ?_ _) | (with_reducible refine Kd.C_drew ?_)))
   (case side2 => exact (Kd.R_reads' HO455.out).2.1)
   (case side3 => repeat (first | exact (Kd.R_reads' HO459.out).2.2 | (with_reducible refine Kd.C_alloc ?_ _) | (with_reducible refine Kd.C_drewN ?_ _) | (with_reducible refine Kd.C_drew ?_)))
   (case side4 => exact (Kd.R_reads' HO459.out).2.1)
   rintro e w38 ⟨v464, rfl, ho0, hb⟩
   refine ⟨_, rfl, ?_⟩
   have n0_ := zm (Kd.R_below (by (with_reducible repeat (first | apply Kd.R_alloc | apply Kd.R_drewN | apply Kd.R_drew)); exact HO455.out) hb)
   have n1_ := zm (Kd.R_below (by (with_reducible repeat (first | apply Kd.R_alloc | apply Kd.R_drewN | apply Kd.R_drew)); exact HO459.out) hb)
   have n2_ := zm (Kd.S_lower (Kd.S_new' ho0 (Kd.R_lt (by (with_reducible repeat (first | apply Kd.R_alloc | apply Kd.R_drewN | apply Kd.R_drew)); exact HO455.out))) (below_size zb))
   have n3_ := zm (blk_below (g := gb449) (o := .cells #[.slice A0_0 l0_0.length c0_0, .int .i64 a0_1] 40 (0, 0)) zk hb)
   have n4_ := zm (blk_below (g := gb450) (o := .cells #[.int .i64 a2_0, .int .i64 a2_1, .int .i64 a2_2] 24 (0, 0)) zk hb)
   have n5_ := zm (below_step zb hb)
   clear HO455
   clear HO459
   clear BK449
   clear BK450
   clear HB
   have HO455 := n0_
   have HO459 := n1_
   have HO465 := n2_
   have BK449 := n3_
   have BK450 := n4_
   have HB := n5_
   clear n0_ n1_ n2_ n3_ n4_ n5_
   (try clear hb)
   (try clear hb2)
   (try clear hk)
   (try clear hi)
   (try clear ho0)
   refine hK.out _ _ ⟨(blk_cell BK449.out 0).trans rfl, (blk_cell BK449.out 1).trans rfl, (blk_cell BK450.out 0).trans rfl, (blk_cell BK450.out 1).trans rfl, (blk_cell BK450.out 2).trans rfl⟩ (fun hHeld => ?_)
   clear hK K
   refine norm_ (a' := ?_) ?_ ?_
   rotate_left
   ·
    show Act.put _ (some 36) _ = _
    simp only [Act.put, zA, zB, zD, i64_w, i32_w]
    rfl
   refine pure_ (i := 7) (N := some 29) (v := ?_) (a' := ?_) #[true, true, true, true, true, true, true, true, false, false, false, false] rfl rfl (any_of HT_.out (by kernel_rfl)) (fun _ _ _ h => h) (Or.inl ⟨by rfl, ?_⟩) ?_ ?_
   rotate_left
   ·
    intro w'
    go_simp
    with_reducible rfl
   rotate_left
   ·
    simp only [Act.put, zA, zB, zD, i64_w, i32_w]
    rfl
   refine pure_ (i := 8) (N := some 37) (v := ?_) (a' := ?_) #[true, true, true, true, true, true, true, true, true, false, false, false] rfl rfl (any_of HT_.out (by kernel_rfl)) (fun _ _ _ h => h) (Or.inl ⟨by rfl, ?_⟩) ?_ ?_
   rotate_left
   ·
    intro w'
    go_simp
    with_reducible rfl
   rotate_left
   ·
    simp only [Act.put, zA, zB, zD, i64_w, i32_w]
    rfl
   refine pure_ (i := 9) (N := some 38) (v := ?_) (a' := ?_) #[true, true, true, true, true, true, true, true, true, true, false, false] rfl rfl (any_of HT_.out (by kernel_rfl)) (fun _ _ _ h => h) (Or.inl ⟨by rfl, ?_⟩) ?_ ?_
   rotate_left
   ·
    intro w'
    go_simp
    with_reducible rfl
   rotate_left
   ·
    simp only [Act.put, zA, zB, zD, i64_w, i32_w]
    rfl
   refine pure_ (i := 10) (N := some 8) (v := ?_) (a' := ?_) #[true, true, true, true, true, true, true, true, true, true, true, false] rfl rfl (any_of HT_.out (by kernel_rfl)) (fun _ _ _ h => h) (Or.inl ⟨by rfl, ?_⟩) ?_ ?_
   rotate_left
   ·
    intro w'
    go_simp
    with_reducible rfl
   rotate_left
   ·
    simp only [Act.put, zA, zB, zD, i64_w, i32_w]
    rfl
   refine pure_ (i := 11) (N := some 9) (v := ?_) (a' := ?_) #[true, true, true, true, true, true, true, true, true, true, true, true] rfl rfl (any_of HT_.out (by kernel_rfl)) (fun _ _ _ h => h) (Or.inl ⟨by rfl, ?_⟩) ?_ ?_
   rotate_left
   ·
    intro w'
    go_simp
    with_reducible rfl
   rotate_left
   ·
    simp only [Act.put, zA, zB, zD, i64_w, i32_w]
    rfl
   refine done_ (done_of HT_.out (by kernel_rfl)) ?_
   obtain ⟨hcz39_0, hcz39_1, hfz39_0, hfz39_1⟩ := zc2 BK449.out
   try go_wp2_with (first | ((with_reducible refine gate_callee (f := 24) rfl ?_); refine goesA_ (some 40) Try.func24 #[.agg #[.slice A0_0 l0_0.length c0_0, .int .i64 a0_1]] rfl ?_; (with_reducible refine (laws_toInstrument.calls k _ _ l0_0 a0_1 t467 t470 _ ?side1 ?side2 A22.out).mono ?_); (case side1 => repeat (first | exact (Kd.C_below HR0_0.out HB.out) | (with_reducible refine Kd.C_alloc ?_ _) | (with_reducible refine Kd.C_drewN ?_ _) | (with_reducible refine Kd.C_drew ?_))); (case side2 => exact HC0_0.out); rintro e w40 ⟨v468, rfl, ho0, hb⟩; refine ⟨_, rfl, ?_⟩; have n0_ := zm (Kd.R_elder' (by (with_reducible repeat (first | apply Kd.R_alloc | apply Kd.R_drewN | apply Kd.R_drew)); exact HO455.out) (Kd.R_base ho0) hb); have n1_ := zm (Kd.R_below (by (with_reducible repeat (first | apply Kd.R_alloc | apply Kd.R_drewN | apply Kd.R_drew)); exact HO459.out) hb); have n2_ := zm (Kd.S_elder' (by (with_reducible repeat (first | apply Kd.S_alloc | apply Kd.S_drewN | apply Kd.S_drew)); exact HO465.out) (Kd.R_base ho0) hb); have n3_ := zm (Kd.R_lower (Kd.R_new' ho0 (Kd.R_lt (by (with_reducible repeat (first | apply Kd.R_alloc | apply Kd.R_drewN | apply Kd.R_drew)); exact HO455.out))) (below_size zb)); have n4_ := zm (blk_below (g := gb449) (o := .cells #[.slice A0_0 l0_0.length c0_0, .int .i64 a0_1] 40 (0, 0)) zk hb); have n5_ := zm (blk_below (g := gb450) (o := .cells #[.int .i64 a2_0, .int .i64 a2_1, .int .i64 a2_2] 24 (0, 0)) zk hb); have n6_ := zm (below_step zb hb); clear HO455; clear HO459; clear HO465; clear BK449; clear BK450; clear HB; have HO455 := n0_; have HO459 := n1_; have HO465 := n2_; have HO469 := n3_; have BK449 := n4_; have BK450 := n5_; have HB := n6_; clear n0_ n1_ n2_ n3_ n4_ n5_ n6_; (try clear hb); (try clear hb2); (try clear hk); (try clear hi); (try clear ho0)) | ((with_reducible refine gate_dst (N := 10) rfl ?_); refine box_event ?hg (N := 10) ?hd (cs := #[.slice none 0 0, .int .i64 0]) (t := 45) ?hr ?_; (case hd => rfl); (case hg => rfl); (case hr => first | (go_simp; done) | (go_simp; rfl)); intro gb471 hg w41 hbox hb; have n0_ := zm (Kd.R_below (by (with_reducible repeat (first | apply Kd.R_alloc | apply Kd.R_drewN | apply Kd.R_drew)); exact HO455.out) hb); have n1_ := zm (Kd.R_below (by (with_reducible repeat (first | apply Kd.R_alloc | apply Kd.R_drewN | apply Kd.R_drew)); exact HO459.out) hb); have n2_ := zm (Kd.S_below (by (with_reducible repeat (first | apply Kd.S_alloc | apply Kd.S_drewN | apply Kd.S_drew)); exact HO465.out) hb); have n3_ := zm (Kd.R_below (by (with_reducible repeat (first | apply Kd.R_alloc | apply Kd.R_drewN | apply Kd.R_drew)); exact HO469.out) hb); have n4_ := zm (blk_below (g := gb449) (o := .cells #[.slice A0_0 l0_0.length c0_0, .int .i64 a0_1] 40 (0, 0)) zk hb); have n5_ := zm (blk_below (g := gb450) (o := .cells #[.int .i64 a2_0, .int .i64 a2_1, .int .i64 a2_2] 24 (0, 0)) zk hb); have n6_ := zm (below_step zb hb); have n7_ := zm (hbox); have n8_ := zm (zs hg zb : w.heap.size ≤ gb471); have n9_ := zm (zs hg zb : w.heap.size ≤ gb471); have n10_ := zm (zl hg zk : gb449 ≠ gb471); have n11_ := zm (zg hg zk : gb471 ≠ gb449); have n12_ := zm (zl hg zk : gb450 ≠ gb471); have n13_ := zm (zg hg zk : gb471 ≠ gb450); clear HO455; clear HO459; clear HO465; clear HO469; clear BK449; clear BK450; clear HB; have HO455 := n0_; have HO459 := n1_; have HO465 := n2_; have HO469 := n3_; have BK449 := n4_; have BK450 := n5_; have HB := n6_; have BK471 := n7_; have GW471 := n8_; have GE471 := n9_; have NB449_471 := n10_; have NB471_449 := n11_; have NB450_471 := n12_; have NB471_450 := n13_; clear n0_ n1_ n2_ n3_ n4_ n5_ n6_ n7_ n8_ n9_ n10_ n11_ n12_ n13_; clear hb hbox hg; obtain ⟨Ao42, co42, eo42⟩ := Kd.R_slice HO469.out; subst eo42; have hnb43 := NB471_449.out; have hnc43 := NB449_471.out; have hnb44 := NB471_450.out; have hnc44 := NB450_471.out; obtain ⟨hcz45_0, hcz45_1, hfz45_0, hfz45_1⟩ := zc2 BK471.out) | ((with_reducible refine gate_callee (f := 25) rfl ?_); refine goesA_ (some 42) Try.func25 #[.slice A1 l1.length c1] rfl ?_; (with_reducible refine (laws_toHoleS.calls k _ _ l1 t472 _ ?side1 ?side2 A23.out).mono ?_); (case side1 => exact Kd.C_below HR1.out zb); (case side2 => exact HC1.out); rintro e w46 ⟨v473, rfl, ho0, hb⟩; refine ⟨_, rfl, ?_⟩; have n0_ := zm (Kd.R_below (by (with_reducible repeat (first | apply Kd.R_alloc | apply Kd.R_drewN | apply Kd.R_drew)); exact (Kd.R_mono (Kd.R_far (p := ⟨gb471, 1, none⟩) (Kd.R_far (p := ⟨gb471, 0, none⟩) (Kd.R_types HO455.out BK471.out (by decide)) (fun _ hk => hk.2) (.slice Ao42 t467.length co42)) (fun _ hk => hk.2) (.int .i64 t470)) (fun _ h_ => h_.1))) hb); have n1_ := zm (Kd.R_elder' (by (with_reducible repeat (first | apply Kd.R_alloc | apply Kd.R_drewN | apply Kd.R_drew)); exact (Kd.R_mono (Kd.R_far (p := ⟨gb471, 1, none⟩) (Kd.R_far (p := ⟨gb471, 0, none⟩) (Kd.R_types HO459.out BK471.out (by decide)) (fun _ hk => hk.2) (.slice Ao42 t467.length co42)) (fun _ hk => hk.2) (.int .i64 t470)) (fun _ h_ => h_.1))) (Kd.R_base ho0) hb); have n2_ := zm (Kd.S_below (by (with_reducible repeat (first | apply Kd.S_alloc | apply Kd.S_drewN | apply Kd.S_drew)); exact (Kd.S_mono (Kd.S_far (p := ⟨gb471, 1, none⟩) (Kd.S_far (p := ⟨gb471, 0, none⟩) (Kd.S_types HO465.out BK471.out (by decide)) (fun _ hk => hk.2) (.slice Ao42 t467.length co42)) (fun _ hk => hk.2) (.int .i64 t470)) (fun _ h_ => h_.1))) hb); have n3_ := zm (Kd.R_below (by (with_reducible repeat (first | apply Kd.R_alloc | apply Kd.R_drewN | apply Kd.R_drew)); exact (Kd.R_mono (Kd.R_far (p := ⟨gb471, 1, none⟩) (Kd.R_far (p := ⟨gb471, 0, none⟩) (Kd.R_types HO469.out BK471.out (by decide)) (fun _ hk => hk.2) (.slice Ao42 t467.length co42)) (fun _ hk => hk.2) (.int .i64 t470)) (fun _ h_ => h_.1))) hb); have n4_ := zm (Kd.R_lower (Kd.R_new' ho0 (Kd.R_lt (by (with_reducible repeat (first | apply Kd.R_alloc | apply Kd.R_drewN | apply Kd.R_drew)); exact (Kd.R_mono (Kd.R_far (p := ⟨gb471, 1, none⟩) (Kd.R_far (p := ⟨gb471, 0, none⟩) (Kd.R_types HO459.out BK471.out (by decide)) (fun _ hk => hk.2) (.slice Ao42 t467.length co42)) (fun _ hk => hk.2) (.int .i64 t470)) (fun _ h_ => h_.1))))) (below_size zb)); have n5_ := zm (blk_below (g := gb449) (o := .cells #[.slice A0_0 l0_0.length c0_0, .int .i64 a0_1] 40 (0, 0)) zK hb); have n6_ := zm (blk_below (g := gb450) (o := .cells #[.int .i64 a2_0, .int .i64 a2_1, .int .i64 a2_2] 24 (0, 0)) zK hb); have n7_ := zm (blk_below (g := gb471) (o := .cells #[.slice Ao42 t467.length co42, .int .i64 t470] 45 (0, 0)) (by (with_reducible repeat (first | refine blk_drewN ?_ _ | refine blk_drew ?_ | refine blk_alloc ?_ _)); refine blk_put (cs := #[.slice Ao42 t467.length co42, .int .i64 0]) ?_ 1 _ rfl; (with_reducible repeat (first | refine blk_drewN ?_ _ | refine blk_drew ?_ | refine blk_alloc ?_ _)); refine blk_put (cs := #[.slice none 0 0, .int .i64 0]) ?_ 0 _ rfl; (with_reducible repeat (first | refine blk_drewN ?_ _ | refine blk_drew ?_ | refine blk_alloc ?_ _)); exact BK471.out) hb); have n8_ := zm (below_step zb hb); clear HO455; clear HO459; clear HO465; clear HO469; clear BK449; clear BK450; clear BK471; clear HB; have HO455 := n0_; have HO459 := n1_; have HO465 := n2_; have HO469 := n3_; have HO474 := n4_; have BK449 := n5_; have BK450 := n6_; have BK471 := n7_; have HB := n8_; clear n0_ n1_ n2_ n3_ n4_ n5_ n6_ n7_ n8_; (try clear hb); (try clear hb2); (try clear hk); (try clear hi); (try clear ho0)))
   have n0_ := zm (Kd.R_drew HO455.out)
   have n1_ := zm (Kd.R_drew HO459.out)
   have n2_ := zm (Kd.S_drew HO465.out)
   have n3_ := zm (Kd.R_drew HO469.out)
   have n4_ := zm (Kd.R_drew HO474.out)
   have n5_ := zm (blk_drew BK449.out)
   have n6_ := zm (blk_drew BK450.out)
   have n7_ := zm (blk_drew BK471.out)
   have n8_ := zm (below_drew1 HB.out)
   clear HO455
   clear HO459
   clear HO465
   clear HO469
   clear HO474
   clear BK449
   clear BK450
   clear BK471
   clear HB
   have HO455 := n0_
   have HO459 := n1_
   have HO465 := n2_
   have HO469 := n3_
   have HO474 := n4_
   have BK449 := n5_
   have BK450 := n6_
   have BK471 := n7_
   have HB := n8_
   clear n0_ n1_ n2_ n3_ n4_ n5_ n6_ n7_ n8_
   refine start_ (n := 10) (S := fun w' => w'.cell? ⟨gb471, 0, none⟩ = some (.slice Ao42 t467.length co42) ∧ w'.cell? ⟨gb471, 1, none⟩ = some (.int .i64 t470) ∧ w'.cell? ⟨gb450, 0, none⟩ = some (.int .i64 a2_0) ∧ w'.cell? ⟨gb450, 1, none⟩ = some (.int .i64 a2_1) ∧ w'.cell? ⟨gb450, 2, none⟩ = some (.int .i64 a2_2)) (ds := []) #[false, false, false, false, false, false, false, false, false, false] (by kernel_rfl) rfl rfl ⟨(blk_cell BK471.out 0).trans rfl, (blk_cell BK471.out 1).trans rfl, (blk_cell BK450.out 0).trans rfl, (blk_cell BK450.out 1).trans rfl, (blk_cell BK450.out 2).trans rfl⟩ (fun hHeld => ?_); refine with_tabW laws_FnExactBlurredPairs.tab11 laws_FnExactBlurredPairs.bits11 (fun HT_ HW_ => ?_)
   generalize w46.drew = w47 at HO455 HO459 HO465 HO469 HO474 BK449 BK450 BK471 HB hHeld ⊢
   refine pure_ (i := 1) (N := some 45) (v := ?_) (a' := ?_) #[false, true, false, false, false, false, false, false, false, false] rfl rfl (any_of HT_.out (by kernel_rfl)) (fun _ _ _ h => h) (Or.inl ⟨by rfl, ?_⟩) ?_ ?_
   rotate_left
   ·
    intro w'
    go_simp
    with_reducible rfl
   rotate_left
   ·
    simp only [Act.put, zA, zB, zD, i64_w, i32_w]
    rfl
   refine take_ (i := 0) (N := some 44) (v := ?_) (a' := ?_) #[true, true, false, false, false, false, false, false, false, false] rfl rfl (take_ofW HT_.out HW_.out (by kernel_rfl)) (fun _ _ _ h => h) (Or.inl ⟨by rfl, ?_⟩) hHeld ?_ ?_
   rotate_left
   ·
    rintro w' ⟨s0, s1, s2, s3, s4⟩
    go_simp
    with_reducible rfl
   rotate_left
   ·
    simp only [Act.put, zA, zB, zD, i64_w, i32_w]
    rfl
   refine take_ (i := 2) (N := some 46) (v := ?_) (a' := ?_) #[true, true, true, false, false, false, false, false, false, false] rfl rfl (take_ofW HT_.out HW_.out (by kernel_rfl)) (fun _ _ _ h => h) (Or.inl ⟨by rfl, ?_⟩) hHeld ?_ ?_
   rotate_left
   ·
    rintro w' ⟨s0, s1, s2, s3, s4⟩
    go_simp
    with_reducible rfl
   rotate_left
   ·
    simp only [Act.put, zA, zB, zD, i64_w, i32_w]
    rfl
   refine one_ (i := 3) (N := some 47) #[true, true, true, true, false, false, false, false, false, false] rfl rfl (one_of HT_.out (by kernel_rfl)) (by decide) (fun K hK => ?_)
   refine goes_ Try.func14 (by kernel_rfl) rfl #[.agg #[.int .i64 a2_0, .int .i64 a2_1, .int .i64 a2_2]] (by rfl) rfl rfl (by (try simp only [List.map_toArray, List.map_cons, List.map_nil]); first | done | rfl | (simp only [List.length_drop, List.length_take]; rfl)) ?_
   with_reducible refine (laws_toAction.calls a2_0 a2_1 a2_2 t475 t476 t477 _ A24.out).mono ?_
   rintro e w48 ⟨rfl, hb⟩
   refine ⟨_, rfl, ?_⟩
   have n0_ := zm (Kd.R_below (by (with_reducible repeat (first | apply Kd.R_alloc | apply Kd.R_drewN | apply Kd.R_drew)); exact HO455.out) hb)
   have n1_ := zm (Kd.R_below (by (with_reducible repeat (first | apply Kd.R_alloc | apply Kd.R_drewN | apply Kd.R_drew)); exact HO459.out) hb)
   have n2_ := zm (Kd.S_below (by (with_reducible repeat (first | apply Kd.S_alloc | apply Kd.S_drewN | apply Kd.S_drew)); exact HO465.out) hb)
   have n3_ := zm (Kd.R_below (by (with_reducible repeat (first | apply Kd.R_alloc | apply Kd.R_drewN | apply Kd.R_drew)); exact HO469.out) hb)
   have n4_ := zm (Kd.R_below (by (with_reducible repeat (first | apply Kd.R_alloc | apply Kd.R_drewN | apply Kd.R_drew)); exact HO474.out) hb)
   have n5_ := zm (blk_below (g := gb449) (o := .cells #[.slice A0_0 l0_0.length c0_0, .int .i64 a0_1] 40 (0, 0)) zk hb)
   have n6_ := zm (blk_below (g := gb450) (o := .cells #[.int .i64 a2_0, .int .i64 a2_1, .int .i64 a2_2] 24 (0, 0)) zk hb)
   have n7_ := zm (blk_below (g := gb471) (o := .cells #[.slice Ao42 t467.length co42, .int .i64 t470] 45 (0, 0)) zk hb)
   have n8_ := zm (below_step zb hb)
   clear HO455
   clear HO459
   clear HO465
   clear HO469
   clear HO474
   clear BK449
   clear BK450
   clear BK471
   clear HB
   have HO455 := n0_
   have HO459 := n1_
   have HO465 := n2_
   have HO469 := n3_
   have HO474 := n4_
   have BK449 := n5_
   have BK450 := n6_
   have BK471 := n7_
   have HB := n8_
   clear n0_ n1_ n2_ n3_ n4_ n5_ n6_ n7_ n8_
   (try clear hb)
   (try clear hb2)
   (try clear hk)
   (try clear hi)
   obtain ⟨Ao49, co49, eo49⟩ := Kd.R_slice HO474.out
   (first | subst eo49 | (injection eo49 with f1_ f2_ f3_; have f4_ := f1_.symm; have f5_ := f3_.symm; clear f1_ f2_ f3_; subst f4_; subst f5_))
   refine hK.out _ _ ⟨(blk_cell BK471.out 0).trans rfl, (blk_cell BK471.out 1).trans rfl, (blk_cell BK450.out 0).trans rfl, (blk_cell BK450.out 1).trans rfl, (blk_cell BK450.out 2).trans rfl⟩ (fun hHeld => ?_)
   clear hK K
   refine norm_ (a' := ?_) ?_ ?_
   rotate_left
   ·
    show Act.put _ (some 47) _ = _
    simp only [Act.put, zA, zB, zD, i64_w, i32_w]
    rfl
   refine one_ (i := 4) (N := some 48) #[true, true, true, true, true, false, false, false, false, false] rfl rfl (one_of HT_.out (by kernel_rfl)) (by decide) (fun K hK => ?_)
   refine goes_ Try.func26 (by kernel_rfl) rfl #[.agg #[.slice Ao42 t467.length co42, .int .i64 t470], .slice Ao49 t472.length co49, .agg #[.int .i64 t475, .int .i64 t476, .int .i64 t477]] (by rfl) rfl rfl (by (try simp only [List.map_toArray, List.map_cons, List.map_nil]); first | done | rfl | (simp only [List.length_drop, List.length_take]; rfl)) ?_
   with_reducible refine (impl_BlurredPairs.calls k _ _ t467 t470 _ _ t472 t475 t476 t477 t478 t481 _ ?side1 ?side2 ?side3 ?side4 A25.out).mono ?_
   (case side1 => repeat (first | exact (Kd.R_reads' HO469.out).2.2 | (with_reducible refine Kd.C_alloc ?_ _) | (with_reducible refine Kd.C_drewN ?_ _) | (with_reducible refine Kd.C_drew ?_)))
   (case side2 => exact (Kd.R_reads' HO469.out).2.1)
   (case side3 => repeat (first | exact (Kd.R_reads' HO474.out).2.2 | (with_reducible refine Kd.C_alloc ?_ _) | (with_reducible refine Kd.C_drewN ?_ _) | (with_reducible refine Kd.C_drew ?_)))
   (case side4 => exact (Kd.R_reads' HO474.out).2.1)
   rintro e w50 ⟨v479, rfl, ho0, hb⟩
   refine ⟨_, rfl, ?_⟩
   obtain ⟨NG, hNG_⟩ := zN hb
   have HGgb449 := zm (show gb449 < NG from hNG_ ▸ blk_lt (g := gb449) (o := .cells #[.slice A0_0 l0_0.length c0_0, .int .i64 a0_1] 40 (0, 0)) zk)
   have HGgb450 := zm (show gb450 < NG from hNG_ ▸ blk_lt (g := gb450) (o := .cells #[.int .i64 a2_0, .int .i64 a2_1, .int .i64 a2_2] 24 (0, 0)) zk)
   have HGgb471 := zm (show gb471 < NG from hNG_ ▸ blk_lt (g := gb471) (o := .cells #[.slice Ao42 t467.length co42, .int .i64 t470] 45 (0, 0)) zk)
   have n0_ := zm (Kd.R_below (by (with_reducible repeat (first | apply Kd.R_alloc | apply Kd.R_drewN | apply Kd.R_drew)); exact HO455.out) hb)
   have n1_ := zm (Kd.R_below (by (with_reducible repeat (first | apply Kd.R_alloc | apply Kd.R_drewN | apply Kd.R_drew)); exact HO459.out) hb)
   have n2_ := zm (zE (by (with_reducible repeat (first | apply Kd.S_alloc | apply Kd.S_drewN | apply Kd.S_drew)); exact HO465.out) hNG_ hb)
   have n3_ := zm (Kd.R_below (by (with_reducible repeat (first | apply Kd.R_alloc | apply Kd.R_drewN | apply Kd.R_drew)); exact HO469.out) hb)
   have n4_ := zm (Kd.R_below (by (with_reducible repeat (first | apply Kd.R_alloc | apply Kd.R_drewN | apply Kd.R_drew)); exact HO474.out) hb)
   have n5_ := zm (Kd.S_lower (Kd.S_new' (zY (Kd.S_new' ho0 (Kd.R_lt (by (with_reducible repeat (first | apply Kd.R_alloc | apply Kd.R_drewN | apply Kd.R_drew)); exact HO455.out))) hNG_) (Kd.R_lt (by (with_reducible repeat (first | apply Kd.R_alloc | apply Kd.R_drewN | apply Kd.R_drew)); exact HO469.out))) (below_size zb))
   have n6_ := zm (blk_below (g := gb449) (o := .cells #[.slice A0_0 l0_0.length c0_0, .int .i64 a0_1] 40 (0, 0)) zk hb)
   have n7_ := zm (blk_below (g := gb450) (o := .cells #[.int .i64 a2_0, .int .i64 a2_1, .int .i64 a2_2] 24 (0, 0)) zk hb)
   have n8_ := zm (blk_below (g := gb471) (o := .cells #[.slice Ao42 t467.length co42, .int .i64 t470] 45 (0, 0)) zk hb)
   have n9_ := zm (below_step zb hb)
   clear HO455
   clear HO459
   clear HO465
   clear HO469
   clear HO474
   clear BK449
   clear BK450
   clear BK471
   clear HB
   have HO455 := n0_
   have HO459 := n1_
   have HO465 := n2_
   have HO469 := n3_
   have HO474 := n4_
   have HO480 := n5_
   have BK449 := n6_
   have BK450 := n7_
   have BK471 := n8_
   have HB := n9_
   clear n0_ n1_ n2_ n3_ n4_ n5_ n6_ n7_ n8_ n9_
   clear hNG_
   (try clear hb)
   (try clear hb2)
   (try clear hk)
   (try clear hi)
   (try clear ho0)
   refine hK.out _ _ ⟨(blk_cell BK471.out 0).trans rfl, (blk_cell BK471.out 1).trans rfl, (blk_cell BK450.out 0).trans rfl, (blk_cell BK450.out 1).trans rfl, (blk_cell BK450.out 2).trans rfl⟩ (fun hHeld => ?_)
   clear hK K
   refine norm_ (a' := ?_) ?_ ?_
   rotate_left
   ·
    show Act.put _ (some 48) _ = _
    simp only [Act.put, zA, zB, zD, i64_w, i32_w]
    rfl
   refine pure_ (i := 5) (N := some 43) (v := ?_) (a' := ?_) #[true, true, true, true, true, true, false, false, false, false] rfl rfl (any_of HT_.out (by kernel_rfl)) (fun _ _ _ h => h) (Or.inl ⟨by rfl, ?_⟩) ?_ ?_
   rotate_left
   ·
    intro w'
    go_simp
    with_reducible rfl
   rotate_left
   ·
    simp only [Act.put, zA, zB, zD, i64_w, i32_w]
    rfl
   refine pure_ (i := 6) (N := some 49) (v := ?_) (a' := ?_) #[true, true, true, true, true, true, true, false, false, false] rfl rfl (any_of HT_.out (by kernel_rfl)) (fun _ _ _ h => h) (Or.inl ⟨by rfl, ?_⟩) ?_ ?_
   rotate_left
   ·
    intro w'
    go_simp
    with_reducible rfl
   rotate_left
   ·
    simp only [Act.put, zA, zB, zD, i64_w, i32_w]
    rfl
   refine pure_ (i := 7) (N := some 50) (v := ?_) (a' := ?_) #[true, true, true, true, true, true, true, true, false, false] rfl rfl (any_of HT_.out (by kernel_rfl)) (fun _ _ _ h => h) (Or.inl ⟨by rfl, ?_⟩) ?_ ?_
   rotate_left
   ·
    intro w'
    go_simp
    with_reducible rfl
   rotate_left
   ·
    simp only [Act.put, zA, zB, zD, i64_w, i32_w]
    rfl
   refine pure_ (i := 8) (N := some 12) (v := ?_) (a' := ?_) #[true, true, true, true, true, true, true, true, true, false] rfl rfl (any_of HT_.out (by kernel_rfl)) (fun _ _ _ h => h) (Or.inl ⟨by rfl, ?_⟩) ?_ ?_
   rotate_left
   ·
    intro w'
    go_simp
    with_reducible rfl
   rotate_left
   ·
    simp only [Act.put, zA, zB, zD, i64_w, i32_w]
    rfl
   refine pure_ (i := 9) (N := some 13) (v := ?_) (a' := ?_) #[true, true, true, true, true, true, true, true, true, true] rfl rfl (any_of HT_.out (by kernel_rfl)) (fun _ _ _ h => h) (Or.inl ⟨by rfl, ?_⟩) ?_ ?_
   rotate_left
   ·
    intro w'
    go_simp
    with_reducible rfl
   rotate_left
   ·
    simp only [Act.put, zA, zB, zD, i64_w, i32_w]
    rfl
   refine done_ (done_of HT_.out (by kernel_rfl)) ?_
   go_upto_region 12 with (fail)
   go_cut [59] (fun v59 wc => ∃ (kq : Nat) (x59_25 : Bool), v59 = .bool x59_25 ∧ Aside0 (laws_FnExactBlurredPairs.j0 kq l1 t463 t466 t472 t478 t481 x59_25 l0_0 a0_1 a2_0 a2_1 a2_2 t467 t470 = some r) ∧ Aside0 (kq ≤ k) ∧ Aside0 (Kd.S (Kd.slice 3 (Kd.int .i64)) 38 wc w.heap.size (fun k_ => k_ < NG ∧ some k_ ≠ ((.slice Ao42 t467.length co42) : Value).ownBlock) v464 t463) ∧ Aside0 (Kd.R k96 96 wc w.heap.size (fun _ => True) (.slice Ao49 t472.length co49) t472) ∧ Aside0 (Kd.S (Kd.slice 3 (Kd.int .i64)) 38 wc w.heap.size (fun k_ => NG ≤ k_ ∧ some k_ ≠ ((.slice Ao42 t467.length co42) : Value).ownBlock) v479 t478) ∧ Aside0 (Kd.R (Kd.int .i64) 3 wc w.heap.size (fun _ => True) (.slice Ao42 t467.length co42) t467) ∧ Aside0 (wc.heap[gb449]? = some (.cells #[(.slice A0_0 l0_0.length c0_0), .int .i64 a0_1] 40 (0, 0))) ∧ Aside0 (wc.heap[gb450]? = some (.cells #[.int .i64 a2_0, .int .i64 a2_1, .int .i64 a2_2] 24 (0, 0))) ∧ Aside0 (wc.heap[gb471]? = some (.cells #[(.slice Ao42 t467.length co42), .int .i64 t470] 45 (0, 0))) ∧ Aside0 (Below w.heap.size w wc))
   case first =>
    have H := HC26.out
    clear HC26
    replace H := Option.bind_eq_some_iff.mp H
    obtain ⟨t482, A510, H⟩ := H
    (try dsimp only at H)
    have A51 := zm A510
    clear A510
    by_cases c52 : t482 = true
    ·
     subst c52
     have H1 : (laws_FnExactBlurredPairs.j0 k l1 t463 t466 t472 t478 t481 (t481 != t466) l0_0 a0_1 a2_0 a2_1 a2_2 t467 t470) = some r := by rw [if_pos rfl] at H; exact H
     clear H
     have H := H1
     clear H1
     have H' := zm H
     clear H
     obtain ⟨Ao53, co53, eo53⟩ := Kd.S_slice HO480.out
     subst eo53
     obtain ⟨Ao54, co54, eo54⟩ := Kd.S_slice HO465.out
     subst eo54
     go_wp2_with (first | ((with_reducible refine gate_callee (f := 16) rfl ?_); refine goesA_ (some 53) Try.func16 #[.slice Ao53 t478.length co53, .slice Ao54 t463.length co54] rfl ?_; (with_reducible refine (laws_eqIntSS.calls k _ _ t478 _ _ t463 true _ ?side1 ?side2 ?side3 ?side4 A51.out).mono ?_); (case side1 => repeat (first | exact (Kd.S_reads' HO480.out).2.2 | (with_reducible refine Kd.C_alloc ?_ _) | (with_reducible refine Kd.C_drewN ?_ _) | (with_reducible refine Kd.C_drew ?_))); (case side2 => exact (Kd.S_reads' HO480.out).2.1); (case side3 => repeat (first | exact (Kd.S_reads' HO465.out).2.2 | (with_reducible refine Kd.C_alloc ?_ _) | (with_reducible refine Kd.C_drewN ?_ _) | (with_reducible refine Kd.C_drew ?_))); (case side4 => exact (Kd.S_reads' HO465.out).2.1); rintro e w' ⟨rfl, ⟨nd, rfl⟩⟩; refine ⟨_, rfl, ?_⟩))
     go_meet
     case rel => exact ⟨_, ((t481 != t466)), (by first | rfl | (simp; done) | (simp [*]; done)), H', ⟨by first | omega | exact Nat.le_refl _⟩, ⟨by (with_reducible repeat (first | apply Kd.S_alloc | apply Kd.S_drewN | apply Kd.S_drew)); exact Kd.S_mono HO465.out (fun _ hk => ⟨hk.2, hk.1.2⟩)⟩, ⟨by (with_reducible repeat (first | apply Kd.R_alloc | apply Kd.R_drewN | apply Kd.R_drew)); exact Kd.R_mono HO474.out (fun _ hk => trivial)⟩, ⟨by (with_reducible repeat (first | apply Kd.S_alloc | apply Kd.S_drewN | apply Kd.S_drew)); exact Kd.S_mono HO480.out (fun _ hk => ⟨hk.1.2, hk.2⟩)⟩, ⟨by (with_reducible repeat (first | apply Kd.R_alloc | apply Kd.R_drewN | apply Kd.R_drew)); exact Kd.R_mono HO469.out (fun _ hk => trivial)⟩, ⟨zk⟩, ⟨zk⟩, ⟨zk⟩, ⟨zb⟩⟩
    ·
     replace c52 := Bool.eq_false_iff.mpr c52
     subst c52
     have H1 : (laws_FnExactBlurredPairs.j0 k l1 t463 t466 t472 t478 t481 true l0_0 a0_1 a2_0 a2_1 a2_2 t467 t470) = some r := by rw [if_neg (show ¬ (false = true) by decide)] at H; exact H
     clear H
     have H := H1
     clear H1
     exact (laws_FnExactBlurredPairs.j0_t (H.trans (congrArg some hr_))).elim
   case rest =>
    clear HC26
    (try clear c1); (try clear c2); (try clear p2); (try clear c4); (try clear c5); (try clear c5b0); (try clear c8); (try clear c12); (try clear c12b0); (try clear c14); (try clear c15); (try clear c16); (try clear c21); (try clear c22); (try clear c23); (try clear c24); (try clear c25); (try clear c26); (try clear c29); (try clear c43); (try clear c44); (try clear c52); (try clear hcz16_0); (try clear hcz16_1); (try clear hcz30_0); (try clear hcz30_1); (try clear hcz39_0); (try clear hcz39_1); (try clear hcz45_0); (try clear hcz45_1); (try clear hcz9_0); (try clear hcz9_1); (try clear hfz16_0); (try clear hfz16_1); (try clear hfz30_0); (try clear hfz30_1); (try clear hfz39_0); (try clear hfz39_1); (try clear hfz45_0); (try clear hfz45_1); (try clear hfz9_0); (try clear hfz9_1)
    obtain ⟨kq, x59_25, rfl, HA, HJ25, HO_8, HO_11, HO_12, HO_472000, BK449, BK450, BK471, HB⟩ := hcut
    cases kq with
    | zero => exact absurd HA.out (by simp [laws_FnExactBlurredPairs.j0])
    | succ kj25 =>
     have H := HA.out
     clear HA
     simp only [laws_FnExactBlurredPairs.j0] at H
     by_cases c55 : x59_25 = true
     ·
      subst c55
      have H1 : (some false) = some r := by rw [if_pos rfl] at H; exact H
      clear H
      have H := H1
      clear H1
      exact absurd ((Option.some.inj H).trans hr_) (by decide)
     ·
      replace c55 := Bool.eq_false_iff.mpr c55
      subst c55
      have H1 : ((laws_toInstrument.f kj25 l0_0 a0_1).bind fun bt483 => ((laws_eqInstrument.f kj25 t467 t470 bt483.1 bt483.2).bind fun t487 => (if t487 = true then ((laws_toHoleS.f kj25 l1).bind fun t488 => ((laws_eqHoleS.f kj25 t472 t488).bind fun t491 => (if t491 = true then ((laws_markInstrument.f kj25 t467 t470 1).bind fun bt492 => ((laws_markHoleS.f kj25 t472 bt492.1).bind fun bt494 => (if bt494.1 < 0 then (laws_FnExactBlurredPairs.j1 kj25 l1 t463 t466 t478 true l0_0 a0_1 a2_0 a2_1 a2_2) else ((laws_eqIntSS.f kj25 t478 t463).bind fun t496 => (if t496 = true then (laws_FnExactBlurredPairs.j1 kj25 l1 t463 t466 t478 (t481 != t466) l0_0 a0_1 a2_0 a2_1 a2_2) else (laws_FnExactBlurredPairs.j1 kj25 l1 t463 t466 t478 true l0_0 a0_1 a2_0 a2_1 a2_2)))))) else (some false)))) else (some false)))) = some r := by rw [if_neg (show ¬ (false = true) by decide)] at H; exact H
      clear H
      have H := H1
      clear H1
      replace H := Option.bind_eq_some_iff.mp H
      obtain ⟨⟨t483, t486⟩, A560, H⟩ := H
      (try dsimp only at H)
      have A56 := zm A560
      clear A560
      replace H := Option.bind_eq_some_iff.mp H
      obtain ⟨t487, A570, H⟩ := H
      (try dsimp only at H)
      have A57 := zm A570
      clear A570
      by_cases c58 : t487 = true
      ·
       subst c58
       have H1 : ((laws_toHoleS.f kj25 l1).bind fun t488 => ((laws_eqHoleS.f kj25 t472 t488).bind fun t491 => (if t491 = true then ((laws_markInstrument.f kj25 t467 t470 1).bind fun bt492 => ((laws_markHoleS.f kj25 t472 bt492.1).bind fun bt494 => (if bt494.1 < 0 then (laws_FnExactBlurredPairs.j1 kj25 l1 t463 t466 t478 true l0_0 a0_1 a2_0 a2_1 a2_2) else ((laws_eqIntSS.f kj25 t478 t463).bind fun t496 => (if t496 = true then (laws_FnExactBlurredPairs.j1 kj25 l1 t463 t466 t478 (t481 != t466) l0_0 a0_1 a2_0 a2_1 a2_2) else (laws_FnExactBlurredPairs.j1 kj25 l1 t463 t466 t478 true l0_0 a0_1 a2_0 a2_1 a2_2)))))) else (some false)))) = some r := by rw [if_pos rfl] at H; exact H
       clear H
       have H := H1
       clear H1
       replace H := Option.bind_eq_some_iff.mp H
       obtain ⟨t488, A590, H⟩ := H
       (try dsimp only at H)
       have A59 := zm A590
       clear A590
       replace H := Option.bind_eq_some_iff.mp H
       obtain ⟨t491, A600, H⟩ := H
       (try dsimp only at H)
       have A60 := zm A600
       clear A600
       by_cases c61 : t491 = true
       ·
        subst c61
        have H1 : ((laws_markInstrument.f kj25 t467 t470 1).bind fun bt492 => ((laws_markHoleS.f kj25 t472 bt492.1).bind fun bt494 => (if bt494.1 < 0 then (laws_FnExactBlurredPairs.j1 kj25 l1 t463 t466 t478 true l0_0 a0_1 a2_0 a2_1 a2_2) else ((laws_eqIntSS.f kj25 t478 t463).bind fun t496 => (if t496 = true then (laws_FnExactBlurredPairs.j1 kj25 l1 t463 t466 t478 (t481 != t466) l0_0 a0_1 a2_0 a2_1 a2_2) else (laws_FnExactBlurredPairs.j1 kj25 l1 t463 t466 t478 true l0_0 a0_1 a2_0 a2_1 a2_2)))))) = some r := by rw [if_pos rfl] at H; exact H
        clear H
        have H := H1
        clear H1
        replace H := Option.bind_eq_some_iff.mp H
        obtain ⟨⟨t492, t493⟩, A620, H⟩ := H
        (try dsimp only at H)
        have A62 := zm A620
        clear A620
        replace H := Option.bind_eq_some_iff.mp H
        obtain ⟨⟨t494, t495⟩, A630, H⟩ := H
        (try dsimp only at H)
        have A63 := zm A630
        clear A630
        have HC64 := zm H
        clear H
        try go_wp2
        have n0_ := zm (Kd.S_drew HO_8.out)
        have n1_ := zm (Kd.R_drew HO_11.out)
        have n2_ := zm (Kd.S_drew HO_12.out)
        have n3_ := zm (Kd.R_drew HO_472000.out)
        have n4_ := zm (blk_drew BK449.out)
        have n5_ := zm (blk_drew BK450.out)
        have n6_ := zm (blk_drew BK471.out)
        have n7_ := zm (below_drew1 HB.out)
        clear HO_8
        clear HO_11
        clear HO_12
        clear HO_472000
        clear BK449
        clear BK450
        clear BK471
        clear HB
        have HO_8 := n0_
        have HO_11 := n1_
        have HO_12 := n2_
        have HO_472000 := n3_
        have BK449 := n4_
        have BK450 := n5_
        have BK471 := n6_
        have HB := n7_
        clear n0_ n1_ n2_ n3_ n4_ n5_ n6_ n7_
        refine start_ (n := 5) (S := fun w' => w'.cell? ⟨gb471, 0, none⟩ = some (.slice Ao42 t467.length co42) ∧ w'.cell? ⟨gb471, 1, none⟩ = some (.int .i64 t470) ∧ w'.cell? ⟨gb449, 0, none⟩ = some (.slice A0_0 l0_0.length c0_0) ∧ w'.cell? ⟨gb449, 1, none⟩ = some (.int .i64 a0_1)) (ds := []) #[false, false, false, false, false] (by kernel_rfl) rfl rfl ⟨(blk_cell BK471.out 0).trans rfl, (blk_cell BK471.out 1).trans rfl, (blk_cell BK449.out 0).trans rfl, (blk_cell BK449.out 1).trans rfl⟩ (fun hHeld => ?_)
        generalize wc.drew = w65 at HO_8 HO_11 HO_12 HO_472000 BK449 BK450 BK471 HB hHeld ⊢
        refine take_ (i := 0) (N := some 60) (v := ?_) (a' := ?_) #[true, false, false, false, false] rfl rfl (by kernel_rfl) (fun _ _ _ h => h) (Or.inl ⟨by rfl, ?_⟩) hHeld ?_ ?_
        rotate_left
        ·
         rintro w' ⟨s0, s1, s2, s3⟩
         go_simp
         with_reducible rfl
        rotate_left
        ·
         simp only [Act.put, zA, zB, zD, i64_w, i32_w]
         rfl
        refine take_ (i := 1) (N := some 61) (v := ?_) (a' := ?_) #[true, true, false, false, false] rfl rfl (by kernel_rfl) (fun _ _ _ h => h) (Or.inl ⟨by rfl, ?_⟩) hHeld ?_ ?_
        rotate_left
        ·
         rintro w' ⟨s0, s1, s2, s3⟩
         go_simp
         with_reducible rfl
        rotate_left
        ·
         simp only [Act.put, zA, zB, zD, i64_w, i32_w]
         rfl
        refine one_ (i := 2) (N := some 62) #[true, true, true, false, false] rfl rfl (by kernel_rfl) (by decide) (fun K hK => ?_)
        refine goes_ Try.func24 (by kernel_rfl) rfl #[.agg #[.slice A0_0 l0_0.length c0_0, .int .i64 a0_1]] (by rfl) rfl rfl (by (try simp only [List.map_toArray, List.map_cons, List.map_nil]); first | done | rfl | (simp only [List.length_drop, List.length_take]; rfl)) ?_
        with_reducible refine (laws_toInstrument.calls kj25 _ _ l0_0 a0_1 t483 t486 _ ?side1 ?side2 A56.out).mono ?_
        (case side1 => repeat (first | exact (Kd.C_below HR0_0.out HB.out) | (with_reducible refine Kd.C_alloc ?_ _) | (with_reducible refine Kd.C_drewN ?_ _) | (with_reducible refine Kd.C_drew ?_)))
        (case side2 => exact HC0_0.out)
        rintro e w66 ⟨v484, rfl, ho0, hb⟩
        refine ⟨_, rfl, ?_⟩
        have n0_ := zm (Kd.S_elder' (by (with_reducible repeat (first | apply Kd.S_alloc | apply Kd.S_drewN | apply Kd.S_drew)); exact HO_8.out) (Kd.R_base ho0) hb)
        have n1_ := zm (Kd.R_below (by (with_reducible repeat (first | apply Kd.R_alloc | apply Kd.R_drewN | apply Kd.R_drew)); exact HO_11.out) hb)
        have n2_ := zm (Kd.S_elder' (by (with_reducible repeat (first | apply Kd.S_alloc | apply Kd.S_drewN | apply Kd.S_drew)); exact HO_12.out) (Kd.R_base ho0) hb)
        have n3_ := zm (Kd.R_elder' (by (with_reducible repeat (first | apply Kd.R_alloc | apply Kd.R_drewN | apply Kd.R_drew)); exact HO_472000.out) (Kd.R_base ho0) hb)
        have n4_ := zm (Kd.R_lower (Kd.R_new' ho0 (Kd.R_lt (by (with_reducible repeat (first | apply Kd.R_alloc | apply Kd.R_drewN | apply Kd.R_drew)); exact HO_472000.out))) (below_size zb))
        have n5_ := zm (blk_below (g := gb449) (o := .cells #[.slice A0_0 l0_0.length c0_0, .int .i64 a0_1] 40 (0, 0)) zk hb)
        have n6_ := zm (blk_below (g := gb450) (o := .cells #[.int .i64 a2_0, .int .i64 a2_1, .int .i64 a2_2] 24 (0, 0)) zk hb)
        have n7_ := zm (blk_below (g := gb471) (o := .cells #[.slice Ao42 t467.length co42, .int .i64 t470] 45 (0, 0)) zk hb)
        have n8_ := zm (below_step zb hb)
        clear HO_8
        clear HO_11
        clear HO_12
        clear HO_472000
        clear BK449
        clear BK450
        clear BK471
        clear HB
        have HO_8 := n0_
        have HO_11 := n1_
        have HO_12 := n2_
        have HO_472000 := n3_
        have HO485 := n4_
        have BK449 := n5_
        have BK450 := n6_
        have BK471 := n7_
        have HB := n8_
        clear n0_ n1_ n2_ n3_ n4_ n5_ n6_ n7_ n8_
        (try clear hb)
        (try clear hb2)
        (try clear hk)
        (try clear hi)
        (try clear ho0)
        obtain ⟨Ao67, co67, eo67⟩ := Kd.R_slice HO485.out
        (first | subst eo67 | (injection eo67 with f1_ f2_ f3_; have f4_ := f1_.symm; have f5_ := f3_.symm; clear f1_ f2_ f3_; subst f4_; subst f5_))
        refine hK.out _ _ ⟨(blk_cell BK471.out 0).trans rfl, (blk_cell BK471.out 1).trans rfl, (blk_cell BK449.out 0).trans rfl, (blk_cell BK449.out 1).trans rfl⟩ (fun hHeld => ?_)
        clear hK K
        refine norm_ (a' := ?_) ?_ ?_
        rotate_left
        ·
         show Act.put _ (some 62) _ = _
         simp only [Act.put, zA, zB, zD, i64_w, i32_w]
         rfl
        refine one_ (i := 3) (N := some 63) #[true, true, true, true, false] rfl rfl (by kernel_rfl) (by decide) (fun K hK => ?_)
        refine goes_ Try.func27 (by kernel_rfl) rfl #[.agg #[.slice Ao42 t467.length co42, .int .i64 t470], .agg #[.slice Ao67 t483.length co67, .int .i64 t486]] (by rfl) rfl rfl (by (try simp only [List.map_toArray, List.map_cons, List.map_nil]); first | done | rfl | (simp only [List.length_drop, List.length_take]; rfl)) ?_
        with_reducible refine (laws_eqInstrument.calls kj25 _ _ t467 t470 _ _ t483 t486 true _ ?side1 ?side2 ?side3 ?side4 A57.out).mono ?_
        (case side1 => repeat (first | exact (Kd.R_reads' HO_472000.out).2.2 | (with_reducible refine Kd.C_alloc ?_ _) | (with_reducible refine Kd.C_drewN ?_ _) | (with_reducible refine Kd.C_drew ?_)))
        (case side2 => exact (Kd.R_reads' HO_472000.out).2.1)
        (case side3 => repeat (first | exact (Kd.R_reads' HO485.out).2.2 | (with_reducible refine Kd.C_alloc ?_ _) | (with_reducible refine Kd.C_drewN ?_ _) | (with_reducible refine Kd.C_drew ?_)))
        (case side4 => exact (Kd.R_reads' HO485.out).2.1)
        rintro e w68 ⟨rfl, hb⟩
        refine ⟨_, rfl, ?_⟩
        have n0_ := zm (Kd.S_below (by (with_reducible repeat (first | apply Kd.S_alloc | apply Kd.S_drewN | apply Kd.S_drew)); exact HO_8.out) hb)
        have n1_ := zm (Kd.R_below (by (with_reducible repeat (first | apply Kd.R_alloc | apply Kd.R_drewN | apply Kd.R_drew)); exact HO_11.out) hb)
        have n2_ := zm (Kd.S_below (by (with_reducible repeat (first | apply Kd.S_alloc | apply Kd.S_drewN | apply Kd.S_drew)); exact HO_12.out) hb)
        have n3_ := zm (Kd.R_below (by (with_reducible repeat (first | apply Kd.R_alloc | apply Kd.R_drewN | apply Kd.R_drew)); exact HO_472000.out) hb)
        have n4_ := zm (Kd.R_below (by (with_reducible repeat (first | apply Kd.R_alloc | apply Kd.R_drewN | apply Kd.R_drew)); exact HO485.out) hb)
        have n5_ := zm (blk_below (g := gb449) (o := .cells #[.slice A0_0 l0_0.length c0_0, .int .i64 a0_1] 40 (0, 0)) zk hb)
        have n6_ := zm (blk_below (g := gb450) (o := .cells #[.int .i64 a2_0, .int .i64 a2_1, .int .i64 a2_2] 24 (0, 0)) zk hb)
        have n7_ := zm (blk_below (g := gb471) (o := .cells #[.slice Ao42 t467.length co42, .int .i64 t470] 45 (0, 0)) zk hb)
        have n8_ := zm (below_step zb hb)
        clear HO_8
        clear HO_11
        clear HO_12
        clear HO_472000
        clear HO485
        clear BK449
        clear BK450
        clear BK471
        clear HB
        have HO_8 := n0_
        have HO_11 := n1_
        have HO_12 := n2_
        have HO_472000 := n3_
        have HO485 := n4_
        have BK449 := n5_
        have BK450 := n6_
        have BK471 := n7_
        have HB := n8_
        clear n0_ n1_ n2_ n3_ n4_ n5_ n6_ n7_ n8_
        (try clear hb)
        (try clear hb2)
        (try clear hk)
        (try clear hi)
        refine hK.out _ _ ⟨(blk_cell BK471.out 0).trans rfl, (blk_cell BK471.out 1).trans rfl, (blk_cell BK449.out 0).trans rfl, (blk_cell BK449.out 1).trans rfl⟩ (fun hHeld => ?_)
        clear hK K
        refine norm_ (a' := ?_) ?_ ?_
        rotate_left
        ·
         show Act.put _ (some 63) _ = _
         simp only [Act.put, zA, zB, zD, i64_w, i32_w]
         rfl
        refine pure_ (i := 4) (N := some 64) (v := ?_) (a' := ?_) #[true, true, true, true, true] rfl rfl (by kernel_rfl) (fun _ _ _ h => h) (Or.inl ⟨by rfl, ?_⟩) ?_ ?_
        rotate_left
        ·
         intro w'
         go_simp
         with_reducible rfl
        rotate_left
        ·
         simp only [Act.put, zA, zB, zD, i64_w, i32_w]
         rfl
        refine done_ (by kernel_rfl) ?_
        go_upto_region 21 with (first | ((with_reducible refine gate_callee (f := 25) rfl ?_); refine goesA_ (some 67) Try.func25 #[.slice A1 l1.length c1] rfl ?_; (with_reducible refine (laws_toHoleS.calls kj25 _ _ l1 t488 _ ?side1 ?side2 A59.out).mono ?_); (case side1 => repeat (first | exact (Kd.C_below HR1.out HB.out) | (with_reducible refine Kd.C_alloc ?_ _) | (with_reducible refine Kd.C_drewN ?_ _) | (with_reducible refine Kd.C_drew ?_))); (case side2 => exact HC1.out); rintro e w69 ⟨v489, rfl, ho0, hb⟩; refine ⟨_, rfl, ?_⟩; have n0_ := zm (Kd.S_below (by (with_reducible repeat (first | apply Kd.S_alloc | apply Kd.S_drewN | apply Kd.S_drew)); exact HO_8.out) hb); have n1_ := zm (Kd.R_elder' (by (with_reducible repeat (first | apply Kd.R_alloc | apply Kd.R_drewN | apply Kd.R_drew)); exact HO_11.out) (Kd.R_base ho0) hb); have n2_ := zm (Kd.S_below (by (with_reducible repeat (first | apply Kd.S_alloc | apply Kd.S_drewN | apply Kd.S_drew)); exact HO_12.out) hb); have n3_ := zm (Kd.R_below (by (with_reducible repeat (first | apply Kd.R_alloc | apply Kd.R_drewN | apply Kd.R_drew)); exact HO_472000.out) hb); have n4_ := zm (Kd.R_below (by (with_reducible repeat (first | apply Kd.R_alloc | apply Kd.R_drewN | apply Kd.R_drew)); exact HO485.out) hb); have n5_ := zm (Kd.R_lower (Kd.R_new' ho0 (Kd.R_lt (by (with_reducible repeat (first | apply Kd.R_alloc | apply Kd.R_drewN | apply Kd.R_drew)); exact HO_11.out))) (below_size zb)); have n6_ := zm (blk_below (g := gb449) (o := .cells #[.slice A0_0 l0_0.length c0_0, .int .i64 a0_1] 40 (0, 0)) zk hb); have n7_ := zm (blk_below (g := gb450) (o := .cells #[.int .i64 a2_0, .int .i64 a2_1, .int .i64 a2_2] 24 (0, 0)) zk hb); have n8_ := zm (blk_below (g := gb471) (o := .cells #[.slice Ao42 t467.length co42, .int .i64 t470] 45 (0, 0)) zk hb); have n9_ := zm (below_step zb hb); clear HO_8; clear HO_11; clear HO_12; clear HO_472000; clear HO485; clear BK449; clear BK450; clear BK471; clear HB; have HO_8 := n0_; have HO_11 := n1_; have HO_12 := n2_; have HO_472000 := n3_; have HO485 := n4_; have HO490 := n5_; have BK449 := n6_; have BK450 := n7_; have BK471 := n8_; have HB := n9_; clear n0_ n1_ n2_ n3_ n4_ n5_ n6_ n7_ n8_ n9_; (try clear hb); (try clear hb2); (try clear hk); (try clear hi); (try clear ho0); obtain ⟨Ao70, co70, eo70⟩ := Kd.R_slice HO490.out; subst eo70) | ((with_reducible refine gate_callee (f := 28) rfl ?_); refine goesA_ (some 68) Try.func28 #[.slice Ao49 t472.length co49, .slice Ao70 t488.length co70] rfl ?_; (with_reducible refine (laws_eqHoleS.calls kj25 _ _ t472 _ _ t488 true _ ?side1 ?side2 ?side3 ?side4 A60.out).mono ?_); (case side1 => repeat (first | exact (Kd.R_reads' HO_11.out).2.2 | (with_reducible refine Kd.C_alloc ?_ _) | (with_reducible refine Kd.C_drewN ?_ _) | (with_reducible refine Kd.C_drew ?_))); (case side2 => exact (Kd.R_reads' HO_11.out).2.1); (case side3 => repeat (first | exact (Kd.R_reads' HO490.out).2.2 | (with_reducible refine Kd.C_alloc ?_ _) | (with_reducible refine Kd.C_drewN ?_ _) | (with_reducible refine Kd.C_drew ?_))); (case side4 => exact (Kd.R_reads' HO490.out).2.1); rintro e w71 ⟨rfl, hb⟩; refine ⟨_, rfl, ?_⟩; have n0_ := zm (Kd.S_below (by (with_reducible repeat (first | apply Kd.S_alloc | apply Kd.S_drewN | apply Kd.S_drew)); exact HO_8.out) hb); have n1_ := zm (Kd.R_below (by (with_reducible repeat (first | apply Kd.R_alloc | apply Kd.R_drewN | apply Kd.R_drew)); exact HO_11.out) hb); have n2_ := zm (Kd.S_below (by (with_reducible repeat (first | apply Kd.S_alloc | apply Kd.S_drewN | apply Kd.S_drew)); exact HO_12.out) hb); have n3_ := zm (Kd.R_below (by (with_reducible repeat (first | apply Kd.R_alloc | apply Kd.R_drewN | apply Kd.R_drew)); exact HO_472000.out) hb); have n4_ := zm (Kd.R_below (by (with_reducible repeat (first | apply Kd.R_alloc | apply Kd.R_drewN | apply Kd.R_drew)); exact HO485.out) hb); have n5_ := zm (Kd.R_below (by (with_reducible repeat (first | apply Kd.R_alloc | apply Kd.R_drewN | apply Kd.R_drew)); exact HO490.out) hb); have n6_ := zm (blk_below (g := gb449) (o := .cells #[.slice A0_0 l0_0.length c0_0, .int .i64 a0_1] 40 (0, 0)) zk hb); have n7_ := zm (blk_below (g := gb450) (o := .cells #[.int .i64 a2_0, .int .i64 a2_1, .int .i64 a2_2] 24 (0, 0)) zk hb); have n8_ := zm (blk_below (g := gb471) (o := .cells #[.slice Ao42 t467.length co42, .int .i64 t470] 45 (0, 0)) zk hb); have n9_ := zm (below_step zb hb); clear HO_8; clear HO_11; clear HO_12; clear HO_472000; clear HO485; clear HO490; clear BK449; clear BK450; clear BK471; clear HB; have HO_8 := n0_; have HO_11 := n1_; have HO_12 := n2_; have HO_472000 := n3_; have HO485 := n4_; have HO490 := n5_; have BK449 := n6_; have BK450 := n7_; have BK471 := n8_; have HB := n9_; clear n0_ n1_ n2_ n3_ n4_ n5_ n6_ n7_ n8_ n9_; (try clear hb); (try clear hb2); (try clear hk); (try clear hi); have hnb72 := NB471_449.out; have hnc72 := NB449_471.out; have hnb73 := NB471_450.out; have hnc73 := NB450_471.out; obtain ⟨hcz74_0, hcz74_1, hfz74_0, hfz74_1⟩ := zc2 BK471.out) | ((with_reducible refine gate_callee (f := 29) rfl ?_); refine goesA_ (some 72) Try.func29 #[.agg #[.slice Ao42 t467.length co42, .int .i64 t470], .int .i64 1] rfl ?_; (with_reducible refine (laws_markInstrument.calls kj25 (fun k_ => some k_ = (.slice Ao42 t467.length co42 : Value).ownBlock) (.slice Ao42 t467.length co42) t467 t470 1 t492 t493 w _ ?side1 ?side2 A62.out).mono ?_); (case side1 => repeat (first | (with_reducible first | exact HB.out | apply below_alloc | apply pw_below_drewN | apply below_drew1 | refine below_set ?_ GE449.out | refine below_set ?_ GE450.out | refine below_set ?_ GE471.out) | exact HB.out)); (case side2 => exact Kd.R_tight rfl HO_472000.out); rintro e w75 ⟨rfl, hy0, hb, hkp⟩; refine ⟨_, rfl, ?_⟩; have n0_ := zm (Kd.S_mono (ok' := fun k_ => k_ < NG ∧ some k_ ≠ (.slice Ao42 t467.length co42 : Value).ownBlock ∧ some k_ ≠ (.slice Ao67 t483.length co67 : Value).ownBlock) (Kd.S_keptB (HO_8.out) hkp (fun k_ hk_ hs_ => (hk_.1.2) hs_)) (fun k_ hk_ => ⟨hk_.1.1.1, hk_.1.1.2, hk_.1.2⟩)); have n1_ := zm (Kd.R_mono (ok' := fun k_ => some k_ ≠ (.slice Ao70 t488.length co70 : Value).ownBlock) (Kd.R_keptB ((Kd.R_apart' HO_11.out (Kd.R_typed HO_472000.out) (by decide))) hkp (fun k_ hk_ hs_ => (hk_.2) hs_)) (fun k_ hk_ => hk_.1.1.2)); have n2_ := zm (Kd.S_mono (ok' := fun k_ => NG ≤ k_ ∧ some k_ ≠ (.slice Ao42 t467.length co42 : Value).ownBlock ∧ some k_ ≠ (.slice Ao67 t483.length co67 : Value).ownBlock) (Kd.S_keptB (HO_12.out) hkp (fun k_ hk_ hs_ => (hk_.1.2) hs_)) (fun k_ hk_ => ⟨hk_.1.1.1, hk_.1.1.2, hk_.1.2⟩)); have n3_ := zm (Kd.R_reok rfl hy0 (fun k_ e_ => HO_472000.out.1 k_ e_)); have n4_ := zm (blk_kept (g := gb449) (o := .cells #[.slice A0_0 l0_0.length c0_0, .int .i64 a0_1] 40 (0, 0)) zk hkp (fun hs_ => (fun e_ => (Kd.R_ne HO_472000.out BK449.out (by decide)) e_) hs_)); have n5_ := zm (blk_kept (g := gb450) (o := .cells #[.int .i64 a2_0, .int .i64 a2_1, .int .i64 a2_2] 24 (0, 0)) zk hkp (fun hs_ => (fun e_ => (Kd.R_ne HO_472000.out BK450.out (by decide)) e_) hs_)); have n6_ := zm (blk_kept (g := gb471) (o := .cells #[.slice Ao42 t467.length co42, .int .i64 t470] 45 (0, 0)) zk hkp (fun hs_ => (fun e_ => (Kd.R_ne HO_472000.out BK471.out (by decide)) e_) hs_)); have n7_ := zm (Kd.R_mono (ok' := fun k_ => some k_ ≠ (.slice Ao42 t467.length co42 : Value).ownBlock) (Kd.R_keptB (HO485.out) hkp (fun k_ hk_ hs_ => (hk_.2) hs_)) (fun k_ hk_ => hk_.1.2)); have n8_ := zm (Kd.R_mono (ok' := fun k_ => some k_ ≠ (.slice Ao49 t472.length co49 : Value).ownBlock) (Kd.R_keptB ((Kd.R_apart' HO490.out (Kd.R_typed HO_472000.out) (by decide))) hkp (fun k_ hk_ hs_ => (hk_.2) hs_)) (fun k_ hk_ => hk_.1.1.2)); have n9_ := zm (hb); clear HO_8; clear HO_11; clear HO_12; clear HO_472000; clear BK449; clear BK450; clear BK471; clear HO485; clear HO490; clear HB; have HO_8 := n0_; have HO_11 := n1_; have HO_12 := n2_; have HO_472000 := n3_; have BK449 := n4_; have BK450 := n5_; have BK471 := n6_; have HO485 := n7_; have HO490 := n8_; have HB := n9_; clear n0_ n1_ n2_ n3_ n4_ n5_ n6_ n7_ n8_ n9_; (try clear hb); (try clear hkp); (try clear hy0)) | ((with_reducible refine gate_callee (f := 30) rfl ?_); refine goesA_ (some 75) Try.func30 #[.slice Ao49 t472.length co49, .int .i64 t492] rfl ?_; (with_reducible refine (laws_markHoleS.calls kj25 (fun k_ => some k_ = (.slice Ao49 t472.length co49 : Value).ownBlock) (.slice Ao49 t472.length co49) t472 t492 t494 t495 w _ ?side1 ?side2 A63.out).mono ?_); (case side1 => repeat (first | (with_reducible first | exact HB.out | apply below_alloc | apply pw_below_drewN | apply below_drew1 | refine below_set ?_ GE449.out | refine below_set ?_ GE450.out | refine below_set ?_ GE471.out) | exact HB.out)); (case side2 => exact Kd.R_tight rfl HO_11.out); rintro e w76 ⟨rfl, hy0, hb, hkp⟩; refine ⟨_, rfl, ?_⟩; have n0_ := zm (Kd.S_mono (ok' := fun k_ => k_ < NG ∧ some k_ ≠ (.slice Ao42 t467.length co42 : Value).ownBlock ∧ some k_ ≠ (.slice Ao67 t483.length co67 : Value).ownBlock) (Kd.S_keptB ((Kd.S_apart' HO_8.out (Kd.R_typed HO_11.out) (by decide))) hkp (fun k_ hk_ hs_ => (hk_.2) hs_)) (fun k_ hk_ => ⟨hk_.1.1.1, hk_.1.1.2.1, hk_.1.1.2.2⟩)); have n1_ := zm (Kd.R_reok rfl hy0 (fun k_ e_ => HO_11.out.1 k_ e_)); have n2_ := zm (Kd.S_mono (ok' := fun k_ => NG ≤ k_ ∧ some k_ ≠ (.slice Ao42 t467.length co42 : Value).ownBlock ∧ some k_ ≠ (.slice Ao67 t483.length co67 : Value).ownBlock) (Kd.S_keptB ((Kd.S_apart' HO_12.out (Kd.R_typed HO_11.out) (by decide))) hkp (fun k_ hk_ hs_ => (hk_.2) hs_)) (fun k_ hk_ => ⟨hk_.1.1.1, hk_.1.1.2.1, hk_.1.1.2.2⟩)); have n3_ := zm (Kd.R_mono (ok' := fun k_ => some k_ ≠ (.slice Ao67 t483.length co67 : Value).ownBlock) (Kd.R_keptB ((Kd.R_apart' HO_472000.out (Kd.R_typed HO_11.out) (by decide))) hkp (fun k_ hk_ hs_ => (hk_.2) hs_)) (fun k_ hk_ => hk_.1.1.2)); have n4_ := zm (blk_kept (g := gb449) (o := .cells #[.slice A0_0 l0_0.length c0_0, .int .i64 a0_1] 40 (0, 0)) zk hkp (fun hs_ => (fun e_ => (Kd.R_ne HO_11.out BK449.out (by decide)) e_) hs_)); have n5_ := zm (blk_kept (g := gb450) (o := .cells #[.int .i64 a2_0, .int .i64 a2_1, .int .i64 a2_2] 24 (0, 0)) zk hkp (fun hs_ => (fun e_ => (Kd.R_ne HO_11.out BK450.out (by decide)) e_) hs_)); have n6_ := zm (blk_kept (g := gb471) (o := .cells #[.slice Ao42 t467.length co42, .int .i64 t470] 45 (0, 0)) zk hkp (fun hs_ => (fun e_ => (Kd.R_ne HO_11.out BK471.out (by decide)) e_) hs_)); have n7_ := zm (Kd.R_mono (ok' := fun k_ => some k_ ≠ (.slice Ao42 t467.length co42 : Value).ownBlock) (Kd.R_keptB ((Kd.R_apart' HO485.out (Kd.R_typed HO_11.out) (by decide))) hkp (fun k_ hk_ hs_ => (hk_.2) hs_)) (fun k_ hk_ => hk_.1.1)); have n8_ := zm (Kd.R_mono (ok' := fun k_ => some k_ ≠ (.slice Ao49 t472.length co49 : Value).ownBlock) (Kd.R_keptB (HO490.out) hkp (fun k_ hk_ hs_ => (hk_) hs_)) (fun k_ hk_ => hk_.1)); have n9_ := zm (hb); clear HO_8; clear HO_11; clear HO_12; clear HO_472000; clear BK449; clear BK450; clear BK471; clear HO485; clear HO490; clear HB; have HO_8 := n0_; have HO_11 := n1_; have HO_12 := n2_; have HO_472000 := n3_; have BK449 := n4_; have BK450 := n5_; have BK471 := n6_; have HO485 := n7_; have HO490 := n8_; have HB := n9_; clear n0_ n1_ n2_ n3_ n4_ n5_ n6_ n7_ n8_ n9_; (try clear hb); (try clear hkp); (try clear hy0)))
        (try simp only [Act.put, List.setIfInBounds_toArray, List.set_cons_zero, List.set_cons_succ])
        go_cut [88] (fun v88 wc => ∃ (kq : Nat) (x88_63 : Bool), v88 = .bool x88_63 ∧ Aside0 (laws_FnExactBlurredPairs.j1 kq l1 t463 t466 t478 x88_63 l0_0 a0_1 a2_0 a2_1 a2_2 = some r) ∧ Aside0 (kq ≤ kj25) ∧ Aside0 (Kd.S (Kd.slice 3 (Kd.int .i64)) 38 wc w.heap.size (fun k_ => k_ < NG ∧ some k_ ≠ ((.slice Ao42 t467.length co42) : Value).ownBlock) v464 t463) ∧ Aside0 (Kd.S (Kd.slice 3 (Kd.int .i64)) 38 wc w.heap.size (fun k_ => NG ≤ k_ ∧ some k_ ≠ ((.slice Ao42 t467.length co42) : Value).ownBlock) v479 t478) ∧ Aside0 (Kd.R (Kd.int .i64) 3 wc w.heap.size (fun _ => True) (.slice Ao42 t467.length co42) t493) ∧ Aside0 (wc.heap[gb449]? = some (.cells #[(.slice A0_0 l0_0.length c0_0), .int .i64 a0_1] 40 (0, 0))) ∧ Aside0 (wc.heap[gb450]? = some (.cells #[.int .i64 a2_0, .int .i64 a2_1, .int .i64 a2_2] 24 (0, 0))) ∧ Aside0 (wc.heap[gb471]? = some (.cells #[(.slice Ao42 t467.length co42), .int .i64 t470] 45 (0, 0))) ∧ Aside0 (Below w.heap.size w wc))
        case first =>
         have H := HC64.out
         clear HC64
         by_cases c77 : t494 < 0
         ·
          rw [if_pos c77] at H
          have c77b0 : decide (t494 < 0) = true := decide_eq_true c77
          clear c77
          (first | rw [c77b0] | (simp only [i64_w, i32_w]; rw [c77b0]) | skip)
          exact (laws_FnExactBlurredPairs.j1_t (H.trans (congrArg some hr_))).elim
         ·
          rw [if_neg c77] at H
          have c77b0 : decide (t494 < 0) = false := decide_eq_false c77
          clear c77
          (first | rw [c77b0] | (simp only [i64_w, i32_w]; rw [c77b0]) | skip)
          replace H := Option.bind_eq_some_iff.mp H
          obtain ⟨t496, A780, H⟩ := H
          (try dsimp only at H)
          have A78 := zm A780
          clear A780
          by_cases c79 : t496 = true
          ·
           subst c79
           have H1 : (laws_FnExactBlurredPairs.j1 kj25 l1 t463 t466 t478 (t481 != t466) l0_0 a0_1 a2_0 a2_1 a2_2) = some r := by rw [if_pos rfl] at H; exact H
           clear H
           have H := H1
           clear H1
           have H' := zm H
           clear H
           obtain ⟨Ao80, co80, eo80⟩ := Kd.S_slice HO_12.out
           subst eo80
           obtain ⟨Ao81, co81, eo81⟩ := Kd.S_slice HO_8.out
           subst eo81
           go_wp2_with (first | (go_at_call 16; (with_reducible refine (laws_eqIntSS.calls kj25 _ _ t478 _ _ t463 true _ ?side1 ?side2 ?side3 ?side4 A78.out).mono ?_); (case side1 => repeat (first | exact (Kd.S_reads' HO_12.out).2.2 | (with_reducible refine Kd.C_alloc ?_ _) | (with_reducible refine Kd.C_drewN ?_ _) | (with_reducible refine Kd.C_drew ?_))); (case side2 => exact (Kd.S_reads' HO_12.out).2.1); (case side3 => repeat (first | exact (Kd.S_reads' HO_8.out).2.2 | (with_reducible refine Kd.C_alloc ?_ _) | (with_reducible refine Kd.C_drewN ?_ _) | (with_reducible refine Kd.C_drew ?_))); (case side4 => exact (Kd.S_reads' HO_8.out).2.1); rintro e w' ⟨rfl, ⟨nd, rfl⟩⟩))
           go_meet
           case rel => exact ⟨_, ((t481 != t466)), (by first | rfl | (simp; done) | (simp [*]; done)), H', ⟨by have := HJ25.out; first | omega | exact Nat.le_refl _⟩, ⟨by (with_reducible repeat (first | apply Kd.S_alloc | apply Kd.S_drewN | apply Kd.S_drew)); exact Kd.S_mono HO_8.out (fun _ hk => ⟨hk.1, hk.2.1⟩)⟩, ⟨by (with_reducible repeat (first | apply Kd.S_alloc | apply Kd.S_drewN | apply Kd.S_drew)); exact Kd.S_mono HO_12.out (fun _ hk => ⟨hk.1, hk.2.1⟩)⟩, ⟨by (with_reducible repeat (first | apply Kd.R_alloc | apply Kd.R_drewN | apply Kd.R_drew)); exact Kd.R_mono HO_472000.out (fun _ hk => trivial)⟩, ⟨zk⟩, ⟨zk⟩, ⟨zk⟩, ⟨zb⟩⟩
          ·
           replace c79 := Bool.eq_false_iff.mpr c79
           subst c79
           have H1 : (laws_FnExactBlurredPairs.j1 kj25 l1 t463 t466 t478 true l0_0 a0_1 a2_0 a2_1 a2_2) = some r := by rw [if_neg (show ¬ (false = true) by decide)] at H; exact H
           clear H
           have H := H1
           clear H1
           exact (laws_FnExactBlurredPairs.j1_t (H.trans (congrArg some hr_))).elim
        case rest =>
         clear HC64
         (try clear c1); (try clear c2); (try clear p2); (try clear c3); (try clear c4); (try clear c5); (try clear c5b0); (try clear c6); (try clear c7); (try clear c8); (try clear c12); (try clear c12b0); (try clear c14); (try clear c15); (try clear c16); (try clear c21); (try clear c22); (try clear c23); (try clear c24); (try clear c25); (try clear c26); (try clear c27); (try clear c28); (try clear c29); (try clear c30); (try clear c43); (try clear c44); (try clear c52); (try clear c55); (try clear c58); (try clear c61); (try clear c72); (try clear c73); (try clear c77); (try clear c77b0); (try clear c79); (try clear hcz16_0); (try clear hcz16_1); (try clear hcz30_0); (try clear hcz30_1); (try clear hcz39_0); (try clear hcz39_1); (try clear hcz45_0); (try clear hcz45_1); (try clear hcz74_0); (try clear hcz74_1); (try clear hcz9_0); (try clear hcz9_1); (try clear hfz16_0); (try clear hfz16_1); (try clear hfz30_0); (try clear hfz30_1); (try clear hfz39_0); (try clear hfz39_1); (try clear hfz45_0); (try clear hfz45_1); (try clear hfz74_0); (try clear hfz74_1); (try clear hfz9_0); (try clear hfz9_1); (try clear p2)
         obtain ⟨kq, x88_63, rfl, HA, HJ63, HO_8, HO_12, HO_472000, BK449, BK450, BK471, HB⟩ := hcut
         have hl472000_63 := (Kd.R_reads' HO_472000.out).1
         rw [hl472000_63] at HO_472000
         (try simp only [hl472000_63])
         (try simp only [hl472000_63] at BK449)
         (try simp only [hl472000_63] at BK450)
         (try simp only [hl472000_63] at BK471)
         (try simp only [hl472000_63] at HO_8)
         (try simp only [hl472000_63] at HO_12)
         cases kq with
         | zero => exact absurd HA.out (by simp [laws_FnExactBlurredPairs.j1])
         | succ kj63 =>
          have H := HA.out
          clear HA
          simp only [laws_FnExactBlurredPairs.j1] at H
          by_cases c82 : x88_63 = true
          ·
           subst c82
           have H1 : (some false) = some r := by rw [if_pos rfl] at H; exact H
           clear H
           have H := H1
           clear H1
           exact absurd ((Option.some.inj H).trans hr_) (by decide)
          ·
           replace c82 := Bool.eq_false_iff.mpr c82
           subst c82
           have H1 : ((laws_markIntSS.f kj63 t478 1).bind fun bt497 => ((laws_heldIntSS.f kj63 bt497.2 1).bind fun t499 => (if t499 < 0 then (some false) else (if t499 = bt497.1 then ((laws_toInstrument.f kj63 l0_0 a0_1).bind fun bt500 => ((laws_toHoleS.f kj63 l1).bind fun t504 => ((laws_toAction.f a2_0 a2_1 a2_2).bind fun bt507 => ((impl_BlurredPairs.f kj63 bt500.1 bt500.2 t504 bt507.1 bt507.2.1 bt507.2.2).bind fun bt510 => ((laws_eqIntSS.f kj63 bt510.1 t463).bind fun t514 => (if t514 = true then (laws_FnExactBlurredPairs.j2 kj63 bt497.2 bt497.1 (bt510.2 != t466)) else (laws_FnExactBlurredPairs.j2 kj63 bt497.2 bt497.1 true))))))) else (some false))))) = some r := by rw [if_neg (show ¬ (false = true) by decide)] at H; exact H
           clear H
           have H := H1
           clear H1
           replace H := Option.bind_eq_some_iff.mp H
           obtain ⟨⟨t497, t498⟩, A830, H⟩ := H
           (try dsimp only at H)
           have A83 := zm A830
           clear A830
           replace H := Option.bind_eq_some_iff.mp H
           obtain ⟨t499, A840, H⟩ := H
           (try dsimp only at H)
           have A84 := zm A840
           clear A840
           by_cases c85 : t499 < 0
           ·
            rw [if_pos c85] at H
            have c85b0 : decide (t499 < 0) = true := decide_eq_true c85
            clear c85
            exact absurd ((Option.some.inj H).trans hr_) (by decide)
           ·
            rw [if_neg c85] at H
            have c85b0 : decide (t499 < 0) = false := decide_eq_false c85
            clear c85
            by_cases c86 : t499 = t497
            ·
             rw [if_pos c86] at H
             have c86b0 : (t499 == t497) = true := beq_iff_eq.mpr c86
             have c86b1 : (t499 != t497) = false := bne_eq_false_iff_eq.mpr c86
             clear c86
             replace H := Option.bind_eq_some_iff.mp H
             obtain ⟨⟨t500, t503⟩, A870, H⟩ := H
             (try dsimp only at H)
             have A87 := zm A870
             clear A870
             replace H := Option.bind_eq_some_iff.mp H
             obtain ⟨t504, A880, H⟩ := H
             (try dsimp only at H)
             have A88 := zm A880
             clear A880
             replace H := Option.bind_eq_some_iff.mp H
             obtain ⟨⟨t507, t508, t509⟩, A890, H⟩ := H
             (try dsimp only at H)
             have A89 := zm A890
             clear A890
             replace H := Option.bind_eq_some_iff.mp H
             obtain ⟨⟨t510, t513⟩, A900, H⟩ := H
             (try dsimp only at H)
             have A90 := zm A900
             clear A900
             have HC91 := zm H
             clear H
             obtain ⟨Ao92, co92, eo92⟩ := Kd.S_slice HO_12.out
             subst eo92
             try go_wp2_with (first | ((with_reducible refine gate_callee (f := 19) rfl ?_); refine goesA_ (some 91) Try.func19 #[.slice Ao92 t478.length co92, .int .i64 1] rfl ?_; (with_reducible refine (laws_markIntSS.calls kj63 (fun k_ => NG ≤ k_ ∧ some k_ ≠ ((.slice Ao42 t467.length co42) : Value).ownBlock) (.slice Ao92 t478.length co92) t478 1 t497 t498 w _ ?side1 ?side2 A83.out).mono ?_); (case side1 => repeat (first | (with_reducible first | exact HB.out | apply below_alloc | apply pw_below_drewN | apply below_drew1 | refine below_set ?_ GE449.out | refine below_set ?_ GE450.out | refine below_set ?_ GE471.out) | exact HB.out)); (case side2 => exact Kd.S_mono HO_12.out (fun k_ hk_ => ⟨hk_.1, fun e_ => hk_.2 (zO e_)⟩)); rintro e w93 ⟨rfl, hy0, hb, hkp⟩; refine ⟨_, rfl, ?_⟩; have n0_ := zm (Kd.S_mono (ok' := fun k_ => some k_ ≠ (.slice Ao92 t478.length co92 : Value).ownBlock ∧ some k_ ≠ (.slice Ao42 t493.length co42 : Value).ownBlock) (Kd.S_keptB (HO_8.out) hkp (fun k_ hk_ hs_ => absurd hs_.1 (Nat.not_le.2 hk_.1))) (fun k_ hk_ => ⟨fun e_ => absurd (((Kd.S_R HO_12.out).1 k_ e_.symm).1) (Nat.not_le.2 hk_.1.1), fun e_ => hk_.1.2 (zO e_)⟩)); have n1_ := zm (Kd.S_mono (ok' := fun k_ => some k_ ≠ (v464 : Value).ownBlock ∧ some k_ ≠ (.slice Ao42 t493.length co42 : Value).ownBlock) hy0 (fun k_ hk_ => ⟨fun e_ => hk_.elim (fun h_ => absurd (((Kd.S_R HO_8.out).1 k_ e_.symm).1) (Nat.not_lt.2 h_.1)) (fun h_ => absurd (Kd.S_lt HO_8.out k_ e_.symm) (Nat.not_lt.2 h_)), fun e_ => hk_.elim (fun h_ => h_.2 (zO e_)) (fun h_ => absurd (Kd.R_lt HO_472000.out k_ (zO e_).symm) (Nat.not_lt.2 h_))⟩)); have n2_ := zm (Kd.R_mono (ok' := fun k_ => True) (Kd.R_keptB (Kd.R_tight rfl HO_472000.out) hkp (fun k_ hk_ hs_ => hs_.2 (zO hk_))) (fun k_ hk_ => trivial)); have n3_ := zm (blk_kept (g := gb449) (o := .cells #[.slice A0_0 l0_0.length c0_0, .int .i64 a0_1] 40 (0, 0)) zk hkp (fun hs_ => absurd hs_.1 (Nat.not_le.2 HGgb449.out))); have n4_ := zm (blk_kept (g := gb450) (o := .cells #[.int .i64 a2_0, .int .i64 a2_1, .int .i64 a2_2] 24 (0, 0)) zk hkp (fun hs_ => absurd hs_.1 (Nat.not_le.2 HGgb450.out))); have n5_ := zm (blk_kept (g := gb471) (o := .cells #[.slice Ao42 t493.length co42, .int .i64 t470] 45 (0, 0)) zk hkp (fun hs_ => absurd hs_.1 (Nat.not_le.2 HGgb471.out))); have n6_ := zm (hb); clear HO_8; clear HO_12; clear HO_472000; clear BK449; clear BK450; clear BK471; clear HB; have HO_8 := n0_; have HO_12 := n1_; have HO_472000 := n2_; have BK449 := n3_; have BK450 := n4_; have BK471 := n5_; have HB := n6_; clear n0_ n1_ n2_ n3_ n4_ n5_ n6_; (try clear hb); (try clear hkp); (try clear hy0)) | ((with_reducible refine gate_callee (f := 20) rfl ?_); refine goesL_ (some 94) rfl rfl Try.func20 (by kernel_rfl) rfl #[.slice Ao92 t498.length co92, .int .i64 1] rfl (by (try simp only [List.map_toArray, List.map_cons, List.map_nil]); first | done | (rw [show t498.length = t478.length from (Kd.S_reads' HO_12.out).1.symm] <;> rfl) | rfl | (simp only [List.length_drop, List.length_take]; rfl)) ?_; (with_reducible refine (laws_heldIntSS.calls kj63 _ _ t498 1 t499 _ ?side1 ?side2 A84.out).mono ?_); (case side1 => repeat (first | exact (Kd.S_reads' HO_12.out).2.2 | (with_reducible refine Kd.C_alloc ?_ _) | (with_reducible refine Kd.C_drewN ?_ _) | (with_reducible refine Kd.C_drew ?_))); (case side2 => rw [show t498.length = t478.length from (Kd.S_reads' HO_12.out).1.symm]; exact (Kd.S_reads' HO_12.out).2.1); rintro e w' ⟨rfl, ⟨nd, rfl⟩⟩; refine ⟨_, rfl, ?_⟩))
             (try (rw [drewN_self w93]; generalize hq_ : World.drewN w93 _ = w93; have n0_ : Aside0 (Kd.S (Kd.slice 3 (Kd.int .i64)) 38 w93 w.heap.size (fun k_ => some k_ ≠ (.slice Ao42 t493.length co42 : Value).ownBlock ∧ some k_ ≠ (v464 : Value).ownBlock) (.slice Ao92 t478.length co92) t498) := ⟨by rw [← hq_]; exact (by (with_reducible repeat (first | apply Kd.S_alloc | apply Kd.S_drewN | apply Kd.S_drew)); exact Kd.S_mono HO_12.out (fun _ hk => ⟨hk.2, hk.1⟩))⟩; have n1_ : Aside0 (Kd.R (Kd.int .i64) 3 w93 w.heap.size (fun _ => True) (.slice Ao42 t493.length co42) t493) := ⟨by rw [← hq_]; exact (by (with_reducible repeat (first | apply Kd.R_alloc | apply Kd.R_drewN | apply Kd.R_drew)); exact HO_472000.out)⟩; have n2_ : Aside0 (Kd.S (Kd.slice 3 (Kd.int .i64)) 38 w93 w.heap.size (fun k_ => some k_ ≠ (.slice Ao92 t478.length co92 : Value).ownBlock ∧ some k_ ≠ (.slice Ao42 t493.length co42 : Value).ownBlock) v464 t463) := ⟨by rw [← hq_]; exact (by (with_reducible repeat (first | apply Kd.S_alloc | apply Kd.S_drewN | apply Kd.S_drew)); exact HO_8.out)⟩; have n3_ : Aside0 (w93.heap[gb449]? = some (.cells #[.slice A0_0 l0_0.length c0_0, .int .i64 a0_1] 40 (0, 0))) := ⟨by rw [← hq_]; exact zk⟩; have n4_ : Aside0 (w93.heap[gb450]? = some (.cells #[.int .i64 a2_0, .int .i64 a2_1, .int .i64 a2_2] 24 (0, 0))) := ⟨by rw [← hq_]; exact zk⟩; have n5_ : Aside0 (w93.heap[gb471]? = some (.cells #[.slice Ao42 t493.length co42, .int .i64 t470] 45 (0, 0))) := ⟨by rw [← hq_]; exact zk⟩; have n6_ : Aside0 (Below w.heap.size w w93) := ⟨by rw [← hq_]; exact zb⟩; clear HO_12 HO_472000 HO_8 BK449 BK450 BK471 HB hq_; have HO_12 := n0_; have HO_472000 := n1_; have HO_8 := n2_; have BK449 := n3_; have BK450 := n4_; have BK471 := n5_; have HB := n6_; clear n0_ n1_ n2_ n3_ n4_ n5_ n6_))
             have n0_ := zm (Kd.S_drew HO_8.out)
             have n1_ := zm (Kd.S_drew HO_12.out)
             have n2_ := zm (Kd.R_drew HO_472000.out)
             have n3_ := zm (blk_drew BK449.out)
             have n4_ := zm (blk_drew BK450.out)
             have n5_ := zm (blk_drew BK471.out)
             have n6_ := zm (below_drew1 HB.out)
             clear HO_8
             clear HO_12
             clear HO_472000
             clear BK449
             clear BK450
             clear BK471
             clear HB
             have HO_8 := n0_
             have HO_12 := n1_
             have HO_472000 := n2_
             have BK449 := n3_
             have BK450 := n4_
             have BK471 := n5_
             have HB := n6_
             clear n0_ n1_ n2_ n3_ n4_ n5_ n6_
             refine start_ (n := 12) (S := fun w' => w'.cell? ⟨gb449, 0, none⟩ = some (.slice A0_0 l0_0.length c0_0) ∧ w'.cell? ⟨gb449, 1, none⟩ = some (.int .i64 a0_1) ∧ w'.cell? ⟨gb450, 0, none⟩ = some (.int .i64 a2_0) ∧ w'.cell? ⟨gb450, 1, none⟩ = some (.int .i64 a2_1) ∧ w'.cell? ⟨gb450, 2, none⟩ = some (.int .i64 a2_2)) (ds := []) #[false, false, false, false, false, false, false, false, false, false, false, false] (by kernel_rfl) rfl rfl ⟨(blk_cell BK449.out 0).trans rfl, (blk_cell BK449.out 1).trans rfl, (blk_cell BK450.out 0).trans rfl, (blk_cell BK450.out 1).trans rfl, (blk_cell BK450.out 2).trans rfl⟩ (fun hHeld => ?_); refine with_tabW laws_FnExactBlurredPairs.tab31 laws_FnExactBlurredPairs.bits31 (fun HT_ HW_ => ?_)
             generalize w93.drew = w94 at HO_8 HO_12 HO_472000 BK449 BK450 BK471 HB hHeld ⊢
             refine pure_ (i := 2) (N := some 103) (v := ?_) (a' := ?_) #[false, false, true, false, false, false, false, false, false, false, false, false] rfl rfl (any_of HT_.out (by kernel_rfl)) (fun _ _ _ h => h) (Or.inl ⟨by rfl, ?_⟩) ?_ ?_
             rotate_left
             ·
              intro w'
              go_simp
              with_reducible rfl
             rotate_left
             ·
              simp only [Act.put, zA, zB, zD, i64_w, i32_w]
              rfl
             refine take_ (i := 0) (N := some 101) (v := ?_) (a' := ?_) #[true, false, true, false, false, false, false, false, false, false, false, false] rfl rfl (take_ofW HT_.out HW_.out (by kernel_rfl)) (fun _ _ _ h => h) (Or.inl ⟨by rfl, ?_⟩) hHeld ?_ ?_
             rotate_left
             ·
              rintro w' ⟨s0, s1, s2, s3, s4⟩
              go_simp
              with_reducible rfl
             rotate_left
             ·
              simp only [Act.put, zA, zB, zD, i64_w, i32_w]
              rfl
             refine take_ (i := 4) (N := some 105) (v := ?_) (a' := ?_) #[true, false, true, false, true, false, false, false, false, false, false, false] rfl rfl (take_ofW HT_.out HW_.out (by kernel_rfl)) (fun _ _ _ h => h) (Or.inl ⟨by rfl, ?_⟩) hHeld ?_ ?_
             rotate_left
             ·
              rintro w' ⟨s0, s1, s2, s3, s4⟩
              go_simp
              with_reducible rfl
             rotate_left
             ·
              simp only [Act.put, zA, zB, zD, i64_w, i32_w]
              rfl
             refine one_ (i := 1) (N := some 102) #[true, true, true, false, true, false, false, false, false, false, false, false] rfl rfl (one_of HT_.out (by kernel_rfl)) (by decide) (fun K hK => ?_)
             refine goes_ Try.func24 (by kernel_rfl) rfl #[.agg #[.slice A0_0 l0_0.length c0_0, .int .i64 a0_1]] (by rfl) rfl rfl (by (try simp only [List.map_toArray, List.map_cons, List.map_nil]); first | done | rfl | (simp only [List.length_drop, List.length_take]; rfl)) ?_
             with_reducible refine (laws_toInstrument.calls kj63 _ _ l0_0 a0_1 t500 t503 _ ?side1 ?side2 A87.out).mono ?_
             (case side1 => repeat (first | exact (Kd.C_below HR0_0.out HB.out) | (with_reducible refine Kd.C_alloc ?_ _) | (with_reducible refine Kd.C_drewN ?_ _) | (with_reducible refine Kd.C_drew ?_)))
             (case side2 => exact HC0_0.out)
             rintro e w95 ⟨v501, rfl, ho0, hb⟩
             refine ⟨_, rfl, ?_⟩
             have n0_ := zm (Kd.S_elder' (by (with_reducible repeat (first | apply Kd.S_alloc | apply Kd.S_drewN | apply Kd.S_drew)); exact HO_8.out) (Kd.R_base ho0) hb)
             have n1_ := zm (Kd.S_elder' (by (with_reducible repeat (first | apply Kd.S_alloc | apply Kd.S_drewN | apply Kd.S_drew)); exact HO_12.out) (Kd.R_base ho0) hb)
             have n2_ := zm (Kd.R_elder' (by (with_reducible repeat (first | apply Kd.R_alloc | apply Kd.R_drewN | apply Kd.R_drew)); exact HO_472000.out) (Kd.R_base ho0) hb)
             have n3_ := zm (Kd.R_lower (Kd.R_new' ho0 (Kd.R_lt (by (with_reducible repeat (first | apply Kd.R_alloc | apply Kd.R_drewN | apply Kd.R_drew)); exact HO_472000.out))) (below_size zb))
             have n4_ := zm (blk_below (g := gb449) (o := .cells #[.slice A0_0 l0_0.length c0_0, .int .i64 a0_1] 40 (0, 0)) zk hb)
             have n5_ := zm (blk_below (g := gb450) (o := .cells #[.int .i64 a2_0, .int .i64 a2_1, .int .i64 a2_2] 24 (0, 0)) zk hb)
             have n6_ := zm (blk_below (g := gb471) (o := .cells #[.slice Ao42 t493.length co42, .int .i64 t470] 45 (0, 0)) zk hb)
             have n7_ := zm (below_step zb hb)
             clear HO_8
             clear HO_12
             clear HO_472000
             clear BK449
             clear BK450
             clear BK471
             clear HB
             have HO_8 := n0_
             have HO_12 := n1_
             have HO_472000 := n2_
             have HO502 := n3_
             have BK449 := n4_
             have BK450 := n5_
             have BK471 := n6_
             have HB := n7_
             clear n0_ n1_ n2_ n3_ n4_ n5_ n6_ n7_
             (try clear hb)
             (try clear hb2)
             (try clear hk)
             (try clear hi)
             (try clear ho0)
             refine hK.out _ _ ⟨(blk_cell BK449.out 0).trans rfl, (blk_cell BK449.out 1).trans rfl, (blk_cell BK450.out 0).trans rfl, (blk_cell BK450.out 1).trans rfl, (blk_cell BK450.out 2).trans rfl⟩ (fun hHeld => ?_)
             clear hK K
             refine norm_ (a' := ?_) ?_ ?_
             rotate_left
             ·
              show Act.put _ (some 102) _ = _
              simp only [Act.put, zA, zB, zD, i64_w, i32_w]
              rfl
             refine one_ (i := 3) (N := some 104) #[true, true, true, true, true, false, false, false, false, false, false, false] rfl rfl (one_of HT_.out (by kernel_rfl)) (by decide) (fun K hK => ?_)
             refine goes_ Try.func25 (by kernel_rfl) rfl #[.slice A1 l1.length c1] (by rfl) rfl rfl (by (try simp only [List.map_toArray, List.map_cons, List.map_nil]); first | done | rfl | (simp only [List.length_drop, List.length_take]; rfl)) ?_
             with_reducible refine (laws_toHoleS.calls kj63 _ _ l1 t504 _ ?side1 ?side2 A88.out).mono ?_
             (case side1 => repeat (first | exact (Kd.C_below HR1.out HB.out) | (with_reducible refine Kd.C_alloc ?_ _) | (with_reducible refine Kd.C_drewN ?_ _) | (with_reducible refine Kd.C_drew ?_)))
             (case side2 => exact HC1.out)
             rintro e w96 ⟨v505, rfl, ho0, hb⟩
             refine ⟨_, rfl, ?_⟩
             have n0_ := zm (Kd.S_below (by (with_reducible repeat (first | apply Kd.S_alloc | apply Kd.S_drewN | apply Kd.S_drew)); exact HO_8.out) hb)
             have n1_ := zm (Kd.S_below (by (with_reducible repeat (first | apply Kd.S_alloc | apply Kd.S_drewN | apply Kd.S_drew)); exact HO_12.out) hb)
             have n2_ := zm (Kd.R_below (by (with_reducible repeat (first | apply Kd.R_alloc | apply Kd.R_drewN | apply Kd.R_drew)); exact HO_472000.out) hb)
             have n3_ := zm (Kd.R_below (by (with_reducible repeat (first | apply Kd.R_alloc | apply Kd.R_drewN | apply Kd.R_drew)); exact HO502.out) hb)
             have n4_ := zm (Kd.R_lower ho0 (below_size zb))
             have n5_ := zm (blk_below (g := gb449) (o := .cells #[.slice A0_0 l0_0.length c0_0, .int .i64 a0_1] 40 (0, 0)) zk hb)
             have n6_ := zm (blk_below (g := gb450) (o := .cells #[.int .i64 a2_0, .int .i64 a2_1, .int .i64 a2_2] 24 (0, 0)) zk hb)
             have n7_ := zm (blk_below (g := gb471) (o := .cells #[.slice Ao42 t493.length co42, .int .i64 t470] 45 (0, 0)) zk hb)
             have n8_ := zm (below_step zb hb)
             clear HO_8
             clear HO_12
             clear HO_472000
             clear HO502
             clear BK449
             clear BK450
             clear BK471
             clear HB
             have HO_8 := n0_
             have HO_12 := n1_
             have HO_472000 := n2_
             have HO502 := n3_
             have HO506 := n4_
             have BK449 := n5_
             have BK450 := n6_
             have BK471 := n7_
             have HB := n8_
             clear n0_ n1_ n2_ n3_ n4_ n5_ n6_ n7_ n8_
             (try clear hb)
             (try clear hb2)
             (try clear hk)
             (try clear hi)
             (try clear ho0)
             refine hK.out _ _ ⟨(blk_cell BK449.out 0).trans rfl, (blk_cell BK449.out 1).trans rfl, (blk_cell BK450.out 0).trans rfl, (blk_cell BK450.out 1).trans rfl, (blk_cell BK450.out 2).trans rfl⟩ (fun hHeld => ?_)
             clear hK K
             refine norm_ (a' := ?_) ?_ ?_
             rotate_left
             ·
              show Act.put _ (some 104) _ = _
              simp only [Act.put, zA, zB, zD, i64_w, i32_w]
              rfl
             refine one_ (i := 5) (N := some 106) #[true, true, true, true, true, true, false, false, false, false, false, false] rfl rfl (one_of HT_.out (by kernel_rfl)) (by decide) (fun K hK => ?_)
             refine goes_ Try.func14 (by kernel_rfl) rfl #[.agg #[.int .i64 a2_0, .int .i64 a2_1, .int .i64 a2_2]] (by rfl) rfl rfl (by (try simp only [List.map_toArray, List.map_cons, List.map_nil]); first | done | rfl | (simp only [List.length_drop, List.length_take]; rfl)) ?_
             with_reducible refine (laws_toAction.calls a2_0 a2_1 a2_2 t507 t508 t509 _ A89.out).mono ?_
             rintro e w97 ⟨rfl, hb⟩
             refine ⟨_, rfl, ?_⟩
             have n0_ := zm (Kd.S_below (by (with_reducible repeat (first | apply Kd.S_alloc | apply Kd.S_drewN | apply Kd.S_drew)); exact HO_8.out) hb)
             have n1_ := zm (Kd.S_below (by (with_reducible repeat (first | apply Kd.S_alloc | apply Kd.S_drewN | apply Kd.S_drew)); exact HO_12.out) hb)
             have n2_ := zm (Kd.R_below (by (with_reducible repeat (first | apply Kd.R_alloc | apply Kd.R_drewN | apply Kd.R_drew)); exact HO_472000.out) hb)
             have n3_ := zm (Kd.R_below (by (with_reducible repeat (first | apply Kd.R_alloc | apply Kd.R_drewN | apply Kd.R_drew)); exact HO502.out) hb)
             have n4_ := zm (Kd.R_below (by (with_reducible repeat (first | apply Kd.R_alloc | apply Kd.R_drewN | apply Kd.R_drew)); exact HO506.out) hb)
             have n5_ := zm (blk_below (g := gb449) (o := .cells #[.slice A0_0 l0_0.length c0_0, .int .i64 a0_1] 40 (0, 0)) zk hb)
             have n6_ := zm (blk_below (g := gb450) (o := .cells #[.int .i64 a2_0, .int .i64 a2_1, .int .i64 a2_2] 24 (0, 0)) zk hb)
             have n7_ := zm (blk_below (g := gb471) (o := .cells #[.slice Ao42 t493.length co42, .int .i64 t470] 45 (0, 0)) zk hb)
             have n8_ := zm (below_step zb hb)
             clear HO_8
             clear HO_12
             clear HO_472000
             clear HO502
             clear HO506
             clear BK449
             clear BK450
             clear BK471
             clear HB
             have HO_8 := n0_
             have HO_12 := n1_
             have HO_472000 := n2_
             have HO502 := n3_
             have HO506 := n4_
             have BK449 := n5_
             have BK450 := n6_
             have BK471 := n7_
             have HB := n8_
             clear n0_ n1_ n2_ n3_ n4_ n5_ n6_ n7_ n8_
             (try clear hb)
             (try clear hb2)
             (try clear hk)
             (try clear hi)
             obtain ⟨Ao98, co98, eo98⟩ := Kd.R_slice HO502.out
             (first | subst eo98 | (injection eo98 with f1_ f2_ f3_; have f4_ := f1_.symm; have f5_ := f3_.symm; clear f1_ f2_ f3_; subst f4_; subst f5_))
             obtain ⟨Ao99, co99, eo99⟩ := Kd.R_slice HO506.out
             (first | subst eo99 | (injection eo99 with f1_ f2_ f3_; have f4_ := f1_.symm; have f5_ := f3_.symm; clear f1_ f2_ f3_; subst f4_; subst f5_))
             refine hK.out _ _ ⟨(blk_cell BK449.out 0).trans rfl, (blk_cell BK449.out 1).trans rfl, (blk_cell BK450.out 0).trans rfl, (blk_cell BK450.out 1).trans rfl, (blk_cell BK450.out 2).trans rfl⟩ (fun hHeld => ?_)
             clear hK K
             refine norm_ (a' := ?_) ?_ ?_
             rotate_left
             ·
              show Act.put _ (some 106) _ = _
              simp only [Act.put, zA, zB, zD, i64_w, i32_w]
              rfl
             refine one_ (i := 6) (N := some 107) #[true, true, true, true, true, true, true, false, false, false, false, false] rfl rfl (one_of HT_.out (by kernel_rfl)) (by decide) (fun K hK => ?_)
             refine goes_ Try.func26 (by kernel_rfl) rfl #[.agg #[.slice Ao98 t500.length co98, .int .i64 t503], .slice Ao99 t504.length co99, .agg #[.int .i64 t507, .int .i64 t508, .int .i64 t509]] (by rfl) rfl rfl (by (try simp only [List.map_toArray, List.map_cons, List.map_nil]); first | done | rfl | (simp only [List.length_drop, List.length_take]; rfl)) ?_
             with_reducible refine (impl_BlurredPairs.calls kj63 _ _ t500 t503 _ _ t504 t507 t508 t509 t510 t513 _ ?side1 ?side2 ?side3 ?side4 A90.out).mono ?_
             (case side1 => repeat (first | exact (Kd.R_reads' HO502.out).2.2 | (with_reducible refine Kd.C_alloc ?_ _) | (with_reducible refine Kd.C_drewN ?_ _) | (with_reducible refine Kd.C_drew ?_)))
             (case side2 => exact (Kd.R_reads' HO502.out).2.1)
             (case side3 => repeat (first | exact (Kd.R_reads' HO506.out).2.2 | (with_reducible refine Kd.C_alloc ?_ _) | (with_reducible refine Kd.C_drewN ?_ _) | (with_reducible refine Kd.C_drew ?_)))
             (case side4 => exact (Kd.R_reads' HO506.out).2.1)
             rintro e w100 ⟨v511, rfl, ho0, hb⟩
             refine ⟨_, rfl, ?_⟩
             have n0_ := zm (Kd.S_elder' (by (with_reducible repeat (first | apply Kd.S_alloc | apply Kd.S_drewN | apply Kd.S_drew)); exact HO_8.out) (Kd.S_base ho0) hb)
             have n1_ := zm (Kd.S_elder' (by (with_reducible repeat (first | apply Kd.S_alloc | apply Kd.S_drewN | apply Kd.S_drew)); exact HO_12.out) (Kd.S_base ho0) hb)
             have n2_ := zm (Kd.R_below (by (with_reducible repeat (first | apply Kd.R_alloc | apply Kd.R_drewN | apply Kd.R_drew)); exact HO_472000.out) hb)
             have n3_ := zm (Kd.R_below (by (with_reducible repeat (first | apply Kd.R_alloc | apply Kd.R_drewN | apply Kd.R_drew)); exact HO502.out) hb)
             have n4_ := zm (Kd.R_below (by (with_reducible repeat (first | apply Kd.R_alloc | apply Kd.R_drewN | apply Kd.R_drew)); exact HO506.out) hb)
             have n5_ := zm (Kd.S_lower (Kd.S_new' (Kd.S_new' (Kd.S_new' (Kd.S_new' ho0 (Kd.S_lt (by (with_reducible repeat (first | apply Kd.S_alloc | apply Kd.S_drewN | apply Kd.S_drew)); exact HO_8.out))) (Kd.S_lt (by (with_reducible repeat (first | apply Kd.S_alloc | apply Kd.S_drewN | apply Kd.S_drew)); exact HO_12.out))) (Kd.R_lt (by (with_reducible repeat (first | apply Kd.R_alloc | apply Kd.R_drewN | apply Kd.R_drew)); exact HO_472000.out))) (Kd.R_lt (by (with_reducible repeat (first | apply Kd.R_alloc | apply Kd.R_drewN | apply Kd.R_drew)); exact HO502.out))) (below_size zb))
             have n6_ := zm (blk_below (g := gb449) (o := .cells #[.slice A0_0 l0_0.length c0_0, .int .i64 a0_1] 40 (0, 0)) zk hb)
             have n7_ := zm (blk_below (g := gb450) (o := .cells #[.int .i64 a2_0, .int .i64 a2_1, .int .i64 a2_2] 24 (0, 0)) zk hb)
             have n8_ := zm (blk_below (g := gb471) (o := .cells #[.slice Ao42 t493.length co42, .int .i64 t470] 45 (0, 0)) zk hb)
             have n9_ := zm (below_step zb hb)
             clear HO_8
             clear HO_12
             clear HO_472000
             clear HO502
             clear HO506
             clear BK449
             clear BK450
             clear BK471
             clear HB
             have HO_8 := n0_
             have HO_12 := n1_
             have HO_472000 := n2_
             have HO502 := n3_
             have HO506 := n4_
             have HO512 := n5_
             have BK449 := n6_
             have BK450 := n7_
             have BK471 := n8_
             have HB := n9_
             clear n0_ n1_ n2_ n3_ n4_ n5_ n6_ n7_ n8_ n9_
             (try clear hb)
             (try clear hb2)
             (try clear hk)
             (try clear hi)
             (try clear ho0)
             refine hK.out _ _ ⟨(blk_cell BK449.out 0).trans rfl, (blk_cell BK449.out 1).trans rfl, (blk_cell BK450.out 0).trans rfl, (blk_cell BK450.out 1).trans rfl, (blk_cell BK450.out 2).trans rfl⟩ (fun hHeld => ?_)
             clear hK K
             refine norm_ (a' := ?_) ?_ ?_
             rotate_left
             ·
              show Act.put _ (some 107) _ = _
              simp only [Act.put, zA, zB, zD, i64_w, i32_w]
              rfl
             refine pure_ (i := 7) (N := some 100) (v := ?_) (a' := ?_) #[true, true, true, true, true, true, true, true, false, false, false, false] rfl rfl (any_of HT_.out (by kernel_rfl)) (fun _ _ _ h => h) (Or.inl ⟨by rfl, ?_⟩) ?_ ?_
             rotate_left
             ·
              intro w'
              go_simp
              with_reducible rfl
             rotate_left
             ·
              simp only [Act.put, zA, zB, zD, i64_w, i32_w]
              rfl
             refine pure_ (i := 8) (N := some 108) (v := ?_) (a' := ?_) #[true, true, true, true, true, true, true, true, true, false, false, false] rfl rfl (any_of HT_.out (by kernel_rfl)) (fun _ _ _ h => h) (Or.inl ⟨by rfl, ?_⟩) ?_ ?_
             rotate_left
             ·
              intro w'
              go_simp
              with_reducible rfl
             rotate_left
             ·
              simp only [Act.put, zA, zB, zD, i64_w, i32_w]
              rfl
             refine pure_ (i := 9) (N := some 109) (v := ?_) (a' := ?_) #[true, true, true, true, true, true, true, true, true, true, false, false] rfl rfl (any_of HT_.out (by kernel_rfl)) (fun _ _ _ h => h) (Or.inl ⟨by rfl, ?_⟩) ?_ ?_
             rotate_left
             ·
              intro w'
              go_simp
              with_reducible rfl
             rotate_left
             ·
              simp only [Act.put, zA, zB, zD, i64_w, i32_w]
              rfl
             refine pure_ (i := 10) (N := some 17) (v := ?_) (a' := ?_) #[true, true, true, true, true, true, true, true, true, true, true, false] rfl rfl (any_of HT_.out (by kernel_rfl)) (fun _ _ _ h => h) (Or.inl ⟨by rfl, ?_⟩) ?_ ?_
             rotate_left
             ·
              intro w'
              go_simp
              with_reducible rfl
             rotate_left
             ·
              simp only [Act.put, zA, zB, zD, i64_w, i32_w]
              rfl
             refine pure_ (i := 11) (N := some 18) (v := ?_) (a' := ?_) #[true, true, true, true, true, true, true, true, true, true, true, true] rfl rfl (any_of HT_.out (by kernel_rfl)) (fun _ _ _ h => h) (Or.inl ⟨by rfl, ?_⟩) ?_ ?_
             rotate_left
             ·
              intro w'
              go_simp
              with_reducible rfl
             rotate_left
             ·
              simp only [Act.put, zA, zB, zD, i64_w, i32_w]
              rfl
             refine done_ (done_of HT_.out (by kernel_rfl)) ?_
             go_upto_region 32 with (fail)
             go_cut [118] (fun v118 wc => ∃ (kq : Nat) (x118_90 : Bool), v118 = .bool x118_90 ∧ Aside0 (laws_FnExactBlurredPairs.j2 kq t498 t497 x118_90 = some r) ∧ Aside0 (kq ≤ kj63) ∧ Aside0 (Kd.S (Kd.slice 3 (Kd.int .i64)) 38 wc w.heap.size (fun k_ => some k_ ≠ ((.slice Ao42 t493.length co42) : Value).ownBlock) (.slice Ao92 t478.length co92) t498) ∧ Aside0 (Kd.R (Kd.int .i64) 3 wc w.heap.size (fun _ => True) (.slice Ao42 t493.length co42) t493) ∧ Aside0 (wc.heap[gb449]? = some (.cells #[(.slice A0_0 l0_0.length c0_0), .int .i64 a0_1] 40 (0, 0))) ∧ Aside0 (wc.heap[gb450]? = some (.cells #[.int .i64 a2_0, .int .i64 a2_1, .int .i64 a2_2] 24 (0, 0))) ∧ Aside0 (wc.heap[gb471]? = some (.cells #[(.slice Ao42 t493.length co42), .int .i64 t470] 45 (0, 0))) ∧ Aside0 (Below w.heap.size w wc))
             case first =>
              have H := HC91.out
              clear HC91
              replace H := Option.bind_eq_some_iff.mp H
              obtain ⟨t514, A1010, H⟩ := H
              (try dsimp only at H)
              have A101 := zm A1010
              clear A1010
              by_cases c102 : t514 = true
              ·
               subst c102
               have H1 : (laws_FnExactBlurredPairs.j2 kj63 t498 t497 (t513 != t466)) = some r := by rw [if_pos rfl] at H; exact H
               clear H
               have H := H1
               clear H1
               have H' := zm H
               clear H
               obtain ⟨Ao103, co103, eo103⟩ := Kd.S_slice HO512.out
               subst eo103
               obtain ⟨Ao104, co104, eo104⟩ := Kd.S_slice HO_8.out
               subst eo104
               go_wp2_with (first | ((with_reducible refine gate_callee (f := 16) rfl ?_); refine goesA_ (some 112) Try.func16 #[.slice Ao103 t510.length co103, .slice Ao104 t463.length co104] rfl ?_; (with_reducible refine (laws_eqIntSS.calls kj63 _ _ t510 _ _ t463 true _ ?side1 ?side2 ?side3 ?side4 A101.out).mono ?_); (case side1 => repeat (first | exact (Kd.S_reads' HO512.out).2.2 | (with_reducible refine Kd.C_alloc ?_ _) | (with_reducible refine Kd.C_drewN ?_ _) | (with_reducible refine Kd.C_drew ?_))); (case side2 => exact (Kd.S_reads' HO512.out).2.1); (case side3 => repeat (first | exact (Kd.S_reads' HO_8.out).2.2 | (with_reducible refine Kd.C_alloc ?_ _) | (with_reducible refine Kd.C_drewN ?_ _) | (with_reducible refine Kd.C_drew ?_))); (case side4 => exact (Kd.S_reads' HO_8.out).2.1); rintro e w' ⟨rfl, ⟨nd, rfl⟩⟩; refine ⟨_, rfl, ?_⟩))
               go_meet
               case rel => exact ⟨_, ((t513 != t466)), (by first | rfl | (simp; done) | (simp [*]; done)), H', ⟨by have := HJ25.out; have := HJ63.out; first | omega | exact Nat.le_refl _⟩, ⟨by (try simp only [hl472000_63]); (with_reducible repeat (first | apply Kd.S_alloc | apply Kd.S_drewN | apply Kd.S_drew)); exact Kd.S_mono HO_12.out (fun _ hk => by first | exact hk.1.1.2 | exact hk.1.1.1)⟩, ⟨by (try simp only [hl472000_63]); (with_reducible repeat (first | apply Kd.R_alloc | apply Kd.R_drewN | apply Kd.R_drew)); exact Kd.R_mono HO_472000.out (fun _ hk => trivial)⟩, ⟨by (try simp only [hl472000_63]); (with_reducible repeat (first | refine blk_drewN ?_ _ | refine blk_drew ?_ | refine blk_alloc ?_ _)); exact BK449.out⟩, ⟨by (try simp only [hl472000_63]); (with_reducible repeat (first | refine blk_drewN ?_ _ | refine blk_drew ?_ | refine blk_alloc ?_ _)); exact BK450.out⟩, ⟨by (try simp only [hl472000_63]); (with_reducible repeat (first | refine blk_drewN ?_ _ | refine blk_drew ?_ | refine blk_alloc ?_ _)); exact BK471.out⟩, ⟨zb⟩⟩
              ·
               replace c102 := Bool.eq_false_iff.mpr c102
               subst c102
               have H1 : (laws_FnExactBlurredPairs.j2 kj63 t498 t497 true) = some r := by rw [if_neg (show ¬ (false = true) by decide)] at H; exact H
               clear H
               have H := H1
               clear H1
               exact (laws_FnExactBlurredPairs.j2_t (H.trans (congrArg some hr_))).elim
             case rest =>
              clear HC91
              (try clear c1); (try clear c2); (try clear p2); (try clear c3); (try clear c4); (try clear c5); (try clear c5b0); (try clear c6); (try clear c7); (try clear c8); (try clear c10); (try clear c12); (try clear c12b0); (try clear c14); (try clear c15); (try clear c16); (try clear c19); (try clear c20); (try clear c21); (try clear c22); (try clear c23); (try clear c24); (try clear c25); (try clear c26); (try clear c27); (try clear c28); (try clear c29); (try clear c30); (try clear c43); (try clear c44); (try clear c52); (try clear c55); (try clear c58); (try clear c61); (try clear c72); (try clear c73); (try clear c77); (try clear c77b0); (try clear c79); (try clear c82); (try clear c85); (try clear c85b0); (try clear c86); (try clear c86b0); (try clear c86b1); (try clear c102); (try clear hcz16_0); (try clear hcz16_1); (try clear hcz30_0); (try clear hcz30_1); (try clear hcz39_0); (try clear hcz39_1); (try clear hcz45_0); (try clear hcz45_1); (try clear hcz74_0); (try clear hcz74_1); (try clear hcz9_0); (try clear hcz9_1); (try clear hfz16_0); (try clear hfz16_1); (try clear hfz30_0); (try clear hfz30_1); (try clear hfz39_0); (try clear hfz39_1); (try clear hfz45_0); (try clear hfz45_1); (try clear hfz74_0); (try clear hfz74_1); (try clear hfz9_0); (try clear hfz9_1); (try clear p2)
              obtain ⟨kq, x118_90, rfl, HA, HJ90, HO_12, HO_472000, BK449, BK450, BK471, HB⟩ := hcut
              have hl12_90 := (Kd.S_reads' HO_12.out).1
              rw [hl12_90] at HO_12
              (try simp only [hl12_90])
              (try simp only [hl12_90] at BK449)
              (try simp only [hl12_90] at BK450)
              (try simp only [hl12_90] at BK471)
              (try simp only [hl12_90] at HO_472000)
              cases kq with
              | zero => exact absurd HA.out (by simp [laws_FnExactBlurredPairs.j2])
              | succ kj90 =>
               have H := HA.out
               clear HA
               simp only [laws_FnExactBlurredPairs.j2] at H
               by_cases c105 : x118_90 = true
               ·
                subst c105
                have H1 : (some false) = some r := by rw [if_pos rfl] at H; exact H
                clear H
                have H := H1
                clear H1
                exact absurd ((Option.some.inj H).trans hr_) (by decide)
               ·
                replace c105 := Bool.eq_false_iff.mpr c105
                subst c105
                have H1 : ((laws_heldIntSS.f kj90 t498 1).bind fun t515 => (if t515 < 0 then (some false) else (if t515 = t497 then (some true) else (some false)))) = some r := by rw [if_neg (show ¬ (false = true) by decide)] at H; exact H
                clear H
                have H := H1
                clear H1
                replace H := Option.bind_eq_some_iff.mp H
                obtain ⟨t515, A1060, H⟩ := H
                (try dsimp only at H)
                have A106 := zm A1060
                clear A1060
                by_cases c107 : t515 < 0
                ·
                 rw [if_pos c107] at H
                 have c107b0 : decide (t515 < 0) = true := decide_eq_true c107
                 clear c107
                 exact absurd ((Option.some.inj H).trans hr_) (by decide)
                ·
                 rw [if_neg c107] at H
                 have c107b0 : decide (t515 < 0) = false := decide_eq_false c107
                 clear c107
                 by_cases c108 : t515 = t497
                 ·
                  rw [if_pos c108] at H
                  have c108b0 : (t515 == t497) = true := beq_iff_eq.mpr c108
                  have c108b1 : (t515 != t497) = false := bne_eq_false_iff_eq.mpr c108
                  clear c108
                  obtain rfl := Option.some.inj H
                  go_wp2_with (first | ((with_reducible refine gate_callee (f := 20) rfl ?_); refine goesA_ (some 121) Try.func20 #[.slice Ao92 t498.length co92, .int .i64 1] rfl ?_; (with_reducible refine (laws_heldIntSS.calls kj90 _ _ t498 1 t515 _ ?side1 ?side2 A106.out).mono ?_); (case side1 => repeat (first | exact (Kd.S_reads' HO_12.out).2.2 | (with_reducible refine Kd.C_alloc ?_ _) | (with_reducible refine Kd.C_drewN ?_ _) | (with_reducible refine Kd.C_drew ?_))); (case side2 => exact (Kd.S_reads' HO_12.out).2.1); rintro e w' ⟨rfl, ⟨nd, rfl⟩⟩; refine ⟨_, rfl, ?_⟩))
                  go_ret
                  exact ⟨zr, zb⟩
                 ·
                  rw [if_neg c108] at H
                  have c108b0 : (t515 == t497) = false := beq_eq_false_iff_ne.mpr c108
                  have c108b1 : (t515 != t497) = true := bne_iff_ne.mpr c108
                  exact absurd ((Option.some.inj H).trans hr_) (by decide)
            ·
             rw [if_neg c86] at H
             have c86b0 : (t499 == t497) = false := beq_eq_false_iff_ne.mpr c86
             have c86b1 : (t499 != t497) = true := bne_iff_ne.mpr c86
             exact absurd ((Option.some.inj H).trans hr_) (by decide)
       ·
        replace c61 := Bool.eq_false_iff.mpr c61
        subst c61
        have H1 : (some false) = some r := by rw [if_neg (show ¬ (false = true) by decide)] at H; exact H
        clear H
        have H := H1
        clear H1
        exact absurd ((Option.some.inj H).trans hr_) (by decide)
      ·
       replace c58 := Bool.eq_false_iff.mpr c58
       subst c58
       have H1 : (some false) = some r := by rw [if_neg (show ¬ (false = true) by decide)] at H; exact H
       clear H
       have H := H1
       clear H1
       exact absurd ((Option.some.inj H).trans hr_) (by decide)

end Go.Proofs.Ytjjjikdpegogcaa.PRr
