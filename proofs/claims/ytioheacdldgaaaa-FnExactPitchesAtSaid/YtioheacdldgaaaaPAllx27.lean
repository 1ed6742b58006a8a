-- Written for this claim by a program of this session (wip/tpl/patchprint.py), not by print.sh.
import Derived.Test.YtioheacdldgaaaaPAllx0
import Derived.Test.YtioheacdldgaaaaPAllx1
import Derived.Test.YtioheacdldgaaaaPAllx2
import Derived.Test.YtioheacdldgaaaaPAllx7
import Derived.Test.YtioheacdldgaaaaPAllx8
import Derived.Test.YtioheacdldgaaaaPAllx25
import Derived.Test.YtioheacdldgaaaaPAllx26
namespace Go.Proofs.Ytioheacdldgaaaa.PAll
open Go.RowKit Go.Proofs.YtioheacdldgaaaaW.PrintWords Go.Proofs.YtioheacdldgaaaaW.PrintLast Go.Proofs.YtioheacdldgaaaaW.PrintMore
attribute [local go_sem] max2_int min2_int max_two min_two max_three min_three max_four min_four   -- for this text's walks alone
set_option linter.unusedVariables false
set_option linter.unusedSimpArgs false

/-! ### laws_FnExactPitchesAt: function 10 -/
mutual
def laws_FnExactPitchesAt.j0 : Nat → List (S75) → Int → List Int → Bool → List (S73) → List Int → Bool → Bool → List Int → Int → Int → Int → Int → List Int → Int → Option (Bool)
  | 0, _, _, _, _, _, _, _, _, _, _, _, _, _, _, _ => none
  | k + 1, x1, x3, x10, x11, x13, x14, x15, x63, x829000, x829001, x830000, x830001, x830002, x851000, x851001 => if x63 = true then (some false) else ((laws_toInstrument.f k x829000 x829001).bind fun bt862 => ((laws_eqInstrument.f k x851000 x851001 bt862.1 bt862.2).bind fun t866 => (if t866 = true then ((laws_toHoleS.f k x1).bind fun t867 => ((laws_eqHoleS.f k x13 t867).bind fun t870 => (if t870 = true then ((laws_markInstrument.f k x851000 x851001 1).bind fun bt871 => ((laws_markHoleS.f k x13 bt871.1).bind fun bt873 => (if bt873.1 < 0 then (laws_FnExactPitchesAt.j1 k x1 x3 x10 x11 x14 true x829000 x829001 x830000 x830001 x830002) else ((laws_eqIntS.f k x14 x10).bind fun t875 => (if t875 = true then (laws_FnExactPitchesAt.j1 k x1 x3 x10 x11 x14 (x15 != x11) x829000 x829001 x830000 x830001 x830002) else (laws_FnExactPitchesAt.j1 k x1 x3 x10 x11 x14 true x829000 x829001 x830000 x830001 x830002)))))) else (some false)))) else (some false))))
def laws_FnExactPitchesAt.j1 : Nat → List (S75) → Int → List Int → Bool → List Int → Bool → List Int → Int → Int → Int → Int → Option (Bool)
  | 0, _, _, _, _, _, _, _, _, _, _, _ => none
  | k + 1, x1, x3, x10, x11, x14, x92, x829000, x829001, x830000, x830001, x830002 => if x92 = true then (some false) else ((laws_markIntS.f k x14 1).bind fun bt876 => ((laws_heldIntS.f k bt876.2 1).bind fun t878 => (if t878 < 0 then (some false) else (if t878 = bt876.1 then ((laws_toInstrument.f k x829000 x829001).bind fun bt879 => ((laws_toHoleS.f k x1).bind fun t883 => ((laws_toAction.f x830000 x830001 x830002).bind fun bt886 => ((impl_PitchesAt.f k bt879.1 bt879.2 t883 bt886.1 bt886.2.1 bt886.2.2 x3).bind fun bt889 => ((laws_eqIntS.f k bt889.1 x10).bind fun t893 => (if t893 = true then (laws_FnExactPitchesAt.j2 k bt876.2 bt876.1 (bt889.2 != x11)) else (laws_FnExactPitchesAt.j2 k bt876.2 bt876.1 true))))))) else (some false)))))
def laws_FnExactPitchesAt.j2 : Nat → List Int → Int → Bool → Option (Bool)
  | 0, _, _, _ => none
  | k + 1, x14, x17, x123 => if x123 = true then (some false) else ((laws_heldIntS.f k x14 1).bind fun t894 => (if t894 < 0 then (some false) else (if t894 = x17 then (some true) else (some false))))
end
def laws_FnExactPitchesAt.f (k : Nat) (l0_0 : List Int) (a0_1 : Int) (l1 : List (S75)) (a2_0 : Int) (a2_1 : Int) (a2_2 : Int) (a3 : Int) : Option (Bool) := (laws_szInstrument.f l0_0 a0_1 1048576).bind fun t830 => (if t830 < 0 then (some true) else ((laws_szHoleS.f l1 t830).bind fun t831 => (if t831 < 0 then (some true) else ((laws_toInstrument.f k l0_0 a0_1).bind fun bt832 => ((laws_toHoleS.f k l1).bind fun t836 => ((laws_toAction.f a2_0 a2_1 a2_2).bind fun bt839 => ((spec_PitchesAt.f k bt832.1 bt832.2 t836 bt839.1 bt839.2.1 bt839.2.2 a3).bind fun bt842 => ((laws_toInstrument.f k l0_0 a0_1).bind fun bt846 => ((laws_toHoleS.f k l1).bind fun t851 => ((laws_toAction.f a2_0 a2_1 a2_2).bind fun bt854 => ((impl_PitchesAt.f k bt846.1 bt846.2 t851 bt854.1 bt854.2.1 bt854.2.2 a3).bind fun bt857 => ((laws_eqIntS.f k bt857.1 bt842.1).bind fun t861 => (if t861 = true then (laws_FnExactPitchesAt.j0 k l1 a3 bt842.1 bt842.2 t851 bt857.1 bt857.2 (bt857.2 != bt842.2) l0_0 a0_1 a2_0 a2_1 a2_2 bt846.1 bt846.2) else (laws_FnExactPitchesAt.j0 k l1 a3 bt842.1 bt842.2 t851 bt857.1 bt857.2 true l0_0 a0_1 a2_0 a2_1 a2_2 bt846.1 bt846.2))))))))))))))
theorem laws_FnExactPitchesAt.mono_l : ∀ k, (∀ y0 y1 y2 y3 y4 y5 y6 y7 y8 y9 y10 y11 y12 y13 y14, LeO (laws_FnExactPitchesAt.j0 k y0 y1 y2 y3 y4 y5 y6 y7 y8 y9 y10 y11 y12 y13 y14) (laws_FnExactPitchesAt.j0 (k + 1) y0 y1 y2 y3 y4 y5 y6 y7 y8 y9 y10 y11 y12 y13 y14)) ∧ (∀ y0 y1 y2 y3 y4 y5 y6 y7 y8 y9 y10, LeO (laws_FnExactPitchesAt.j1 k y0 y1 y2 y3 y4 y5 y6 y7 y8 y9 y10) (laws_FnExactPitchesAt.j1 (k + 1) y0 y1 y2 y3 y4 y5 y6 y7 y8 y9 y10)) ∧ (∀ y0 y1 y2, LeO (laws_FnExactPitchesAt.j2 k y0 y1 y2) (laws_FnExactPitchesAt.j2 (k + 1) y0 y1 y2))
  | 0 => ⟨fun _ _ _ _ _ _ _ _ _ _ _ _ _ _ _ r h => by simp [laws_FnExactPitchesAt.j0] at h, fun _ _ _ _ _ _ _ _ _ _ _ r h => by simp [laws_FnExactPitchesAt.j1] at h, fun _ _ _ r h => by simp [laws_FnExactPitchesAt.j2] at h⟩
  | k + 1 => by
    obtain ⟨ih0, ih1, ih2⟩ := laws_FnExactPitchesAt.mono_l k
    refine ⟨?_, ?_, ?_⟩
    · intro y0 y1 y2 y3 y4 y5 y6 y7 y8 y9 y10 y11 y12 y13 y14
      unfold laws_FnExactPitchesAt.j0
      repeat' first
      | (with_reducible exact ih0 _ _ _ _ _ _ _ _ _ _ _ _ _ _ _)
      | (with_reducible exact ih1 _ _ _ _ _ _ _ _ _ _ _)
      | (with_reducible exact ih2 _ _ _)
      | (with_reducible exact impl_PitchesAt.mono _ _ _ _ _ _ _ _)
      | (with_reducible exact laws_eqHoleS.mono _ _ _)
      | (with_reducible exact laws_eqInstrument.mono _ _ _ _ _)
      | (with_reducible exact laws_eqIntS.mono _ _ _)
      | (with_reducible exact laws_heldIntS.mono _ _ _)
      | (with_reducible exact laws_markHoleS.mono _ _ _)
      | (with_reducible exact laws_markInstrument.mono _ _ _ _)
      | (with_reducible exact laws_markIntS.mono _ _ _)
      | (with_reducible exact laws_toHoleS.mono _ _)
      | (with_reducible exact laws_toInstrument.mono _ _ _)
      | (with_reducible exact spec_PitchesAt.mono _ _ _ _ _ _ _ _)
      | (with_reducible exact LeO.refl _)
      | (with_reducible exact LeO.none _)
      | (with_reducible refine LeO.ite ?_ ?_)
      | (with_reducible refine LeO.bind ?_ (fun _ => ?_))
      | exact ih0 _ _ _ _ _ _ _ _ _ _ _ _ _ _ _
      | exact ih1 _ _ _ _ _ _ _ _ _ _ _
      | exact ih2 _ _ _
      | exact impl_PitchesAt.mono _ _ _ _ _ _ _ _
      | exact laws_eqHoleS.mono _ _ _
      | exact laws_eqInstrument.mono _ _ _ _ _
      | exact laws_eqIntS.mono _ _ _
      | exact laws_heldIntS.mono _ _ _
      | exact laws_markHoleS.mono _ _ _
      | exact laws_markInstrument.mono _ _ _ _
      | exact laws_markIntS.mono _ _ _
      | exact laws_toHoleS.mono _ _
      | exact laws_toInstrument.mono _ _ _
      | exact spec_PitchesAt.mono _ _ _ _ _ _ _ _
      | exact LeO.none _
      | refine LeO.ite ?_ ?_
      | refine LeO.bind ?_ (fun _ => ?_)
    · intro y0 y1 y2 y3 y4 y5 y6 y7 y8 y9 y10
      unfold laws_FnExactPitchesAt.j1
      repeat' first
      | (with_reducible exact ih0 _ _ _ _ _ _ _ _ _ _ _ _ _ _ _)
      | (with_reducible exact ih1 _ _ _ _ _ _ _ _ _ _ _)
      | (with_reducible exact ih2 _ _ _)
      | (with_reducible exact impl_PitchesAt.mono _ _ _ _ _ _ _ _)
      | (with_reducible exact laws_eqHoleS.mono _ _ _)
      | (with_reducible exact laws_eqInstrument.mono _ _ _ _ _)
      | (with_reducible exact laws_eqIntS.mono _ _ _)
      | (with_reducible exact laws_heldIntS.mono _ _ _)
      | (with_reducible exact laws_markHoleS.mono _ _ _)
      | (with_reducible exact laws_markInstrument.mono _ _ _ _)
      | (with_reducible exact laws_markIntS.mono _ _ _)
      | (with_reducible exact laws_toHoleS.mono _ _)
      | (with_reducible exact laws_toInstrument.mono _ _ _)
      | (with_reducible exact spec_PitchesAt.mono _ _ _ _ _ _ _ _)
      | (with_reducible exact LeO.refl _)
      | (with_reducible exact LeO.none _)
      | (with_reducible refine LeO.ite ?_ ?_)
      | (with_reducible refine LeO.bind ?_ (fun _ => ?_))
      | exact ih0 _ _ _ _ _ _ _ _ _ _ _ _ _ _ _
      | exact ih1 _ _ _ _ _ _ _ _ _ _ _
      | exact ih2 _ _ _
      | exact impl_PitchesAt.mono _ _ _ _ _ _ _ _
      | exact laws_eqHoleS.mono _ _ _
      | exact laws_eqInstrument.mono _ _ _ _ _
      | exact laws_eqIntS.mono _ _ _
      | exact laws_heldIntS.mono _ _ _
      | exact laws_markHoleS.mono _ _ _
      | exact laws_markInstrument.mono _ _ _ _
      | exact laws_markIntS.mono _ _ _
      | exact laws_toHoleS.mono _ _
      | exact laws_toInstrument.mono _ _ _
      | exact spec_PitchesAt.mono _ _ _ _ _ _ _ _
      | exact LeO.none _
      | refine LeO.ite ?_ ?_
      | refine LeO.bind ?_ (fun _ => ?_)
    · intro y0 y1 y2
      unfold laws_FnExactPitchesAt.j2
      repeat' first
      | (with_reducible exact ih0 _ _ _ _ _ _ _ _ _ _ _ _ _ _ _)
      | (with_reducible exact ih1 _ _ _ _ _ _ _ _ _ _ _)
      | (with_reducible exact ih2 _ _ _)
      | (with_reducible exact impl_PitchesAt.mono _ _ _ _ _ _ _ _)
      | (with_reducible exact laws_eqHoleS.mono _ _ _)
      | (with_reducible exact laws_eqInstrument.mono _ _ _ _ _)
      | (with_reducible exact laws_eqIntS.mono _ _ _)
      | (with_reducible exact laws_heldIntS.mono _ _ _)
      | (with_reducible exact laws_markHoleS.mono _ _ _)
      | (with_reducible exact laws_markInstrument.mono _ _ _ _)
      | (with_reducible exact laws_markIntS.mono _ _ _)
      | (with_reducible exact laws_toHoleS.mono _ _)
      | (with_reducible exact laws_toInstrument.mono _ _ _)
      | (with_reducible exact spec_PitchesAt.mono _ _ _ _ _ _ _ _)
      | (with_reducible exact LeO.refl _)
      | (with_reducible exact LeO.none _)
      | (with_reducible refine LeO.ite ?_ ?_)
      | (with_reducible refine LeO.bind ?_ (fun _ => ?_))
      | exact ih0 _ _ _ _ _ _ _ _ _ _ _ _ _ _ _
      | exact ih1 _ _ _ _ _ _ _ _ _ _ _
      | exact ih2 _ _ _
      | exact impl_PitchesAt.mono _ _ _ _ _ _ _ _
      | exact laws_eqHoleS.mono _ _ _
      | exact laws_eqInstrument.mono _ _ _ _ _
      | exact laws_eqIntS.mono _ _ _
      | exact laws_heldIntS.mono _ _ _
      | exact laws_markHoleS.mono _ _ _
      | exact laws_markInstrument.mono _ _ _ _
      | exact laws_markIntS.mono _ _ _
      | exact laws_toHoleS.mono _ _
      | exact laws_toInstrument.mono _ _ _
      | exact spec_PitchesAt.mono _ _ _ _ _ _ _ _
      | exact LeO.none _
      | refine LeO.ite ?_ ?_
      | refine LeO.bind ?_ (fun _ => ?_)
theorem laws_FnExactPitchesAt.mono : ∀ a0 a1 a2 a3 a4 a5 a6 k, LeO (laws_FnExactPitchesAt.f k a0 a1 a2 a3 a4 a5 a6) (laws_FnExactPitchesAt.f (k + 1) a0 a1 a2 a3 a4 a5 a6) := by
  intro a0 a1 a2 a3 a4 a5 a6 k
  obtain ⟨ih0, ih1, ih2⟩ := laws_FnExactPitchesAt.mono_l k
  unfold laws_FnExactPitchesAt.f
  repeat' first
      | (with_reducible exact ih0 _ _ _ _ _ _ _ _ _ _ _ _ _ _ _)
      | (with_reducible exact ih1 _ _ _ _ _ _ _ _ _ _ _)
      | (with_reducible exact ih2 _ _ _)
      | (with_reducible exact impl_PitchesAt.mono _ _ _ _ _ _ _ _)
      | (with_reducible exact laws_eqHoleS.mono _ _ _)
      | (with_reducible exact laws_eqInstrument.mono _ _ _ _ _)
      | (with_reducible exact laws_eqIntS.mono _ _ _)
      | (with_reducible exact laws_heldIntS.mono _ _ _)
      | (with_reducible exact laws_markHoleS.mono _ _ _)
      | (with_reducible exact laws_markInstrument.mono _ _ _ _)
      | (with_reducible exact laws_markIntS.mono _ _ _)
      | (with_reducible exact laws_toHoleS.mono _ _)
      | (with_reducible exact laws_toInstrument.mono _ _ _)
      | (with_reducible exact spec_PitchesAt.mono _ _ _ _ _ _ _ _)
      | (with_reducible exact LeO.refl _)
      | (with_reducible exact LeO.none _)
      | (with_reducible refine LeO.ite ?_ ?_)
      | (with_reducible refine LeO.bind ?_ (fun _ => ?_))
      | exact ih0 _ _ _ _ _ _ _ _ _ _ _ _ _ _ _
      | exact ih1 _ _ _ _ _ _ _ _ _ _ _
      | exact ih2 _ _ _
      | exact impl_PitchesAt.mono _ _ _ _ _ _ _ _
      | exact laws_eqHoleS.mono _ _ _
      | exact laws_eqInstrument.mono _ _ _ _ _
      | exact laws_eqIntS.mono _ _ _
      | exact laws_heldIntS.mono _ _ _
      | exact laws_markHoleS.mono _ _ _
      | exact laws_markInstrument.mono _ _ _ _
      | exact laws_markIntS.mono _ _ _
      | exact laws_toHoleS.mono _ _
      | exact laws_toInstrument.mono _ _ _
      | exact spec_PitchesAt.mono _ _ _ _ _ _ _ _
      | exact LeO.none _
      | refine LeO.ite ?_ ?_
      | refine LeO.bind ?_ (fun _ => ?_)
def laws_FnExactPitchesAt.T8 : Bool × List (List Nat × List Nat) := (true, [([], []), ([0], [0]), ([], []), ([2, 1], [2]), ([], []), ([4, 3], [4]), ([], []), ([1, 3, 5, 6, 5], [1, 3, 5, 6]), ([7], [7]), ([8], [8]), ([8], [8]), ([9, 7, 0, 1, 2, 3, 4, 5, 6, 7, 8, 9], [9]), ([10, 11, 0, 1, 2, 3, 4, 5, 6, 7, 8, 9, 10, 11], [10])])
def laws_FnExactPitchesAt.B8 : List Nat := [0, 1, 0, 7, 0, 31, 0, 127, 255, 511, 511, 1023, 4095]
theorem laws_FnExactPitchesAt.tab8 : rtab .any (opsOf Try.f10 8) = laws_FnExactPitchesAt.T8 := by kernel_rfl
theorem laws_FnExactPitchesAt.bits8 : waitsOk laws_FnExactPitchesAt.T8.2 laws_FnExactPitchesAt.B8 = true := by kernel_rfl
def laws_FnExactPitchesAt.T11 : Bool × List (List Nat × List Nat) := (true, [([], []), ([], []), ([], []), ([2], [2]), ([], []), ([0, 1, 3, 4, 3], [0, 1, 3, 4]), ([5], [5]), ([6], [6]), ([6], [6]), ([7, 5, 0, 1, 2, 3, 4, 5, 6, 7], [7]), ([8, 9, 0, 1, 2, 3, 4, 5, 6, 7, 8, 9], [8])])
def laws_FnExactPitchesAt.B11 : List Nat := [0, 0, 0, 4, 0, 31, 63, 127, 127, 255, 1023]
theorem laws_FnExactPitchesAt.tab11 : rtab .any (opsOf Try.f10 11) = laws_FnExactPitchesAt.T11 := by kernel_rfl
theorem laws_FnExactPitchesAt.bits11 : waitsOk laws_FnExactPitchesAt.T11.2 laws_FnExactPitchesAt.B11 = true := by kernel_rfl
def laws_FnExactPitchesAt.T31 : Bool × List (List Nat × List Nat) := (true, [([], []), ([0], [0]), ([], []), ([2, 1], [2]), ([], []), ([4, 3], [4]), ([], []), ([1, 3, 5, 6, 5], [1, 3, 5, 6]), ([7], [7]), ([8], [8]), ([8], [8]), ([9, 7, 0, 1, 2, 3, 4, 5, 6, 7, 8, 9], [9]), ([10, 11, 0, 1, 2, 3, 4, 5, 6, 7, 8, 9, 10, 11], [10])])
def laws_FnExactPitchesAt.B31 : List Nat := [0, 1, 0, 7, 0, 31, 0, 127, 255, 511, 511, 1023, 4095]
theorem laws_FnExactPitchesAt.tab31 : rtab .any (opsOf Try.f10 31) = laws_FnExactPitchesAt.T31 := by kernel_rfl
theorem laws_FnExactPitchesAt.bits31 : waitsOk laws_FnExactPitchesAt.T31.2 laws_FnExactPitchesAt.B31 = true := by kernel_rfl
theorem laws_FnExactPitchesAt.j0_t {k : Nat} : ∀ {a0_ a1_ a2_ a3_ a4_ a5_ a6_ a8_ a9_ a10_ a11_ a12_ a13_ a14_}, laws_FnExactPitchesAt.j0 k a0_ a1_ a2_ a3_ a4_ a5_ a6_ true a8_ a9_ a10_ a11_ a12_ a13_ a14_ = some true → False := by
  intros; rename_i h; revert h; cases k <;> simp [laws_FnExactPitchesAt.j0]
theorem laws_FnExactPitchesAt.j1_t {k : Nat} : ∀ {a0_ a1_ a2_ a3_ a4_ a6_ a7_ a8_ a9_ a10_}, laws_FnExactPitchesAt.j1 k a0_ a1_ a2_ a3_ a4_ true a6_ a7_ a8_ a9_ a10_ = some true → False := by
  intros; rename_i h; revert h; cases k <;> simp [laws_FnExactPitchesAt.j1]
theorem laws_FnExactPitchesAt.j2_t {k : Nat} : ∀ {a0_ a1_}, laws_FnExactPitchesAt.j2 k a0_ a1_ true = some true → False := by
  intros; rename_i h; revert h; cases k <;> simp [laws_FnExactPitchesAt.j2]
set_option maxHeartbeats 8000000 in
set_option maxRecDepth 100000 in
theorem laws_FnExactPitchesAt.calls (k : Nat) (A0_0 : Option Addr) (c0_0 : Nat) (l0_0 : List Int) (a0_1 : Int) (A1 : Option Addr) (c1 : Nat) (l1 : List (S75)) (a2_0 : Int) (a2_1 : Int) (a2_2 : Int) (a3 : Int) (r : Bool) (w : World) (hr0_0 : Kd.C (Kd.int .i64) w A0_0 l0_0.length l0_0) (hc0_0 : l0_0.length ≤ c0_0) (hr1 : Kd.C k75 w A1 l1.length l1) (hc1 : l1.length ≤ c1) (h : laws_FnExactPitchesAt.f k l0_0 a0_1 l1 a2_0 a2_1 a2_2 a3 = some r) (hr_ : r = true) :
  Calls Try.prog 10 #[.agg #[.slice A0_0 l0_0.length c0_0, .int .i64 a0_1], .slice A1 l1.length c1, .agg #[.int .i64 a2_0, .int .i64 a2_1, .int .i64 a2_2], .int .i64 a3] w fun e w' => e = .returned (.bool r) ∧ Below w.heap.size w w' := by
 have hu24 := Try.underlying24
 have hu27 := Try.underlying27
 have hu32 := Try.underlying32
 have HR0_0 := zm hr0_0
 have HC0_0 := zm hc0_0
 clear hr0_0 hc0_0
 have HR1 := zm hr1
 have HC1 := zm hc1
 clear hr1 hc1
 have HB := zm (Below.refl w.heap.size w)
 have H : ((laws_szInstrument.f l0_0 a0_1 1048576).bind fun t830 => (if t830 < 0 then (some true) else ((laws_szHoleS.f l1 t830).bind fun t831 => (if t831 < 0 then (some true) else ((laws_toInstrument.f k l0_0 a0_1).bind fun bt832 => ((laws_toHoleS.f k l1).bind fun t836 => ((laws_toAction.f a2_0 a2_1 a2_2).bind fun bt839 => ((spec_PitchesAt.f k bt832.1 bt832.2 t836 bt839.1 bt839.2.1 bt839.2.2 a3).bind fun bt842 => ((laws_toInstrument.f k l0_0 a0_1).bind fun bt846 => ((laws_toHoleS.f k l1).bind fun t851 => ((laws_toAction.f a2_0 a2_1 a2_2).bind fun bt854 => ((impl_PitchesAt.f k bt846.1 bt846.2 t851 bt854.1 bt854.2.1 bt854.2.2 a3).bind fun bt857 => ((laws_eqIntS.f k bt857.1 bt842.1).bind fun t861 => (if t861 = true then (laws_FnExactPitchesAt.j0 k l1 a3 bt842.1 bt842.2 t851 bt857.1 bt857.2 (bt857.2 != bt842.2) l0_0 a0_1 a2_0 a2_1 a2_2 bt846.1 bt846.2) else (laws_FnExactPitchesAt.j0 k l1 a3 bt842.1 bt842.2 t851 bt857.1 bt857.2 true l0_0 a0_1 a2_0 a2_1 a2_2 bt846.1 bt846.2))))))))))))))) = some r := h
 clear h
 replace H := Option.bind_eq_some_iff.mp H
 obtain ⟨t830, A50, H⟩ := H
 replace H : (if t830 < 0 then (some true) else ((laws_szHoleS.f l1 t830).bind fun t831 => (if t831 < 0 then (some true) else ((laws_toInstrument.f k l0_0 a0_1).bind fun bt832 => ((laws_toHoleS.f k l1).bind fun t836 => ((laws_toAction.f a2_0 a2_1 a2_2).bind fun bt839 => ((spec_PitchesAt.f k bt832.1 bt832.2 t836 bt839.1 bt839.2.1 bt839.2.2 a3).bind fun bt842 => ((laws_toInstrument.f k l0_0 a0_1).bind fun bt846 => ((laws_toHoleS.f k l1).bind fun t851 => ((laws_toAction.f a2_0 a2_1 a2_2).bind fun bt854 => ((impl_PitchesAt.f k bt846.1 bt846.2 t851 bt854.1 bt854.2.1 bt854.2.2 a3).bind fun bt857 => ((laws_eqIntS.f k bt857.1 bt842.1).bind fun t861 => (if t861 = true then (laws_FnExactPitchesAt.j0 k l1 a3 bt842.1 bt842.2 t851 bt857.1 bt857.2 (bt857.2 != bt842.2) l0_0 a0_1 a2_0 a2_1 a2_2 bt846.1 bt846.2) else (laws_FnExactPitchesAt.j0 k l1 a3 bt842.1 bt842.2 t851 bt857.1 bt857.2 true l0_0 a0_1 a2_0 a2_1 a2_2 bt846.1 bt846.2)))))))))))))) = some r := H
 have A5 := zm A50
 clear A50
 by_cases c6 : t830 < 0
 ·
  rw [if_pos c6] at H
  have c6b0 : decide (t830 < 0) = true := decide_eq_true c6
  clear c6
  obtain rfl := Option.some.inj H
  go_enter Try.func10, Try.ntmps10
  go_wp2_with (first | ((with_reducible refine gate_dst (N := 4) rfl ?_); refine box_event ?hg (N := 4) ?hd (cs := #[.slice A0_0 l0_0.length c0_0, .int .i64 a0_1]) (t := 24) ?hr ?_; (case hd => rfl); (case hg => rfl); (case hr => first | (go_simp; done) | (go_simp; rfl)); intro gb828 hg w7 hbox hb; have n0_ := zm (below_step zb hb); have n1_ := zm (hbox); have n2_ := zm (zs hg zb : w.heap.size ≤ gb828); have n3_ := zm (zs hg zb : w.heap.size ≤ gb828); clear HB; have HB := n0_; have BK828 := n1_; have GW828 := n2_; have GE828 := n3_; clear n0_ n1_ n2_ n3_; clear hb hbox hg) | ((with_reducible refine gate_dst (N := 6) rfl ?_); refine box_event ?hg (N := 6) ?hd (cs := #[.int .i64 a2_0, .int .i64 a2_1, .int .i64 a2_2]) (t := 27) ?hr ?_; (case hd => rfl); (case hg => rfl); (case hr => first | (go_simp; done) | (go_simp; rfl)); intro gb829 hg w8 hbox hb; have n0_ := zm (blk_below (g := gb828) zk hb); have n1_ := zm (below_step zb hb); have n2_ := zm (hbox); have n3_ := zm (zs hg zb : w.heap.size ≤ gb829); have n4_ := zm (zs hg zb : w.heap.size ≤ gb829); have n5_ := zm (zl hg zk : gb828 ≠ gb829); have n6_ := zm (zg hg zk : gb829 ≠ gb828); clear BK828; clear HB; have BK828 := n0_; have HB := n1_; have BK829 := n2_; have GW829 := n3_; have GE829 := n4_; have NB828_829 := n5_; have NB829_828 := n6_; clear n0_ n1_ n2_ n3_ n4_ n5_ n6_; clear hb hbox hg; have hnb9 := NB828_829.out; have hnc9 := NB829_828.out; obtain ⟨hcz10_0, hcz10_1, hfz10_0, hfz10_1⟩ := zc2 BK828.out) | ((with_reducible refine gate_callee (f := 11) rfl ?_); refine goesL_ (some 23) rfl rfl Try.func11 (by kernel_rfl) rfl #[.agg #[.slice A0_0 l0_0.length c0_0, .int .i64 a0_1], .int .i64 1048576] rfl (by (try simp only [List.map_toArray, List.map_cons, List.map_nil]); first | done | rfl | (simp only [List.length_drop, List.length_take]; rfl)) ?_; (with_reducible refine (laws_szInstrument.calls _ _ l0_0 a0_1 1048576 t830 _ ?side1 ?side2 A5.out).mono ?_); (case side1 => repeat (first | exact (Kd.C_below HR0_0.out HB.out) | (with_reducible refine Kd.C_alloc ?_ _) | (with_reducible refine Kd.C_drewN ?_ _) | (with_reducible refine Kd.C_drew ?_))); (case side2 => exact HC0_0.out); rintro e w11 ⟨rfl, hb⟩; refine ⟨_, rfl, ?_⟩; have n0_ := zm (blk_below (g := gb828) zk hb); have n1_ := zm (blk_below (g := gb829) zk hb); have n2_ := zm (below_step zb hb); clear BK828; clear BK829; clear HB; have BK828 := n0_; have BK829 := n1_; have HB := n2_; clear n0_ n1_ n2_; (try clear hb); (try clear hb2); (try clear hk); (try clear hi)))
  go_ret
  exact ⟨zr, zb⟩
 ·
  rw [if_neg c6] at H
  have c6b0 : decide (t830 < 0) = false := decide_eq_false c6
  clear c6
  replace H := Option.bind_eq_some_iff.mp H
  obtain ⟨t831, A120, H⟩ := H
  replace H : (if t831 < 0 then (some true) else ((laws_toInstrument.f k l0_0 a0_1).bind fun bt832 => ((laws_toHoleS.f k l1).bind fun t836 => ((laws_toAction.f a2_0 a2_1 a2_2).bind fun bt839 => ((spec_PitchesAt.f k bt832.1 bt832.2 t836 bt839.1 bt839.2.1 bt839.2.2 a3).bind fun bt842 => ((laws_toInstrument.f k l0_0 a0_1).bind fun bt846 => ((laws_toHoleS.f k l1).bind fun t851 => ((laws_toAction.f a2_0 a2_1 a2_2).bind fun bt854 => ((impl_PitchesAt.f k bt846.1 bt846.2 t851 bt854.1 bt854.2.1 bt854.2.2 a3).bind fun bt857 => ((laws_eqIntS.f k bt857.1 bt842.1).bind fun t861 => (if t861 = true then (laws_FnExactPitchesAt.j0 k l1 a3 bt842.1 bt842.2 t851 bt857.1 bt857.2 (bt857.2 != bt842.2) l0_0 a0_1 a2_0 a2_1 a2_2 bt846.1 bt846.2) else (laws_FnExactPitchesAt.j0 k l1 a3 bt842.1 bt842.2 t851 bt857.1 bt857.2 true l0_0 a0_1 a2_0 a2_1 a2_2 bt846.1 bt846.2)))))))))))) = some r := H
  have A12 := zm A120
  clear A120
  by_cases c13 : t831 < 0
  ·
   rw [if_pos c13] at H
   have c13b0 : decide (t831 < 0) = true := decide_eq_true c13
   clear c13
   obtain rfl := Option.some.inj H
   go_enter Try.func10, Try.ntmps10
   go_wp2_with (first | ((with_reducible refine gate_dst (N := 4) rfl ?_); refine box_event ?hg (N := 4) ?hd (cs := #[.slice A0_0 l0_0.length c0_0, .int .i64 a0_1]) (t := 24) ?hr ?_; (case hd => rfl); (case hg => rfl); (case hr => first | (go_simp; done) | (go_simp; rfl)); intro gb828 hg w14 hbox hb; have n0_ := zm (below_step zb hb); have n1_ := zm (hbox); have n2_ := zm (zs hg zb : w.heap.size ≤ gb828); have n3_ := zm (zs hg zb : w.heap.size ≤ gb828); clear HB; have HB := n0_; have BK828 := n1_; have GW828 := n2_; have GE828 := n3_; clear n0_ n1_ n2_ n3_; clear hb hbox hg) | ((with_reducible refine gate_dst (N := 6) rfl ?_); refine box_event ?hg (N := 6) ?hd (cs := #[.int .i64 a2_0, .int .i64 a2_1, .int .i64 a2_2]) (t := 27) ?hr ?_; (case hd => rfl); (case hg => rfl); (case hr => first | (go_simp; done) | (go_simp; rfl)); intro gb829 hg w15 hbox hb; have n0_ := zm (blk_below (g := gb828) zk hb); have n1_ := zm (below_step zb hb); have n2_ := zm (hbox); have n3_ := zm (zs hg zb : w.heap.size ≤ gb829); have n4_ := zm (zs hg zb : w.heap.size ≤ gb829); have n5_ := zm (zl hg zk : gb828 ≠ gb829); have n6_ := zm (zg hg zk : gb829 ≠ gb828); clear BK828; clear HB; have BK828 := n0_; have HB := n1_; have BK829 := n2_; have GW829 := n3_; have GE829 := n4_; have NB828_829 := n5_; have NB829_828 := n6_; clear n0_ n1_ n2_ n3_ n4_ n5_ n6_; clear hb hbox hg; have hnb16 := NB828_829.out; have hnc16 := NB829_828.out; obtain ⟨hcz17_0, hcz17_1, hfz17_0, hfz17_1⟩ := zc2 BK828.out) | ((with_reducible refine gate_callee (f := 11) rfl ?_); refine goesL_ (some 23) rfl rfl Try.func11 (by kernel_rfl) rfl #[.agg #[.slice A0_0 l0_0.length c0_0, .int .i64 a0_1], .int .i64 1048576] rfl (by (try simp only [List.map_toArray, List.map_cons, List.map_nil]); first | done | rfl | (simp only [List.length_drop, List.length_take]; rfl)) ?_; (with_reducible refine (laws_szInstrument.calls _ _ l0_0 a0_1 1048576 t830 _ ?side1 ?side2 A5.out).mono ?_); (case side1 => repeat (first | exact (Kd.C_below HR0_0.out HB.out) | (with_reducible refine Kd.C_alloc ?_ _) | (with_reducible refine Kd.C_drewN ?_ _) | (with_reducible refine Kd.C_drew ?_))); (case side2 => exact HC0_0.out); rintro e w18 ⟨rfl, hb⟩; refine ⟨_, rfl, ?_⟩; have n0_ := zm (blk_below (g := gb828) zk hb); have n1_ := zm (blk_below (g := gb829) zk hb); have n2_ := zm (below_step zb hb); clear BK828; clear BK829; clear HB; have BK828 := n0_; have BK829 := n1_; have HB := n2_; clear n0_ n1_ n2_; (try clear hb); (try clear hb2); (try clear hk); (try clear hi)) | ((with_reducible refine gate_callee (f := 12) rfl ?_); refine goesL_ (some 28) rfl rfl Try.func12 (by kernel_rfl) rfl #[.slice A1 l1.length c1, .int .i64 t830] rfl (by (try simp only [List.map_toArray, List.map_cons, List.map_nil]); first | done | rfl | (simp only [List.length_drop, List.length_take]; rfl)) ?_; (with_reducible refine (laws_szHoleS.calls _ _ l1 t830 t831 _ ?side1 ?side2 A12.out).mono ?_); (case side1 => repeat (first | exact (Kd.C_below HR1.out HB.out) | (with_reducible refine Kd.C_alloc ?_ _) | (with_reducible refine Kd.C_drewN ?_ _) | (with_reducible refine Kd.C_drew ?_))); (case side2 => exact HC1.out); rintro e w' ⟨rfl, ⟨nd, rfl⟩⟩; refine ⟨_, rfl, ?_⟩))
   go_ret
   exact ⟨zr, zb⟩
  ·
   rw [if_neg c13] at H
   have c13b0 : decide (t831 < 0) = false := decide_eq_false c13
   clear c13
   replace H := Option.bind_eq_some_iff.mp H
   obtain ⟨⟨t832, t835⟩, A190, H⟩ := H
   replace H : ((laws_toHoleS.f k l1).bind fun t836 => ((laws_toAction.f a2_0 a2_1 a2_2).bind fun bt839 => ((spec_PitchesAt.f k t832 t835 t836 bt839.1 bt839.2.1 bt839.2.2 a3).bind fun bt842 => ((laws_toInstrument.f k l0_0 a0_1).bind fun bt846 => ((laws_toHoleS.f k l1).bind fun t851 => ((laws_toAction.f a2_0 a2_1 a2_2).bind fun bt854 => ((impl_PitchesAt.f k bt846.1 bt846.2 t851 bt854.1 bt854.2.1 bt854.2.2 a3).bind fun bt857 => ((laws_eqIntS.f k bt857.1 bt842.1).bind fun t861 => (if t861 = true then (laws_FnExactPitchesAt.j0 k l1 a3 bt842.1 bt842.2 t851 bt857.1 bt857.2 (bt857.2 != bt842.2) l0_0 a0_1 a2_0 a2_1 a2_2 bt846.1 bt846.2) else (laws_FnExactPitchesAt.j0 k l1 a3 bt842.1 bt842.2 t851 bt857.1 bt857.2 true l0_0 a0_1 a2_0 a2_1 a2_2 bt846.1 bt846.2)))))))))) = some r := H
   have A19 := zm A190
   clear A190
   replace H := Option.bind_eq_some_iff.mp H
   obtain ⟨t836, A200, H⟩ := H
   replace H : ((laws_toAction.f a2_0 a2_1 a2_2).bind fun bt839 => ((spec_PitchesAt.f k t832 t835 t836 bt839.1 bt839.2.1 bt839.2.2 a3).bind fun bt842 => ((laws_toInstrument.f k l0_0 a0_1).bind fun bt846 => ((laws_toHoleS.f k l1).bind fun t851 => ((laws_toAction.f a2_0 a2_1 a2_2).bind fun bt854 => ((impl_PitchesAt.f k bt846.1 bt846.2 t851 bt854.1 bt854.2.1 bt854.2.2 a3).bind fun bt857 => ((laws_eqIntS.f k bt857.1 bt842.1).bind fun t861 => (if t861 = true then (laws_FnExactPitchesAt.j0 k l1 a3 bt842.1 bt842.2 t851 bt857.1 bt857.2 (bt857.2 != bt842.2) l0_0 a0_1 a2_0 a2_1 a2_2 bt846.1 bt846.2) else (laws_FnExactPitchesAt.j0 k l1 a3 bt842.1 bt842.2 t851 bt857.1 bt857.2 true l0_0 a0_1 a2_0 a2_1 a2_2 bt846.1 bt846.2))))))))) = some r := H
   have A20 := zm A200
   clear A200
   replace H := Option.bind_eq_some_iff.mp H
   obtain ⟨⟨t839, t840, t841⟩, A210, H⟩ := H
   replace H : ((spec_PitchesAt.f k t832 t835 t836 t839 t840 t841 a3).bind fun bt842 => ((laws_toInstrument.f k l0_0 a0_1).bind fun bt846 => ((laws_toHoleS.f k l1).bind fun t851 => ((laws_toAction.f a2_0 a2_1 a2_2).bind fun bt854 => ((impl_PitchesAt.f k bt846.1 bt846.2 t851 bt854.1 bt854.2.1 bt854.2.2 a3).bind fun bt857 => ((laws_eqIntS.f k bt857.1 bt842.1).bind fun t861 => (if t861 = true then (laws_FnExactPitchesAt.j0 k l1 a3 bt842.1 bt842.2 t851 bt857.1 bt857.2 (bt857.2 != bt842.2) l0_0 a0_1 a2_0 a2_1 a2_2 bt846.1 bt846.2) else (laws_FnExactPitchesAt.j0 k l1 a3 bt842.1 bt842.2 t851 bt857.1 bt857.2 true l0_0 a0_1 a2_0 a2_1 a2_2 bt846.1 bt846.2)))))))) = some r := H
   have A21 := zm A210
   clear A210
   replace H := Option.bind_eq_some_iff.mp H
   obtain ⟨⟨t842, t845⟩, A220, H⟩ := H
   replace H : ((laws_toInstrument.f k l0_0 a0_1).bind fun bt846 => ((laws_toHoleS.f k l1).bind fun t851 => ((laws_toAction.f a2_0 a2_1 a2_2).bind fun bt854 => ((impl_PitchesAt.f k bt846.1 bt846.2 t851 bt854.1 bt854.2.1 bt854.2.2 a3).bind fun bt857 => ((laws_eqIntS.f k bt857.1 t842).bind fun t861 => (if t861 = true then (laws_FnExactPitchesAt.j0 k l1 a3 t842 t845 t851 bt857.1 bt857.2 (bt857.2 != t845) l0_0 a0_1 a2_0 a2_1 a2_2 bt846.1 bt846.2) else (laws_FnExactPitchesAt.j0 k l1 a3 t842 t845 t851 bt857.1 bt857.2 true l0_0 a0_1 a2_0 a2_1 a2_2 bt846.1 bt846.2))))))) = some r := H
   have A22 := zm A220
   clear A220
   replace H := Option.bind_eq_some_iff.mp H
   obtain ⟨⟨t846, t849⟩, A230, H⟩ := H
   replace H : ((laws_toHoleS.f k l1).bind fun t851 => ((laws_toAction.f a2_0 a2_1 a2_2).bind fun bt854 => ((impl_PitchesAt.f k t846 t849 t851 bt854.1 bt854.2.1 bt854.2.2 a3).bind fun bt857 => ((laws_eqIntS.f k bt857.1 t842).bind fun t861 => (if t861 = true then (laws_FnExactPitchesAt.j0 k l1 a3 t842 t845 t851 bt857.1 bt857.2 (bt857.2 != t845) l0_0 a0_1 a2_0 a2_1 a2_2 t846 t849) else (laws_FnExactPitchesAt.j0 k l1 a3 t842 t845 t851 bt857.1 bt857.2 true l0_0 a0_1 a2_0 a2_1 a2_2 t846 t849)))))) = some r := H
   have A23 := zm A230
   clear A230
   replace H := Option.bind_eq_some_iff.mp H
   obtain ⟨t851, A240, H⟩ := H
   replace H : ((laws_toAction.f a2_0 a2_1 a2_2).bind fun bt854 => ((impl_PitchesAt.f k t846 t849 t851 bt854.1 bt854.2.1 bt854.2.2 a3).bind fun bt857 => ((laws_eqIntS.f k bt857.1 t842).bind fun t861 => (if t861 = true then (laws_FnExactPitchesAt.j0 k l1 a3 t842 t845 t851 bt857.1 bt857.2 (bt857.2 != t845) l0_0 a0_1 a2_0 a2_1 a2_2 t846 t849) else (laws_FnExactPitchesAt.j0 k l1 a3 t842 t845 t851 bt857.1 bt857.2 true l0_0 a0_1 a2_0 a2_1 a2_2 t846 t849))))) = some r := H
   have A24 := zm A240
   clear A240
   replace H := Option.bind_eq_some_iff.mp H
   obtain ⟨⟨t854, t855, t856⟩, A250, H⟩ := H
   replace H : ((impl_PitchesAt.f k t846 t849 t851 t854 t855 t856 a3).bind fun bt857 => ((laws_eqIntS.f k bt857.1 t842).bind fun t861 => (if t861 = true then (laws_FnExactPitchesAt.j0 k l1 a3 t842 t845 t851 bt857.1 bt857.2 (bt857.2 != t845) l0_0 a0_1 a2_0 a2_1 a2_2 t846 t849) else (laws_FnExactPitchesAt.j0 k l1 a3 t842 t845 t851 bt857.1 bt857.2 true l0_0 a0_1 a2_0 a2_1 a2_2 t846 t849)))) = some r := H
   have A25 := zm A250
   clear A250
   replace H := Option.bind_eq_some_iff.mp H
   obtain ⟨⟨t857, t860⟩, A260, H⟩ := H
   replace H : ((laws_eqIntS.f k t857 t842).bind fun t861 => (if t861 = true then (laws_FnExactPitchesAt.j0 k l1 a3 t842 t845 t851 t857 t860 (t860 != t845) l0_0 a0_1 a2_0 a2_1 a2_2 t846 t849) else (laws_FnExactPitchesAt.j0 k l1 a3 t842 t845 t851 t857 t860 true l0_0 a0_1 a2_0 a2_1 a2_2 t846 t849))) = some r := H
   have A26 := zm A260
   clear A260
   have HC27 := zm H
   clear H
   go_enter Try.func10, Try.ntmps10
   try go_wp2_with (first | ((with_reducible refine gate_dst (N := 4) rfl ?_); refine box_event ?hg (N := 4) ?hd (cs := #[.slice A0_0 l0_0.length c0_0, .int .i64 a0_1]) (t := 24) ?hr ?_; (case hd => rfl); (case hg => rfl); (case hr => first | (go_simp; done) | (go_simp; rfl)); intro gb828 hg w28 hbox hb; have n0_ := zm (below_step zb hb); have n1_ := zm (hbox); have n2_ := zm (zs hg zb : w.heap.size ≤ gb828); have n3_ := zm (zs hg zb : w.heap.size ≤ gb828); clear HB; have HB := n0_; have BK828 := n1_; have GW828 := n2_; have GE828 := n3_; clear n0_ n1_ n2_ n3_; clear hb hbox hg) | ((with_reducible refine gate_dst (N := 6) rfl ?_); refine box_event ?hg (N := 6) ?hd (cs := #[.int .i64 a2_0, .int .i64 a2_1, .int .i64 a2_2]) (t := 27) ?hr ?_; (case hd => rfl); (case hg => rfl); (case hr => first | (go_simp; done) | (go_simp; rfl)); intro gb829 hg w29 hbox hb; have n0_ := zm (blk_below (g := gb828) zk hb); have n1_ := zm (below_step zb hb); have n2_ := zm (hbox); have n3_ := zm (zs hg zb : w.heap.size ≤ gb829); have n4_ := zm (zs hg zb : w.heap.size ≤ gb829); have n5_ := zm (zl hg zk : gb828 ≠ gb829); have n6_ := zm (zg hg zk : gb829 ≠ gb828); clear BK828; clear HB; have BK828 := n0_; have HB := n1_; have BK829 := n2_; have GW829 := n3_; have GE829 := n4_; have NB828_829 := n5_; have NB829_828 := n6_; clear n0_ n1_ n2_ n3_ n4_ n5_ n6_; clear hb hbox hg; have hnb30 := NB828_829.out; have hnc30 := NB829_828.out; obtain ⟨hcz31_0, hcz31_1, hfz31_0, hfz31_1⟩ := zc2 BK828.out) | ((with_reducible refine gate_callee (f := 11) rfl ?_); refine goesL_ (some 23) rfl rfl Try.func11 (by kernel_rfl) rfl #[.agg #[.slice A0_0 l0_0.length c0_0, .int .i64 a0_1], .int .i64 1048576] rfl (by (try simp only [List.map_toArray, List.map_cons, List.map_nil]); first | done | rfl | (simp only [List.length_drop, List.length_take]; rfl)) ?_; (with_reducible refine (laws_szInstrument.calls _ _ l0_0 a0_1 1048576 t830 _ ?side1 ?side2 A5.out).mono ?_); (case side1 => repeat (first | exact (Kd.C_below HR0_0.out HB.out) | (with_reducible refine Kd.C_alloc ?_ _) | (with_reducible refine Kd.C_drewN ?_ _) | (with_reducible refine Kd.C_drew ?_))); (case side2 => exact HC0_0.out); rintro e w32 ⟨rfl, hb⟩; refine ⟨_, rfl, ?_⟩; have n0_ := zm (blk_below (g := gb828) zk hb); have n1_ := zm (blk_below (g := gb829) zk hb); have n2_ := zm (below_step zb hb); clear BK828; clear BK829; clear HB; have BK828 := n0_; have BK829 := n1_; have HB := n2_; clear n0_ n1_ n2_; (try clear hb); (try clear hb2); (try clear hk); (try clear hi)) | ((with_reducible refine gate_callee (f := 12) rfl ?_); refine goesL_ (some 28) rfl rfl Try.func12 (by kernel_rfl) rfl #[.slice A1 l1.length c1, .int .i64 t830] rfl (by (try simp only [List.map_toArray, List.map_cons, List.map_nil]); first | done | rfl | (simp only [List.length_drop, List.length_take]; rfl)) ?_; (with_reducible refine (laws_szHoleS.calls _ _ l1 t830 t831 _ ?side1 ?side2 A12.out).mono ?_); (case side1 => repeat (first | exact (Kd.C_below HR1.out HB.out) | (with_reducible refine Kd.C_alloc ?_ _) | (with_reducible refine Kd.C_drewN ?_ _) | (with_reducible refine Kd.C_drew ?_))); (case side2 => exact HC1.out); rintro e w' ⟨rfl, ⟨nd, rfl⟩⟩; refine ⟨_, rfl, ?_⟩; (try (rw [drewN_self w32]; generalize hq_ : World.drewN w32 _ = w32; have n0_ : Aside0 (w32.heap[gb828]? = some (.cells #[.slice A0_0 l0_0.length c0_0, .int .i64 a0_1] 24 (0, 0))) := ⟨by rw [← hq_]; exact zk⟩; have n1_ : Aside0 (w32.heap[gb829]? = some (.cells #[.int .i64 a2_0, .int .i64 a2_1, .int .i64 a2_2] 27 (0, 0))) := ⟨by rw [← hq_]; exact zk⟩; have n2_ : Aside0 (Below w.heap.size w w32) := ⟨by rw [← hq_]; exact zb⟩; clear BK828 BK829 HB hq_; have BK828 := n0_; have BK829 := n1_; have HB := n2_; clear n0_ n1_ n2_))))
   have n0_ := zm (blk_drew BK828.out)
   have n1_ := zm (blk_drew BK829.out)
   have n2_ := zm (below_drew1 HB.out)
   clear BK828
   clear BK829
   clear HB
   have BK828 := n0_
   have BK829 := n1_
   have HB := n2_
   clear n0_ n1_ n2_
   refine start_ (n := 13) (S := fun w' => w'.cell? ⟨gb828, 0, none⟩ = some (.slice A0_0 l0_0.length c0_0) ∧ w'.cell? ⟨gb828, 1, none⟩ = some (.int .i64 a0_1) ∧ w'.cell? ⟨gb829, 0, none⟩ = some (.int .i64 a2_0) ∧ w'.cell? ⟨gb829, 1, none⟩ = some (.int .i64 a2_1) ∧ w'.cell? ⟨gb829, 2, none⟩ = some (.int .i64 a2_2)) (ds := []) #[false, false, false, false, false, false, false, false, false, false, false, false, false] (by kernel_rfl) rfl rfl ⟨(blk_cell BK828.out 0).trans rfl, (blk_cell BK828.out 1).trans rfl, (blk_cell BK829.out 0).trans rfl, (blk_cell BK829.out 1).trans rfl, (blk_cell BK829.out 2).trans rfl⟩ (fun hHeld => ?_); refine with_tabW laws_FnExactPitchesAt.tab8 laws_FnExactPitchesAt.bits8 (fun HT_ HW_ => ?_)
   generalize w32.drew = w33 at BK828 BK829 HB hHeld ⊢
   refine pure_ (i := 2) (N := some 34) (v := ?_) (a' := ?_) #[false, false, true, false, false, false, false, false, false, false, false, false, false] rfl rfl (any_of HT_.out (by kernel_rfl)) (fun _ _ _ h => h) (Or.inl ⟨by rfl, ?_⟩) ?_ ?_
   rotate_left
   ·
    intro w'
    go_simp
    with_reducible rfl
   rotate_left
   ·
    simp only [Act.put, zA, zB, zD, i64_w, i32_w]
    rfl
   refine pure_ (i := 6) (N := some 38) (v := ?_) (a' := ?_) #[false, false, true, false, false, false, true, false, false, false, false, false, false] rfl rfl (any_of HT_.out (by kernel_rfl)) (fun _ _ _ h => h) (Or.inl ⟨by rfl, ?_⟩) ?_ ?_
   rotate_left
   ·
    intro w'
    go_simp
    with_reducible rfl
   rotate_left
   ·
    simp only [Act.put, zA, zB, zD, i64_w, i32_w]
    rfl
   refine take_ (i := 0) (N := some 32) (v := ?_) (a' := ?_) #[true, false, true, false, false, false, true, false, false, false, false, false, false] rfl rfl (take_ofW HT_.out HW_.out (by kernel_rfl)) (fun _ _ _ h => h) (Or.inl ⟨by rfl, ?_⟩) hHeld ?_ ?_
   rotate_left
   ·
    rintro w' ⟨s0, s1, s2, s3, s4⟩
    go_simp
    with_reducible rfl
   rotate_left
   ·
    simp only [Act.put, zA, zB, zD, i64_w, i32_w]
    rfl
   refine take_ (i := 4) (N := some 36) (v := ?_) (a' := ?_) #[true, false, true, false, true, false, true, false, false, false, false, false, false] rfl rfl (take_ofW HT_.out HW_.out (by kernel_rfl)) (fun _ _ _ h => h) (Or.inl ⟨by rfl, ?_⟩) hHeld ?_ ?_
   rotate_left
   ·
    rintro w' ⟨s0, s1, s2, s3, s4⟩
    go_simp
    with_reducible rfl
   rotate_left
   ·
    simp only [Act.put, zA, zB, zD, i64_w, i32_w]
    rfl
   refine one_ (i := 1) (N := some 33) #[true, true, true, false, true, false, true, false, false, false, false, false, false] rfl rfl (one_of HT_.out (by kernel_rfl)) (by decide) (fun K hK => ?_)
   refine goes_ Try.func14 (by kernel_rfl) rfl #[.agg #[.slice A0_0 l0_0.length c0_0, .int .i64 a0_1]] (by rfl) rfl rfl (by (try simp only [List.map_toArray, List.map_cons, List.map_nil]); first | done | rfl | (simp only [List.length_drop, List.length_take]; rfl)) ?_
   with_reducible refine (laws_toInstrument.calls k _ _ l0_0 a0_1 t832 t835 _ ?side1 ?side2 A19.out).mono ?_
   (case side1 => repeat (first | exact (Kd.C_below HR0_0.out HB.out) | (with_reducible refine Kd.C_alloc ?_ _) | (with_reducible refine Kd.C_drewN ?_ _) | (with_reducible refine Kd.C_drew ?_)))
   (case side2 => exact HC0_0.out)
   rintro e w34 ⟨v833, rfl, ho0, hb⟩
   refine ⟨_, rfl, ?_⟩
   have n0_ := zm (Kd.R_lower ho0 (below_size zb))
   have n1_ := zm (blk_below (g := gb828) zk hb)
   have n2_ := zm (blk_below (g := gb829) zk hb)
   have n3_ := zm (below_step zb hb)
   clear BK828
   clear BK829
   clear HB
   have HO834 := n0_
   have BK828 := n1_
   have BK829 := n2_
   have HB := n3_
   clear n0_ n1_ n2_ n3_
   (try clear hb)
   (try clear hb2)
   (try clear hk)
   (try clear hi)
   (try clear ho0)
   refine hK.out _ _ ⟨(blk_cell BK828.out 0).trans rfl, (blk_cell BK828.out 1).trans rfl, (blk_cell BK829.out 0).trans rfl, (blk_cell BK829.out 1).trans rfl, (blk_cell BK829.out 2).trans rfl⟩ (fun hHeld => ?_)
   clear hK K
   refine norm_ (a' := ?_) ?_ ?_
   rotate_left
   ·
    show Act.put _ (some 33) _ = _
    simp only [Act.put, zA, zB, zD, i64_w, i32_w]
    rfl
   refine one_ (i := 3) (N := some 35) #[true, true, true, true, true, false, true, false, false, false, false, false, false] rfl rfl (one_of HT_.out (by kernel_rfl)) (by decide) (fun K hK => ?_)
   refine goes_ Try.func15 (by kernel_rfl) rfl #[.slice A1 l1.length c1] (by rfl) rfl rfl (by (try simp only [List.map_toArray, List.map_cons, List.map_nil]); first | done | rfl | (simp only [List.length_drop, List.length_take]; rfl)) ?_
   with_reducible refine (laws_toHoleS.calls k _ _ l1 t836 _ ?side1 ?side2 A20.out).mono ?_
   (case side1 => repeat (first | exact (Kd.C_below HR1.out HB.out) | (with_reducible refine Kd.C_alloc ?_ _) | (with_reducible refine Kd.C_drewN ?_ _) | (with_reducible refine Kd.C_drew ?_)))
   (case side2 => exact HC1.out)
   rintro e w35 ⟨v837, rfl, ho0, hb⟩
   refine ⟨_, rfl, ?_⟩
   have n0_ := zm (Kd.R_below (by (with_reducible repeat (first | apply Kd.R_alloc | apply Kd.R_drewN | apply Kd.R_drew)); exact HO834.out) hb)
   have n1_ := zm (Kd.R_lower ho0 (below_size zb))
   have n2_ := zm (blk_below (g := gb828) zk hb)
   have n3_ := zm (blk_below (g := gb829) zk hb)
   have n4_ := zm (below_step zb hb)
   clear HO834
   clear BK828
   clear BK829
   clear HB
   have HO834 := n0_
   have HO838 := n1_
   have BK828 := n2_
   have BK829 := n3_
   have HB := n4_
   clear n0_ n1_ n2_ n3_ n4_
   (try clear hb)
   (try clear hb2)
   (try clear hk)
   (try clear hi)
   (try clear ho0)
   refine hK.out _ _ ⟨(blk_cell BK828.out 0).trans rfl, (blk_cell BK828.out 1).trans rfl, (blk_cell BK829.out 0).trans rfl, (blk_cell BK829.out 1).trans rfl, (blk_cell BK829.out 2).trans rfl⟩ (fun hHeld => ?_)
   clear hK K
   refine norm_ (a' := ?_) ?_ ?_
   rotate_left
   ·
    show Act.put _ (some 35) _ = _
    simp only [Act.put, zA, zB, zD, i64_w, i32_w]
    rfl
   refine one_ (i := 5) (N := some 37) #[true, true, true, true, true, true, true, false, false, false, false, false, false] rfl rfl (one_of HT_.out (by kernel_rfl)) (by decide) (fun K hK => ?_)
   refine goes_ Try.func16 (by kernel_rfl) rfl #[.agg #[.int .i64 a2_0, .int .i64 a2_1, .int .i64 a2_2]] (by rfl) rfl rfl (by (try simp only [List.map_toArray, List.map_cons, List.map_nil]); first | done | rfl | (simp only [List.length_drop, List.length_take]; rfl)) ?_
   with_reducible refine (laws_toAction.calls a2_0 a2_1 a2_2 t839 t840 t841 _ A21.out).mono ?_
   rintro e w36 ⟨rfl, hb⟩
   refine ⟨_, rfl, ?_⟩
   have n0_ := zm (Kd.R_below (by (with_reducible repeat (first | apply Kd.R_alloc | apply Kd.R_drewN | apply Kd.R_drew)); exact HO834.out) hb)
   have n1_ := zm (Kd.R_below (by (with_reducible repeat (first | apply Kd.R_alloc | apply Kd.R_drewN | apply Kd.R_drew)); exact HO838.out) hb)
   have n2_ := zm (blk_below (g := gb828) zk hb)
   have n3_ := zm (blk_below (g := gb829) zk hb)
   have n4_ := zm (below_step zb hb)
   clear HO834
   clear HO838
   clear BK828
   clear BK829
   clear HB
   have HO834 := n0_
   have HO838 := n1_
   have BK828 := n2_
   have BK829 := n3_
   have HB := n4_
   clear n0_ n1_ n2_ n3_ n4_
   (try clear hb)
   (try clear hb2)
   (try clear hk)
   (try clear hi)
   obtain ⟨Ao37, co37, eo37⟩ := Kd.R_slice HO834.out
   (first | subst eo37 | (injection eo37 with f1_ f2_ f3_; have f4_ := f1_.symm; have f5_ := f3_.symm; clear f1_ f2_ f3_; subst f4_; subst f5_))
   obtain ⟨Ao38, co38, eo38⟩ := Kd.R_slice HO838.out
   (first | subst eo38 | (injection eo38 with f1_ f2_ f3_; have f4_ := f1_.symm; have f5_ := f3_.symm; clear f1_ f2_ f3_; subst f4_; subst f5_))
   refine hK.out _ _ ⟨(blk_cell BK828.out 0).trans rfl, (blk_cell BK828.out 1).trans rfl, (blk_cell BK829.out 0).trans rfl, (blk_cell BK829.out 1).trans rfl, (blk_cell BK829.out 2).trans rfl⟩ (fun hHeld => ?_)
   clear hK K
   refine norm_ (a' := ?_) ?_ ?_
   rotate_left
   ·
    show Act.put _ (some 37) _ = _
    simp only [Act.put, zA, zB, zD, i64_w, i32_w]
    rfl
   refine one_ (i := 7) (N := some 39) #[true, true, true, true, true, true, true, true, false, false, false, false, false] rfl rfl (one_of HT_.out (by kernel_rfl)) (by decide) (fun K hK => ?_)
   refine goes_ Try.func46 (by kernel_rfl) rfl #[.agg #[.slice Ao37 t832.length co37, .int .i64 t835], .slice Ao38 t836.length co38, .agg #[.int .i64 t839, .int .i64 t840, .int .i64 t841], .int .i64 a3] (by rfl) rfl rfl (by (try simp only [List.map_toArray, List.map_cons, List.map_nil]); first | done | rfl | (simp only [List.length_drop, List.length_take]; rfl)) ?_
   with_reducible refine (spec_PitchesAt.calls k _ _ t832 t835 _ _ t836 t839 t840 t841 a3 t842 t845 _ ?side1 ?side2 ?side3 ?side4 A22.out).mono ?_
   (case side1 => repeat (first | exact (Kd.R_reads' HO834.out).2.2 | (with_reducible refine Kd.C_alloc ?_ _) | (with_reducible refine Kd.C_drewN ?_ _) | (with_reducible refine Kd.C_drew ?_)))
   (case side2 => exact (Kd.R_reads' HO834.out).2.1)
   (case side3 => repeat (first | exact (Kd.R_reads' HO838.out).2.2 | (with_reducible refine Kd.C_alloc ?_ _) | (with_reducible refine Kd.C_drewN ?_ _) | (with_reducible refine Kd.C_drew ?_)))
   (case side4 => exact (Kd.R_reads' HO838.out).2.1)
   rintro e w39 ⟨v843, rfl, ho0, hb⟩
   refine ⟨_, rfl, ?_⟩
   have n0_ := zm (Kd.R_elder' (by (with_reducible repeat (first | apply Kd.R_alloc | apply Kd.R_drewN | apply Kd.R_drew)); exact HO834.out) (Kd.R_base ho0) hb)
   have n1_ := zm (Kd.R_below (by (with_reducible repeat (first | apply Kd.R_alloc | apply Kd.R_drewN | apply Kd.R_drew)); exact HO838.out) hb)
   have n2_ := zm (Kd.R_lower (Kd.R_new' ho0 (Kd.R_lt (by (with_reducible repeat (first | apply Kd.R_alloc | apply Kd.R_drewN | apply Kd.R_drew)); exact HO834.out))) (below_size zb))
   have n3_ := zm (blk_below (g := gb828) zk hb)
   have n4_ := zm (blk_below (g := gb829) zk hb)
   have n5_ := zm (below_step zb hb)
   clear HO834
   clear HO838
   clear BK828
   clear BK829
   clear HB
   have HO834 := n0_
   have HO838 := n1_
   have HO844 := n2_
   have BK828 := n3_
   have BK829 := n4_
   have HB := n5_
   clear n0_ n1_ n2_ n3_ n4_ n5_
   (try clear hb)
   (try clear hb2)
   (try clear hk)
   (try clear hi)
   (try clear ho0)
   refine hK.out _ _ ⟨(blk_cell BK828.out 0).trans rfl, (blk_cell BK828.out 1).trans rfl, (blk_cell BK829.out 0).trans rfl, (blk_cell BK829.out 1).trans rfl, (blk_cell BK829.out 2).trans rfl⟩ (fun hHeld => ?_)
   clear hK K
   refine norm_ (a' := ?_) ?_ ?_
   rotate_left
   ·
    show Act.put _ (some 39) _ = _
    simp only [Act.put, zA, zB, zD, i64_w, i32_w]
    rfl
   refine pure_ (i := 8) (N := some 31) (v := ?_) (a' := ?_) #[true, true, true, true, true, true, true, true, true, false, false, false, false] rfl rfl (any_of HT_.out (by kernel_rfl)) (fun _ _ _ h => h) (Or.inl ⟨by rfl, ?_⟩) ?_ ?_
   rotate_left
   ·
    intro w'
    go_simp
    with_reducible rfl
   rotate_left
   ·
    simp only [Act.put, zA, zB, zD, i64_w, i32_w]
    rfl
   refine pure_ (i := 9) (N := some 40) (v := ?_) (a' := ?_) #[true, true, true, true, true, true, true, true, true, true, false, false, false] rfl rfl (any_of HT_.out (by kernel_rfl)) (fun _ _ _ h => h) (Or.inl ⟨by rfl, ?_⟩) ?_ ?_
   rotate_left
   ·
    intro w'
    go_simp
    with_reducible rfl
   rotate_left
   ·
    simp only [Act.put, zA, zB, zD, i64_w, i32_w]
    rfl
   refine pure_ (i := 10) (N := some 41) (v := ?_) (a' := ?_) #[true, true, true, true, true, true, true, true, true, true, true, false, false] rfl rfl (any_of HT_.out (by kernel_rfl)) (fun _ _ _ h => h) (Or.inl ⟨by rfl, ?_⟩) ?_ ?_
   rotate_left
   ·
    intro w'
    go_simp
    with_reducible rfl
   rotate_left
   ·
    simp only [Act.put, zA, zB, zD, i64_w, i32_w]
    rfl
   refine pure_ (i := 11) (N := some 10) (v := ?_) (a' := ?_) #[true, true, true, true, true, true, true, true, true, true, true, true, false] rfl rfl (any_of HT_.out (by kernel_rfl)) (fun _ _ _ h => h) (Or.inl ⟨by rfl, ?_⟩) ?_ ?_
   rotate_left
   ·
    intro w'
    go_simp
    with_reducible rfl
   rotate_left
   ·
    simp only [Act.put, zA, zB, zD, i64_w, i32_w]
    rfl
   refine pure_ (i := 12) (N := some 11) (v := ?_) (a' := ?_) #[true, true, true, true, true, true, true, true, true, true, true, true, true] rfl rfl (any_of HT_.out (by kernel_rfl)) (fun _ _ _ h => h) (Or.inl ⟨by rfl, ?_⟩) ?_ ?_
   rotate_left
   ·
    intro w'
    go_simp
    with_reducible rfl
   rotate_left
   ·
    simp only [Act.put, zA, zB, zD, i64_w, i32_w]
    rfl
   refine done_ (done_of HT_.out (by kernel_rfl)) ?_
   obtain ⟨hcz40_0, hcz40_1, hfz40_0, hfz40_1⟩ := zc2 BK828.out
   try go_wp2_with (first | ((with_reducible refine gate_callee (f := 14) rfl ?_); refine goesL_ (some 43) rfl rfl Try.func14 (by kernel_rfl) rfl #[.agg #[.slice A0_0 l0_0.length c0_0, .int .i64 a0_1]] rfl (by (try simp only [List.map_toArray, List.map_cons, List.map_nil]); first | done | rfl | (simp only [List.length_drop, List.length_take]; rfl)) ?_; (with_reducible refine (laws_toInstrument.calls k _ _ l0_0 a0_1 t846 t849 _ ?side1 ?side2 A23.out).mono ?_); (case side1 => repeat (first | exact (Kd.C_below HR0_0.out HB.out) | (with_reducible refine Kd.C_alloc ?_ _) | (with_reducible refine Kd.C_drewN ?_ _) | (with_reducible refine Kd.C_drew ?_))); (case side2 => exact HC0_0.out); rintro e w41 ⟨v847, rfl, ho0, hb⟩; refine ⟨_, rfl, ?_⟩; have n0_ := zm (Kd.R_elder' (by (with_reducible repeat (first | apply Kd.R_alloc | apply Kd.R_drewN | apply Kd.R_drew)); exact HO834.out) (Kd.R_base ho0) hb); have n1_ := zm (Kd.R_below (by (with_reducible repeat (first | apply Kd.R_alloc | apply Kd.R_drewN | apply Kd.R_drew)); exact HO838.out) hb); have n2_ := zm (Kd.R_elder' (by (with_reducible repeat (first | apply Kd.R_alloc | apply Kd.R_drewN | apply Kd.R_drew)); exact HO844.out) (Kd.R_base ho0) hb); have n3_ := zm (Kd.R_lower (Kd.R_new' (Kd.R_new' ho0 (Kd.R_lt (by (with_reducible repeat (first | apply Kd.R_alloc | apply Kd.R_drewN | apply Kd.R_drew)); exact HO834.out))) (Kd.R_lt (by (with_reducible repeat (first | apply Kd.R_alloc | apply Kd.R_drewN | apply Kd.R_drew)); exact HO844.out))) (below_size zb)); have n4_ := zm (blk_below (g := gb828) zk hb); have n5_ := zm (blk_below (g := gb829) zk hb); have n6_ := zm (below_step zb hb); clear HO834; clear HO838; clear HO844; clear BK828; clear BK829; clear HB; have HO834 := n0_; have HO838 := n1_; have HO844 := n2_; have HO848 := n3_; have BK828 := n4_; have BK829 := n5_; have HB := n6_; clear n0_ n1_ n2_ n3_ n4_ n5_ n6_; (try clear hb); (try clear hb2); (try clear hk); (try clear hi); (try clear ho0)) | ((with_reducible refine gate_dst (N := 12) rfl ?_); refine box_event ?hg (N := 12) ?hd (cs := #[.slice none 0 0, .int .i64 0]) (t := 32) ?hr ?_; (case hd => rfl); (case hg => rfl); (case hr => first | (go_simp; done) | (go_simp; rfl)); intro gb850 hg w42 hbox hb; have n0_ := zm (Kd.R_below (by (with_reducible repeat (first | apply Kd.R_alloc | apply Kd.R_drewN | apply Kd.R_drew)); exact HO834.out) hb); have n1_ := zm (Kd.R_below (by (with_reducible repeat (first | apply Kd.R_alloc | apply Kd.R_drewN | apply Kd.R_drew)); exact HO838.out) hb); have n2_ := zm (Kd.R_below (by (with_reducible repeat (first | apply Kd.R_alloc | apply Kd.R_drewN | apply Kd.R_drew)); exact HO844.out) hb); have n3_ := zm (Kd.R_below (by (with_reducible repeat (first | apply Kd.R_alloc | apply Kd.R_drewN | apply Kd.R_drew)); exact HO848.out) hb); have n4_ := zm (blk_below (g := gb828) zk hb); have n5_ := zm (blk_below (g := gb829) zk hb); have n6_ := zm (below_step zb hb); have n7_ := zm (hbox); have n8_ := zm (zs hg zb : w.heap.size ≤ gb850); have n9_ := zm (zs hg zb : w.heap.size ≤ gb850); have n10_ := zm (zl hg zk : gb828 ≠ gb850); have n11_ := zm (zg hg zk : gb850 ≠ gb828); have n12_ := zm (zl hg zk : gb829 ≠ gb850); have n13_ := zm (zg hg zk : gb850 ≠ gb829); clear HO834; clear HO838; clear HO844; clear HO848; clear BK828; clear BK829; clear HB; have HO834 := n0_; have HO838 := n1_; have HO844 := n2_; have HO848 := n3_; have BK828 := n4_; have BK829 := n5_; have HB := n6_; have BK850 := n7_; have GW850 := n8_; have GE850 := n9_; have NB828_850 := n10_; have NB850_828 := n11_; have NB829_850 := n12_; have NB850_829 := n13_; clear n0_ n1_ n2_ n3_ n4_ n5_ n6_ n7_ n8_ n9_ n10_ n11_ n12_ n13_; clear hb hbox hg; obtain ⟨Ao43, co43, eo43⟩ := Kd.R_slice HO848.out; subst eo43; have hnb44 := NB850_828.out; have hnc44 := NB828_850.out; have hnb45 := NB850_829.out; have hnc45 := NB829_850.out; obtain ⟨hcz46_0, hcz46_1, hfz46_0, hfz46_1⟩ := zc2 BK850.out) | ((with_reducible refine gate_callee (f := 15) rfl ?_); refine goesL_ (some 45) rfl rfl Try.func15 (by kernel_rfl) rfl #[.slice A1 l1.length c1] rfl (by (try simp only [List.map_toArray, List.map_cons, List.map_nil]); first | done | rfl | (simp only [List.length_drop, List.length_take]; rfl)) ?_; (with_reducible refine (laws_toHoleS.calls k _ _ l1 t851 _ ?side1 ?side2 A24.out).mono ?_); (case side1 => exact Kd.C_below HR1.out zb); (case side2 => exact HC1.out); rintro e w47 ⟨v852, rfl, ho0, hb⟩; refine ⟨_, rfl, ?_⟩; have n0_ := zm (Kd.R_below (by (with_reducible repeat (first | apply Kd.R_alloc | apply Kd.R_drewN | apply Kd.R_drew)); exact (Kd.R_mono (Kd.R_far (p := ⟨gb850, 1, none⟩) (Kd.R_far (p := ⟨gb850, 0, none⟩) (Kd.R_types HO834.out BK850.out (by decide)) (fun _ hk => hk.2) (.slice Ao43 t846.length co43)) (fun _ hk => hk.2) (.int .i64 t849)) (fun _ h_ => h_.1))) hb); have n1_ := zm (Kd.R_elder' (by (with_reducible repeat (first | apply Kd.R_alloc | apply Kd.R_drewN | apply Kd.R_drew)); exact (Kd.R_mono (Kd.R_far (p := ⟨gb850, 1, none⟩) (Kd.R_far (p := ⟨gb850, 0, none⟩) (Kd.R_types HO838.out BK850.out (by decide)) (fun _ hk => hk.2) (.slice Ao43 t846.length co43)) (fun _ hk => hk.2) (.int .i64 t849)) (fun _ h_ => h_.1))) (Kd.R_base ho0) hb); have n2_ := zm (Kd.R_below (by (with_reducible repeat (first | apply Kd.R_alloc | apply Kd.R_drewN | apply Kd.R_drew)); exact (Kd.R_mono (Kd.R_far (p := ⟨gb850, 1, none⟩) (Kd.R_far (p := ⟨gb850, 0, none⟩) (Kd.R_types HO844.out BK850.out (by decide)) (fun _ hk => hk.2) (.slice Ao43 t846.length co43)) (fun _ hk => hk.2) (.int .i64 t849)) (fun _ h_ => h_.1))) hb); have n3_ := zm (Kd.R_below (by (with_reducible repeat (first | apply Kd.R_alloc | apply Kd.R_drewN | apply Kd.R_drew)); exact (Kd.R_mono (Kd.R_far (p := ⟨gb850, 1, none⟩) (Kd.R_far (p := ⟨gb850, 0, none⟩) (Kd.R_types HO848.out BK850.out (by decide)) (fun _ hk => hk.2) (.slice Ao43 t846.length co43)) (fun _ hk => hk.2) (.int .i64 t849)) (fun _ h_ => h_.1))) hb); have n4_ := zm (Kd.R_lower (Kd.R_new' ho0 (Kd.R_lt (by (with_reducible repeat (first | apply Kd.R_alloc | apply Kd.R_drewN | apply Kd.R_drew)); exact (Kd.R_mono (Kd.R_far (p := ⟨gb850, 1, none⟩) (Kd.R_far (p := ⟨gb850, 0, none⟩) (Kd.R_types HO838.out BK850.out (by decide)) (fun _ hk => hk.2) (.slice Ao43 t846.length co43)) (fun _ hk => hk.2) (.int .i64 t849)) (fun _ h_ => h_.1))))) (below_size zb)); have n5_ := zm (blk_below (g := gb828) (o := .cells #[.slice A0_0 l0_0.length c0_0, .int .i64 a0_1] 24 (0, 0)) zK hb); have n6_ := zm (blk_below (g := gb829) (o := .cells #[.int .i64 a2_0, .int .i64 a2_1, .int .i64 a2_2] 27 (0, 0)) zK hb); have n7_ := zm (blk_below (g := gb850) (o := .cells #[.slice Ao43 t846.length co43, .int .i64 t849] 32 (0, 0)) (by (with_reducible repeat (first | refine blk_drewN ?_ _ | refine blk_drew ?_ | refine blk_alloc ?_ _)); refine blk_put (cs := #[.slice Ao43 t846.length co43, .int .i64 0]) ?_ 1 _ rfl; (with_reducible repeat (first | refine blk_drewN ?_ _ | refine blk_drew ?_ | refine blk_alloc ?_ _)); refine blk_put (cs := #[.slice none 0 0, .int .i64 0]) ?_ 0 _ rfl; (with_reducible repeat (first | refine blk_drewN ?_ _ | refine blk_drew ?_ | refine blk_alloc ?_ _)); exact BK850.out) hb); have n8_ := zm (below_step zb hb); clear HO834; clear HO838; clear HO844; clear HO848; clear BK828; clear BK829; clear BK850; clear HB; have HO834 := n0_; have HO838 := n1_; have HO844 := n2_; have HO848 := n3_; have HO853 := n4_; have BK828 := n5_; have BK829 := n6_; have BK850 := n7_; have HB := n8_; clear n0_ n1_ n2_ n3_ n4_ n5_ n6_ n7_ n8_; (try clear hb); (try clear hb2); (try clear hk); (try clear hi); (try clear ho0)))
   have n0_ := zm (Kd.R_drew HO834.out)
   have n1_ := zm (Kd.R_drew HO838.out)
   have n2_ := zm (Kd.R_drew HO844.out)
   have n3_ := zm (Kd.R_drew HO848.out)
   have n4_ := zm (Kd.R_drew HO853.out)
   have n5_ := zm (blk_drew BK828.out)
   have n6_ := zm (blk_drew BK829.out)
   have n7_ := zm (blk_drew BK850.out)
   have n8_ := zm (below_drew1 HB.out)
   clear HO834
   clear HO838
   clear HO844
   clear HO848
   clear HO853
   clear BK828
   clear BK829
   clear BK850
   clear HB
   have HO834 := n0_
   have HO838 := n1_
   have HO844 := n2_
   have HO848 := n3_
   have HO853 := n4_
   have BK828 := n5_
   have BK829 := n6_
   have BK850 := n7_
   have HB := n8_
   clear n0_ n1_ n2_ n3_ n4_ n5_ n6_ n7_ n8_
   refine start_ (n := 11) (S := fun w' => w'.cell? ⟨gb850, 0, none⟩ = some (.slice Ao43 t846.length co43) ∧ w'.cell? ⟨gb850, 1, none⟩ = some (.int .i64 t849) ∧ w'.cell? ⟨gb829, 0, none⟩ = some (.int .i64 a2_0) ∧ w'.cell? ⟨gb829, 1, none⟩ = some (.int .i64 a2_1) ∧ w'.cell? ⟨gb829, 2, none⟩ = some (.int .i64 a2_2)) (ds := []) #[false, false, false, false, false, false, false, false, false, false, false] (by kernel_rfl) rfl rfl ⟨(blk_cell BK850.out 0).trans rfl, (blk_cell BK850.out 1).trans rfl, (blk_cell BK829.out 0).trans rfl, (blk_cell BK829.out 1).trans rfl, (blk_cell BK829.out 2).trans rfl⟩ (fun hHeld => ?_); refine with_tabW laws_FnExactPitchesAt.tab11 laws_FnExactPitchesAt.bits11 (fun HT_ HW_ => ?_)
   generalize w47.drew = w48 at HO834 HO838 HO844 HO848 HO853 BK828 BK829 BK850 HB hHeld ⊢
   refine pure_ (i := 1) (N := some 48) (v := ?_) (a' := ?_) #[false, true, false, false, false, false, false, false, false, false, false] rfl rfl (any_of HT_.out (by kernel_rfl)) (fun _ _ _ h => h) (Or.inl ⟨by rfl, ?_⟩) ?_ ?_
   rotate_left
   ·
    intro w'
    go_simp
    with_reducible rfl
   rotate_left
   ·
    simp only [Act.put, zA, zB, zD, i64_w, i32_w]
    rfl
   refine pure_ (i := 4) (N := some 51) (v := ?_) (a' := ?_) #[false, true, false, false, true, false, false, false, false, false, false] rfl rfl (any_of HT_.out (by kernel_rfl)) (fun _ _ _ h => h) (Or.inl ⟨by rfl, ?_⟩) ?_ ?_
   rotate_left
   ·
    intro w'
    go_simp
    with_reducible rfl
   rotate_left
   ·
    simp only [Act.put, zA, zB, zD, i64_w, i32_w]
    rfl
   refine take_ (i := 0) (N := some 47) (v := ?_) (a' := ?_) #[true, true, false, false, true, false, false, false, false, false, false] rfl rfl (take_ofW HT_.out HW_.out (by kernel_rfl)) (fun _ _ _ h => h) (Or.inl ⟨by rfl, ?_⟩) hHeld ?_ ?_
   rotate_left
   ·
    rintro w' ⟨s0, s1, s2, s3, s4⟩
    go_simp
    with_reducible rfl
   rotate_left
   ·
    simp only [Act.put, zA, zB, zD, i64_w, i32_w]
    rfl
   refine take_ (i := 2) (N := some 49) (v := ?_) (a' := ?_) #[true, true, true, false, true, false, false, false, false, false, false] rfl rfl (take_ofW HT_.out HW_.out (by kernel_rfl)) (fun _ _ _ h => h) (Or.inl ⟨by rfl, ?_⟩) hHeld ?_ ?_
   rotate_left
   ·
    rintro w' ⟨s0, s1, s2, s3, s4⟩
    go_simp
    with_reducible rfl
   rotate_left
   ·
    simp only [Act.put, zA, zB, zD, i64_w, i32_w]
    rfl
   refine one_ (i := 3) (N := some 50) #[true, true, true, true, true, false, false, false, false, false, false] rfl rfl (one_of HT_.out (by kernel_rfl)) (by decide) (fun K hK => ?_)
   refine goes_ Try.func16 (by kernel_rfl) rfl #[.agg #[.int .i64 a2_0, .int .i64 a2_1, .int .i64 a2_2]] (by rfl) rfl rfl (by (try simp only [List.map_toArray, List.map_cons, List.map_nil]); first | done | rfl | (simp only [List.length_drop, List.length_take]; rfl)) ?_
   with_reducible refine (laws_toAction.calls a2_0 a2_1 a2_2 t854 t855 t856 _ A25.out).mono ?_
   rintro e w49 ⟨rfl, hb⟩
   refine ⟨_, rfl, ?_⟩
   have n0_ := zm (Kd.R_below (by (with_reducible repeat (first | apply Kd.R_alloc | apply Kd.R_drewN | apply Kd.R_drew)); exact HO834.out) hb)
   have n1_ := zm (Kd.R_below (by (with_reducible repeat (first | apply Kd.R_alloc | apply Kd.R_drewN | apply Kd.R_drew)); exact HO838.out) hb)
   have n2_ := zm (Kd.R_below (by (with_reducible repeat (first | apply Kd.R_alloc | apply Kd.R_drewN | apply Kd.R_drew)); exact HO844.out) hb)
   have n3_ := zm (Kd.R_below (by (with_reducible repeat (first | apply Kd.R_alloc | apply Kd.R_drewN | apply Kd.R_drew)); exact HO848.out) hb)
   have n4_ := zm (Kd.R_below (by (with_reducible repeat (first | apply Kd.R_alloc | apply Kd.R_drewN | apply Kd.R_drew)); exact HO853.out) hb)
   have n5_ := zm (blk_below (g := gb828) zk hb)
   have n6_ := zm (blk_below (g := gb829) zk hb)
   have n7_ := zm (blk_below (g := gb850) zk hb)
   have n8_ := zm (below_step zb hb)
   clear HO834
   clear HO838
   clear HO844
   clear HO848
   clear HO853
   clear BK828
   clear BK829
   clear BK850
   clear HB
   have HO834 := n0_
   have HO838 := n1_
   have HO844 := n2_
   have HO848 := n3_
   have HO853 := n4_
   have BK828 := n5_
   have BK829 := n6_
   have BK850 := n7_
   have HB := n8_
   clear n0_ n1_ n2_ n3_ n4_ n5_ n6_ n7_ n8_
   (try clear hb)
   (try clear hb2)
   (try clear hk)
   (try clear hi)
   obtain ⟨Ao50, co50, eo50⟩ := Kd.R_slice HO853.out
   (first | subst eo50 | (injection eo50 with f1_ f2_ f3_; have f4_ := f1_.symm; have f5_ := f3_.symm; clear f1_ f2_ f3_; subst f4_; subst f5_))
   refine hK.out _ _ ⟨(blk_cell BK850.out 0).trans rfl, (blk_cell BK850.out 1).trans rfl, (blk_cell BK829.out 0).trans rfl, (blk_cell BK829.out 1).trans rfl, (blk_cell BK829.out 2).trans rfl⟩ (fun hHeld => ?_)
   clear hK K
   refine norm_ (a' := ?_) ?_ ?_
   rotate_left
   ·
    show Act.put _ (some 50) _ = _
    simp only [Act.put, zA, zB, zD, i64_w, i32_w]
    rfl
   refine one_ (i := 5) (N := some 52) #[true, true, true, true, true, true, false, false, false, false, false] rfl rfl (one_of HT_.out (by kernel_rfl)) (by decide) (fun K hK => ?_)
   refine goes_ Try.func47 (by kernel_rfl) rfl #[.agg #[.slice Ao43 t846.length co43, .int .i64 t849], .slice Ao50 t851.length co50, .agg #[.int .i64 t854, .int .i64 t855, .int .i64 t856], .int .i64 a3] (by rfl) rfl rfl (by (try simp only [List.map_toArray, List.map_cons, List.map_nil]); first | done | rfl | (simp only [List.length_drop, List.length_take]; rfl)) ?_
   with_reducible refine (impl_PitchesAt.calls k _ _ t846 t849 _ _ t851 t854 t855 t856 a3 t857 t860 _ ?side1 ?side2 ?side3 ?side4 A26.out).mono ?_
   (case side1 => repeat (first | exact (Kd.R_reads' HO848.out).2.2 | (with_reducible refine Kd.C_alloc ?_ _) | (with_reducible refine Kd.C_drewN ?_ _) | (with_reducible refine Kd.C_drew ?_)))
   (case side2 => exact (Kd.R_reads' HO848.out).2.1)
   (case side3 => repeat (first | exact (Kd.R_reads' HO853.out).2.2 | (with_reducible refine Kd.C_alloc ?_ _) | (with_reducible refine Kd.C_drewN ?_ _) | (with_reducible refine Kd.C_drew ?_)))
   (case side4 => exact (Kd.R_reads' HO853.out).2.1)
   rintro e w51 ⟨v858, rfl, ho0, hb⟩
   refine ⟨_, rfl, ?_⟩
   have n0_ := zm (Kd.R_elder' (by (with_reducible repeat (first | apply Kd.R_alloc | apply Kd.R_drewN | apply Kd.R_drew)); exact HO834.out) (Kd.R_base ho0) hb)
   have n1_ := zm (Kd.R_below (by (with_reducible repeat (first | apply Kd.R_alloc | apply Kd.R_drewN | apply Kd.R_drew)); exact HO838.out) hb)
   have n2_ := zm (Kd.R_elder' (by (with_reducible repeat (first | apply Kd.R_alloc | apply Kd.R_drewN | apply Kd.R_drew)); exact HO844.out) (Kd.R_base ho0) hb)
   have n3_ := zm (Kd.R_elder' (by (with_reducible repeat (first | apply Kd.R_alloc | apply Kd.R_drewN | apply Kd.R_drew)); exact HO848.out) (Kd.R_base ho0) hb)
   have n4_ := zm (Kd.R_below (by (with_reducible repeat (first | apply Kd.R_alloc | apply Kd.R_drewN | apply Kd.R_drew)); exact HO853.out) hb)
   have n5_ := zm (Kd.R_lower (Kd.R_new' (Kd.R_new' (Kd.R_new' ho0 (Kd.R_lt (by (with_reducible repeat (first | apply Kd.R_alloc | apply Kd.R_drewN | apply Kd.R_drew)); exact HO834.out))) (Kd.R_lt (by (with_reducible repeat (first | apply Kd.R_alloc | apply Kd.R_drewN | apply Kd.R_drew)); exact HO844.out))) (Kd.R_lt (by (with_reducible repeat (first | apply Kd.R_alloc | apply Kd.R_drewN | apply Kd.R_drew)); exact HO848.out))) (below_size zb))
   have n6_ := zm (blk_below (g := gb828) zk hb)
   have n7_ := zm (blk_below (g := gb829) zk hb)
   have n8_ := zm (blk_below (g := gb850) zk hb)
   have n9_ := zm (below_step zb hb)
   clear HO834
   clear HO838
   clear HO844
   clear HO848
   clear HO853
   clear BK828
   clear BK829
   clear BK850
   clear HB
   have HO834 := n0_
   have HO838 := n1_
   have HO844 := n2_
   have HO848 := n3_
   have HO853 := n4_
   have HO859 := n5_
   have BK828 := n6_
   have BK829 := n7_
   have BK850 := n8_
   have HB := n9_
   clear n0_ n1_ n2_ n3_ n4_ n5_ n6_ n7_ n8_ n9_
   (try clear hb)
   (try clear hb2)
   (try clear hk)
   (try clear hi)
   (try clear ho0)
   refine hK.out _ _ ⟨(blk_cell BK850.out 0).trans rfl, (blk_cell BK850.out 1).trans rfl, (blk_cell BK829.out 0).trans rfl, (blk_cell BK829.out 1).trans rfl, (blk_cell BK829.out 2).trans rfl⟩ (fun hHeld => ?_)
   clear hK K
   refine norm_ (a' := ?_) ?_ ?_
   rotate_left
   ·
    show Act.put _ (some 52) _ = _
    simp only [Act.put, zA, zB, zD, i64_w, i32_w]
    rfl
   refine pure_ (i := 6) (N := some 46) (v := ?_) (a' := ?_) #[true, true, true, true, true, true, true, false, false, false, false] rfl rfl (any_of HT_.out (by kernel_rfl)) (fun _ _ _ h => h) (Or.inl ⟨by rfl, ?_⟩) ?_ ?_
   rotate_left
   ·
    intro w'
    go_simp
    with_reducible rfl
   rotate_left
   ·
    simp only [Act.put, zA, zB, zD, i64_w, i32_w]
    rfl
   refine pure_ (i := 7) (N := some 53) (v := ?_) (a' := ?_) #[true, true, true, true, true, true, true, true, false, false, false] rfl rfl (any_of HT_.out (by kernel_rfl)) (fun _ _ _ h => h) (Or.inl ⟨by rfl, ?_⟩) ?_ ?_
   rotate_left
   ·
    intro w'
    go_simp
    with_reducible rfl
   rotate_left
   ·
    simp only [Act.put, zA, zB, zD, i64_w, i32_w]
    rfl
   refine pure_ (i := 8) (N := some 54) (v := ?_) (a' := ?_) #[true, true, true, true, true, true, true, true, true, false, false] rfl rfl (any_of HT_.out (by kernel_rfl)) (fun _ _ _ h => h) (Or.inl ⟨by rfl, ?_⟩) ?_ ?_
   rotate_left
   ·
    intro w'
    go_simp
    with_reducible rfl
   rotate_left
   ·
    simp only [Act.put, zA, zB, zD, i64_w, i32_w]
    rfl
   refine pure_ (i := 9) (N := some 14) (v := ?_) (a' := ?_) #[true, true, true, true, true, true, true, true, true, true, false] rfl rfl (any_of HT_.out (by kernel_rfl)) (fun _ _ _ h => h) (Or.inl ⟨by rfl, ?_⟩) ?_ ?_
   rotate_left
   ·
    intro w'
    go_simp
    with_reducible rfl
   rotate_left
   ·
    simp only [Act.put, zA, zB, zD, i64_w, i32_w]
    rfl
   refine pure_ (i := 10) (N := some 15) (v := ?_) (a' := ?_) #[true, true, true, true, true, true, true, true, true, true, true] rfl rfl (any_of HT_.out (by kernel_rfl)) (fun _ _ _ h => h) (Or.inl ⟨by rfl, ?_⟩) ?_ ?_
   rotate_left
   ·
    intro w'
    go_simp
    with_reducible rfl
   rotate_left
   ·
    simp only [Act.put, zA, zB, zD, i64_w, i32_w]
    rfl
   refine done_ (done_of HT_.out (by kernel_rfl)) ?_
   go_upto_region 12 with (fail)
   go_cut [63] (fun v63 wc => ∃ (kq : Nat) (x63_26 : Bool), v63 = .bool x63_26 ∧ Aside0 (laws_FnExactPitchesAt.j0 kq l1 a3 t842 t845 t851 t857 t860 x63_26 l0_0 a0_1 a2_0 a2_1 a2_2 t846 t849 = some r) ∧ Aside0 (kq ≤ k) ∧ Aside0 (Kd.R (Kd.int .i64) 3 wc w.heap.size (fun k_ => some k_ ≠ (v858 : Value).ownBlock ∧ some k_ ≠ ((.slice Ao43 t846.length co43) : Value).ownBlock) v843 t842) ∧ Aside0 (Kd.R k73 73 wc w.heap.size (fun _ => True) (.slice Ao50 t851.length co50) t851) ∧ Aside0 (Kd.R (Kd.int .i64) 3 wc w.heap.size (fun k_ => some k_ ≠ (v843 : Value).ownBlock ∧ some k_ ≠ ((.slice Ao43 t846.length co43) : Value).ownBlock) v858 t857) ∧ Aside0 (Kd.R (Kd.int .i64) 3 wc w.heap.size (fun k_ => some k_ ≠ (v843 : Value).ownBlock ∧ some k_ ≠ (v858 : Value).ownBlock) (.slice Ao43 t846.length co43) t846) ∧ Aside0 (wc.heap[gb828]? = some (.cells #[(.slice A0_0 l0_0.length c0_0), .int .i64 a0_1] 24 (0, 0))) ∧ Aside0 (wc.heap[gb829]? = some (.cells #[.int .i64 a2_0, .int .i64 a2_1, .int .i64 a2_2] 27 (0, 0))) ∧ Aside0 (wc.heap[gb850]? = some (.cells #[(.slice Ao43 t846.length co43), .int .i64 t849] 32 (0, 0))) ∧ Aside0 (Below w.heap.size w wc))
   case first =>
    have H := HC27.out
    clear HC27
    replace H := Option.bind_eq_some_iff.mp H
    obtain ⟨t861, A520, H⟩ := H
    replace H : (if t861 = true then (laws_FnExactPitchesAt.j0 k l1 a3 t842 t845 t851 t857 t860 (t860 != t845) l0_0 a0_1 a2_0 a2_1 a2_2 t846 t849) else (laws_FnExactPitchesAt.j0 k l1 a3 t842 t845 t851 t857 t860 true l0_0 a0_1 a2_0 a2_1 a2_2 t846 t849)) = some r := H
    have A52 := zm A520
    clear A520
    by_cases c53 : t861 = true
    ·
     subst c53
     have H1 : (laws_FnExactPitchesAt.j0 k l1 a3 t842 t845 t851 t857 t860 (t860 != t845) l0_0 a0_1 a2_0 a2_1 a2_2 t846 t849) = some r := by rw [if_pos rfl] at H; exact H
     clear H
     have H := H1
     clear H1
     have H' := zm H
     clear H
     obtain ⟨Ao54, co54, eo54⟩ := Kd.R_slice HO859.out
     subst eo54
     obtain ⟨Ao55, co55, eo55⟩ := Kd.R_slice HO844.out
     subst eo55
     go_wp2_with (first | ((with_reducible refine gate_callee (f := 22) rfl ?_); refine goesL_ (some 57) rfl rfl Try.func22 (by kernel_rfl) rfl #[.slice Ao54 t857.length co54, .slice Ao55 t842.length co55] rfl (by (try simp only [List.map_toArray, List.map_cons, List.map_nil]); first | done | rfl | (simp only [List.length_drop, List.length_take]; rfl)) ?_; (with_reducible refine (laws_eqIntS.calls k _ _ t857 _ _ t842 true _ ?side1 ?side2 ?side3 ?side4 A52.out).mono ?_); (case side1 => repeat (first | exact (Kd.R_reads' HO859.out).2.2 | (with_reducible refine Kd.C_alloc ?_ _) | (with_reducible refine Kd.C_drewN ?_ _) | (with_reducible refine Kd.C_drew ?_))); (case side2 => exact (Kd.R_reads' HO859.out).2.1); (case side3 => repeat (first | exact (Kd.R_reads' HO844.out).2.2 | (with_reducible refine Kd.C_alloc ?_ _) | (with_reducible refine Kd.C_drewN ?_ _) | (with_reducible refine Kd.C_drew ?_))); (case side4 => exact (Kd.R_reads' HO844.out).2.1); rintro e w' ⟨rfl, ⟨nd, rfl⟩⟩; refine ⟨_, rfl, ?_⟩))
     go_meet
     case rel => exact ⟨_, ((t860 != t845)), (by first | rfl | (simp; done) | (simp [*]; done)), H', ⟨by first | omega | exact Nat.le_refl _⟩, ⟨by (with_reducible repeat (first | apply Kd.R_alloc | apply Kd.R_drewN | apply Kd.R_drew)); exact Kd.R_mono HO844.out (fun _ hk => ⟨hk.2, hk.1.2⟩)⟩, ⟨by (with_reducible repeat (first | apply Kd.R_alloc | apply Kd.R_drewN | apply Kd.R_drew)); exact Kd.R_mono HO853.out (fun _ hk => trivial)⟩, ⟨by (with_reducible repeat (first | apply Kd.R_alloc | apply Kd.R_drewN | apply Kd.R_drew)); exact Kd.R_mono HO859.out (fun _ hk => ⟨hk.1.2, hk.2⟩)⟩, ⟨by (with_reducible repeat (first | apply Kd.R_alloc | apply Kd.R_drewN | apply Kd.R_drew)); exact Kd.R_mono HO848.out (fun _ hk => ⟨hk.1.2, hk.2⟩)⟩, ⟨zk⟩, ⟨zk⟩, ⟨zk⟩, ⟨zb⟩⟩
    ·
     replace c53 := Bool.eq_false_iff.mpr c53
     subst c53
     have H1 : (laws_FnExactPitchesAt.j0 k l1 a3 t842 t845 t851 t857 t860 true l0_0 a0_1 a2_0 a2_1 a2_2 t846 t849) = some r := by rw [if_neg (show ¬ (false = true) by decide)] at H; exact H
     clear H
     have H := H1
     clear H1
     exact (laws_FnExactPitchesAt.j0_t (H.trans (congrArg some hr_))).elim
   case rest =>
    clear HC27
    try clear c1
    try clear c2
    try clear p2
    try clear c3
    try clear c4
    try clear c5
    try clear c6
    try clear c6b0
    try clear c9
    try clear c10
    try clear c11
    try clear c12
    try clear c13
    try clear c13b0
    try clear c14
    try clear c15
    try clear c16
    try clear c22
    try clear c30
    try clear c44
    try clear c45
    try clear c46
    try clear c47
    try clear c53
    try clear hcz10_0
    try clear hcz10_1
    try clear hcz17_0
    try clear hcz17_1
    try clear hcz31_0
    try clear hcz31_1
    try clear hcz40_0
    try clear hcz40_1
    try clear hcz46_0
    try clear hcz46_1
    try clear hfz10_0
    try clear hfz10_1
    try clear hfz17_0
    try clear hfz17_1
    try clear hfz31_0
    try clear hfz31_1
    try clear hfz40_0
    try clear hfz40_1
    try clear hfz46_0
    try clear hfz46_1
    obtain ⟨kq, x63_26, rfl, HA, HJ26, HO_10, HO_13, HO_14, HO_851000, BK828, BK829, BK850, HB⟩ := hcut
    cases kq with
    | zero => exact absurd HA.out (by simp [laws_FnExactPitchesAt.j0])
    | succ kj26 =>
     have H := HA.out
     clear HA
     simp only [laws_FnExactPitchesAt.j0] at H
     by_cases c56 : x63_26 = true
     ·
      subst c56
      have H1 : (some false) = some r := by rw [if_pos rfl] at H; exact H
      clear H
      have H := H1
      clear H1
      exact absurd ((Option.some.inj H).trans hr_) (by decide)
     ·
      replace c56 := Bool.eq_false_iff.mpr c56
      subst c56
      have H1 : ((laws_toInstrument.f kj26 l0_0 a0_1).bind fun bt862 => ((laws_eqInstrument.f kj26 t846 t849 bt862.1 bt862.2).bind fun t866 => (if t866 = true then ((laws_toHoleS.f kj26 l1).bind fun t867 => ((laws_eqHoleS.f kj26 t851 t867).bind fun t870 => (if t870 = true then ((laws_markInstrument.f kj26 t846 t849 1).bind fun bt871 => ((laws_markHoleS.f kj26 t851 bt871.1).bind fun bt873 => (if bt873.1 < 0 then (laws_FnExactPitchesAt.j1 kj26 l1 a3 t842 t845 t857 true l0_0 a0_1 a2_0 a2_1 a2_2) else ((laws_eqIntS.f kj26 t857 t842).bind fun t875 => (if t875 = true then (laws_FnExactPitchesAt.j1 kj26 l1 a3 t842 t845 t857 (t860 != t845) l0_0 a0_1 a2_0 a2_1 a2_2) else (laws_FnExactPitchesAt.j1 kj26 l1 a3 t842 t845 t857 true l0_0 a0_1 a2_0 a2_1 a2_2)))))) else (some false)))) else (some false)))) = some r := by rw [if_neg (show ¬ (false = true) by decide)] at H; exact H
      clear H
      have H := H1
      clear H1
      replace H := Option.bind_eq_some_iff.mp H
      obtain ⟨⟨t862, t865⟩, A570, H⟩ := H
      replace H : ((laws_eqInstrument.f kj26 t846 t849 t862 t865).bind fun t866 => (if t866 = true then ((laws_toHoleS.f kj26 l1).bind fun t867 => ((laws_eqHoleS.f kj26 t851 t867).bind fun t870 => (if t870 = true then ((laws_markInstrument.f kj26 t846 t849 1).bind fun bt871 => ((laws_markHoleS.f kj26 t851 bt871.1).bind fun bt873 => (if bt873.1 < 0 then (laws_FnExactPitchesAt.j1 kj26 l1 a3 t842 t845 t857 true l0_0 a0_1 a2_0 a2_1 a2_2) else ((laws_eqIntS.f kj26 t857 t842).bind fun t875 => (if t875 = true then (laws_FnExactPitchesAt.j1 kj26 l1 a3 t842 t845 t857 (t860 != t845) l0_0 a0_1 a2_0 a2_1 a2_2) else (laws_FnExactPitchesAt.j1 kj26 l1 a3 t842 t845 t857 true l0_0 a0_1 a2_0 a2_1 a2_2)))))) else (some false)))) else (some false))) = some r := H
      have A57 := zm A570
      clear A570
      replace H := Option.bind_eq_some_iff.mp H
      obtain ⟨t866, A580, H⟩ := H
      replace H : (if t866 = true then ((laws_toHoleS.f kj26 l1).bind fun t867 => ((laws_eqHoleS.f kj26 t851 t867).bind fun t870 => (if t870 = true then ((laws_markInstrument.f kj26 t846 t849 1).bind fun bt871 => ((laws_markHoleS.f kj26 t851 bt871.1).bind fun bt873 => (if bt873.1 < 0 then (laws_FnExactPitchesAt.j1 kj26 l1 a3 t842 t845 t857 true l0_0 a0_1 a2_0 a2_1 a2_2) else ((laws_eqIntS.f kj26 t857 t842).bind fun t875 => (if t875 = true then (laws_FnExactPitchesAt.j1 kj26 l1 a3 t842 t845 t857 (t860 != t845) l0_0 a0_1 a2_0 a2_1 a2_2) else (laws_FnExactPitchesAt.j1 kj26 l1 a3 t842 t845 t857 true l0_0 a0_1 a2_0 a2_1 a2_2)))))) else (some false)))) else (some false)) = some r := H
      have A58 := zm A580
      clear A580
      by_cases c59 : t866 = true
      ·
       subst c59
       have H1 : ((laws_toHoleS.f kj26 l1).bind fun t867 => ((laws_eqHoleS.f kj26 t851 t867).bind fun t870 => (if t870 = true then ((laws_markInstrument.f kj26 t846 t849 1).bind fun bt871 => ((laws_markHoleS.f kj26 t851 bt871.1).bind fun bt873 => (if bt873.1 < 0 then (laws_FnExactPitchesAt.j1 kj26 l1 a3 t842 t845 t857 true l0_0 a0_1 a2_0 a2_1 a2_2) else ((laws_eqIntS.f kj26 t857 t842).bind fun t875 => (if t875 = true then (laws_FnExactPitchesAt.j1 kj26 l1 a3 t842 t845 t857 (t860 != t845) l0_0 a0_1 a2_0 a2_1 a2_2) else (laws_FnExactPitchesAt.j1 kj26 l1 a3 t842 t845 t857 true l0_0 a0_1 a2_0 a2_1 a2_2)))))) else (some false)))) = some r := by rw [if_pos rfl] at H; exact H
       clear H
       have H := H1
       clear H1
       replace H := Option.bind_eq_some_iff.mp H
       obtain ⟨t867, A600, H⟩ := H
       replace H : ((laws_eqHoleS.f kj26 t851 t867).bind fun t870 => (if t870 = true then ((laws_markInstrument.f kj26 t846 t849 1).bind fun bt871 => ((laws_markHoleS.f kj26 t851 bt871.1).bind fun bt873 => (if bt873.1 < 0 then (laws_FnExactPitchesAt.j1 kj26 l1 a3 t842 t845 t857 true l0_0 a0_1 a2_0 a2_1 a2_2) else ((laws_eqIntS.f kj26 t857 t842).bind fun t875 => (if t875 = true then (laws_FnExactPitchesAt.j1 kj26 l1 a3 t842 t845 t857 (t860 != t845) l0_0 a0_1 a2_0 a2_1 a2_2) else (laws_FnExactPitchesAt.j1 kj26 l1 a3 t842 t845 t857 true l0_0 a0_1 a2_0 a2_1 a2_2)))))) else (some false))) = some r := H
       have A60 := zm A600
       clear A600
       replace H := Option.bind_eq_some_iff.mp H
       obtain ⟨t870, A610, H⟩ := H
       replace H : (if t870 = true then ((laws_markInstrument.f kj26 t846 t849 1).bind fun bt871 => ((laws_markHoleS.f kj26 t851 bt871.1).bind fun bt873 => (if bt873.1 < 0 then (laws_FnExactPitchesAt.j1 kj26 l1 a3 t842 t845 t857 true l0_0 a0_1 a2_0 a2_1 a2_2) else ((laws_eqIntS.f kj26 t857 t842).bind fun t875 => (if t875 = true then (laws_FnExactPitchesAt.j1 kj26 l1 a3 t842 t845 t857 (t860 != t845) l0_0 a0_1 a2_0 a2_1 a2_2) else (laws_FnExactPitchesAt.j1 kj26 l1 a3 t842 t845 t857 true l0_0 a0_1 a2_0 a2_1 a2_2)))))) else (some false)) = some r := H
       have A61 := zm A610
       clear A610
       by_cases c62 : t870 = true
       ·
        subst c62
        have H1 : ((laws_markInstrument.f kj26 t846 t849 1).bind fun bt871 => ((laws_markHoleS.f kj26 t851 bt871.1).bind fun bt873 => (if bt873.1 < 0 then (laws_FnExactPitchesAt.j1 kj26 l1 a3 t842 t845 t857 true l0_0 a0_1 a2_0 a2_1 a2_2) else ((laws_eqIntS.f kj26 t857 t842).bind fun t875 => (if t875 = true then (laws_FnExactPitchesAt.j1 kj26 l1 a3 t842 t845 t857 (t860 != t845) l0_0 a0_1 a2_0 a2_1 a2_2) else (laws_FnExactPitchesAt.j1 kj26 l1 a3 t842 t845 t857 true l0_0 a0_1 a2_0 a2_1 a2_2)))))) = some r := by rw [if_pos rfl] at H; exact H
        clear H
        have H := H1
        clear H1
        replace H := Option.bind_eq_some_iff.mp H
        obtain ⟨⟨t871, t872⟩, A630, H⟩ := H
        replace H : ((laws_markHoleS.f kj26 t851 t871).bind fun bt873 => (if bt873.1 < 0 then (laws_FnExactPitchesAt.j1 kj26 l1 a3 t842 t845 t857 true l0_0 a0_1 a2_0 a2_1 a2_2) else ((laws_eqIntS.f kj26 t857 t842).bind fun t875 => (if t875 = true then (laws_FnExactPitchesAt.j1 kj26 l1 a3 t842 t845 t857 (t860 != t845) l0_0 a0_1 a2_0 a2_1 a2_2) else (laws_FnExactPitchesAt.j1 kj26 l1 a3 t842 t845 t857 true l0_0 a0_1 a2_0 a2_1 a2_2))))) = some r := H
        have A63 := zm A630
        clear A630
        replace H := Option.bind_eq_some_iff.mp H
        obtain ⟨⟨t873, t874⟩, A640, H⟩ := H
        replace H : (if t873 < 0 then (laws_FnExactPitchesAt.j1 kj26 l1 a3 t842 t845 t857 true l0_0 a0_1 a2_0 a2_1 a2_2) else ((laws_eqIntS.f kj26 t857 t842).bind fun t875 => (if t875 = true then (laws_FnExactPitchesAt.j1 kj26 l1 a3 t842 t845 t857 (t860 != t845) l0_0 a0_1 a2_0 a2_1 a2_2) else (laws_FnExactPitchesAt.j1 kj26 l1 a3 t842 t845 t857 true l0_0 a0_1 a2_0 a2_1 a2_2)))) = some r := H
        have A64 := zm A640
        clear A640
        have HC65 := zm H
        clear H
        try go_wp2
        have n0_ := zm (Kd.R_drew HO_10.out)
        have n1_ := zm (Kd.R_drew HO_13.out)
        have n2_ := zm (Kd.R_drew HO_14.out)
        have n3_ := zm (Kd.R_drew HO_851000.out)
        have n4_ := zm (blk_drew BK828.out)
        have n5_ := zm (blk_drew BK829.out)
        have n6_ := zm (blk_drew BK850.out)
        have n7_ := zm (below_drew1 HB.out)
        clear HO_10
        clear HO_13
        clear HO_14
        clear HO_851000
        clear BK828
        clear BK829
        clear BK850
        clear HB
        have HO_10 := n0_
        have HO_13 := n1_
        have HO_14 := n2_
        have HO_851000 := n3_
        have BK828 := n4_
        have BK829 := n5_
        have BK850 := n6_
        have HB := n7_
        clear n0_ n1_ n2_ n3_ n4_ n5_ n6_ n7_
        refine start_ (n := 5) (S := fun w' => w'.cell? ⟨gb850, 0, none⟩ = some (.slice Ao43 t846.length co43) ∧ w'.cell? ⟨gb850, 1, none⟩ = some (.int .i64 t849) ∧ w'.cell? ⟨gb828, 0, none⟩ = some (.slice A0_0 l0_0.length c0_0) ∧ w'.cell? ⟨gb828, 1, none⟩ = some (.int .i64 a0_1)) (ds := []) #[false, false, false, false, false] (by kernel_rfl) rfl rfl ⟨(blk_cell BK850.out 0).trans rfl, (blk_cell BK850.out 1).trans rfl, (blk_cell BK828.out 0).trans rfl, (blk_cell BK828.out 1).trans rfl⟩ (fun hHeld => ?_)
        generalize wc.drew = w66 at HO_10 HO_13 HO_14 HO_851000 BK828 BK829 BK850 HB hHeld ⊢
        refine take_ (i := 0) (N := some 64) (v := ?_) (a' := ?_) #[true, false, false, false, false] rfl rfl (by kernel_rfl) (fun _ _ _ h => h) (Or.inl ⟨by rfl, ?_⟩) hHeld ?_ ?_
        rotate_left
        ·
         rintro w' ⟨s0, s1, s2, s3⟩
         go_simp
         with_reducible rfl
        rotate_left
        ·
         simp only [Act.put, zA, zB, zD, i64_w, i32_w]
         rfl
        refine take_ (i := 1) (N := some 65) (v := ?_) (a' := ?_) #[true, true, false, false, false] rfl rfl (by kernel_rfl) (fun _ _ _ h => h) (Or.inl ⟨by rfl, ?_⟩) hHeld ?_ ?_
        rotate_left
        ·
         rintro w' ⟨s0, s1, s2, s3⟩
         go_simp
         with_reducible rfl
        rotate_left
        ·
         simp only [Act.put, zA, zB, zD, i64_w, i32_w]
         rfl
        refine one_ (i := 2) (N := some 66) #[true, true, true, false, false] rfl rfl (by kernel_rfl) (by decide) (fun K hK => ?_)
        refine goes_ Try.func14 (by kernel_rfl) rfl #[.agg #[.slice A0_0 l0_0.length c0_0, .int .i64 a0_1]] (by rfl) rfl rfl (by (try simp only [List.map_toArray, List.map_cons, List.map_nil]); first | done | rfl | (simp only [List.length_drop, List.length_take]; rfl)) ?_
        with_reducible refine (laws_toInstrument.calls kj26 _ _ l0_0 a0_1 t862 t865 _ ?side1 ?side2 A57.out).mono ?_
        (case side1 => repeat (first | exact (Kd.C_below HR0_0.out HB.out) | (with_reducible refine Kd.C_alloc ?_ _) | (with_reducible refine Kd.C_drewN ?_ _) | (with_reducible refine Kd.C_drew ?_)))
        (case side2 => exact HC0_0.out)
        rintro e w67 ⟨v863, rfl, ho0, hb⟩
        refine ⟨_, rfl, ?_⟩
        have n0_ := zm (Kd.R_elder' (by (with_reducible repeat (first | apply Kd.R_alloc | apply Kd.R_drewN | apply Kd.R_drew)); exact HO_10.out) (Kd.R_base ho0) hb)
        have n1_ := zm (Kd.R_below (by (with_reducible repeat (first | apply Kd.R_alloc | apply Kd.R_drewN | apply Kd.R_drew)); exact HO_13.out) hb)
        have n2_ := zm (Kd.R_elder' (by (with_reducible repeat (first | apply Kd.R_alloc | apply Kd.R_drewN | apply Kd.R_drew)); exact HO_14.out) (Kd.R_base ho0) hb)
        have n3_ := zm (Kd.R_elder' (by (with_reducible repeat (first | apply Kd.R_alloc | apply Kd.R_drewN | apply Kd.R_drew)); exact HO_851000.out) (Kd.R_base ho0) hb)
        have n4_ := zm (Kd.R_lower (Kd.R_new' (Kd.R_new' (Kd.R_new' ho0 (Kd.R_lt (by (with_reducible repeat (first | apply Kd.R_alloc | apply Kd.R_drewN | apply Kd.R_drew)); exact HO_10.out))) (Kd.R_lt (by (with_reducible repeat (first | apply Kd.R_alloc | apply Kd.R_drewN | apply Kd.R_drew)); exact HO_14.out))) (Kd.R_lt (by (with_reducible repeat (first | apply Kd.R_alloc | apply Kd.R_drewN | apply Kd.R_drew)); exact HO_851000.out))) (below_size zb))
        have n5_ := zm (blk_below (g := gb828) zk hb)
        have n6_ := zm (blk_below (g := gb829) zk hb)
        have n7_ := zm (blk_below (g := gb850) zk hb)
        have n8_ := zm (below_step zb hb)
        clear HO_10
        clear HO_13
        clear HO_14
        clear HO_851000
        clear BK828
        clear BK829
        clear BK850
        clear HB
        have HO_10 := n0_
        have HO_13 := n1_
        have HO_14 := n2_
        have HO_851000 := n3_
        have HO864 := n4_
        have BK828 := n5_
        have BK829 := n6_
        have BK850 := n7_
        have HB := n8_
        clear n0_ n1_ n2_ n3_ n4_ n5_ n6_ n7_ n8_
        (try clear hb)
        (try clear hb2)
        (try clear hk)
        (try clear hi)
        (try clear ho0)
        obtain ⟨Ao68, co68, eo68⟩ := Kd.R_slice HO864.out
        (first | subst eo68 | (injection eo68 with f1_ f2_ f3_; have f4_ := f1_.symm; have f5_ := f3_.symm; clear f1_ f2_ f3_; subst f4_; subst f5_))
        refine hK.out _ _ ⟨(blk_cell BK850.out 0).trans rfl, (blk_cell BK850.out 1).trans rfl, (blk_cell BK828.out 0).trans rfl, (blk_cell BK828.out 1).trans rfl⟩ (fun hHeld => ?_)
        clear hK K
        refine norm_ (a' := ?_) ?_ ?_
        rotate_left
        ·
         show Act.put _ (some 66) _ = _
         simp only [Act.put, zA, zB, zD, i64_w, i32_w]
         rfl
        refine one_ (i := 3) (N := some 67) #[true, true, true, true, false] rfl rfl (by kernel_rfl) (by decide) (fun K hK => ?_)
        refine goes_ Try.func18 (by kernel_rfl) rfl #[.agg #[.slice Ao43 t846.length co43, .int .i64 t849], .agg #[.slice Ao68 t862.length co68, .int .i64 t865]] (by rfl) rfl rfl (by (try simp only [List.map_toArray, List.map_cons, List.map_nil]); first | done | rfl | (simp only [List.length_drop, List.length_take]; rfl)) ?_
        with_reducible refine (laws_eqInstrument.calls kj26 _ _ t846 t849 _ _ t862 t865 true _ ?side1 ?side2 ?side3 ?side4 A58.out).mono ?_
        (case side1 => repeat (first | exact (Kd.R_reads' HO_851000.out).2.2 | (with_reducible refine Kd.C_alloc ?_ _) | (with_reducible refine Kd.C_drewN ?_ _) | (with_reducible refine Kd.C_drew ?_)))
        (case side2 => exact (Kd.R_reads' HO_851000.out).2.1)
        (case side3 => repeat (first | exact (Kd.R_reads' HO864.out).2.2 | (with_reducible refine Kd.C_alloc ?_ _) | (with_reducible refine Kd.C_drewN ?_ _) | (with_reducible refine Kd.C_drew ?_)))
        (case side4 => exact (Kd.R_reads' HO864.out).2.1)
        rintro e w69 ⟨rfl, hb⟩
        refine ⟨_, rfl, ?_⟩
        have n0_ := zm (Kd.R_below (by (with_reducible repeat (first | apply Kd.R_alloc | apply Kd.R_drewN | apply Kd.R_drew)); exact HO_10.out) hb)
        have n1_ := zm (Kd.R_below (by (with_reducible repeat (first | apply Kd.R_alloc | apply Kd.R_drewN | apply Kd.R_drew)); exact HO_13.out) hb)
        have n2_ := zm (Kd.R_below (by (with_reducible repeat (first | apply Kd.R_alloc | apply Kd.R_drewN | apply Kd.R_drew)); exact HO_14.out) hb)
        have n3_ := zm (Kd.R_below (by (with_reducible repeat (first | apply Kd.R_alloc | apply Kd.R_drewN | apply Kd.R_drew)); exact HO_851000.out) hb)
        have n4_ := zm (Kd.R_below (by (with_reducible repeat (first | apply Kd.R_alloc | apply Kd.R_drewN | apply Kd.R_drew)); exact HO864.out) hb)
        have n5_ := zm (blk_below (g := gb828) zk hb)
        have n6_ := zm (blk_below (g := gb829) zk hb)
        have n7_ := zm (blk_below (g := gb850) zk hb)
        have n8_ := zm (below_step zb hb)
        clear HO_10
        clear HO_13
        clear HO_14
        clear HO_851000
        clear HO864
        clear BK828
        clear BK829
        clear BK850
        clear HB
        have HO_10 := n0_
        have HO_13 := n1_
        have HO_14 := n2_
        have HO_851000 := n3_
        have HO864 := n4_
        have BK828 := n5_
        have BK829 := n6_
        have BK850 := n7_
        have HB := n8_
        clear n0_ n1_ n2_ n3_ n4_ n5_ n6_ n7_ n8_
        (try clear hb)
        (try clear hb2)
        (try clear hk)
        (try clear hi)
        refine hK.out _ _ ⟨(blk_cell BK850.out 0).trans rfl, (blk_cell BK850.out 1).trans rfl, (blk_cell BK828.out 0).trans rfl, (blk_cell BK828.out 1).trans rfl⟩ (fun hHeld => ?_)
        clear hK K
        refine norm_ (a' := ?_) ?_ ?_
        rotate_left
        ·
         show Act.put _ (some 67) _ = _
         simp only [Act.put, zA, zB, zD, i64_w, i32_w]
         rfl
        refine pure_ (i := 4) (N := some 68) (v := ?_) (a' := ?_) #[true, true, true, true, true] rfl rfl (by kernel_rfl) (fun _ _ _ h => h) (Or.inl ⟨by rfl, ?_⟩) ?_ ?_
        rotate_left
        ·
         intro w'
         go_simp
         with_reducible rfl
        rotate_left
        ·
         simp only [Act.put, zA, zB, zD, i64_w, i32_w]
         rfl
        refine done_ (by kernel_rfl) ?_
        go_upto_region 21 with (first | ((with_reducible refine gate_callee (f := 15) rfl ?_); refine goesL_ (some 71) rfl rfl Try.func15 (by kernel_rfl) rfl #[.slice A1 l1.length c1] rfl (by (try simp only [List.map_toArray, List.map_cons, List.map_nil]); first | done | rfl | (simp only [List.length_drop, List.length_take]; rfl)) ?_; (with_reducible refine (laws_toHoleS.calls kj26 _ _ l1 t867 _ ?side1 ?side2 A60.out).mono ?_); (case side1 => repeat (first | exact (Kd.C_below HR1.out HB.out) | (with_reducible refine Kd.C_alloc ?_ _) | (with_reducible refine Kd.C_drewN ?_ _) | (with_reducible refine Kd.C_drew ?_))); (case side2 => exact HC1.out); rintro e w70 ⟨v868, rfl, ho0, hb⟩; refine ⟨_, rfl, ?_⟩; have n0_ := zm (Kd.R_below (by (with_reducible repeat (first | apply Kd.R_alloc | apply Kd.R_drewN | apply Kd.R_drew)); exact HO_10.out) hb); have n1_ := zm (Kd.R_elder' (by (with_reducible repeat (first | apply Kd.R_alloc | apply Kd.R_drewN | apply Kd.R_drew)); exact HO_13.out) (Kd.R_base ho0) hb); have n2_ := zm (Kd.R_below (by (with_reducible repeat (first | apply Kd.R_alloc | apply Kd.R_drewN | apply Kd.R_drew)); exact HO_14.out) hb); have n3_ := zm (Kd.R_below (by (with_reducible repeat (first | apply Kd.R_alloc | apply Kd.R_drewN | apply Kd.R_drew)); exact HO_851000.out) hb); have n4_ := zm (Kd.R_below (by (with_reducible repeat (first | apply Kd.R_alloc | apply Kd.R_drewN | apply Kd.R_drew)); exact HO864.out) hb); have n5_ := zm (Kd.R_lower (Kd.R_new' ho0 (Kd.R_lt (by (with_reducible repeat (first | apply Kd.R_alloc | apply Kd.R_drewN | apply Kd.R_drew)); exact HO_13.out))) (below_size zb)); have n6_ := zm (blk_below (g := gb828) zk hb); have n7_ := zm (blk_below (g := gb829) zk hb); have n8_ := zm (blk_below (g := gb850) zk hb); have n9_ := zm (below_step zb hb); clear HO_10; clear HO_13; clear HO_14; clear HO_851000; clear HO864; clear BK828; clear BK829; clear BK850; clear HB; have HO_10 := n0_; have HO_13 := n1_; have HO_14 := n2_; have HO_851000 := n3_; have HO864 := n4_; have HO869 := n5_; have BK828 := n6_; have BK829 := n7_; have BK850 := n8_; have HB := n9_; clear n0_ n1_ n2_ n3_ n4_ n5_ n6_ n7_ n8_ n9_; (try clear hb); (try clear hb2); (try clear hk); (try clear hi); (try clear ho0); obtain ⟨Ao71, co71, eo71⟩ := Kd.R_slice HO869.out; subst eo71) | ((with_reducible refine gate_callee (f := 19) rfl ?_); refine goesL_ (some 72) rfl rfl Try.func19 (by kernel_rfl) rfl #[.slice Ao50 t851.length co50, .slice Ao71 t867.length co71] rfl (by (try simp only [List.map_toArray, List.map_cons, List.map_nil]); first | done | rfl | (simp only [List.length_drop, List.length_take]; rfl)) ?_; (with_reducible refine (laws_eqHoleS.calls kj26 _ _ t851 _ _ t867 true _ ?side1 ?side2 ?side3 ?side4 A61.out).mono ?_); (case side1 => repeat (first | exact (Kd.R_reads' HO_13.out).2.2 | (with_reducible refine Kd.C_alloc ?_ _) | (with_reducible refine Kd.C_drewN ?_ _) | (with_reducible refine Kd.C_drew ?_))); (case side2 => exact (Kd.R_reads' HO_13.out).2.1); (case side3 => repeat (first | exact (Kd.R_reads' HO869.out).2.2 | (with_reducible refine Kd.C_alloc ?_ _) | (with_reducible refine Kd.C_drewN ?_ _) | (with_reducible refine Kd.C_drew ?_))); (case side4 => exact (Kd.R_reads' HO869.out).2.1); rintro e w72 ⟨rfl, hb⟩; refine ⟨_, rfl, ?_⟩; have n0_ := zm (Kd.R_below (by (with_reducible repeat (first | apply Kd.R_alloc | apply Kd.R_drewN | apply Kd.R_drew)); exact HO_10.out) hb); have n1_ := zm (Kd.R_below (by (with_reducible repeat (first | apply Kd.R_alloc | apply Kd.R_drewN | apply Kd.R_drew)); exact HO_13.out) hb); have n2_ := zm (Kd.R_below (by (with_reducible repeat (first | apply Kd.R_alloc | apply Kd.R_drewN | apply Kd.R_drew)); exact HO_14.out) hb); have n3_ := zm (Kd.R_below (by (with_reducible repeat (first | apply Kd.R_alloc | apply Kd.R_drewN | apply Kd.R_drew)); exact HO_851000.out) hb); have n4_ := zm (Kd.R_below (by (with_reducible repeat (first | apply Kd.R_alloc | apply Kd.R_drewN | apply Kd.R_drew)); exact HO864.out) hb); have n5_ := zm (Kd.R_below (by (with_reducible repeat (first | apply Kd.R_alloc | apply Kd.R_drewN | apply Kd.R_drew)); exact HO869.out) hb); have n6_ := zm (blk_below (g := gb828) zk hb); have n7_ := zm (blk_below (g := gb829) zk hb); have n8_ := zm (blk_below (g := gb850) zk hb); have n9_ := zm (below_step zb hb); clear HO_10; clear HO_13; clear HO_14; clear HO_851000; clear HO864; clear HO869; clear BK828; clear BK829; clear BK850; clear HB; have HO_10 := n0_; have HO_13 := n1_; have HO_14 := n2_; have HO_851000 := n3_; have HO864 := n4_; have HO869 := n5_; have BK828 := n6_; have BK829 := n7_; have BK850 := n8_; have HB := n9_; clear n0_ n1_ n2_ n3_ n4_ n5_ n6_ n7_ n8_ n9_; (try clear hb); (try clear hb2); (try clear hk); (try clear hi); have hnb73 := NB850_828.out; have hnc73 := NB828_850.out; have hnb74 := NB850_829.out; have hnc74 := NB829_850.out; obtain ⟨hcz75_0, hcz75_1, hfz75_0, hfz75_1⟩ := zc2 BK850.out) | ((with_reducible refine gate_callee (f := 23) rfl ?_); refine goesL_ (some 76) rfl rfl Try.func23 (by kernel_rfl) rfl #[.agg #[.slice Ao43 t846.length co43, .int .i64 t849], .int .i64 1] rfl (by (try simp only [List.map_toArray, List.map_cons, List.map_nil]); first | done | rfl | (simp only [List.length_drop, List.length_take]; rfl)) ?_; (with_reducible refine (laws_markInstrument.calls kj26 (fun k_ => some k_ = (.slice Ao43 t846.length co43 : Value).ownBlock) (.slice Ao43 t846.length co43) t846 t849 1 t871 t872 w _ ?side1 ?side2 A63.out).mono ?_); (case side1 => repeat (first | (with_reducible first | exact HB.out | apply below_alloc | apply pw_below_drewN | apply below_drew1 | refine below_set ?_ GE828.out | refine below_set ?_ GE829.out | refine below_set ?_ GE850.out) | exact HB.out)); (case side2 => exact Kd.R_tight rfl HO_851000.out); rintro e w76 ⟨rfl, hy0, hb, hkp⟩; refine ⟨_, rfl, ?_⟩; have n0_ := zm (Kd.R_mono (ok' := fun k_ => some k_ ≠ (v858 : Value).ownBlock ∧ some k_ ≠ (.slice Ao43 t846.length co43 : Value).ownBlock ∧ some k_ ≠ (.slice Ao68 t862.length co68 : Value).ownBlock) (Kd.R_keptB (HO_10.out) hkp (fun k_ hk_ hs_ => (hk_.1.2) hs_)) (fun k_ hk_ => ⟨hk_.1.1.1, hk_.1.1.2, hk_.1.2⟩)); have n1_ := zm (Kd.R_mono (ok' := fun k_ => some k_ ≠ (.slice Ao71 t867.length co71 : Value).ownBlock) (Kd.R_keptB ((Kd.R_apart' HO_13.out (Kd.R_typed HO_851000.out) (by decide))) hkp (fun k_ hk_ hs_ => (hk_.2) hs_)) (fun k_ hk_ => hk_.1.1.2)); have n2_ := zm (Kd.R_mono (ok' := fun k_ => some k_ ≠ (v843 : Value).ownBlock ∧ some k_ ≠ (.slice Ao43 t846.length co43 : Value).ownBlock ∧ some k_ ≠ (.slice Ao68 t862.length co68 : Value).ownBlock) (Kd.R_keptB (HO_14.out) hkp (fun k_ hk_ hs_ => (hk_.1.2) hs_)) (fun k_ hk_ => ⟨hk_.1.1.1, hk_.1.1.2, hk_.1.2⟩)); have n3_ := zm (Kd.R_reok rfl hy0 (fun k_ e_ => HO_851000.out.1 k_ e_)); have n4_ := zm (blk_kept zk hkp (fun hs_ => (fun e_ => (Kd.R_ne HO_851000.out BK828.out (by decide)) e_) hs_)); have n5_ := zm (blk_kept zk hkp (fun hs_ => (fun e_ => (Kd.R_ne HO_851000.out BK829.out (by decide)) e_) hs_)); have n6_ := zm (blk_kept zk hkp (fun hs_ => (fun e_ => (Kd.R_ne HO_851000.out BK850.out (by decide)) e_) hs_)); have n7_ := zm (Kd.R_mono (ok' := fun k_ => some k_ ≠ (v843 : Value).ownBlock ∧ some k_ ≠ (v858 : Value).ownBlock ∧ some k_ ≠ (.slice Ao43 t846.length co43 : Value).ownBlock) (Kd.R_keptB (HO864.out) hkp (fun k_ hk_ hs_ => (hk_.2) hs_)) (fun k_ hk_ => ⟨hk_.1.1.1.2, hk_.1.1.2, hk_.1.2⟩)); have n8_ := zm (Kd.R_mono (ok' := fun k_ => some k_ ≠ (.slice Ao50 t851.length co50 : Value).ownBlock) (Kd.R_keptB ((Kd.R_apart' HO869.out (Kd.R_typed HO_851000.out) (by decide))) hkp (fun k_ hk_ hs_ => (hk_.2) hs_)) (fun k_ hk_ => hk_.1.1.2)); have n9_ := zm (hb); clear HO_10; clear HO_13; clear HO_14; clear HO_851000; clear BK828; clear BK829; clear BK850; clear HO864; clear HO869; clear HB; have HO_10 := n0_; have HO_13 := n1_; have HO_14 := n2_; have HO_851000 := n3_; have BK828 := n4_; have BK829 := n5_; have BK850 := n6_; have HO864 := n7_; have HO869 := n8_; have HB := n9_; clear n0_ n1_ n2_ n3_ n4_ n5_ n6_ n7_ n8_ n9_; (try clear hb); (try clear hkp); (try clear hy0)) | ((with_reducible refine gate_callee (f := 24) rfl ?_); refine goesL_ (some 79) rfl rfl Try.func24 (by kernel_rfl) rfl #[.slice Ao50 t851.length co50, .int .i64 t871] rfl (by (try simp only [List.map_toArray, List.map_cons, List.map_nil]); first | done | rfl | (simp only [List.length_drop, List.length_take]; rfl)) ?_; (with_reducible refine (laws_markHoleS.calls kj26 (fun k_ => some k_ = (.slice Ao50 t851.length co50 : Value).ownBlock) (.slice Ao50 t851.length co50) t851 t871 t873 t874 w _ ?side1 ?side2 A64.out).mono ?_); (case side1 => repeat (first | (with_reducible first | exact HB.out | apply below_alloc | apply pw_below_drewN | apply below_drew1 | refine below_set ?_ GE828.out | refine below_set ?_ GE829.out | refine below_set ?_ GE850.out) | exact HB.out)); (case side2 => exact Kd.R_tight rfl HO_13.out); rintro e w77 ⟨rfl, hy0, hb, hkp⟩; refine ⟨_, rfl, ?_⟩; have n0_ := zm (Kd.R_mono (ok' := fun k_ => some k_ ≠ (v858 : Value).ownBlock ∧ some k_ ≠ (.slice Ao43 t846.length co43 : Value).ownBlock ∧ some k_ ≠ (.slice Ao68 t862.length co68 : Value).ownBlock) (Kd.R_keptB ((Kd.R_apart' HO_10.out (Kd.R_typed HO_13.out) (by decide))) hkp (fun k_ hk_ hs_ => (hk_.2) hs_)) (fun k_ hk_ => ⟨hk_.1.1.1, hk_.1.1.2.1, hk_.1.1.2.2⟩)); have n1_ := zm (Kd.R_reok rfl hy0 (fun k_ e_ => HO_13.out.1 k_ e_)); have n2_ := zm (Kd.R_mono (ok' := fun k_ => some k_ ≠ (v843 : Value).ownBlock ∧ some k_ ≠ (.slice Ao43 t846.length co43 : Value).ownBlock ∧ some k_ ≠ (.slice Ao68 t862.length co68 : Value).ownBlock) (Kd.R_keptB ((Kd.R_apart' HO_14.out (Kd.R_typed HO_13.out) (by decide))) hkp (fun k_ hk_ hs_ => (hk_.2) hs_)) (fun k_ hk_ => ⟨hk_.1.1.1, hk_.1.1.2.1, hk_.1.1.2.2⟩)); have n3_ := zm (Kd.R_mono (ok' := fun k_ => some k_ ≠ (v843 : Value).ownBlock ∧ some k_ ≠ (v858 : Value).ownBlock ∧ some k_ ≠ (.slice Ao68 t862.length co68 : Value).ownBlock) (Kd.R_keptB ((Kd.R_apart' HO_851000.out (Kd.R_typed HO_13.out) (by decide))) hkp (fun k_ hk_ hs_ => (hk_.2) hs_)) (fun k_ hk_ => ⟨hk_.1.1.1.1, hk_.1.1.1.2, hk_.1.1.2⟩)); have n4_ := zm (blk_kept zk hkp (fun hs_ => (fun e_ => (Kd.R_ne HO_13.out BK828.out (by decide)) e_) hs_)); have n5_ := zm (blk_kept zk hkp (fun hs_ => (fun e_ => (Kd.R_ne HO_13.out BK829.out (by decide)) e_) hs_)); have n6_ := zm (blk_kept zk hkp (fun hs_ => (fun e_ => (Kd.R_ne HO_13.out BK850.out (by decide)) e_) hs_)); have n7_ := zm (Kd.R_mono (ok' := fun k_ => some k_ ≠ (v843 : Value).ownBlock ∧ some k_ ≠ (v858 : Value).ownBlock ∧ some k_ ≠ (.slice Ao43 t846.length co43 : Value).ownBlock) (Kd.R_keptB ((Kd.R_apart' HO864.out (Kd.R_typed HO_13.out) (by decide))) hkp (fun k_ hk_ hs_ => (hk_.2) hs_)) (fun k_ hk_ => ⟨hk_.1.1.1, hk_.1.1.2.1, hk_.1.1.2.2⟩)); have n8_ := zm (Kd.R_mono (ok' := fun k_ => some k_ ≠ (.slice Ao50 t851.length co50 : Value).ownBlock) (Kd.R_keptB (HO869.out) hkp (fun k_ hk_ hs_ => (hk_) hs_)) (fun k_ hk_ => hk_.1)); have n9_ := zm (hb); clear HO_10; clear HO_13; clear HO_14; clear HO_851000; clear BK828; clear BK829; clear BK850; clear HO864; clear HO869; clear HB; have HO_10 := n0_; have HO_13 := n1_; have HO_14 := n2_; have HO_851000 := n3_; have BK828 := n4_; have BK829 := n5_; have BK850 := n6_; have HO864 := n7_; have HO869 := n8_; have HB := n9_; clear n0_ n1_ n2_ n3_ n4_ n5_ n6_ n7_ n8_ n9_; (try clear hb); (try clear hkp); (try clear hy0)))
        (try simp only [Act.put, List.setIfInBounds_toArray, List.set_cons_zero, List.set_cons_succ])
        go_cut [92] (fun v92 wc => ∃ (kq : Nat) (x92_64 : Bool), v92 = .bool x92_64 ∧ Aside0 (laws_FnExactPitchesAt.j1 kq l1 a3 t842 t845 t857 x92_64 l0_0 a0_1 a2_0 a2_1 a2_2 = some r) ∧ Aside0 (kq ≤ kj26) ∧ Aside0 (Kd.R (Kd.int .i64) 3 wc w.heap.size (fun k_ => some k_ ≠ (v858 : Value).ownBlock ∧ some k_ ≠ ((.slice Ao43 t846.length co43) : Value).ownBlock) v843 t842) ∧ Aside0 (Kd.R (Kd.int .i64) 3 wc w.heap.size (fun k_ => some k_ ≠ (v843 : Value).ownBlock ∧ some k_ ≠ ((.slice Ao43 t846.length co43) : Value).ownBlock) v858 t857) ∧ Aside0 (Kd.R (Kd.int .i64) 3 wc w.heap.size (fun k_ => some k_ ≠ (v843 : Value).ownBlock ∧ some k_ ≠ (v858 : Value).ownBlock) (.slice Ao43 t846.length co43) t872) ∧ Aside0 (wc.heap[gb828]? = some (.cells #[(.slice A0_0 l0_0.length c0_0), .int .i64 a0_1] 24 (0, 0))) ∧ Aside0 (wc.heap[gb829]? = some (.cells #[.int .i64 a2_0, .int .i64 a2_1, .int .i64 a2_2] 27 (0, 0))) ∧ Aside0 (wc.heap[gb850]? = some (.cells #[(.slice Ao43 t846.length co43), .int .i64 t849] 32 (0, 0))) ∧ Aside0 (Below w.heap.size w wc))
        case first =>
         have H := HC65.out
         clear HC65
         by_cases c78 : t873 < 0
         ·
          rw [if_pos c78] at H
          have c78b0 : decide (t873 < 0) = true := decide_eq_true c78
          clear c78
          (first | rw [c78b0] | (simp only [i64_w, i32_w]; rw [c78b0]) | skip)
          exact (laws_FnExactPitchesAt.j1_t (H.trans (congrArg some hr_))).elim
         ·
          rw [if_neg c78] at H
          have c78b0 : decide (t873 < 0) = false := decide_eq_false c78
          clear c78
          (first | rw [c78b0] | (simp only [i64_w, i32_w]; rw [c78b0]) | skip)
          replace H := Option.bind_eq_some_iff.mp H
          obtain ⟨t875, A790, H⟩ := H
          replace H : (if t875 = true then (laws_FnExactPitchesAt.j1 kj26 l1 a3 t842 t845 t857 (t860 != t845) l0_0 a0_1 a2_0 a2_1 a2_2) else (laws_FnExactPitchesAt.j1 kj26 l1 a3 t842 t845 t857 true l0_0 a0_1 a2_0 a2_1 a2_2)) = some r := H
          have A79 := zm A790
          clear A790
          by_cases c80 : t875 = true
          ·
           subst c80
           have H1 : (laws_FnExactPitchesAt.j1 kj26 l1 a3 t842 t845 t857 (t860 != t845) l0_0 a0_1 a2_0 a2_1 a2_2) = some r := by rw [if_pos rfl] at H; exact H
           clear H
           have H := H1
           clear H1
           have H' := zm H
           clear H
           obtain ⟨Ao81, co81, eo81⟩ := Kd.R_slice HO_14.out
           subst eo81
           obtain ⟨Ao82, co82, eo82⟩ := Kd.R_slice HO_10.out
           subst eo82
           go_wp2_with (first | (go_at_call 22; (with_reducible refine (laws_eqIntS.calls kj26 _ _ t857 _ _ t842 true _ ?side1 ?side2 ?side3 ?side4 A79.out).mono ?_); (case side1 => repeat (first | exact (Kd.R_reads' HO_14.out).2.2 | (with_reducible refine Kd.C_alloc ?_ _) | (with_reducible refine Kd.C_drewN ?_ _) | (with_reducible refine Kd.C_drew ?_))); (case side2 => exact (Kd.R_reads' HO_14.out).2.1); (case side3 => repeat (first | exact (Kd.R_reads' HO_10.out).2.2 | (with_reducible refine Kd.C_alloc ?_ _) | (with_reducible refine Kd.C_drewN ?_ _) | (with_reducible refine Kd.C_drew ?_))); (case side4 => exact (Kd.R_reads' HO_10.out).2.1); rintro e w' ⟨rfl, ⟨nd, rfl⟩⟩))
           go_meet
           case rel => exact ⟨_, ((t860 != t845)), (by first | rfl | (simp; done) | (simp [*]; done)), H', ⟨by have := HJ26.out; first | omega | exact Nat.le_refl _⟩, ⟨by (with_reducible repeat (first | apply Kd.R_alloc | apply Kd.R_drewN | apply Kd.R_drew)); exact Kd.R_mono HO_10.out (fun _ hk => ⟨hk.1, hk.2.1⟩)⟩, ⟨by (with_reducible repeat (first | apply Kd.R_alloc | apply Kd.R_drewN | apply Kd.R_drew)); exact Kd.R_mono HO_14.out (fun _ hk => ⟨hk.1, hk.2.1⟩)⟩, ⟨by (with_reducible repeat (first | apply Kd.R_alloc | apply Kd.R_drewN | apply Kd.R_drew)); exact Kd.R_mono HO_851000.out (fun _ hk => ⟨hk.1, hk.2.1⟩)⟩, ⟨zk⟩, ⟨zk⟩, ⟨zk⟩, ⟨zb⟩⟩
          ·
           replace c80 := Bool.eq_false_iff.mpr c80
           subst c80
           have H1 : (laws_FnExactPitchesAt.j1 kj26 l1 a3 t842 t845 t857 true l0_0 a0_1 a2_0 a2_1 a2_2) = some r := by rw [if_neg (show ¬ (false = true) by decide)] at H; exact H
           clear H
           have H := H1
           clear H1
           exact (laws_FnExactPitchesAt.j1_t (H.trans (congrArg some hr_))).elim
        case rest =>
         clear HC65
         try clear c1
         try clear c2
         try clear p2
         try clear c3
         try clear c4
         try clear c5
         try clear c6
         try clear c6b0
         try clear c7
         try clear c8
         try clear c9
         try clear c10
         try clear c11
         try clear c12
         try clear c13
         try clear c13b0
         try clear c14
         try clear c15
         try clear c16
         try clear c18
         try clear c19
         try clear c22
         try clear c23
         try clear c24
         try clear c30
         try clear c44
         try clear c45
         try clear c46
         try clear c47
         try clear c53
         try clear c56
         try clear c59
         try clear c62
         try clear c73
         try clear c74
         try clear c78
         try clear c78b0
         try clear c80
         try clear hcz10_0
         try clear hcz10_1
         try clear hcz17_0
         try clear hcz17_1
         try clear hcz31_0
         try clear hcz31_1
         try clear hcz40_0
         try clear hcz40_1
         try clear hcz46_0
         try clear hcz46_1
         try clear hcz75_0
         try clear hcz75_1
         try clear hfz10_0
         try clear hfz10_1
         try clear hfz17_0
         try clear hfz17_1
         try clear hfz31_0
         try clear hfz31_1
         try clear hfz40_0
         try clear hfz40_1
         try clear hfz46_0
         try clear hfz46_1
         try clear hfz75_0
         try clear hfz75_1
         try clear p2
         obtain ⟨kq, x92_64, rfl, HA, HJ64, HO_10, HO_14, HO_851000, BK828, BK829, BK850, HB⟩ := hcut
         have hl851000_64 := (Kd.R_reads' HO_851000.out).1
         rw [hl851000_64] at HO_851000
         (try simp only [hl851000_64])
         (try simp only [hl851000_64] at BK828)
         (try simp only [hl851000_64] at BK829)
         (try simp only [hl851000_64] at BK850)
         (try simp only [hl851000_64] at HO_10)
         (try simp only [hl851000_64] at HO_14)
         cases kq with
         | zero => exact absurd HA.out (by simp [laws_FnExactPitchesAt.j1])
         | succ kj64 =>
          have H := HA.out
          clear HA
          simp only [laws_FnExactPitchesAt.j1] at H
          by_cases c83 : x92_64 = true
          ·
           subst c83
           have H1 : (some false) = some r := by rw [if_pos rfl] at H; exact H
           clear H
           have H := H1
           clear H1
           exact absurd ((Option.some.inj H).trans hr_) (by decide)
          ·
           replace c83 := Bool.eq_false_iff.mpr c83
           subst c83
           have H1 : ((laws_markIntS.f kj64 t857 1).bind fun bt876 => ((laws_heldIntS.f kj64 bt876.2 1).bind fun t878 => (if t878 < 0 then (some false) else (if t878 = bt876.1 then ((laws_toInstrument.f kj64 l0_0 a0_1).bind fun bt879 => ((laws_toHoleS.f kj64 l1).bind fun t883 => ((laws_toAction.f a2_0 a2_1 a2_2).bind fun bt886 => ((impl_PitchesAt.f kj64 bt879.1 bt879.2 t883 bt886.1 bt886.2.1 bt886.2.2 a3).bind fun bt889 => ((laws_eqIntS.f kj64 bt889.1 t842).bind fun t893 => (if t893 = true then (laws_FnExactPitchesAt.j2 kj64 bt876.2 bt876.1 (bt889.2 != t845)) else (laws_FnExactPitchesAt.j2 kj64 bt876.2 bt876.1 true))))))) else (some false))))) = some r := by rw [if_neg (show ¬ (false = true) by decide)] at H; exact H
           clear H
           have H := H1
           clear H1
           replace H := Option.bind_eq_some_iff.mp H
           obtain ⟨⟨t876, t877⟩, A840, H⟩ := H
           replace H : ((laws_heldIntS.f kj64 t877 1).bind fun t878 => (if t878 < 0 then (some false) else (if t878 = t876 then ((laws_toInstrument.f kj64 l0_0 a0_1).bind fun bt879 => ((laws_toHoleS.f kj64 l1).bind fun t883 => ((laws_toAction.f a2_0 a2_1 a2_2).bind fun bt886 => ((impl_PitchesAt.f kj64 bt879.1 bt879.2 t883 bt886.1 bt886.2.1 bt886.2.2 a3).bind fun bt889 => ((laws_eqIntS.f kj64 bt889.1 t842).bind fun t893 => (if t893 = true then (laws_FnExactPitchesAt.j2 kj64 t877 t876 (bt889.2 != t845)) else (laws_FnExactPitchesAt.j2 kj64 t877 t876 true))))))) else (some false)))) = some r := H
           have A84 := zm A840
           clear A840
           replace H := Option.bind_eq_some_iff.mp H
           obtain ⟨t878, A850, H⟩ := H
           replace H : (if t878 < 0 then (some false) else (if t878 = t876 then ((laws_toInstrument.f kj64 l0_0 a0_1).bind fun bt879 => ((laws_toHoleS.f kj64 l1).bind fun t883 => ((laws_toAction.f a2_0 a2_1 a2_2).bind fun bt886 => ((impl_PitchesAt.f kj64 bt879.1 bt879.2 t883 bt886.1 bt886.2.1 bt886.2.2 a3).bind fun bt889 => ((laws_eqIntS.f kj64 bt889.1 t842).bind fun t893 => (if t893 = true then (laws_FnExactPitchesAt.j2 kj64 t877 t876 (bt889.2 != t845)) else (laws_FnExactPitchesAt.j2 kj64 t877 t876 true))))))) else (some false))) = some r := H
           have A85 := zm A850
           clear A850
           by_cases c86 : t878 < 0
           ·
            rw [if_pos c86] at H
            have c86b0 : decide (t878 < 0) = true := decide_eq_true c86
            clear c86
            exact absurd ((Option.some.inj H).trans hr_) (by decide)
           ·
            rw [if_neg c86] at H
            have c86b0 : decide (t878 < 0) = false := decide_eq_false c86
            clear c86
            by_cases c87 : t878 = t876
            ·
             rw [if_pos c87] at H
             have c87b0 : (t878 == t876) = true := beq_iff_eq.mpr c87
             have c87b1 : (t878 != t876) = false := bne_eq_false_iff_eq.mpr c87
             clear c87
             replace H := Option.bind_eq_some_iff.mp H
             obtain ⟨⟨t879, t882⟩, A880, H⟩ := H
             replace H : ((laws_toHoleS.f kj64 l1).bind fun t883 => ((laws_toAction.f a2_0 a2_1 a2_2).bind fun bt886 => ((impl_PitchesAt.f kj64 t879 t882 t883 bt886.1 bt886.2.1 bt886.2.2 a3).bind fun bt889 => ((laws_eqIntS.f kj64 bt889.1 t842).bind fun t893 => (if t893 = true then (laws_FnExactPitchesAt.j2 kj64 t877 t876 (bt889.2 != t845)) else (laws_FnExactPitchesAt.j2 kj64 t877 t876 true)))))) = some r := H
             have A88 := zm A880
             clear A880
             replace H := Option.bind_eq_some_iff.mp H
             obtain ⟨t883, A890, H⟩ := H
             replace H : ((laws_toAction.f a2_0 a2_1 a2_2).bind fun bt886 => ((impl_PitchesAt.f kj64 t879 t882 t883 bt886.1 bt886.2.1 bt886.2.2 a3).bind fun bt889 => ((laws_eqIntS.f kj64 bt889.1 t842).bind fun t893 => (if t893 = true then (laws_FnExactPitchesAt.j2 kj64 t877 t876 (bt889.2 != t845)) else (laws_FnExactPitchesAt.j2 kj64 t877 t876 true))))) = some r := H
             have A89 := zm A890
             clear A890
             replace H := Option.bind_eq_some_iff.mp H
             obtain ⟨⟨t886, t887, t888⟩, A900, H⟩ := H
             replace H : ((impl_PitchesAt.f kj64 t879 t882 t883 t886 t887 t888 a3).bind fun bt889 => ((laws_eqIntS.f kj64 bt889.1 t842).bind fun t893 => (if t893 = true then (laws_FnExactPitchesAt.j2 kj64 t877 t876 (bt889.2 != t845)) else (laws_FnExactPitchesAt.j2 kj64 t877 t876 true)))) = some r := H
             have A90 := zm A900
             clear A900
             replace H := Option.bind_eq_some_iff.mp H
             obtain ⟨⟨t889, t892⟩, A910, H⟩ := H
             replace H : ((laws_eqIntS.f kj64 t889 t842).bind fun t893 => (if t893 = true then (laws_FnExactPitchesAt.j2 kj64 t877 t876 (t892 != t845)) else (laws_FnExactPitchesAt.j2 kj64 t877 t876 true))) = some r := H
             have A91 := zm A910
             clear A910
             have HC92 := zm H
             clear H
             obtain ⟨Ao93, co93, eo93⟩ := Kd.R_slice HO_14.out
             subst eo93
             try go_wp2_with (first | ((with_reducible refine gate_callee (f := 25) rfl ?_); refine goesL_ (some 95) rfl rfl Try.func25 (by kernel_rfl) rfl #[.slice Ao93 t857.length co93, .int .i64 1] rfl (by (try simp only [List.map_toArray, List.map_cons, List.map_nil]); first | done | rfl | (simp only [List.length_drop, List.length_take]; rfl)) ?_; (with_reducible refine (laws_markIntS.calls kj64 (fun k_ => some k_ = (.slice Ao93 t857.length co93 : Value).ownBlock) (.slice Ao93 t857.length co93) t857 1 t876 t877 w _ ?side1 ?side2 A84.out).mono ?_); (case side1 => repeat (first | (with_reducible first | exact HB.out | apply below_alloc | apply pw_below_drewN | apply below_drew1 | refine below_set ?_ GE828.out | refine below_set ?_ GE829.out | refine below_set ?_ GE850.out) | exact HB.out)); (case side2 => exact Kd.R_tight rfl HO_14.out); rintro e w94 ⟨rfl, hy0, hb, hkp⟩; refine ⟨_, rfl, ?_⟩; have n0_ := zm (Kd.R_mono (ok' := fun k_ => some k_ ≠ (.slice Ao93 t857.length co93 : Value).ownBlock ∧ some k_ ≠ (.slice Ao43 t872.length co43 : Value).ownBlock) (Kd.R_keptB (HO_10.out) hkp (fun k_ hk_ hs_ => (hk_.1) hs_)) (fun k_ hk_ => ⟨hk_.1.1, hk_.1.2⟩)); have n1_ := zm (Kd.R_reok rfl hy0 (fun k_ e_ => HO_14.out.1 k_ e_)); have n2_ := zm (Kd.R_mono (ok' := fun k_ => some k_ ≠ (v843 : Value).ownBlock ∧ some k_ ≠ (.slice Ao93 t857.length co93 : Value).ownBlock) (Kd.R_keptB (HO_851000.out) hkp (fun k_ hk_ hs_ => (hk_.2) hs_)) (fun k_ hk_ => ⟨hk_.1.1, hk_.1.2⟩)); have n3_ := zm (blk_kept zk hkp (fun hs_ => (fun e_ => (Kd.R_ne HO_14.out BK828.out (by decide)) e_) hs_)); have n4_ := zm (blk_kept zk hkp (fun hs_ => (fun e_ => (Kd.R_ne HO_14.out BK829.out (by decide)) e_) hs_)); have n5_ := zm (blk_kept zk hkp (fun hs_ => (fun e_ => (Kd.R_ne HO_14.out BK850.out (by decide)) e_) hs_)); have n6_ := zm (hb); clear HO_10; clear HO_14; clear HO_851000; clear BK828; clear BK829; clear BK850; clear HB; have HO_10 := n0_; have HO_14 := n1_; have HO_851000 := n2_; have BK828 := n3_; have BK829 := n4_; have BK850 := n5_; have HB := n6_; clear n0_ n1_ n2_ n3_ n4_ n5_ n6_; (try clear hb); (try clear hkp); (try clear hy0)) | ((with_reducible refine gate_callee (f := 26) rfl ?_); refine goesL_ (some 98) rfl rfl Try.func26 (by kernel_rfl) rfl #[.slice Ao93 t877.length co93, .int .i64 1] rfl (by (try simp only [List.map_toArray, List.map_cons, List.map_nil]); first | done | (rw [show t877.length = t857.length from (Kd.R_reads' HO_14.out).1.symm] <;> rfl) | rfl | (simp only [List.length_drop, List.length_take]; rfl)) ?_; (with_reducible refine (laws_heldIntS.calls kj64 _ _ t877 1 t878 _ ?side1 ?side2 A85.out).mono ?_); (case side1 => repeat (first | exact (Kd.R_reads' HO_14.out).2.2 | (with_reducible refine Kd.C_alloc ?_ _) | (with_reducible refine Kd.C_drewN ?_ _) | (with_reducible refine Kd.C_drew ?_))); (case side2 => rw [show t877.length = t857.length from (Kd.R_reads' HO_14.out).1.symm]; exact (Kd.R_reads' HO_14.out).2.1); rintro e w' ⟨rfl, ⟨nd, rfl⟩⟩; refine ⟨_, rfl, ?_⟩))
             (try (rw [drewN_self w94]; generalize hq_ : World.drewN w94 _ = w94; have n0_ : Aside0 (Kd.R (Kd.int .i64) 3 w94 w.heap.size (fun k_ => some k_ ≠ (.slice Ao93 t857.length co93 : Value).ownBlock ∧ some k_ ≠ (.slice Ao43 t872.length co43 : Value).ownBlock) v843 t842) := ⟨by rw [← hq_]; exact (by (with_reducible repeat (first | apply Kd.R_alloc | apply Kd.R_drewN | apply Kd.R_drew)); exact HO_10.out)⟩; have n1_ : Aside0 (Kd.R (Kd.int .i64) 3 w94 w.heap.size (fun k_ => some k_ ≠ (v843 : Value).ownBlock ∧ some k_ ≠ (.slice Ao43 t872.length co43 : Value).ownBlock) (.slice Ao93 t857.length co93) t877) := ⟨by rw [← hq_]; exact (by (with_reducible repeat (first | apply Kd.R_alloc | apply Kd.R_drewN | apply Kd.R_drew)); exact HO_14.out)⟩; have n2_ : Aside0 (Kd.R (Kd.int .i64) 3 w94 w.heap.size (fun k_ => some k_ ≠ (v843 : Value).ownBlock ∧ some k_ ≠ (.slice Ao93 t857.length co93 : Value).ownBlock) (.slice Ao43 t872.length co43) t872) := ⟨by rw [← hq_]; exact (by (with_reducible repeat (first | apply Kd.R_alloc | apply Kd.R_drewN | apply Kd.R_drew)); exact HO_851000.out)⟩; have n3_ : Aside0 (w94.heap[gb828]? = some (.cells #[.slice A0_0 l0_0.length c0_0, .int .i64 a0_1] 24 (0, 0))) := ⟨by rw [← hq_]; exact zk⟩; have n4_ : Aside0 (w94.heap[gb829]? = some (.cells #[.int .i64 a2_0, .int .i64 a2_1, .int .i64 a2_2] 27 (0, 0))) := ⟨by rw [← hq_]; exact zk⟩; have n5_ : Aside0 (w94.heap[gb850]? = some (.cells #[.slice Ao43 t872.length co43, .int .i64 t849] 32 (0, 0))) := ⟨by rw [← hq_]; exact zk⟩; have n6_ : Aside0 (Below w.heap.size w w94) := ⟨by rw [← hq_]; exact zb⟩; clear HO_10 HO_14 HO_851000 BK828 BK829 BK850 HB hq_; have HO_10 := n0_; have HO_14 := n1_; have HO_851000 := n2_; have BK828 := n3_; have BK829 := n4_; have BK850 := n5_; have HB := n6_; clear n0_ n1_ n2_ n3_ n4_ n5_ n6_))
             have n0_ := zm (Kd.R_drew HO_10.out)
             have n1_ := zm (Kd.R_drew HO_14.out)
             have n2_ := zm (Kd.R_drew HO_851000.out)
             have n3_ := zm (blk_drew BK828.out)
             have n4_ := zm (blk_drew BK829.out)
             have n5_ := zm (blk_drew BK850.out)
             have n6_ := zm (below_drew1 HB.out)
             clear HO_10
             clear HO_14
             clear HO_851000
             clear BK828
             clear BK829
             clear BK850
             clear HB
             have HO_10 := n0_
             have HO_14 := n1_
             have HO_851000 := n2_
             have BK828 := n3_
             have BK829 := n4_
             have BK850 := n5_
             have HB := n6_
             clear n0_ n1_ n2_ n3_ n4_ n5_ n6_
             refine start_ (n := 13) (S := fun w' => w'.cell? ⟨gb828, 0, none⟩ = some (.slice A0_0 l0_0.length c0_0) ∧ w'.cell? ⟨gb828, 1, none⟩ = some (.int .i64 a0_1) ∧ w'.cell? ⟨gb829, 0, none⟩ = some (.int .i64 a2_0) ∧ w'.cell? ⟨gb829, 1, none⟩ = some (.int .i64 a2_1) ∧ w'.cell? ⟨gb829, 2, none⟩ = some (.int .i64 a2_2)) (ds := []) #[false, false, false, false, false, false, false, false, false, false, false, false, false] (by kernel_rfl) rfl rfl ⟨(blk_cell BK828.out 0).trans rfl, (blk_cell BK828.out 1).trans rfl, (blk_cell BK829.out 0).trans rfl, (blk_cell BK829.out 1).trans rfl, (blk_cell BK829.out 2).trans rfl⟩ (fun hHeld => ?_); refine with_tabW laws_FnExactPitchesAt.tab31 laws_FnExactPitchesAt.bits31 (fun HT_ HW_ => ?_)
             generalize w94.drew = w95 at HO_10 HO_14 HO_851000 BK828 BK829 BK850 HB hHeld ⊢
             refine pure_ (i := 2) (N := some 107) (v := ?_) (a' := ?_) #[false, false, true, false, false, false, false, false, false, false, false, false, false] rfl rfl (any_of HT_.out (by kernel_rfl)) (fun _ _ _ h => h) (Or.inl ⟨by rfl, ?_⟩) ?_ ?_
             rotate_left
             ·
              intro w'
              go_simp
              with_reducible rfl
             rotate_left
             ·
              simp only [Act.put, zA, zB, zD, i64_w, i32_w]
              rfl
             refine pure_ (i := 6) (N := some 111) (v := ?_) (a' := ?_) #[false, false, true, false, false, false, true, false, false, false, false, false, false] rfl rfl (any_of HT_.out (by kernel_rfl)) (fun _ _ _ h => h) (Or.inl ⟨by rfl, ?_⟩) ?_ ?_
             rotate_left
             ·
              intro w'
              go_simp
              with_reducible rfl
             rotate_left
             ·
              simp only [Act.put, zA, zB, zD, i64_w, i32_w]
              rfl
             refine take_ (i := 0) (N := some 105) (v := ?_) (a' := ?_) #[true, false, true, false, false, false, true, false, false, false, false, false, false] rfl rfl (take_ofW HT_.out HW_.out (by kernel_rfl)) (fun _ _ _ h => h) (Or.inl ⟨by rfl, ?_⟩) hHeld ?_ ?_
             rotate_left
             ·
              rintro w' ⟨s0, s1, s2, s3, s4⟩
              go_simp
              with_reducible rfl
             rotate_left
             ·
              simp only [Act.put, zA, zB, zD, i64_w, i32_w]
              rfl
             refine take_ (i := 4) (N := some 109) (v := ?_) (a' := ?_) #[true, false, true, false, true, false, true, false, false, false, false, false, false] rfl rfl (take_ofW HT_.out HW_.out (by kernel_rfl)) (fun _ _ _ h => h) (Or.inl ⟨by rfl, ?_⟩) hHeld ?_ ?_
             rotate_left
             ·
              rintro w' ⟨s0, s1, s2, s3, s4⟩
              go_simp
              with_reducible rfl
             rotate_left
             ·
              simp only [Act.put, zA, zB, zD, i64_w, i32_w]
              rfl
             refine one_ (i := 1) (N := some 106) #[true, true, true, false, true, false, true, false, false, false, false, false, false] rfl rfl (one_of HT_.out (by kernel_rfl)) (by decide) (fun K hK => ?_)
             refine goes_ Try.func14 (by kernel_rfl) rfl #[.agg #[.slice A0_0 l0_0.length c0_0, .int .i64 a0_1]] (by rfl) rfl rfl (by (try simp only [List.map_toArray, List.map_cons, List.map_nil]); first | done | rfl | (simp only [List.length_drop, List.length_take]; rfl)) ?_
             with_reducible refine (laws_toInstrument.calls kj64 _ _ l0_0 a0_1 t879 t882 _ ?side1 ?side2 A88.out).mono ?_
             (case side1 => repeat (first | exact (Kd.C_below HR0_0.out HB.out) | (with_reducible refine Kd.C_alloc ?_ _) | (with_reducible refine Kd.C_drewN ?_ _) | (with_reducible refine Kd.C_drew ?_)))
             (case side2 => exact HC0_0.out)
             rintro e w96 ⟨v880, rfl, ho0, hb⟩
             refine ⟨_, rfl, ?_⟩
             have n0_ := zm (Kd.R_elder' (by (with_reducible repeat (first | apply Kd.R_alloc | apply Kd.R_drewN | apply Kd.R_drew)); exact HO_10.out) (Kd.R_base ho0) hb)
             have n1_ := zm (Kd.R_elder' (by (with_reducible repeat (first | apply Kd.R_alloc | apply Kd.R_drewN | apply Kd.R_drew)); exact HO_14.out) (Kd.R_base ho0) hb)
             have n2_ := zm (Kd.R_elder' (by (with_reducible repeat (first | apply Kd.R_alloc | apply Kd.R_drewN | apply Kd.R_drew)); exact HO_851000.out) (Kd.R_base ho0) hb)
             have n3_ := zm (Kd.R_lower (Kd.R_new' (Kd.R_new' (Kd.R_new' ho0 (Kd.R_lt (by (with_reducible repeat (first | apply Kd.R_alloc | apply Kd.R_drewN | apply Kd.R_drew)); exact HO_10.out))) (Kd.R_lt (by (with_reducible repeat (first | apply Kd.R_alloc | apply Kd.R_drewN | apply Kd.R_drew)); exact HO_14.out))) (Kd.R_lt (by (with_reducible repeat (first | apply Kd.R_alloc | apply Kd.R_drewN | apply Kd.R_drew)); exact HO_851000.out))) (below_size zb))
             have n4_ := zm (blk_below (g := gb828) zk hb)
             have n5_ := zm (blk_below (g := gb829) zk hb)
             have n6_ := zm (blk_below (g := gb850) zk hb)
             have n7_ := zm (below_step zb hb)
             clear HO_10
             clear HO_14
             clear HO_851000
             clear BK828
             clear BK829
             clear BK850
             clear HB
             have HO_10 := n0_
             have HO_14 := n1_
             have HO_851000 := n2_
             have HO881 := n3_
             have BK828 := n4_
             have BK829 := n5_
             have BK850 := n6_
             have HB := n7_
             clear n0_ n1_ n2_ n3_ n4_ n5_ n6_ n7_
             (try clear hb)
             (try clear hb2)
             (try clear hk)
             (try clear hi)
             (try clear ho0)
             refine hK.out _ _ ⟨(blk_cell BK828.out 0).trans rfl, (blk_cell BK828.out 1).trans rfl, (blk_cell BK829.out 0).trans rfl, (blk_cell BK829.out 1).trans rfl, (blk_cell BK829.out 2).trans rfl⟩ (fun hHeld => ?_)
             clear hK K
             refine norm_ (a' := ?_) ?_ ?_
             rotate_left
             ·
              show Act.put _ (some 106) _ = _
              simp only [Act.put, zA, zB, zD, i64_w, i32_w]
              rfl
             refine one_ (i := 3) (N := some 108) #[true, true, true, true, true, false, true, false, false, false, false, false, false] rfl rfl (one_of HT_.out (by kernel_rfl)) (by decide) (fun K hK => ?_)
             refine goes_ Try.func15 (by kernel_rfl) rfl #[.slice A1 l1.length c1] (by rfl) rfl rfl (by (try simp only [List.map_toArray, List.map_cons, List.map_nil]); first | done | rfl | (simp only [List.length_drop, List.length_take]; rfl)) ?_
             with_reducible refine (laws_toHoleS.calls kj64 _ _ l1 t883 _ ?side1 ?side2 A89.out).mono ?_
             (case side1 => repeat (first | exact (Kd.C_below HR1.out HB.out) | (with_reducible refine Kd.C_alloc ?_ _) | (with_reducible refine Kd.C_drewN ?_ _) | (with_reducible refine Kd.C_drew ?_)))
             (case side2 => exact HC1.out)
             rintro e w97 ⟨v884, rfl, ho0, hb⟩
             refine ⟨_, rfl, ?_⟩
             have n0_ := zm (Kd.R_below (by (with_reducible repeat (first | apply Kd.R_alloc | apply Kd.R_drewN | apply Kd.R_drew)); exact HO_10.out) hb)
             have n1_ := zm (Kd.R_below (by (with_reducible repeat (first | apply Kd.R_alloc | apply Kd.R_drewN | apply Kd.R_drew)); exact HO_14.out) hb)
             have n2_ := zm (Kd.R_below (by (with_reducible repeat (first | apply Kd.R_alloc | apply Kd.R_drewN | apply Kd.R_drew)); exact HO_851000.out) hb)
             have n3_ := zm (Kd.R_below (by (with_reducible repeat (first | apply Kd.R_alloc | apply Kd.R_drewN | apply Kd.R_drew)); exact HO881.out) hb)
             have n4_ := zm (Kd.R_lower ho0 (below_size zb))
             have n5_ := zm (blk_below (g := gb828) zk hb)
             have n6_ := zm (blk_below (g := gb829) zk hb)
             have n7_ := zm (blk_below (g := gb850) zk hb)
             have n8_ := zm (below_step zb hb)
             clear HO_10
             clear HO_14
             clear HO_851000
             clear HO881
             clear BK828
             clear BK829
             clear BK850
             clear HB
             have HO_10 := n0_
             have HO_14 := n1_
             have HO_851000 := n2_
             have HO881 := n3_
             have HO885 := n4_
             have BK828 := n5_
             have BK829 := n6_
             have BK850 := n7_
             have HB := n8_
             clear n0_ n1_ n2_ n3_ n4_ n5_ n6_ n7_ n8_
             (try clear hb)
             (try clear hb2)
             (try clear hk)
             (try clear hi)
             (try clear ho0)
             refine hK.out _ _ ⟨(blk_cell BK828.out 0).trans rfl, (blk_cell BK828.out 1).trans rfl, (blk_cell BK829.out 0).trans rfl, (blk_cell BK829.out 1).trans rfl, (blk_cell BK829.out 2).trans rfl⟩ (fun hHeld => ?_)
             clear hK K
             refine norm_ (a' := ?_) ?_ ?_
             rotate_left
             ·
              show Act.put _ (some 108) _ = _
              simp only [Act.put, zA, zB, zD, i64_w, i32_w]
              rfl
             refine one_ (i := 5) (N := some 110) #[true, true, true, true, true, true, true, false, false, false, false, false, false] rfl rfl (one_of HT_.out (by kernel_rfl)) (by decide) (fun K hK => ?_)
             refine goes_ Try.func16 (by kernel_rfl) rfl #[.agg #[.int .i64 a2_0, .int .i64 a2_1, .int .i64 a2_2]] (by rfl) rfl rfl (by (try simp only [List.map_toArray, List.map_cons, List.map_nil]); first | done | rfl | (simp only [List.length_drop, List.length_take]; rfl)) ?_
             with_reducible refine (laws_toAction.calls a2_0 a2_1 a2_2 t886 t887 t888 _ A90.out).mono ?_
             rintro e w98 ⟨rfl, hb⟩
             refine ⟨_, rfl, ?_⟩
             have n0_ := zm (Kd.R_below (by (with_reducible repeat (first | apply Kd.R_alloc | apply Kd.R_drewN | apply Kd.R_drew)); exact HO_10.out) hb)
             have n1_ := zm (Kd.R_below (by (with_reducible repeat (first | apply Kd.R_alloc | apply Kd.R_drewN | apply Kd.R_drew)); exact HO_14.out) hb)
             have n2_ := zm (Kd.R_below (by (with_reducible repeat (first | apply Kd.R_alloc | apply Kd.R_drewN | apply Kd.R_drew)); exact HO_851000.out) hb)
             have n3_ := zm (Kd.R_below (by (with_reducible repeat (first | apply Kd.R_alloc | apply Kd.R_drewN | apply Kd.R_drew)); exact HO881.out) hb)
             have n4_ := zm (Kd.R_below (by (with_reducible repeat (first | apply Kd.R_alloc | apply Kd.R_drewN | apply Kd.R_drew)); exact HO885.out) hb)
             have n5_ := zm (blk_below (g := gb828) zk hb)
             have n6_ := zm (blk_below (g := gb829) zk hb)
             have n7_ := zm (blk_below (g := gb850) zk hb)
             have n8_ := zm (below_step zb hb)
             clear HO_10
             clear HO_14
             clear HO_851000
             clear HO881
             clear HO885
             clear BK828
             clear BK829
             clear BK850
             clear HB
             have HO_10 := n0_
             have HO_14 := n1_
             have HO_851000 := n2_
             have HO881 := n3_
             have HO885 := n4_
             have BK828 := n5_
             have BK829 := n6_
             have BK850 := n7_
             have HB := n8_
             clear n0_ n1_ n2_ n3_ n4_ n5_ n6_ n7_ n8_
             (try clear hb)
             (try clear hb2)
             (try clear hk)
             (try clear hi)
             obtain ⟨Ao99, co99, eo99⟩ := Kd.R_slice HO881.out
             (first | subst eo99 | (injection eo99 with f1_ f2_ f3_; have f4_ := f1_.symm; have f5_ := f3_.symm; clear f1_ f2_ f3_; subst f4_; subst f5_))
             obtain ⟨Ao100, co100, eo100⟩ := Kd.R_slice HO885.out
             (first | subst eo100 | (injection eo100 with f1_ f2_ f3_; have f4_ := f1_.symm; have f5_ := f3_.symm; clear f1_ f2_ f3_; subst f4_; subst f5_))
             refine hK.out _ _ ⟨(blk_cell BK828.out 0).trans rfl, (blk_cell BK828.out 1).trans rfl, (blk_cell BK829.out 0).trans rfl, (blk_cell BK829.out 1).trans rfl, (blk_cell BK829.out 2).trans rfl⟩ (fun hHeld => ?_)
             clear hK K
             refine norm_ (a' := ?_) ?_ ?_
             rotate_left
             ·
              show Act.put _ (some 110) _ = _
              simp only [Act.put, zA, zB, zD, i64_w, i32_w]
              rfl
             refine one_ (i := 7) (N := some 112) #[true, true, true, true, true, true, true, true, false, false, false, false, false] rfl rfl (one_of HT_.out (by kernel_rfl)) (by decide) (fun K hK => ?_)
             refine goes_ Try.func47 (by kernel_rfl) rfl #[.agg #[.slice Ao99 t879.length co99, .int .i64 t882], .slice Ao100 t883.length co100, .agg #[.int .i64 t886, .int .i64 t887, .int .i64 t888], .int .i64 a3] (by rfl) rfl rfl (by (try simp only [List.map_toArray, List.map_cons, List.map_nil]); first | done | rfl | (simp only [List.length_drop, List.length_take]; rfl)) ?_
             with_reducible refine (impl_PitchesAt.calls kj64 _ _ t879 t882 _ _ t883 t886 t887 t888 a3 t889 t892 _ ?side1 ?side2 ?side3 ?side4 A91.out).mono ?_
             (case side1 => repeat (first | exact (Kd.R_reads' HO881.out).2.2 | (with_reducible refine Kd.C_alloc ?_ _) | (with_reducible refine Kd.C_drewN ?_ _) | (with_reducible refine Kd.C_drew ?_)))
             (case side2 => exact (Kd.R_reads' HO881.out).2.1)
             (case side3 => repeat (first | exact (Kd.R_reads' HO885.out).2.2 | (with_reducible refine Kd.C_alloc ?_ _) | (with_reducible refine Kd.C_drewN ?_ _) | (with_reducible refine Kd.C_drew ?_)))
             (case side4 => exact (Kd.R_reads' HO885.out).2.1)
             rintro e w101 ⟨v890, rfl, ho0, hb⟩
             refine ⟨_, rfl, ?_⟩
             have n0_ := zm (Kd.R_elder' (by (with_reducible repeat (first | apply Kd.R_alloc | apply Kd.R_drewN | apply Kd.R_drew)); exact HO_10.out) (Kd.R_base ho0) hb)
             have n1_ := zm (Kd.R_elder' (by (with_reducible repeat (first | apply Kd.R_alloc | apply Kd.R_drewN | apply Kd.R_drew)); exact HO_14.out) (Kd.R_base ho0) hb)
             have n2_ := zm (Kd.R_elder' (by (with_reducible repeat (first | apply Kd.R_alloc | apply Kd.R_drewN | apply Kd.R_drew)); exact HO_851000.out) (Kd.R_base ho0) hb)
             have n3_ := zm (Kd.R_elder' (by (with_reducible repeat (first | apply Kd.R_alloc | apply Kd.R_drewN | apply Kd.R_drew)); exact HO881.out) (Kd.R_base ho0) hb)
             have n4_ := zm (Kd.R_below (by (with_reducible repeat (first | apply Kd.R_alloc | apply Kd.R_drewN | apply Kd.R_drew)); exact HO885.out) hb)
             have n5_ := zm (Kd.R_lower (Kd.R_new' (Kd.R_new' (Kd.R_new' (Kd.R_new' ho0 (Kd.R_lt (by (with_reducible repeat (first | apply Kd.R_alloc | apply Kd.R_drewN | apply Kd.R_drew)); exact HO_10.out))) (Kd.R_lt (by (with_reducible repeat (first | apply Kd.R_alloc | apply Kd.R_drewN | apply Kd.R_drew)); exact HO_14.out))) (Kd.R_lt (by (with_reducible repeat (first | apply Kd.R_alloc | apply Kd.R_drewN | apply Kd.R_drew)); exact HO_851000.out))) (Kd.R_lt (by (with_reducible repeat (first | apply Kd.R_alloc | apply Kd.R_drewN | apply Kd.R_drew)); exact HO881.out))) (below_size zb))
             have n6_ := zm (blk_below (g := gb828) zk hb)
             have n7_ := zm (blk_below (g := gb829) zk hb)
             have n8_ := zm (blk_below (g := gb850) zk hb)
             have n9_ := zm (below_step zb hb)
             clear HO_10
             clear HO_14
             clear HO_851000
             clear HO881
             clear HO885
             clear BK828
             clear BK829
             clear BK850
             clear HB
             have HO_10 := n0_
             have HO_14 := n1_
             have HO_851000 := n2_
             have HO881 := n3_
             have HO885 := n4_
             have HO891 := n5_
             have BK828 := n6_
             have BK829 := n7_
             have BK850 := n8_
             have HB := n9_
             clear n0_ n1_ n2_ n3_ n4_ n5_ n6_ n7_ n8_ n9_
             (try clear hb)
             (try clear hb2)
             (try clear hk)
             (try clear hi)
             (try clear ho0)
             refine hK.out _ _ ⟨(blk_cell BK828.out 0).trans rfl, (blk_cell BK828.out 1).trans rfl, (blk_cell BK829.out 0).trans rfl, (blk_cell BK829.out 1).trans rfl, (blk_cell BK829.out 2).trans rfl⟩ (fun hHeld => ?_)
             clear hK K
             refine norm_ (a' := ?_) ?_ ?_
             rotate_left
             ·
              show Act.put _ (some 112) _ = _
              simp only [Act.put, zA, zB, zD, i64_w, i32_w]
              rfl
             refine pure_ (i := 8) (N := some 104) (v := ?_) (a' := ?_) #[true, true, true, true, true, true, true, true, true, false, false, false, false] rfl rfl (any_of HT_.out (by kernel_rfl)) (fun _ _ _ h => h) (Or.inl ⟨by rfl, ?_⟩) ?_ ?_
             rotate_left
             ·
              intro w'
              go_simp
              with_reducible rfl
             rotate_left
             ·
              simp only [Act.put, zA, zB, zD, i64_w, i32_w]
              rfl
             refine pure_ (i := 9) (N := some 113) (v := ?_) (a' := ?_) #[true, true, true, true, true, true, true, true, true, true, false, false, false] rfl rfl (any_of HT_.out (by kernel_rfl)) (fun _ _ _ h => h) (Or.inl ⟨by rfl, ?_⟩) ?_ ?_
             rotate_left
             ·
              intro w'
              go_simp
              with_reducible rfl
             rotate_left
             ·
              simp only [Act.put, zA, zB, zD, i64_w, i32_w]
              rfl
             refine pure_ (i := 10) (N := some 114) (v := ?_) (a' := ?_) #[true, true, true, true, true, true, true, true, true, true, true, false, false] rfl rfl (any_of HT_.out (by kernel_rfl)) (fun _ _ _ h => h) (Or.inl ⟨by rfl, ?_⟩) ?_ ?_
             rotate_left
             ·
              intro w'
              go_simp
              with_reducible rfl
             rotate_left
             ·
              simp only [Act.put, zA, zB, zD, i64_w, i32_w]
              rfl
             refine pure_ (i := 11) (N := some 19) (v := ?_) (a' := ?_) #[true, true, true, true, true, true, true, true, true, true, true, true, false] rfl rfl (any_of HT_.out (by kernel_rfl)) (fun _ _ _ h => h) (Or.inl ⟨by rfl, ?_⟩) ?_ ?_
             rotate_left
             ·
              intro w'
              go_simp
              with_reducible rfl
             rotate_left
             ·
              simp only [Act.put, zA, zB, zD, i64_w, i32_w]
              rfl
             refine pure_ (i := 12) (N := some 20) (v := ?_) (a' := ?_) #[true, true, true, true, true, true, true, true, true, true, true, true, true] rfl rfl (any_of HT_.out (by kernel_rfl)) (fun _ _ _ h => h) (Or.inl ⟨by rfl, ?_⟩) ?_ ?_
             rotate_left
             ·
              intro w'
              go_simp
              with_reducible rfl
             rotate_left
             ·
              simp only [Act.put, zA, zB, zD, i64_w, i32_w]
              rfl
             refine done_ (done_of HT_.out (by kernel_rfl)) ?_
             go_upto_region 32 with (fail)
             go_cut [123] (fun v123 wc => ∃ (kq : Nat) (x123_91 : Bool), v123 = .bool x123_91 ∧ Aside0 (laws_FnExactPitchesAt.j2 kq t877 t876 x123_91 = some r) ∧ Aside0 (kq ≤ kj64) ∧ Aside0 (Kd.R (Kd.int .i64) 3 wc w.heap.size (fun k_ => some k_ ≠ ((.slice Ao43 t872.length co43) : Value).ownBlock) (.slice Ao93 t857.length co93) t877) ∧ Aside0 (Kd.R (Kd.int .i64) 3 wc w.heap.size (fun k_ => some k_ ≠ ((.slice Ao93 t857.length co93) : Value).ownBlock) (.slice Ao43 t872.length co43) t872) ∧ Aside0 (wc.heap[gb828]? = some (.cells #[(.slice A0_0 l0_0.length c0_0), .int .i64 a0_1] 24 (0, 0))) ∧ Aside0 (wc.heap[gb829]? = some (.cells #[.int .i64 a2_0, .int .i64 a2_1, .int .i64 a2_2] 27 (0, 0))) ∧ Aside0 (wc.heap[gb850]? = some (.cells #[(.slice Ao43 t872.length co43), .int .i64 t849] 32 (0, 0))) ∧ Aside0 (Below w.heap.size w wc))
             case first =>
              have H := HC92.out
              clear HC92
              replace H := Option.bind_eq_some_iff.mp H
              obtain ⟨t893, A1020, H⟩ := H
              replace H : (if t893 = true then (laws_FnExactPitchesAt.j2 kj64 t877 t876 (t892 != t845)) else (laws_FnExactPitchesAt.j2 kj64 t877 t876 true)) = some r := H
              have A102 := zm A1020
              clear A1020
              by_cases c103 : t893 = true
              ·
               subst c103
               have H1 : (laws_FnExactPitchesAt.j2 kj64 t877 t876 (t892 != t845)) = some r := by rw [if_pos rfl] at H; exact H
               clear H
               have H := H1
               clear H1
               have H' := zm H
               clear H
               obtain ⟨Ao104, co104, eo104⟩ := Kd.R_slice HO891.out
               subst eo104
               obtain ⟨Ao105, co105, eo105⟩ := Kd.R_slice HO_10.out
               subst eo105
               go_wp2_with (first | ((with_reducible refine gate_callee (f := 22) rfl ?_); refine goesL_ (some 117) rfl rfl Try.func22 (by kernel_rfl) rfl #[.slice Ao104 t889.length co104, .slice Ao105 t842.length co105] rfl (by (try simp only [List.map_toArray, List.map_cons, List.map_nil]); first | done | rfl | (simp only [List.length_drop, List.length_take]; rfl)) ?_; (with_reducible refine (laws_eqIntS.calls kj64 _ _ t889 _ _ t842 true _ ?side1 ?side2 ?side3 ?side4 A102.out).mono ?_); (case side1 => repeat (first | exact (Kd.R_reads' HO891.out).2.2 | (with_reducible refine Kd.C_alloc ?_ _) | (with_reducible refine Kd.C_drewN ?_ _) | (with_reducible refine Kd.C_drew ?_))); (case side2 => exact (Kd.R_reads' HO891.out).2.1); (case side3 => repeat (first | exact (Kd.R_reads' HO_10.out).2.2 | (with_reducible refine Kd.C_alloc ?_ _) | (with_reducible refine Kd.C_drewN ?_ _) | (with_reducible refine Kd.C_drew ?_))); (case side4 => exact (Kd.R_reads' HO_10.out).2.1); rintro e w' ⟨rfl, ⟨nd, rfl⟩⟩; refine ⟨_, rfl, ?_⟩))
               go_meet
               case rel => exact ⟨_, ((t892 != t845)), (by first | rfl | (simp; done) | (simp [*]; done)), H', ⟨by have := HJ26.out; have := HJ64.out; first | omega | exact Nat.le_refl _⟩, ⟨by (try simp only [hl851000_64]); (with_reducible repeat (first | apply Kd.R_alloc | apply Kd.R_drewN | apply Kd.R_drew)); exact zM HO_14.out⟩, ⟨by (try simp only [hl851000_64]); (with_reducible repeat (first | apply Kd.R_alloc | apply Kd.R_drewN | apply Kd.R_drew)); exact zM HO_851000.out⟩, ⟨by (try simp only [hl851000_64]); (with_reducible repeat (first | refine blk_drewN ?_ _ | refine blk_drew ?_ | refine blk_alloc ?_ _)); exact BK828.out⟩, ⟨by (try simp only [hl851000_64]); (with_reducible repeat (first | refine blk_drewN ?_ _ | refine blk_drew ?_ | refine blk_alloc ?_ _)); exact BK829.out⟩, ⟨by (try simp only [hl851000_64]); (with_reducible repeat (first | refine blk_drewN ?_ _ | refine blk_drew ?_ | refine blk_alloc ?_ _)); exact BK850.out⟩, ⟨zb⟩⟩
              ·
               replace c103 := Bool.eq_false_iff.mpr c103
               subst c103
               have H1 : (laws_FnExactPitchesAt.j2 kj64 t877 t876 true) = some r := by rw [if_neg (show ¬ (false = true) by decide)] at H; exact H
               clear H
               have H := H1
               clear H1
               exact (laws_FnExactPitchesAt.j2_t (H.trans (congrArg some hr_))).elim
             case rest =>
              clear HC92
              try clear c1
              try clear c2
              try clear p2
              try clear c3
              try clear c4
              try clear c5
              try clear c6
              try clear c6b0
              try clear c7
              try clear c8
              try clear c9
              try clear c10
              try clear c11
              try clear c12
              try clear c13
              try clear c13b0
              try clear c14
              try clear c15
              try clear c16
              try clear c18
              try clear c19
              try clear c22
              try clear c23
              try clear c24
              try clear c25
              try clear c26
              try clear c30
              try clear c44
              try clear c45
              try clear c46
              try clear c47
              try clear c53
              try clear c56
              try clear c59
              try clear c62
              try clear c73
              try clear c74
              try clear c78
              try clear c78b0
              try clear c80
              try clear c83
              try clear c86
              try clear c86b0
              try clear c87
              try clear c87b0
              try clear c87b1
              try clear c103
              try clear hcz10_0
              try clear hcz10_1
              try clear hcz17_0
              try clear hcz17_1
              try clear hcz31_0
              try clear hcz31_1
              try clear hcz40_0
              try clear hcz40_1
              try clear hcz46_0
              try clear hcz46_1
              try clear hcz75_0
              try clear hcz75_1
              try clear hfz10_0
              try clear hfz10_1
              try clear hfz17_0
              try clear hfz17_1
              try clear hfz31_0
              try clear hfz31_1
              try clear hfz40_0
              try clear hfz40_1
              try clear hfz46_0
              try clear hfz46_1
              try clear hfz75_0
              try clear hfz75_1
              try clear p2
              obtain ⟨kq, x123_91, rfl, HA, HJ91, HO_14, HO_851000, BK828, BK829, BK850, HB⟩ := hcut
              have hl14_91 := (Kd.R_reads' HO_14.out).1
              rw [hl14_91] at HO_14
              (try simp only [hl14_91])
              (try simp only [hl14_91] at BK828)
              (try simp only [hl14_91] at BK829)
              (try simp only [hl14_91] at BK850)
              (try simp only [hl14_91] at HO_851000)
              cases kq with
              | zero => exact absurd HA.out (by simp [laws_FnExactPitchesAt.j2])
              | succ kj91 =>
               have H := HA.out
               clear HA
               simp only [laws_FnExactPitchesAt.j2] at H
               by_cases c106 : x123_91 = true
               ·
                subst c106
                have H1 : (some false) = some r := by rw [if_pos rfl] at H; exact H
                clear H
                have H := H1
                clear H1
                exact absurd ((Option.some.inj H).trans hr_) (by decide)
               ·
                replace c106 := Bool.eq_false_iff.mpr c106
                subst c106
                have H1 : ((laws_heldIntS.f kj91 t877 1).bind fun t894 => (if t894 < 0 then (some false) else (if t894 = t876 then (some true) else (some false)))) = some r := by rw [if_neg (show ¬ (false = true) by decide)] at H; exact H
                clear H
                have H := H1
                clear H1
                replace H := Option.bind_eq_some_iff.mp H
                obtain ⟨t894, A1070, H⟩ := H
                replace H : (if t894 < 0 then (some false) else (if t894 = t876 then (some true) else (some false))) = some r := H
                have A107 := zm A1070
                clear A1070
                by_cases c108 : t894 < 0
                ·
                 rw [if_pos c108] at H
                 have c108b0 : decide (t894 < 0) = true := decide_eq_true c108
                 clear c108
                 exact absurd ((Option.some.inj H).trans hr_) (by decide)
                ·
                 rw [if_neg c108] at H
                 have c108b0 : decide (t894 < 0) = false := decide_eq_false c108
                 clear c108
                 by_cases c109 : t894 = t876
                 ·
                  rw [if_pos c109] at H
                  have c109b0 : (t894 == t876) = true := beq_iff_eq.mpr c109
                  have c109b1 : (t894 != t876) = false := bne_eq_false_iff_eq.mpr c109
                  clear c109
                  obtain rfl := Option.some.inj H
                  go_wp2_with (first | ((with_reducible refine gate_callee (f := 26) rfl ?_); refine goesL_ (some 126) rfl rfl Try.func26 (by kernel_rfl) rfl #[.slice Ao93 t877.length co93, .int .i64 1] rfl (by (try simp only [List.map_toArray, List.map_cons, List.map_nil]); first | done | rfl | (simp only [List.length_drop, List.length_take]; rfl)) ?_; (with_reducible refine (laws_heldIntS.calls kj91 _ _ t877 1 t894 _ ?side1 ?side2 A107.out).mono ?_); (case side1 => repeat (first | exact (Kd.R_reads' HO_14.out).2.2 | (with_reducible refine Kd.C_alloc ?_ _) | (with_reducible refine Kd.C_drewN ?_ _) | (with_reducible refine Kd.C_drew ?_))); (case side2 => exact (Kd.R_reads' HO_14.out).2.1); rintro e w' ⟨rfl, ⟨nd, rfl⟩⟩; refine ⟨_, rfl, ?_⟩))
                  go_ret
                  exact ⟨zr, zb⟩
                 ·
                  rw [if_neg c109] at H
                  have c109b0 : (t894 == t876) = false := beq_eq_false_iff_ne.mpr c109
                  have c109b1 : (t894 != t876) = true := bne_iff_ne.mpr c109
                  exact absurd ((Option.some.inj H).trans hr_) (by decide)
            ·
             rw [if_neg c87] at H
             have c87b0 : (t878 == t876) = false := beq_eq_false_iff_ne.mpr c87
             have c87b1 : (t878 != t876) = true := bne_iff_ne.mpr c87
             exact absurd ((Option.some.inj H).trans hr_) (by decide)
       ·
        replace c62 := Bool.eq_false_iff.mpr c62
        subst c62
        have H1 : (some false) = some r := by rw [if_neg (show ¬ (false = true) by decide)] at H; exact H
        clear H
        have H := H1
        clear H1
        exact absurd ((Option.some.inj H).trans hr_) (by decide)
      ·
       replace c59 := Bool.eq_false_iff.mpr c59
       subst c59
       have H1 : (some false) = some r := by rw [if_neg (show ¬ (false = true) by decide)] at H; exact H
       clear H
       have H := H1
       clear H1
       exact absurd ((Option.some.inj H).trans hr_) (by decide)

end Go.Proofs.Ytioheacdldgaaaa.PAll
