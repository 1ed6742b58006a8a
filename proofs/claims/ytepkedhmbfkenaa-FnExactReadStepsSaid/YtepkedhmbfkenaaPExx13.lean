-- Written for this claim by a program of this session (wip/tpl/patchprint.py), not by print.sh.
import Derived.Test.YtepkedhmbfkenaaPExx0
import Derived.Test.YtepkedhmbfkenaaPExx1
import Derived.Test.YtepkedhmbfkenaaPExx5
import Derived.Test.YtepkedhmbfkenaaPExx10
import Derived.Test.YtepkedhmbfkenaaPExx12
namespace Go.Proofs.Ytepkedhmbfkenaa.PEx
open Go.RowKit Go.Proofs.YtepkedhmbfkenaaW.PrintWords Go.Proofs.YtepkedhmbfkenaaW.PrintLast Go.Proofs.YtepkedhmbfkenaaW.PrintMore
attribute [local go_sem] max2_int min2_int max_two min_two max_three min_three max_four min_four   -- for this text's walks alone
set_option linter.unusedVariables false
set_option linter.unusedSimpArgs false

/-! ### laws_FnExactReadSteps: function 4 -/
mutual
def laws_FnExactReadSteps.j0 : Nat → Int → Int → Bool → Int → Bool → Bool → List (S139) → Int → List Int → List (S137) → Int → List Int → List (S137) → Int → List Int → List (S137) → Int → List Int → Option (Bool)
  | 0, _, _, _, _, _, _, _, _, _, _, _, _, _, _, _, _, _, _ => none
  | k + 1, x1, x7, x8, x11, x12, x54, x405000, x405001, x405002, x423000, x423001, x423002, x431000, x431001, x431002, x441000, x441001, x441002 => if x54 = true then (some false) else ((laws_toReader.f k x405000 x405001 x405002).bind fun bt442 => ((laws_eqReader.f k x431000 x431001 x431002 bt442.1 bt442.2.1 bt442.2.2).bind fun t449 => (if t449 = true then ((laws_markReader.f k x431000 x431001 x431002 1).bind fun bt450 => (if bt450.1 < 0 then (laws_FnExactReadSteps.j1 k x1 x7 x8 true x405000 x405001 x405002 x423000 x423001 x423002 x441000 x441001 x441002) else ((laws_eqReader.f k x441000 x441001 x441002 x423000 x423001 x423002).bind fun t453 => (if t453 = true then (if x11 = x7 then (laws_FnExactReadSteps.j1 k x1 x7 x8 (x12 != x8) x405000 x405001 x405002 x423000 x423001 x423002 x441000 x441001 x441002) else (laws_FnExactReadSteps.j1 k x1 x7 x8 true x405000 x405001 x405002 x423000 x423001 x423002 x441000 x441001 x441002)) else (laws_FnExactReadSteps.j1 k x1 x7 x8 true x405000 x405001 x405002 x423000 x423001 x423002 x441000 x441001 x441002))))) else (some false))))
def laws_FnExactReadSteps.j1 : Nat → Int → Int → Bool → Bool → List (S139) → Int → List Int → List (S137) → Int → List Int → List (S137) → Int → List Int → Option (Bool)
  | 0, _, _, _, _, _, _, _, _, _, _, _, _, _ => none
  | k + 1, x1, x7, x8, x80, x405000, x405001, x405002, x423000, x423001, x423002, x441000, x441001, x441002 => if x80 = true then (some false) else ((laws_markReader.f k x441000 x441001 x441002 1).bind fun bt454 => ((laws_heldReader.f k bt454.2.1 x441001 bt454.2.2 1).bind fun t457 => (if t457 < 0 then (some false) else (if t457 = bt454.1 then ((laws_toReader.f k x405000 x405001 x405002).bind fun bt458 => ((impl_ReadSteps.f k bt458.1 bt458.2.1 bt458.2.2 x1).bind fun bt465 => ((laws_eqReader.f k bt465.1 bt465.2.1 bt465.2.2.1 x423000 x423001 x423002).bind fun t475 => (if t475 = true then (if bt465.2.2.2.1 = x7 then (laws_FnExactReadSteps.j2 k bt454.1 (bt465.2.2.2.2 != x8) bt454.2.1 x441001 bt454.2.2) else (laws_FnExactReadSteps.j2 k bt454.1 true bt454.2.1 x441001 bt454.2.2)) else (laws_FnExactReadSteps.j2 k bt454.1 true bt454.2.1 x441001 bt454.2.2))))) else (some false)))))
def laws_FnExactReadSteps.j2 : Nat → Int → Bool → List (S137) → Int → List Int → Option (Bool)
  | 0, _, _, _, _, _ => none
  | k + 1, x14, x113, x441000, x441001, x441002 => if x113 = true then (some false) else ((laws_heldReader.f k x441000 x441001 x441002 1).bind fun t476 => (if t476 < 0 then (some false) else (if t476 = x14 then (some true) else (some false))))
end
def laws_FnExactReadSteps.f (k : Nat) (l0_0 : List (S139)) (a0_1 : Int) (l0_2 : List Int) (a1 : Int) : Option (Bool) := (laws_szReader.f l0_0 a0_1 l0_2 1048576).bind fun t405 => (if t405 < 0 then (some true) else ((laws_toReader.f k l0_0 a0_1 l0_2).bind fun bt406 => ((spec_ReadSteps.f k bt406.1 bt406.2.1 bt406.2.2 a1).bind fun bt413 => ((laws_toReader.f k l0_0 a0_1 l0_2).bind fun bt423 => ((impl_ReadSteps.f k bt423.1 bt423.2.1 bt423.2.2 a1).bind fun bt431 => ((laws_eqReader.f k bt431.1 bt431.2.1 bt431.2.2.1 bt413.1 bt413.2.1 bt413.2.2.1).bind fun t441 => (if t441 = true then (if bt431.2.2.2.1 = bt413.2.2.2.1 then (laws_FnExactReadSteps.j0 k a1 bt413.2.2.2.1 bt413.2.2.2.2 bt431.2.2.2.1 bt431.2.2.2.2 (bt431.2.2.2.2 != bt413.2.2.2.2) l0_0 a0_1 l0_2 bt413.1 bt413.2.1 bt413.2.2.1 bt423.1 bt423.2.1 bt423.2.2 bt431.1 bt431.2.1 bt431.2.2.1) else (laws_FnExactReadSteps.j0 k a1 bt413.2.2.2.1 bt413.2.2.2.2 bt431.2.2.2.1 bt431.2.2.2.2 true l0_0 a0_1 l0_2 bt413.1 bt413.2.1 bt413.2.2.1 bt423.1 bt423.2.1 bt423.2.2 bt431.1 bt431.2.1 bt431.2.2.1)) else (laws_FnExactReadSteps.j0 k a1 bt413.2.2.2.1 bt413.2.2.2.2 bt431.2.2.2.1 bt431.2.2.2.2 true l0_0 a0_1 l0_2 bt413.1 bt413.2.1 bt413.2.2.1 bt423.1 bt423.2.1 bt423.2.2 bt431.1 bt431.2.1 bt431.2.2.1))))))))
theorem laws_FnExactReadSteps.mono_l : ∀ k, (∀ y0 y1 y2 y3 y4 y5 y6 y7 y8 y9 y10 y11 y12 y13 y14 y15 y16 y17, LeO (laws_FnExactReadSteps.j0 k y0 y1 y2 y3 y4 y5 y6 y7 y8 y9 y10 y11 y12 y13 y14 y15 y16 y17) (laws_FnExactReadSteps.j0 (k + 1) y0 y1 y2 y3 y4 y5 y6 y7 y8 y9 y10 y11 y12 y13 y14 y15 y16 y17)) ∧ (∀ y0 y1 y2 y3 y4 y5 y6 y7 y8 y9 y10 y11 y12, LeO (laws_FnExactReadSteps.j1 k y0 y1 y2 y3 y4 y5 y6 y7 y8 y9 y10 y11 y12) (laws_FnExactReadSteps.j1 (k + 1) y0 y1 y2 y3 y4 y5 y6 y7 y8 y9 y10 y11 y12)) ∧ (∀ y0 y1 y2 y3 y4, LeO (laws_FnExactReadSteps.j2 k y0 y1 y2 y3 y4) (laws_FnExactReadSteps.j2 (k + 1) y0 y1 y2 y3 y4))
  | 0 => ⟨fun _ _ _ _ _ _ _ _ _ _ _ _ _ _ _ _ _ _ r h => by simp [laws_FnExactReadSteps.j0] at h, fun _ _ _ _ _ _ _ _ _ _ _ _ _ r h => by simp [laws_FnExactReadSteps.j1] at h, fun _ _ _ _ _ r h => by simp [laws_FnExactReadSteps.j2] at h⟩
  | k + 1 => by
    obtain ⟨ih0, ih1, ih2⟩ := laws_FnExactReadSteps.mono_l k
    refine ⟨?_, ?_, ?_⟩
    · intro y0 y1 y2 y3 y4 y5 y6 y7 y8 y9 y10 y11 y12 y13 y14 y15 y16 y17
      unfold laws_FnExactReadSteps.j0
      repeat' first
      | (with_reducible exact ih0 _ _ _ _ _ _ _ _ _ _ _ _ _ _ _ _ _ _)
      | (with_reducible exact ih1 _ _ _ _ _ _ _ _ _ _ _ _ _)
      | (with_reducible exact ih2 _ _ _ _ _)
      | (with_reducible exact impl_ReadSteps.mono _ _ _ _ _)
      | (with_reducible exact laws_eqReader.mono _ _ _ _ _ _ _)
      | (with_reducible exact laws_heldReader.mono _ _ _ _ _)
      | (with_reducible exact laws_markReader.mono _ _ _ _ _)
      | (with_reducible exact laws_toReader.mono _ _ _ _)
      | (with_reducible exact spec_ReadSteps.mono _ _ _ _ _)
      | (with_reducible exact LeO.refl _)
      | (with_reducible exact LeO.none _)
      | (with_reducible refine LeO.ite ?_ ?_)
      | (with_reducible refine LeO.bind ?_ (fun _ => ?_))
      | exact ih0 _ _ _ _ _ _ _ _ _ _ _ _ _ _ _ _ _ _
      | exact ih1 _ _ _ _ _ _ _ _ _ _ _ _ _
      | exact ih2 _ _ _ _ _
      | exact impl_ReadSteps.mono _ _ _ _ _
      | exact laws_eqReader.mono _ _ _ _ _ _ _
      | exact laws_heldReader.mono _ _ _ _ _
      | exact laws_markReader.mono _ _ _ _ _
      | exact laws_toReader.mono _ _ _ _
      | exact spec_ReadSteps.mono _ _ _ _ _
      | exact LeO.none _
      | refine LeO.ite ?_ ?_
      | refine LeO.bind ?_ (fun _ => ?_)
    · intro y0 y1 y2 y3 y4 y5 y6 y7 y8 y9 y10 y11 y12
      unfold laws_FnExactReadSteps.j1
      repeat' first
      | (with_reducible exact ih0 _ _ _ _ _ _ _ _ _ _ _ _ _ _ _ _ _ _)
      | (with_reducible exact ih1 _ _ _ _ _ _ _ _ _ _ _ _ _)
      | (with_reducible exact ih2 _ _ _ _ _)
      | (with_reducible exact impl_ReadSteps.mono _ _ _ _ _)
      | (with_reducible exact laws_eqReader.mono _ _ _ _ _ _ _)
      | (with_reducible exact laws_heldReader.mono _ _ _ _ _)
      | (with_reducible exact laws_markReader.mono _ _ _ _ _)
      | (with_reducible exact laws_toReader.mono _ _ _ _)
      | (with_reducible exact spec_ReadSteps.mono _ _ _ _ _)
      | (with_reducible exact LeO.refl _)
      | (with_reducible exact LeO.none _)
      | (with_reducible refine LeO.ite ?_ ?_)
      | (with_reducible refine LeO.bind ?_ (fun _ => ?_))
      | exact ih0 _ _ _ _ _ _ _ _ _ _ _ _ _ _ _ _ _ _
      | exact ih1 _ _ _ _ _ _ _ _ _ _ _ _ _
      | exact ih2 _ _ _ _ _
      | exact impl_ReadSteps.mono _ _ _ _ _
      | exact laws_eqReader.mono _ _ _ _ _ _ _
      | exact laws_heldReader.mono _ _ _ _ _
      | exact laws_markReader.mono _ _ _ _ _
      | exact laws_toReader.mono _ _ _ _
      | exact spec_ReadSteps.mono _ _ _ _ _
      | exact LeO.none _
      | refine LeO.ite ?_ ?_
      | refine LeO.bind ?_ (fun _ => ?_)
    · intro y0 y1 y2 y3 y4
      unfold laws_FnExactReadSteps.j2
      repeat' first
      | (with_reducible exact ih0 _ _ _ _ _ _ _ _ _ _ _ _ _ _ _ _ _ _)
      | (with_reducible exact ih1 _ _ _ _ _ _ _ _ _ _ _ _ _)
      | (with_reducible exact ih2 _ _ _ _ _)
      | (with_reducible exact impl_ReadSteps.mono _ _ _ _ _)
      | (with_reducible exact laws_eqReader.mono _ _ _ _ _ _ _)
      | (with_reducible exact laws_heldReader.mono _ _ _ _ _)
      | (with_reducible exact laws_markReader.mono _ _ _ _ _)
      | (with_reducible exact laws_toReader.mono _ _ _ _)
      | (with_reducible exact spec_ReadSteps.mono _ _ _ _ _)
      | (with_reducible exact LeO.refl _)
      | (with_reducible exact LeO.none _)
      | (with_reducible refine LeO.ite ?_ ?_)
      | (with_reducible refine LeO.bind ?_ (fun _ => ?_))
      | exact ih0 _ _ _ _ _ _ _ _ _ _ _ _ _ _ _ _ _ _
      | exact ih1 _ _ _ _ _ _ _ _ _ _ _ _ _
      | exact ih2 _ _ _ _ _
      | exact impl_ReadSteps.mono _ _ _ _ _
      | exact laws_eqReader.mono _ _ _ _ _ _ _
      | exact laws_heldReader.mono _ _ _ _ _
      | exact laws_markReader.mono _ _ _ _ _
      | exact laws_toReader.mono _ _ _ _
      | exact spec_ReadSteps.mono _ _ _ _ _
      | exact LeO.none _
      | refine LeO.ite ?_ ?_
      | refine LeO.bind ?_ (fun _ => ?_)
theorem laws_FnExactReadSteps.mono : ∀ a0 a1 a2 a3 k, LeO (laws_FnExactReadSteps.f k a0 a1 a2 a3) (laws_FnExactReadSteps.f (k + 1) a0 a1 a2 a3) := by
  intro a0 a1 a2 a3 k
  obtain ⟨ih0, ih1, ih2⟩ := laws_FnExactReadSteps.mono_l k
  unfold laws_FnExactReadSteps.f
  repeat' first
      | (with_reducible exact ih0 _ _ _ _ _ _ _ _ _ _ _ _ _ _ _ _ _ _)
      | (with_reducible exact ih1 _ _ _ _ _ _ _ _ _ _ _ _ _)
      | (with_reducible exact ih2 _ _ _ _ _)
      | (with_reducible exact impl_ReadSteps.mono _ _ _ _ _)
      | (with_reducible exact laws_eqReader.mono _ _ _ _ _ _ _)
      | (with_reducible exact laws_heldReader.mono _ _ _ _ _)
      | (with_reducible exact laws_markReader.mono _ _ _ _ _)
      | (with_reducible exact laws_toReader.mono _ _ _ _)
      | (with_reducible exact spec_ReadSteps.mono _ _ _ _ _)
      | (with_reducible exact LeO.refl _)
      | (with_reducible exact LeO.none _)
      | (with_reducible refine LeO.ite ?_ ?_)
      | (with_reducible refine LeO.bind ?_ (fun _ => ?_))
      | exact ih0 _ _ _ _ _ _ _ _ _ _ _ _ _ _ _ _ _ _
      | exact ih1 _ _ _ _ _ _ _ _ _ _ _ _ _
      | exact ih2 _ _ _ _ _
      | exact impl_ReadSteps.mono _ _ _ _ _
      | exact laws_eqReader.mono _ _ _ _ _ _ _
      | exact laws_heldReader.mono _ _ _ _ _
      | exact laws_markReader.mono _ _ _ _ _
      | exact laws_toReader.mono _ _ _ _
      | exact spec_ReadSteps.mono _ _ _ _ _
      | exact LeO.none _
      | refine LeO.ite ?_ ?_
      | refine LeO.bind ?_ (fun _ => ?_)
theorem laws_FnExactReadSteps.j0_t {k : Nat} : ∀ {a0_ a1_ a2_ a3_ a4_ a6_ a7_ a8_ a9_ a10_ a11_ a12_ a13_ a14_ a15_ a16_ a17_}, laws_FnExactReadSteps.j0 k a0_ a1_ a2_ a3_ a4_ true a6_ a7_ a8_ a9_ a10_ a11_ a12_ a13_ a14_ a15_ a16_ a17_ = some true → False := by
  intros; rename_i h; revert h; cases k <;> simp [laws_FnExactReadSteps.j0]
theorem laws_FnExactReadSteps.j1_t {k : Nat} : ∀ {a0_ a1_ a2_ a4_ a5_ a6_ a7_ a8_ a9_ a10_ a11_ a12_}, laws_FnExactReadSteps.j1 k a0_ a1_ a2_ true a4_ a5_ a6_ a7_ a8_ a9_ a10_ a11_ a12_ = some true → False := by
  intros; rename_i h; revert h; cases k <;> simp [laws_FnExactReadSteps.j1]
theorem laws_FnExactReadSteps.j2_t {k : Nat} : ∀ {a0_ a2_ a3_ a4_}, laws_FnExactReadSteps.j2 k a0_ true a2_ a3_ a4_ = some true → False := by
  intros; rename_i h; revert h; cases k <;> simp [laws_FnExactReadSteps.j2]
set_option maxHeartbeats 8000000 in
set_option maxRecDepth 100000 in
theorem laws_FnExactReadSteps.calls (k : Nat) (A0_0 : Option Addr) (c0_0 : Nat) (l0_0 : List (S139)) (a0_1 : Int) (A0_2 : Option Addr) (c0_2 : Nat) (l0_2 : List Int) (a1 : Int) (r : Bool) (w : World) (hr0_0 : Kd.C k139 w A0_0 l0_0.length l0_0) (hc0_0 : l0_0.length ≤ c0_0) (hr0_2 : Kd.C (Kd.int .i64) w A0_2 l0_2.length l0_2) (hc0_2 : l0_2.length ≤ c0_2) (h : laws_FnExactReadSteps.f k l0_0 a0_1 l0_2 a1 = some r) (hr_ : r = true) :
  Calls Try.prog 4 #[.agg #[.slice A0_0 l0_0.length c0_0, .int .i64 a0_1, .slice A0_2 l0_2.length c0_2], .int .i64 a1] w fun e w' => e = .returned (.bool r) ∧ Below w.heap.size w w' := by
 have hu25 := Try.underlying25
 have hu29 := Try.underlying29
 have HR0_0 := zm hr0_0
 have HC0_0 := zm hc0_0
 clear hr0_0 hc0_0
 have HR0_2 := zm hr0_2
 have HC0_2 := zm hc0_2
 clear hr0_2 hc0_2
 have HB := zm (Below.refl w.heap.size w)
 have H : ((laws_szReader.f l0_0 a0_1 l0_2 1048576).bind fun t405 => (if t405 < 0 then (some true) else ((laws_toReader.f k l0_0 a0_1 l0_2).bind fun bt406 => ((spec_ReadSteps.f k bt406.1 bt406.2.1 bt406.2.2 a1).bind fun bt413 => ((laws_toReader.f k l0_0 a0_1 l0_2).bind fun bt423 => ((impl_ReadSteps.f k bt423.1 bt423.2.1 bt423.2.2 a1).bind fun bt431 => ((laws_eqReader.f k bt431.1 bt431.2.1 bt431.2.2.1 bt413.1 bt413.2.1 bt413.2.2.1).bind fun t441 => (if t441 = true then (if bt431.2.2.2.1 = bt413.2.2.2.1 then (laws_FnExactReadSteps.j0 k a1 bt413.2.2.2.1 bt413.2.2.2.2 bt431.2.2.2.1 bt431.2.2.2.2 (bt431.2.2.2.2 != bt413.2.2.2.2) l0_0 a0_1 l0_2 bt413.1 bt413.2.1 bt413.2.2.1 bt423.1 bt423.2.1 bt423.2.2 bt431.1 bt431.2.1 bt431.2.2.1) else (laws_FnExactReadSteps.j0 k a1 bt413.2.2.2.1 bt413.2.2.2.2 bt431.2.2.2.1 bt431.2.2.2.2 true l0_0 a0_1 l0_2 bt413.1 bt413.2.1 bt413.2.2.1 bt423.1 bt423.2.1 bt423.2.2 bt431.1 bt431.2.1 bt431.2.2.1)) else (laws_FnExactReadSteps.j0 k a1 bt413.2.2.2.1 bt413.2.2.2.2 bt431.2.2.2.1 bt431.2.2.2.2 true l0_0 a0_1 l0_2 bt413.1 bt413.2.1 bt413.2.2.1 bt423.1 bt423.2.1 bt423.2.2 bt431.1 bt431.2.1 bt431.2.2.1))))))))) = some r := h
 clear h
 replace H := Option.bind_eq_some_iff.mp H
 obtain ⟨t405, A30, H⟩ := H
 replace H : (if t405 < 0 then (some true) else ((laws_toReader.f k l0_0 a0_1 l0_2).bind fun bt406 => ((spec_ReadSteps.f k bt406.1 bt406.2.1 bt406.2.2 a1).bind fun bt413 => ((laws_toReader.f k l0_0 a0_1 l0_2).bind fun bt423 => ((impl_ReadSteps.f k bt423.1 bt423.2.1 bt423.2.2 a1).bind fun bt431 => ((laws_eqReader.f k bt431.1 bt431.2.1 bt431.2.2.1 bt413.1 bt413.2.1 bt413.2.2.1).bind fun t441 => (if t441 = true then (if bt431.2.2.2.1 = bt413.2.2.2.1 then (laws_FnExactReadSteps.j0 k a1 bt413.2.2.2.1 bt413.2.2.2.2 bt431.2.2.2.1 bt431.2.2.2.2 (bt431.2.2.2.2 != bt413.2.2.2.2) l0_0 a0_1 l0_2 bt413.1 bt413.2.1 bt413.2.2.1 bt423.1 bt423.2.1 bt423.2.2 bt431.1 bt431.2.1 bt431.2.2.1) else (laws_FnExactReadSteps.j0 k a1 bt413.2.2.2.1 bt413.2.2.2.2 bt431.2.2.2.1 bt431.2.2.2.2 true l0_0 a0_1 l0_2 bt413.1 bt413.2.1 bt413.2.2.1 bt423.1 bt423.2.1 bt423.2.2 bt431.1 bt431.2.1 bt431.2.2.1)) else (laws_FnExactReadSteps.j0 k a1 bt413.2.2.2.1 bt413.2.2.2.2 bt431.2.2.2.1 bt431.2.2.2.2 true l0_0 a0_1 l0_2 bt413.1 bt413.2.1 bt413.2.2.1 bt423.1 bt423.2.1 bt423.2.2 bt431.1 bt431.2.1 bt431.2.2.1)))))))) = some r := H
 have A3 := zm A30
 clear A30
 by_cases c4 : t405 < 0
 ·
  rw [if_pos c4] at H
  have c4b0 : decide (t405 < 0) = true := decide_eq_true c4
  clear c4
  obtain rfl := Option.some.inj H
  go_enter Try.func4, Try.ntmps4
  go_wp2_with (first | ((with_reducible refine gate_dst (N := 2) rfl ?_); refine box_event ?hg (N := 2) ?hd (cs := #[.slice A0_0 l0_0.length c0_0, .int .i64 a0_1, .slice A0_2 l0_2.length c0_2]) (t := 25) ?hr ?_; (case hd => rfl); (case hg => rfl); (case hr => first | (go_simp; done) | (go_simp; rfl)); intro gb404 hg w5 hbox hb; have n0_ := zm (below_step zb hb); have n1_ := zm (hbox); have n2_ := zm (zs hg zb : w.heap.size ≤ gb404); have n3_ := zm (zs hg zb : w.heap.size ≤ gb404); clear HB; have HB := n0_; have BK404 := n1_; have GW404 := n2_; have GE404 := n3_; clear n0_ n1_ n2_ n3_; clear hb hbox hg; obtain ⟨hcz6_0, hcz6_1, hcz6_2, hfz6_0, hfz6_1, hfz6_2⟩ := zc3 BK404.out) | ((with_reducible refine gate_callee (f := 12) rfl ?_); refine goesL_ (some 21) rfl rfl Try.func12 (by kernel_rfl) rfl #[.agg #[.slice A0_0 l0_0.length c0_0, .int .i64 a0_1, .slice A0_2 l0_2.length c0_2], .int .i64 1048576] rfl (by (try simp only [List.map_toArray, List.map_cons, List.map_nil]); first | done | rfl | (simp only [List.length_drop, List.length_take]; rfl)) ?_; (with_reducible refine (laws_szReader.calls _ _ l0_0 a0_1 _ _ l0_2 1048576 t405 _ ?side1 ?side2 ?side3 ?side4 A3.out).mono ?_); (case side1 => repeat (first | exact (Kd.C_below HR0_0.out HB.out) | (with_reducible refine Kd.C_alloc ?_ _) | (with_reducible refine Kd.C_drewN ?_ _) | (with_reducible refine Kd.C_drew ?_))); (case side2 => exact HC0_0.out); (case side3 => repeat (first | exact (Kd.C_below HR0_2.out HB.out) | (with_reducible refine Kd.C_alloc ?_ _) | (with_reducible refine Kd.C_drewN ?_ _) | (with_reducible refine Kd.C_drew ?_))); (case side4 => exact HC0_2.out); rintro e w7 ⟨rfl, hb⟩; refine ⟨_, rfl, ?_⟩; have n0_ := zm (blk_below (g := gb404) zk hb); have n1_ := zm (below_step zb hb); clear BK404; clear HB; have BK404 := n0_; have HB := n1_; clear n0_ n1_; (try clear hb); (try clear hb2); (try clear hk); (try clear hi)))
  go_ret
  exact ⟨zr, zb⟩
 ·
  rw [if_neg c4] at H
  have c4b0 : decide (t405 < 0) = false := decide_eq_false c4
  clear c4
  replace H := Option.bind_eq_some_iff.mp H
  obtain ⟨⟨t406, t409, t410⟩, A80, H⟩ := H
  replace H : ((spec_ReadSteps.f k t406 t409 t410 a1).bind fun bt413 => ((laws_toReader.f k l0_0 a0_1 l0_2).bind fun bt423 => ((impl_ReadSteps.f k bt423.1 bt423.2.1 bt423.2.2 a1).bind fun bt431 => ((laws_eqReader.f k bt431.1 bt431.2.1 bt431.2.2.1 bt413.1 bt413.2.1 bt413.2.2.1).bind fun t441 => (if t441 = true then (if bt431.2.2.2.1 = bt413.2.2.2.1 then (laws_FnExactReadSteps.j0 k a1 bt413.2.2.2.1 bt413.2.2.2.2 bt431.2.2.2.1 bt431.2.2.2.2 (bt431.2.2.2.2 != bt413.2.2.2.2) l0_0 a0_1 l0_2 bt413.1 bt413.2.1 bt413.2.2.1 bt423.1 bt423.2.1 bt423.2.2 bt431.1 bt431.2.1 bt431.2.2.1) else (laws_FnExactReadSteps.j0 k a1 bt413.2.2.2.1 bt413.2.2.2.2 bt431.2.2.2.1 bt431.2.2.2.2 true l0_0 a0_1 l0_2 bt413.1 bt413.2.1 bt413.2.2.1 bt423.1 bt423.2.1 bt423.2.2 bt431.1 bt431.2.1 bt431.2.2.1)) else (laws_FnExactReadSteps.j0 k a1 bt413.2.2.2.1 bt413.2.2.2.2 bt431.2.2.2.1 bt431.2.2.2.2 true l0_0 a0_1 l0_2 bt413.1 bt413.2.1 bt413.2.2.1 bt423.1 bt423.2.1 bt423.2.2 bt431.1 bt431.2.1 bt431.2.2.1)))))) = some r := H
  have A8 := zm A80
  clear A80
  replace H := Option.bind_eq_some_iff.mp H
  obtain ⟨⟨t413, t416, t417, t420, t421⟩, A90, H⟩ := H
  replace H : ((laws_toReader.f k l0_0 a0_1 l0_2).bind fun bt423 => ((impl_ReadSteps.f k bt423.1 bt423.2.1 bt423.2.2 a1).bind fun bt431 => ((laws_eqReader.f k bt431.1 bt431.2.1 bt431.2.2.1 t413 t416 t417).bind fun t441 => (if t441 = true then (if bt431.2.2.2.1 = t420 then (laws_FnExactReadSteps.j0 k a1 t420 t421 bt431.2.2.2.1 bt431.2.2.2.2 (bt431.2.2.2.2 != t421) l0_0 a0_1 l0_2 t413 t416 t417 bt423.1 bt423.2.1 bt423.2.2 bt431.1 bt431.2.1 bt431.2.2.1) else (laws_FnExactReadSteps.j0 k a1 t420 t421 bt431.2.2.2.1 bt431.2.2.2.2 true l0_0 a0_1 l0_2 t413 t416 t417 bt423.1 bt423.2.1 bt423.2.2 bt431.1 bt431.2.1 bt431.2.2.1)) else (laws_FnExactReadSteps.j0 k a1 t420 t421 bt431.2.2.2.1 bt431.2.2.2.2 true l0_0 a0_1 l0_2 t413 t416 t417 bt423.1 bt423.2.1 bt423.2.2 bt431.1 bt431.2.1 bt431.2.2.1))))) = some r := H
  have A9 := zm A90
  clear A90
  replace H := Option.bind_eq_some_iff.mp H
  obtain ⟨⟨t423, t426, t427⟩, A100, H⟩ := H
  replace H : ((impl_ReadSteps.f k t423 t426 t427 a1).bind fun bt431 => ((laws_eqReader.f k bt431.1 bt431.2.1 bt431.2.2.1 t413 t416 t417).bind fun t441 => (if t441 = true then (if bt431.2.2.2.1 = t420 then (laws_FnExactReadSteps.j0 k a1 t420 t421 bt431.2.2.2.1 bt431.2.2.2.2 (bt431.2.2.2.2 != t421) l0_0 a0_1 l0_2 t413 t416 t417 t423 t426 t427 bt431.1 bt431.2.1 bt431.2.2.1) else (laws_FnExactReadSteps.j0 k a1 t420 t421 bt431.2.2.2.1 bt431.2.2.2.2 true l0_0 a0_1 l0_2 t413 t416 t417 t423 t426 t427 bt431.1 bt431.2.1 bt431.2.2.1)) else (laws_FnExactReadSteps.j0 k a1 t420 t421 bt431.2.2.2.1 bt431.2.2.2.2 true l0_0 a0_1 l0_2 t413 t416 t417 t423 t426 t427 bt431.1 bt431.2.1 bt431.2.2.1)))) = some r := H
  have A10 := zm A100
  clear A100
  replace H := Option.bind_eq_some_iff.mp H
  obtain ⟨⟨t431, t434, t435, t438, t439⟩, A110, H⟩ := H
  replace H : ((laws_eqReader.f k t431 t434 t435 t413 t416 t417).bind fun t441 => (if t441 = true then (if t438 = t420 then (laws_FnExactReadSteps.j0 k a1 t420 t421 t438 t439 (t439 != t421) l0_0 a0_1 l0_2 t413 t416 t417 t423 t426 t427 t431 t434 t435) else (laws_FnExactReadSteps.j0 k a1 t420 t421 t438 t439 true l0_0 a0_1 l0_2 t413 t416 t417 t423 t426 t427 t431 t434 t435)) else (laws_FnExactReadSteps.j0 k a1 t420 t421 t438 t439 true l0_0 a0_1 l0_2 t413 t416 t417 t423 t426 t427 t431 t434 t435))) = some r := H
  have A11 := zm A110
  clear A110
  have HC12 := zm H
  clear H
  go_enter Try.func4, Try.ntmps4
  go_upto_region 8 with (first | ((with_reducible refine gate_dst (N := 2) rfl ?_); refine box_event ?hg (N := 2) ?hd (cs := #[.slice A0_0 l0_0.length c0_0, .int .i64 a0_1, .slice A0_2 l0_2.length c0_2]) (t := 25) ?hr ?_; (case hd => rfl); (case hg => rfl); (case hr => first | (go_simp; done) | (go_simp; rfl)); intro gb404 hg w13 hbox hb; have n0_ := zm (below_step zb hb); have n1_ := zm (hbox); have n2_ := zm (zs hg zb : w.heap.size ≤ gb404); have n3_ := zm (zs hg zb : w.heap.size ≤ gb404); clear HB; have HB := n0_; have BK404 := n1_; have GW404 := n2_; have GE404 := n3_; clear n0_ n1_ n2_ n3_; clear hb hbox hg; obtain ⟨hcz14_0, hcz14_1, hcz14_2, hfz14_0, hfz14_1, hfz14_2⟩ := zc3 BK404.out) | ((with_reducible refine gate_callee (f := 12) rfl ?_); refine goesL_ (some 21) rfl rfl Try.func12 (by kernel_rfl) rfl #[.agg #[.slice A0_0 l0_0.length c0_0, .int .i64 a0_1, .slice A0_2 l0_2.length c0_2], .int .i64 1048576] rfl (by (try simp only [List.map_toArray, List.map_cons, List.map_nil]); first | done | rfl | (simp only [List.length_drop, List.length_take]; rfl)) ?_; (with_reducible refine (laws_szReader.calls _ _ l0_0 a0_1 _ _ l0_2 1048576 t405 _ ?side1 ?side2 ?side3 ?side4 A3.out).mono ?_); (case side1 => repeat (first | exact (Kd.C_below HR0_0.out HB.out) | (with_reducible refine Kd.C_alloc ?_ _) | (with_reducible refine Kd.C_drewN ?_ _) | (with_reducible refine Kd.C_drew ?_))); (case side2 => exact HC0_0.out); (case side3 => repeat (first | exact (Kd.C_below HR0_2.out HB.out) | (with_reducible refine Kd.C_alloc ?_ _) | (with_reducible refine Kd.C_drewN ?_ _) | (with_reducible refine Kd.C_drew ?_))); (case side4 => exact HC0_2.out); rintro e w15 ⟨rfl, hb⟩; refine ⟨_, rfl, ?_⟩; have n0_ := zm (blk_below (g := gb404) zk hb); have n1_ := zm (below_step zb hb); clear BK404; clear HB; have BK404 := n0_; have HB := n1_; clear n0_ n1_; (try clear hb); (try clear hb2); (try clear hk); (try clear hi); obtain ⟨hcz16_0, hcz16_1, hcz16_2, hfz16_0, hfz16_1, hfz16_2⟩ := zc3 BK404.out) | ((with_reducible refine gate_callee (f := 14) rfl ?_); refine goesL_ (some 26) rfl rfl Try.func14 (by kernel_rfl) rfl #[.agg #[.slice A0_0 l0_0.length c0_0, .int .i64 a0_1, .slice A0_2 l0_2.length c0_2]] rfl (by (try simp only [List.map_toArray, List.map_cons, List.map_nil]); first | done | rfl | (simp only [List.length_drop, List.length_take]; rfl)) ?_; (with_reducible refine (laws_toReader.calls k _ _ l0_0 a0_1 _ _ l0_2 t406 t409 t410 _ ?side1 ?side2 ?side3 ?side4 A8.out).mono ?_); (case side1 => repeat (first | exact (Kd.C_below HR0_0.out HB.out) | (with_reducible refine Kd.C_alloc ?_ _) | (with_reducible refine Kd.C_drewN ?_ _) | (with_reducible refine Kd.C_drew ?_))); (case side2 => exact HC0_0.out); (case side3 => repeat (first | exact (Kd.C_below HR0_2.out HB.out) | (with_reducible refine Kd.C_alloc ?_ _) | (with_reducible refine Kd.C_drewN ?_ _) | (with_reducible refine Kd.C_drew ?_))); (case side4 => exact HC0_2.out); rintro e w17 ⟨v407, v411, rfl, ho0, ho1, hb⟩; refine ⟨_, rfl, ?_⟩; have n0_ := zm (Kd.R_lower ho0 (below_size zb)); have n1_ := zm (Kd.R_lower ho1 (below_size zb)); have n2_ := zm (blk_below (g := gb404) zk hb); have n3_ := zm (below_step zb hb); clear BK404; clear HB; have HO408 := n0_; have HO412 := n1_; have BK404 := n2_; have HB := n3_; clear n0_ n1_ n2_ n3_; (try clear hb); (try clear hb2); (try clear hk); (try clear hi); (try clear ho0); (try clear ho1); obtain ⟨Ao18, co18, eo18⟩ := Kd.R_slice HO408.out; subst eo18; obtain ⟨Ao19, co19, eo19⟩ := Kd.R_slice HO412.out; subst eo19) | ((with_reducible refine gate_callee (f := 19) rfl ?_); refine goesL_ (some 28) rfl rfl Try.func19 (by kernel_rfl) rfl #[.agg #[.slice Ao18 t406.length co18, .int .i64 t409, .slice Ao19 t410.length co19], .int .i64 a1] rfl (by (try simp only [List.map_toArray, List.map_cons, List.map_nil]); first | done | rfl | (simp only [List.length_drop, List.length_take]; rfl)) ?_; (with_reducible refine (spec_ReadSteps.calls k _ _ t406 t409 _ _ t410 a1 t413 t416 t417 t420 t421 _ ?side1 ?side2 ?side3 ?side4 A9.out).mono ?_); (case side1 => repeat (first | exact (Kd.R_reads' HO408.out).2.2 | (with_reducible refine Kd.C_alloc ?_ _) | (with_reducible refine Kd.C_drewN ?_ _) | (with_reducible refine Kd.C_drew ?_))); (case side2 => exact (Kd.R_reads' HO408.out).2.1); (case side3 => repeat (first | exact (Kd.R_reads' HO412.out).2.2 | (with_reducible refine Kd.C_alloc ?_ _) | (with_reducible refine Kd.C_drewN ?_ _) | (with_reducible refine Kd.C_drew ?_))); (case side4 => exact (Kd.R_reads' HO412.out).2.1); rintro e w20 ⟨v414, v418, rfl, ho0, ho1, hb⟩; refine ⟨_, rfl, ?_⟩; have n0_ := zm (Kd.R_elder' (by (with_reducible repeat (first | apply Kd.R_alloc | apply Kd.R_drewN | apply Kd.R_drew)); exact HO408.out) (Kd.R_base ho0) hb); have n1_ := zm (Kd.R_elder' (by (with_reducible repeat (first | apply Kd.R_alloc | apply Kd.R_drewN | apply Kd.R_drew)); exact HO412.out) (Kd.R_base ho1) hb); have n2_ := zm (Kd.R_lower (Kd.R_new' ho0 (Kd.R_lt (by (with_reducible repeat (first | apply Kd.R_alloc | apply Kd.R_drewN | apply Kd.R_drew)); exact HO408.out))) (below_size zb)); have n3_ := zm (Kd.R_lower (Kd.R_new' ho1 (Kd.R_lt (by (with_reducible repeat (first | apply Kd.R_alloc | apply Kd.R_drewN | apply Kd.R_drew)); exact HO412.out))) (below_size zb)); have n4_ := zm (blk_below (g := gb404) zk hb); have n5_ := zm (below_step zb hb); clear HO408; clear HO412; clear BK404; clear HB; have HO408 := n0_; have HO412 := n1_; have HO415 := n2_; have HO419 := n3_; have BK404 := n4_; have HB := n5_; clear n0_ n1_ n2_ n3_ n4_ n5_; (try clear hb); (try clear hb2); (try clear hk); (try clear hi); (try clear ho0); (try clear ho1)) | ((with_reducible refine gate_dst (N := 6) rfl ?_); refine box_event ?hg (N := 6) ?hd (cs := #[.slice none 0 0, .int .i64 0, .slice none 0 0]) (t := 29) ?hr ?_; (case hd => rfl); (case hg => rfl); (case hr => first | (go_simp; done) | (go_simp; rfl)); intro gb422 hg w21 hbox hb; have n0_ := zm (Kd.R_below (by (with_reducible repeat (first | apply Kd.R_alloc | apply Kd.R_drewN | apply Kd.R_drew)); exact HO408.out) hb); have n1_ := zm (Kd.R_below (by (with_reducible repeat (first | apply Kd.R_alloc | apply Kd.R_drewN | apply Kd.R_drew)); exact HO412.out) hb); have n2_ := zm (Kd.R_below (by (with_reducible repeat (first | apply Kd.R_alloc | apply Kd.R_drewN | apply Kd.R_drew)); exact HO415.out) hb); have n3_ := zm (Kd.R_below (by (with_reducible repeat (first | apply Kd.R_alloc | apply Kd.R_drewN | apply Kd.R_drew)); exact HO419.out) hb); have n4_ := zm (blk_below (g := gb404) zk hb); have n5_ := zm (below_step zb hb); have n6_ := zm (hbox); have n7_ := zm (zs hg zb : w.heap.size ≤ gb422); have n8_ := zm (zs hg zb : w.heap.size ≤ gb422); have n9_ := zm (zl hg zk : gb404 ≠ gb422); have n10_ := zm (zg hg zk : gb422 ≠ gb404); clear HO408; clear HO412; clear HO415; clear HO419; clear BK404; clear HB; have HO408 := n0_; have HO412 := n1_; have HO415 := n2_; have HO419 := n3_; have BK404 := n4_; have HB := n5_; have BK422 := n6_; have GW422 := n7_; have GE422 := n8_; have NB404_422 := n9_; have NB422_404 := n10_; clear n0_ n1_ n2_ n3_ n4_ n5_ n6_ n7_ n8_ n9_ n10_; clear hb hbox hg; obtain ⟨Ao22, co22, eo22⟩ := Kd.R_slice HO415.out; subst eo22; have hnb23 := NB422_404.out; have hnc23 := NB404_422.out; obtain ⟨hcz24_0, hcz24_1, hcz24_2, hfz24_0, hfz24_1, hfz24_2⟩ := zc3 BK422.out; obtain ⟨Ao25, co25, eo25⟩ := Kd.R_slice HO419.out; subst eo25; obtain ⟨hcz26_0, hcz26_1, hcz26_2, hfz26_0, hfz26_1, hfz26_2⟩ := zc3 BK404.out) | ((with_reducible refine gate_callee (f := 14) rfl ?_); refine goesL_ (some 33) rfl rfl Try.func14 (by kernel_rfl) rfl #[.agg #[.slice A0_0 l0_0.length c0_0, .int .i64 a0_1, .slice A0_2 l0_2.length c0_2]] rfl (by (try simp only [List.map_toArray, List.map_cons, List.map_nil]); first | done | rfl | (simp only [List.length_drop, List.length_take]; rfl)) ?_; (with_reducible refine (laws_toReader.calls k _ _ l0_0 a0_1 _ _ l0_2 t423 t426 t427 _ ?side1 ?side2 ?side3 ?side4 A10.out).mono ?_); (case side1 => exact Kd.C_below HR0_0.out zb); (case side2 => exact HC0_0.out); (case side3 => exact Kd.C_below HR0_2.out zb); (case side4 => exact HC0_2.out); rintro e w27 ⟨v424, v428, rfl, ho0, ho1, hb⟩; refine ⟨_, rfl, ?_⟩; have n0_ := zm (Kd.R_elder' (by (with_reducible repeat (first | apply Kd.R_alloc | apply Kd.R_drewN | apply Kd.R_drew)); exact (Kd.R_mono (Kd.R_far (p := ⟨gb422, 2, none⟩) (Kd.R_far (p := ⟨gb422, 1, none⟩) (Kd.R_far (p := ⟨gb422, 0, none⟩) (Kd.R_types HO408.out BK422.out (by decide)) (fun _ hk => hk.2) (.slice Ao22 t413.length co22)) (fun _ hk => hk.2) (.int .i64 t416)) (fun _ hk => hk.2) (.slice Ao25 t417.length co25)) (fun _ h_ => h_.1))) (Kd.R_base ho0) hb); have n1_ := zm (Kd.R_elder' (by (with_reducible repeat (first | apply Kd.R_alloc | apply Kd.R_drewN | apply Kd.R_drew)); exact (Kd.R_mono (Kd.R_far (p := ⟨gb422, 2, none⟩) (Kd.R_far (p := ⟨gb422, 1, none⟩) (Kd.R_far (p := ⟨gb422, 0, none⟩) (Kd.R_types HO412.out BK422.out (by decide)) (fun _ hk => hk.2) (.slice Ao22 t413.length co22)) (fun _ hk => hk.2) (.int .i64 t416)) (fun _ hk => hk.2) (.slice Ao25 t417.length co25)) (fun _ h_ => h_.1))) (Kd.R_base ho1) hb); have n2_ := zm (Kd.R_elder' (by (with_reducible repeat (first | apply Kd.R_alloc | apply Kd.R_drewN | apply Kd.R_drew)); exact (Kd.R_mono (Kd.R_far (p := ⟨gb422, 2, none⟩) (Kd.R_far (p := ⟨gb422, 1, none⟩) (Kd.R_far (p := ⟨gb422, 0, none⟩) (Kd.R_types HO415.out BK422.out (by decide)) (fun _ hk => hk.2) (.slice Ao22 t413.length co22)) (fun _ hk => hk.2) (.int .i64 t416)) (fun _ hk => hk.2) (.slice Ao25 t417.length co25)) (fun _ h_ => h_.1))) (Kd.R_base ho0) hb); have n3_ := zm (Kd.R_elder' (by (with_reducible repeat (first | apply Kd.R_alloc | apply Kd.R_drewN | apply Kd.R_drew)); exact (Kd.R_mono (Kd.R_far (p := ⟨gb422, 2, none⟩) (Kd.R_far (p := ⟨gb422, 1, none⟩) (Kd.R_far (p := ⟨gb422, 0, none⟩) (Kd.R_types HO419.out BK422.out (by decide)) (fun _ hk => hk.2) (.slice Ao22 t413.length co22)) (fun _ hk => hk.2) (.int .i64 t416)) (fun _ hk => hk.2) (.slice Ao25 t417.length co25)) (fun _ h_ => h_.1))) (Kd.R_base ho1) hb); have n4_ := zm (Kd.R_lower (Kd.R_new' (Kd.R_new' ho0 (Kd.R_lt (by (with_reducible repeat (first | apply Kd.R_alloc | apply Kd.R_drewN | apply Kd.R_drew)); exact (Kd.R_mono (Kd.R_far (p := ⟨gb422, 2, none⟩) (Kd.R_far (p := ⟨gb422, 1, none⟩) (Kd.R_far (p := ⟨gb422, 0, none⟩) (Kd.R_types HO408.out BK422.out (by decide)) (fun _ hk => hk.2) (.slice Ao22 t413.length co22)) (fun _ hk => hk.2) (.int .i64 t416)) (fun _ hk => hk.2) (.slice Ao25 t417.length co25)) (fun _ h_ => h_.1))))) (Kd.R_lt (by (with_reducible repeat (first | apply Kd.R_alloc | apply Kd.R_drewN | apply Kd.R_drew)); exact (Kd.R_mono (Kd.R_far (p := ⟨gb422, 2, none⟩) (Kd.R_far (p := ⟨gb422, 1, none⟩) (Kd.R_far (p := ⟨gb422, 0, none⟩) (Kd.R_types HO415.out BK422.out (by decide)) (fun _ hk => hk.2) (.slice Ao22 t413.length co22)) (fun _ hk => hk.2) (.int .i64 t416)) (fun _ hk => hk.2) (.slice Ao25 t417.length co25)) (fun _ h_ => h_.1))))) (below_size zb)); have n5_ := zm (Kd.R_lower (Kd.R_new' (Kd.R_new' ho1 (Kd.R_lt (by (with_reducible repeat (first | apply Kd.R_alloc | apply Kd.R_drewN | apply Kd.R_drew)); exact (Kd.R_mono (Kd.R_far (p := ⟨gb422, 2, none⟩) (Kd.R_far (p := ⟨gb422, 1, none⟩) (Kd.R_far (p := ⟨gb422, 0, none⟩) (Kd.R_types HO412.out BK422.out (by decide)) (fun _ hk => hk.2) (.slice Ao22 t413.length co22)) (fun _ hk => hk.2) (.int .i64 t416)) (fun _ hk => hk.2) (.slice Ao25 t417.length co25)) (fun _ h_ => h_.1))))) (Kd.R_lt (by (with_reducible repeat (first | apply Kd.R_alloc | apply Kd.R_drewN | apply Kd.R_drew)); exact (Kd.R_mono (Kd.R_far (p := ⟨gb422, 2, none⟩) (Kd.R_far (p := ⟨gb422, 1, none⟩) (Kd.R_far (p := ⟨gb422, 0, none⟩) (Kd.R_types HO419.out BK422.out (by decide)) (fun _ hk => hk.2) (.slice Ao22 t413.length co22)) (fun _ hk => hk.2) (.int .i64 t416)) (fun _ hk => hk.2) (.slice Ao25 t417.length co25)) (fun _ h_ => h_.1))))) (below_size zb)); have n6_ := zm (blk_below (g := gb404) (o := .cells #[.slice A0_0 l0_0.length c0_0, .int .i64 a0_1, .slice A0_2 l0_2.length c0_2] 25 (0, 0)) zK hb); have n7_ := zm (blk_below (g := gb422) (o := .cells #[.slice Ao22 t413.length co22, .int .i64 t416, .slice Ao25 t417.length co25] 29 (0, 0)) (by (with_reducible repeat (first | refine blk_drewN ?_ _ | refine blk_drew ?_ | refine blk_alloc ?_ _)); refine blk_put (cs := #[.slice Ao22 t413.length co22, .int .i64 t416, .slice none 0 0]) ?_ 2 _ rfl; (with_reducible repeat (first | refine blk_drewN ?_ _ | refine blk_drew ?_ | refine blk_alloc ?_ _)); refine blk_put (cs := #[.slice Ao22 t413.length co22, .int .i64 0, .slice none 0 0]) ?_ 1 _ rfl; (with_reducible repeat (first | refine blk_drewN ?_ _ | refine blk_drew ?_ | refine blk_alloc ?_ _)); refine blk_put (cs := #[.slice none 0 0, .int .i64 0, .slice none 0 0]) ?_ 0 _ rfl; (with_reducible repeat (first | refine blk_drewN ?_ _ | refine blk_drew ?_ | refine blk_alloc ?_ _)); exact BK422.out) hb); have n8_ := zm (below_step zb hb); clear HO408; clear HO412; clear HO415; clear HO419; clear BK404; clear BK422; clear HB; have HO408 := n0_; have HO412 := n1_; have HO415 := n2_; have HO419 := n3_; have HO425 := n4_; have HO429 := n5_; have BK404 := n6_; have BK422 := n7_; have HB := n8_; clear n0_ n1_ n2_ n3_ n4_ n5_ n6_ n7_ n8_; (try clear hb); (try clear hb2); (try clear hk); (try clear hi); (try clear ho0); (try clear ho1)) | ((with_reducible refine gate_dst (N := 9) rfl ?_); refine box_event ?hg (N := 9) ?hd (cs := #[.slice none 0 0, .int .i64 0, .slice none 0 0]) (t := 29) ?hr ?_; (case hd => rfl); (case hg => rfl); (case hr => first | (go_simp; done) | (go_simp; rfl)); intro gb430 hg w28 hbox hb; have n0_ := zm (Kd.R_below (by (with_reducible repeat (first | apply Kd.R_alloc | apply Kd.R_drewN | apply Kd.R_drew)); exact HO408.out) hb); have n1_ := zm (Kd.R_below (by (with_reducible repeat (first | apply Kd.R_alloc | apply Kd.R_drewN | apply Kd.R_drew)); exact HO412.out) hb); have n2_ := zm (Kd.R_below (by (with_reducible repeat (first | apply Kd.R_alloc | apply Kd.R_drewN | apply Kd.R_drew)); exact HO415.out) hb); have n3_ := zm (Kd.R_below (by (with_reducible repeat (first | apply Kd.R_alloc | apply Kd.R_drewN | apply Kd.R_drew)); exact HO419.out) hb); have n4_ := zm (Kd.R_below (by (with_reducible repeat (first | apply Kd.R_alloc | apply Kd.R_drewN | apply Kd.R_drew)); exact HO425.out) hb); have n5_ := zm (Kd.R_below (by (with_reducible repeat (first | apply Kd.R_alloc | apply Kd.R_drewN | apply Kd.R_drew)); exact HO429.out) hb); have n6_ := zm (blk_below (g := gb404) zk hb); have n7_ := zm (blk_below (g := gb422) zk hb); have n8_ := zm (below_step zb hb); have n9_ := zm (hbox); have n10_ := zm (zs hg zb : w.heap.size ≤ gb430); have n11_ := zm (zs hg zb : w.heap.size ≤ gb430); have n12_ := zm (zl hg zk : gb404 ≠ gb430); have n13_ := zm (zg hg zk : gb430 ≠ gb404); have n14_ := zm (zl hg zk : gb422 ≠ gb430); have n15_ := zm (zg hg zk : gb430 ≠ gb422); clear HO408; clear HO412; clear HO415; clear HO419; clear HO425; clear HO429; clear BK404; clear BK422; clear HB; have HO408 := n0_; have HO412 := n1_; have HO415 := n2_; have HO419 := n3_; have HO425 := n4_; have HO429 := n5_; have BK404 := n6_; have BK422 := n7_; have HB := n8_; have BK430 := n9_; have GW430 := n10_; have GE430 := n11_; have NB404_430 := n12_; have NB430_404 := n13_; have NB422_430 := n14_; have NB430_422 := n15_; clear n0_ n1_ n2_ n3_ n4_ n5_ n6_ n7_ n8_ n9_ n10_ n11_ n12_ n13_ n14_ n15_; clear hb hbox hg; obtain ⟨Ao29, co29, eo29⟩ := Kd.R_slice HO425.out; subst eo29; have hnb30 := NB430_404.out; have hnc30 := NB404_430.out; have hnb31 := NB430_422.out; have hnc31 := NB422_430.out; obtain ⟨hcz32_0, hcz32_1, hcz32_2, hfz32_0, hfz32_1, hfz32_2⟩ := zc3 BK430.out; obtain ⟨Ao33, co33, eo33⟩ := Kd.R_slice HO429.out; subst eo33) | ((with_reducible refine gate_callee (f := 20) rfl ?_); refine goesL_ (some 37) rfl rfl Try.func20 (by kernel_rfl) rfl #[.agg #[.slice Ao29 t423.length co29, .int .i64 t426, .slice Ao33 t427.length co33], .int .i64 a1] rfl (by (try simp only [List.map_toArray, List.map_cons, List.map_nil]); first | done | rfl | (simp only [List.length_drop, List.length_take]; rfl)) ?_; (with_reducible refine (impl_ReadSteps.calls k _ _ t423 t426 _ _ t427 a1 t431 t434 t435 t438 t439 _ ?side1 ?side2 ?side3 ?side4 A11.out).mono ?_); (case side1 => refine (Kd.R_reads' (e := 137) (base := w.heap.size) (ok := fun k_ => ((True ∧ some k_ ≠ (.slice Ao18 t406.length co18 : Value).ownBlock) ∧ some k_ ≠ (.slice Ao22 t413.length co22 : Value).ownBlock)) (n := t423.length) (c := co29) ?_).2.2; exact (by (with_reducible repeat (first | apply Kd.R_alloc | apply Kd.R_drewN | apply Kd.R_drew)); exact (Kd.R_mono (Kd.R_far (p := ⟨gb430, 2, none⟩) (Kd.R_far (p := ⟨gb430, 1, none⟩) (Kd.R_far (p := ⟨gb430, 0, none⟩) (Kd.R_types HO425.out BK430.out (by decide)) (fun _ hk => hk.2) (.slice Ao29 t423.length co29)) (fun _ hk => hk.2) (.int .i64 t426)) (fun _ hk => hk.2) (.slice Ao33 t427.length co33)) (fun _ h_ => h_.1)))); (case side2 => exact (Kd.R_reads' HO425.out).2.1); (case side3 => refine (Kd.R_reads' (e := 3) (base := w.heap.size) (ok := fun k_ => ((True ∧ some k_ ≠ (.slice Ao19 t410.length co19 : Value).ownBlock) ∧ some k_ ≠ (.slice Ao25 t417.length co25 : Value).ownBlock)) (n := t427.length) (c := co33) ?_).2.2; exact (by (with_reducible repeat (first | apply Kd.R_alloc | apply Kd.R_drewN | apply Kd.R_drew)); exact (Kd.R_mono (Kd.R_far (p := ⟨gb430, 2, none⟩) (Kd.R_far (p := ⟨gb430, 1, none⟩) (Kd.R_far (p := ⟨gb430, 0, none⟩) (Kd.R_types HO429.out BK430.out (by decide)) (fun _ hk => hk.2) (.slice Ao29 t423.length co29)) (fun _ hk => hk.2) (.int .i64 t426)) (fun _ hk => hk.2) (.slice Ao33 t427.length co33)) (fun _ h_ => h_.1)))); (case side4 => exact (Kd.R_reads' HO429.out).2.1); rintro e w34 ⟨v432, v436, rfl, ho0, ho1, hb⟩; refine ⟨_, rfl, ?_⟩; have n0_ := zm (Kd.R_elder' (by (with_reducible repeat (first | apply Kd.R_alloc | apply Kd.R_drewN | apply Kd.R_drew)); exact (Kd.R_mono (Kd.R_far (p := ⟨gb430, 2, none⟩) (Kd.R_far (p := ⟨gb430, 1, none⟩) (Kd.R_far (p := ⟨gb430, 0, none⟩) (Kd.R_types HO408.out BK430.out (by decide)) (fun _ hk => hk.2) (.slice Ao29 t423.length co29)) (fun _ hk => hk.2) (.int .i64 t426)) (fun _ hk => hk.2) (.slice Ao33 t427.length co33)) (fun _ h_ => h_.1))) (Kd.R_base ho0) hb); have n1_ := zm (Kd.R_elder' (by (with_reducible repeat (first | apply Kd.R_alloc | apply Kd.R_drewN | apply Kd.R_drew)); exact (Kd.R_mono (Kd.R_far (p := ⟨gb430, 2, none⟩) (Kd.R_far (p := ⟨gb430, 1, none⟩) (Kd.R_far (p := ⟨gb430, 0, none⟩) (Kd.R_types HO412.out BK430.out (by decide)) (fun _ hk => hk.2) (.slice Ao29 t423.length co29)) (fun _ hk => hk.2) (.int .i64 t426)) (fun _ hk => hk.2) (.slice Ao33 t427.length co33)) (fun _ h_ => h_.1))) (Kd.R_base ho1) hb); have n2_ := zm (Kd.R_elder' (by (with_reducible repeat (first | apply Kd.R_alloc | apply Kd.R_drewN | apply Kd.R_drew)); exact (Kd.R_mono (Kd.R_far (p := ⟨gb430, 2, none⟩) (Kd.R_far (p := ⟨gb430, 1, none⟩) (Kd.R_far (p := ⟨gb430, 0, none⟩) (Kd.R_types HO415.out BK430.out (by decide)) (fun _ hk => hk.2) (.slice Ao29 t423.length co29)) (fun _ hk => hk.2) (.int .i64 t426)) (fun _ hk => hk.2) (.slice Ao33 t427.length co33)) (fun _ h_ => h_.1))) (Kd.R_base ho0) hb); have n3_ := zm (Kd.R_elder' (by (with_reducible repeat (first | apply Kd.R_alloc | apply Kd.R_drewN | apply Kd.R_drew)); exact (Kd.R_mono (Kd.R_far (p := ⟨gb430, 2, none⟩) (Kd.R_far (p := ⟨gb430, 1, none⟩) (Kd.R_far (p := ⟨gb430, 0, none⟩) (Kd.R_types HO419.out BK430.out (by decide)) (fun _ hk => hk.2) (.slice Ao29 t423.length co29)) (fun _ hk => hk.2) (.int .i64 t426)) (fun _ hk => hk.2) (.slice Ao33 t427.length co33)) (fun _ h_ => h_.1))) (Kd.R_base ho1) hb); have n4_ := zm (Kd.R_elder' (by (with_reducible repeat (first | apply Kd.R_alloc | apply Kd.R_drewN | apply Kd.R_drew)); exact (Kd.R_mono (Kd.R_far (p := ⟨gb430, 2, none⟩) (Kd.R_far (p := ⟨gb430, 1, none⟩) (Kd.R_far (p := ⟨gb430, 0, none⟩) (Kd.R_types HO425.out BK430.out (by decide)) (fun _ hk => hk.2) (.slice Ao29 t423.length co29)) (fun _ hk => hk.2) (.int .i64 t426)) (fun _ hk => hk.2) (.slice Ao33 t427.length co33)) (fun _ h_ => h_.1))) (Kd.R_base ho0) hb); have n5_ := zm (Kd.R_elder' (by (with_reducible repeat (first | apply Kd.R_alloc | apply Kd.R_drewN | apply Kd.R_drew)); exact (Kd.R_mono (Kd.R_far (p := ⟨gb430, 2, none⟩) (Kd.R_far (p := ⟨gb430, 1, none⟩) (Kd.R_far (p := ⟨gb430, 0, none⟩) (Kd.R_types HO429.out BK430.out (by decide)) (fun _ hk => hk.2) (.slice Ao29 t423.length co29)) (fun _ hk => hk.2) (.int .i64 t426)) (fun _ hk => hk.2) (.slice Ao33 t427.length co33)) (fun _ h_ => h_.1))) (Kd.R_base ho1) hb); have n6_ := zm (Kd.R_lower (Kd.R_new' (Kd.R_new' (Kd.R_new' ho0 (Kd.R_lt (by (with_reducible repeat (first | apply Kd.R_alloc | apply Kd.R_drewN | apply Kd.R_drew)); exact (Kd.R_mono (Kd.R_far (p := ⟨gb430, 2, none⟩) (Kd.R_far (p := ⟨gb430, 1, none⟩) (Kd.R_far (p := ⟨gb430, 0, none⟩) (Kd.R_types HO408.out BK430.out (by decide)) (fun _ hk => hk.2) (.slice Ao29 t423.length co29)) (fun _ hk => hk.2) (.int .i64 t426)) (fun _ hk => hk.2) (.slice Ao33 t427.length co33)) (fun _ h_ => h_.1))))) (Kd.R_lt (by (with_reducible repeat (first | apply Kd.R_alloc | apply Kd.R_drewN | apply Kd.R_drew)); exact (Kd.R_mono (Kd.R_far (p := ⟨gb430, 2, none⟩) (Kd.R_far (p := ⟨gb430, 1, none⟩) (Kd.R_far (p := ⟨gb430, 0, none⟩) (Kd.R_types HO415.out BK430.out (by decide)) (fun _ hk => hk.2) (.slice Ao29 t423.length co29)) (fun _ hk => hk.2) (.int .i64 t426)) (fun _ hk => hk.2) (.slice Ao33 t427.length co33)) (fun _ h_ => h_.1))))) (Kd.R_lt (by (with_reducible repeat (first | apply Kd.R_alloc | apply Kd.R_drewN | apply Kd.R_drew)); exact (Kd.R_mono (Kd.R_far (p := ⟨gb430, 2, none⟩) (Kd.R_far (p := ⟨gb430, 1, none⟩) (Kd.R_far (p := ⟨gb430, 0, none⟩) (Kd.R_types HO425.out BK430.out (by decide)) (fun _ hk => hk.2) (.slice Ao29 t423.length co29)) (fun _ hk => hk.2) (.int .i64 t426)) (fun _ hk => hk.2) (.slice Ao33 t427.length co33)) (fun _ h_ => h_.1))))) (below_size zb)); have n7_ := zm (Kd.R_lower (Kd.R_new' (Kd.R_new' (Kd.R_new' ho1 (Kd.R_lt (by (with_reducible repeat (first | apply Kd.R_alloc | apply Kd.R_drewN | apply Kd.R_drew)); exact (Kd.R_mono (Kd.R_far (p := ⟨gb430, 2, none⟩) (Kd.R_far (p := ⟨gb430, 1, none⟩) (Kd.R_far (p := ⟨gb430, 0, none⟩) (Kd.R_types HO412.out BK430.out (by decide)) (fun _ hk => hk.2) (.slice Ao29 t423.length co29)) (fun _ hk => hk.2) (.int .i64 t426)) (fun _ hk => hk.2) (.slice Ao33 t427.length co33)) (fun _ h_ => h_.1))))) (Kd.R_lt (by (with_reducible repeat (first | apply Kd.R_alloc | apply Kd.R_drewN | apply Kd.R_drew)); exact (Kd.R_mono (Kd.R_far (p := ⟨gb430, 2, none⟩) (Kd.R_far (p := ⟨gb430, 1, none⟩) (Kd.R_far (p := ⟨gb430, 0, none⟩) (Kd.R_types HO419.out BK430.out (by decide)) (fun _ hk => hk.2) (.slice Ao29 t423.length co29)) (fun _ hk => hk.2) (.int .i64 t426)) (fun _ hk => hk.2) (.slice Ao33 t427.length co33)) (fun _ h_ => h_.1))))) (Kd.R_lt (by (with_reducible repeat (first | apply Kd.R_alloc | apply Kd.R_drewN | apply Kd.R_drew)); exact (Kd.R_mono (Kd.R_far (p := ⟨gb430, 2, none⟩) (Kd.R_far (p := ⟨gb430, 1, none⟩) (Kd.R_far (p := ⟨gb430, 0, none⟩) (Kd.R_types HO429.out BK430.out (by decide)) (fun _ hk => hk.2) (.slice Ao29 t423.length co29)) (fun _ hk => hk.2) (.int .i64 t426)) (fun _ hk => hk.2) (.slice Ao33 t427.length co33)) (fun _ h_ => h_.1))))) (below_size zb)); have n8_ := zm (blk_below (g := gb404) (o := .cells #[.slice A0_0 l0_0.length c0_0, .int .i64 a0_1, .slice A0_2 l0_2.length c0_2] 25 (0, 0)) zK hb); have n9_ := zm (blk_below (g := gb422) (o := .cells #[.slice Ao22 t413.length co22, .int .i64 t416, .slice Ao25 t417.length co25] 29 (0, 0)) zK hb); have n10_ := zm (blk_below (g := gb430) (o := .cells #[.slice Ao29 t423.length co29, .int .i64 t426, .slice Ao33 t427.length co33] 29 (0, 0)) (by (with_reducible repeat (first | refine blk_drewN ?_ _ | refine blk_drew ?_ | refine blk_alloc ?_ _)); refine blk_put (cs := #[.slice Ao29 t423.length co29, .int .i64 t426, .slice none 0 0]) ?_ 2 _ rfl; (with_reducible repeat (first | refine blk_drewN ?_ _ | refine blk_drew ?_ | refine blk_alloc ?_ _)); refine blk_put (cs := #[.slice Ao29 t423.length co29, .int .i64 0, .slice none 0 0]) ?_ 1 _ rfl; (with_reducible repeat (first | refine blk_drewN ?_ _ | refine blk_drew ?_ | refine blk_alloc ?_ _)); refine blk_put (cs := #[.slice none 0 0, .int .i64 0, .slice none 0 0]) ?_ 0 _ rfl; (with_reducible repeat (first | refine blk_drewN ?_ _ | refine blk_drew ?_ | refine blk_alloc ?_ _)); exact BK430.out) hb); have n11_ := zm (below_step zb hb); clear HO408; clear HO412; clear HO415; clear HO419; clear HO425; clear HO429; clear BK404; clear BK422; clear BK430; clear HB; have HO408 := n0_; have HO412 := n1_; have HO415 := n2_; have HO419 := n3_; have HO425 := n4_; have HO429 := n5_; have HO433 := n6_; have HO437 := n7_; have BK404 := n8_; have BK422 := n9_; have BK430 := n10_; have HB := n11_; clear n0_ n1_ n2_ n3_ n4_ n5_ n6_ n7_ n8_ n9_ n10_ n11_; (try clear hb); (try clear hb2); (try clear hk); (try clear hi); (try clear ho0); (try clear ho1)) | ((with_reducible refine gate_dst (N := 10) rfl ?_); refine box_event ?hg (N := 10) ?hd (cs := #[.slice none 0 0, .int .i64 0, .slice none 0 0]) (t := 29) ?hr ?_; (case hd => rfl); (case hg => rfl); (case hr => first | (go_simp; done) | (go_simp; rfl)); intro gb440 hg w35 hbox hb; have n0_ := zm (Kd.R_below (by (with_reducible repeat (first | apply Kd.R_alloc | apply Kd.R_drewN | apply Kd.R_drew)); exact HO408.out) hb); have n1_ := zm (Kd.R_below (by (with_reducible repeat (first | apply Kd.R_alloc | apply Kd.R_drewN | apply Kd.R_drew)); exact HO412.out) hb); have n2_ := zm (Kd.R_below (by (with_reducible repeat (first | apply Kd.R_alloc | apply Kd.R_drewN | apply Kd.R_drew)); exact HO415.out) hb); have n3_ := zm (Kd.R_below (by (with_reducible repeat (first | apply Kd.R_alloc | apply Kd.R_drewN | apply Kd.R_drew)); exact HO419.out) hb); have n4_ := zm (Kd.R_below (by (with_reducible repeat (first | apply Kd.R_alloc | apply Kd.R_drewN | apply Kd.R_drew)); exact HO425.out) hb); have n5_ := zm (Kd.R_below (by (with_reducible repeat (first | apply Kd.R_alloc | apply Kd.R_drewN | apply Kd.R_drew)); exact HO429.out) hb); have n6_ := zm (Kd.R_below (by (with_reducible repeat (first | apply Kd.R_alloc | apply Kd.R_drewN | apply Kd.R_drew)); exact HO433.out) hb); have n7_ := zm (Kd.R_below (by (with_reducible repeat (first | apply Kd.R_alloc | apply Kd.R_drewN | apply Kd.R_drew)); exact HO437.out) hb); have n8_ := zm (blk_below (g := gb404) zk hb); have n9_ := zm (blk_below (g := gb422) zk hb); have n10_ := zm (blk_below (g := gb430) zk hb); have n11_ := zm (below_step zb hb); have n12_ := zm (hbox); have n13_ := zm (zs hg zb : w.heap.size ≤ gb440); have n14_ := zm (zs hg zb : w.heap.size ≤ gb440); have n15_ := zm (zl hg zk : gb404 ≠ gb440); have n16_ := zm (zg hg zk : gb440 ≠ gb404); have n17_ := zm (zl hg zk : gb422 ≠ gb440); have n18_ := zm (zg hg zk : gb440 ≠ gb422); have n19_ := zm (zl hg zk : gb430 ≠ gb440); have n20_ := zm (zg hg zk : gb440 ≠ gb430); clear HO408; clear HO412; clear HO415; clear HO419; clear HO425; clear HO429; clear HO433; clear HO437; clear BK404; clear BK422; clear BK430; clear HB; have HO408 := n0_; have HO412 := n1_; have HO415 := n2_; have HO419 := n3_; have HO425 := n4_; have HO429 := n5_; have HO433 := n6_; have HO437 := n7_; have BK404 := n8_; have BK422 := n9_; have BK430 := n10_; have HB := n11_; have BK440 := n12_; have GW440 := n13_; have GE440 := n14_; have NB404_440 := n15_; have NB440_404 := n16_; have NB422_440 := n17_; have NB440_422 := n18_; have NB430_440 := n19_; have NB440_430 := n20_; clear n0_ n1_ n2_ n3_ n4_ n5_ n6_ n7_ n8_ n9_ n10_ n11_ n12_ n13_ n14_ n15_ n16_ n17_ n18_ n19_ n20_; clear hb hbox hg; obtain ⟨Ao36, co36, eo36⟩ := Kd.R_slice HO433.out; subst eo36; have hnb37 := NB440_404.out; have hnc37 := NB404_440.out; have hnb38 := NB440_422.out; have hnc38 := NB422_440.out; have hnb39 := NB440_430.out; have hnc39 := NB430_440.out; obtain ⟨hcz40_0, hcz40_1, hcz40_2, hfz40_0, hfz40_1, hfz40_2⟩ := zc3 BK440.out; obtain ⟨Ao41, co41, eo41⟩ := Kd.R_slice HO437.out; subst eo41))
  (try simp only [Act.put, List.setIfInBounds_toArray, List.set_cons_zero, List.set_cons_succ])
  go_cut [54] (fun v54 wc => ∃ (kq : Nat) (x54_11 : Bool), v54 = .bool x54_11 ∧ Aside0 (laws_FnExactReadSteps.j0 kq a1 t420 t421 t438 t439 x54_11 l0_0 a0_1 l0_2 t413 t416 t417 t423 t426 t427 t431 t434 t435 = some r) ∧ Aside0 (kq ≤ k) ∧ Aside0 (Kd.R k137 137 wc w.heap.size (fun k_ => some k_ ≠ ((.slice Ao29 t423.length co29) : Value).ownBlock ∧ some k_ ≠ ((.slice Ao36 t431.length co36) : Value).ownBlock) (.slice Ao22 t413.length co22) t413) ∧ Aside0 (Kd.R (Kd.int .i64) 3 wc w.heap.size (fun k_ => some k_ ≠ ((.slice Ao33 t427.length co33) : Value).ownBlock ∧ some k_ ≠ ((.slice Ao41 t435.length co41) : Value).ownBlock) (.slice Ao25 t417.length co25) t417) ∧ Aside0 (Kd.R k137 137 wc w.heap.size (fun k_ => some k_ ≠ ((.slice Ao22 t413.length co22) : Value).ownBlock ∧ some k_ ≠ ((.slice Ao36 t431.length co36) : Value).ownBlock) (.slice Ao29 t423.length co29) t423) ∧ Aside0 (Kd.R (Kd.int .i64) 3 wc w.heap.size (fun k_ => some k_ ≠ ((.slice Ao25 t417.length co25) : Value).ownBlock ∧ some k_ ≠ ((.slice Ao41 t435.length co41) : Value).ownBlock) (.slice Ao33 t427.length co33) t427) ∧ Aside0 (Kd.R k137 137 wc w.heap.size (fun k_ => some k_ ≠ ((.slice Ao22 t413.length co22) : Value).ownBlock ∧ some k_ ≠ ((.slice Ao29 t423.length co29) : Value).ownBlock) (.slice Ao36 t431.length co36) t431) ∧ Aside0 (Kd.R (Kd.int .i64) 3 wc w.heap.size (fun k_ => some k_ ≠ ((.slice Ao25 t417.length co25) : Value).ownBlock ∧ some k_ ≠ ((.slice Ao33 t427.length co33) : Value).ownBlock) (.slice Ao41 t435.length co41) t435) ∧ Aside0 (wc.heap[gb404]? = some (.cells #[(.slice A0_0 l0_0.length c0_0), .int .i64 a0_1, (.slice A0_2 l0_2.length c0_2)] 25 (0, 0))) ∧ Aside0 (wc.heap[gb422]? = some (.cells #[(.slice Ao22 t413.length co22), .int .i64 t416, (.slice Ao25 t417.length co25)] 29 (0, 0))) ∧ Aside0 (wc.heap[gb430]? = some (.cells #[(.slice Ao29 t423.length co29), .int .i64 t426, (.slice Ao33 t427.length co33)] 29 (0, 0))) ∧ Aside0 (wc.heap[gb440]? = some (.cells #[(.slice Ao36 t431.length co36), .int .i64 t434, (.slice Ao41 t435.length co41)] 29 (0, 0))) ∧ Aside0 (Below w.heap.size w wc))
  case first =>
   have H := HC12.out
   clear HC12
   replace H := Option.bind_eq_some_iff.mp H
   obtain ⟨t441, A420, H⟩ := H
   replace H : (if t441 = true then (if t438 = t420 then (laws_FnExactReadSteps.j0 k a1 t420 t421 t438 t439 (t439 != t421) l0_0 a0_1 l0_2 t413 t416 t417 t423 t426 t427 t431 t434 t435) else (laws_FnExactReadSteps.j0 k a1 t420 t421 t438 t439 true l0_0 a0_1 l0_2 t413 t416 t417 t423 t426 t427 t431 t434 t435)) else (laws_FnExactReadSteps.j0 k a1 t420 t421 t438 t439 true l0_0 a0_1 l0_2 t413 t416 t417 t423 t426 t427 t431 t434 t435)) = some r := H
   have A42 := zm A420
   clear A420
   by_cases c43 : t441 = true
   ·
    subst c43
    have H1 : (if t438 = t420 then (laws_FnExactReadSteps.j0 k a1 t420 t421 t438 t439 (t439 != t421) l0_0 a0_1 l0_2 t413 t416 t417 t423 t426 t427 t431 t434 t435) else (laws_FnExactReadSteps.j0 k a1 t420 t421 t438 t439 true l0_0 a0_1 l0_2 t413 t416 t417 t423 t426 t427 t431 t434 t435)) = some r := by rw [if_pos rfl] at H; exact H
    clear H
    have H := H1
    clear H1
    by_cases c44 : t438 = t420
    ·
     rw [if_pos c44] at H
     have c44b0 : (t438 == t420) = true := beq_iff_eq.mpr c44
     have c44b1 : (t438 != t420) = false := bne_eq_false_iff_eq.mpr c44
     clear c44
     (first | rw [c44b0] | (simp only [i64_w, i32_w]; rw [c44b0]) | skip)
     have H' := zm H
     clear H
     have hnb45 := NB440_404.out
     have hnc45 := NB404_440.out
     have hnb46 := NB440_422.out
     have hnc46 := NB422_440.out
     have hnb47 := NB440_430.out
     have hnc47 := NB430_440.out
     obtain ⟨hcz48_0, hcz48_1, hcz48_2, hfz48_0, hfz48_1, hfz48_2⟩ := zc3 BK440.out
     have hnb49 := NB422_404.out
     have hnc49 := NB404_422.out
     have hnb50 := NB422_430.out
     have hnc50 := NB430_422.out
     obtain ⟨hcz51_0, hcz51_1, hcz51_2, hfz51_0, hfz51_1, hfz51_2⟩ := zc3 BK422.out
     go_wp2_with (first | ((with_reducible refine gate_callee (f := 16) rfl ?_); refine goesL_ (some 43) rfl rfl Try.func16 (by kernel_rfl) rfl #[.agg #[.slice Ao36 t431.length co36, .int .i64 t434, .slice Ao41 t435.length co41], .agg #[.slice Ao22 t413.length co22, .int .i64 t416, .slice Ao25 t417.length co25]] rfl (by (try simp only [List.map_toArray, List.map_cons, List.map_nil]); first | done | rfl | (simp only [List.length_drop, List.length_take]; rfl)) ?_; (with_reducible refine (laws_eqReader.calls k _ _ t431 t434 _ _ t435 _ _ t413 t416 _ _ t417 true _ ?side1 ?side2 ?side3 ?side4 ?side5 ?side6 ?side7 ?side8 A42.out).mono ?_); (case side1 => refine (Kd.R_reads' (e := 137) (base := w.heap.size) (ok := fun k_ => (((True ∧ some k_ ≠ (.slice Ao18 t406.length co18 : Value).ownBlock) ∧ some k_ ≠ (.slice Ao22 t413.length co22 : Value).ownBlock) ∧ some k_ ≠ (.slice Ao29 t423.length co29 : Value).ownBlock)) (n := t431.length) (c := co36) ?_).2.2; exact (by (with_reducible repeat (first | apply Kd.R_alloc | apply Kd.R_drewN | apply Kd.R_drew)); exact (Kd.R_mono (Kd.R_far (p := ⟨gb440, 2, none⟩) (Kd.R_far (p := ⟨gb440, 1, none⟩) (Kd.R_far (p := ⟨gb440, 0, none⟩) (Kd.R_types HO433.out BK440.out (by decide)) (fun _ hk => hk.2) (.slice Ao36 t431.length co36)) (fun _ hk => hk.2) (.int .i64 t434)) (fun _ hk => hk.2) (.slice Ao41 t435.length co41)) (fun _ h_ => h_.1)))); (case side2 => exact (Kd.R_reads' HO433.out).2.1); (case side3 => refine (Kd.R_reads' (e := 3) (base := w.heap.size) (ok := fun k_ => (((True ∧ some k_ ≠ (.slice Ao19 t410.length co19 : Value).ownBlock) ∧ some k_ ≠ (.slice Ao25 t417.length co25 : Value).ownBlock) ∧ some k_ ≠ (.slice Ao33 t427.length co33 : Value).ownBlock)) (n := t435.length) (c := co41) ?_).2.2; exact (by (with_reducible repeat (first | apply Kd.R_alloc | apply Kd.R_drewN | apply Kd.R_drew)); exact (Kd.R_mono (Kd.R_far (p := ⟨gb440, 2, none⟩) (Kd.R_far (p := ⟨gb440, 1, none⟩) (Kd.R_far (p := ⟨gb440, 0, none⟩) (Kd.R_types HO437.out BK440.out (by decide)) (fun _ hk => hk.2) (.slice Ao36 t431.length co36)) (fun _ hk => hk.2) (.int .i64 t434)) (fun _ hk => hk.2) (.slice Ao41 t435.length co41)) (fun _ h_ => h_.1)))); (case side4 => exact (Kd.R_reads' HO437.out).2.1); (case side5 => refine (Kd.R_reads' (e := 137) (base := w.heap.size) (ok := fun k_ => (((True ∧ some k_ ≠ (.slice Ao18 t406.length co18 : Value).ownBlock) ∧ some k_ ≠ (.slice Ao29 t423.length co29 : Value).ownBlock) ∧ some k_ ≠ (.slice Ao36 t431.length co36 : Value).ownBlock)) (n := t413.length) (c := co22) ?_).2.2; exact (by (with_reducible repeat (first | apply Kd.R_alloc | apply Kd.R_drewN | apply Kd.R_drew)); exact (Kd.R_mono (Kd.R_far (p := ⟨gb440, 2, none⟩) (Kd.R_far (p := ⟨gb440, 1, none⟩) (Kd.R_far (p := ⟨gb440, 0, none⟩) (Kd.R_types HO415.out BK440.out (by decide)) (fun _ hk => hk.2) (.slice Ao36 t431.length co36)) (fun _ hk => hk.2) (.int .i64 t434)) (fun _ hk => hk.2) (.slice Ao41 t435.length co41)) (fun _ h_ => h_.1)))); (case side6 => exact (Kd.R_reads' HO415.out).2.1); (case side7 => refine (Kd.R_reads' (e := 3) (base := w.heap.size) (ok := fun k_ => (((True ∧ some k_ ≠ (.slice Ao19 t410.length co19 : Value).ownBlock) ∧ some k_ ≠ (.slice Ao33 t427.length co33 : Value).ownBlock) ∧ some k_ ≠ (.slice Ao41 t435.length co41 : Value).ownBlock)) (n := t417.length) (c := co25) ?_).2.2; exact (by (with_reducible repeat (first | apply Kd.R_alloc | apply Kd.R_drewN | apply Kd.R_drew)); exact (Kd.R_mono (Kd.R_far (p := ⟨gb440, 2, none⟩) (Kd.R_far (p := ⟨gb440, 1, none⟩) (Kd.R_far (p := ⟨gb440, 0, none⟩) (Kd.R_types HO419.out BK440.out (by decide)) (fun _ hk => hk.2) (.slice Ao36 t431.length co36)) (fun _ hk => hk.2) (.int .i64 t434)) (fun _ hk => hk.2) (.slice Ao41 t435.length co41)) (fun _ h_ => h_.1)))); (case side8 => exact (Kd.R_reads' HO419.out).2.1); rintro e w52 ⟨rfl, hb⟩; refine ⟨_, rfl, ?_⟩; have n0_ := zm (Kd.R_below (by (with_reducible repeat (first | apply Kd.R_alloc | apply Kd.R_drewN | apply Kd.R_drew)); exact (Kd.R_mono (Kd.R_far (p := ⟨gb440, 2, none⟩) (Kd.R_far (p := ⟨gb440, 1, none⟩) (Kd.R_far (p := ⟨gb440, 0, none⟩) (Kd.R_types HO408.out BK440.out (by decide)) (fun _ hk => hk.2) (.slice Ao36 t431.length co36)) (fun _ hk => hk.2) (.int .i64 t434)) (fun _ hk => hk.2) (.slice Ao41 t435.length co41)) (fun _ h_ => h_.1))) hb); have n1_ := zm (Kd.R_below (by (with_reducible repeat (first | apply Kd.R_alloc | apply Kd.R_drewN | apply Kd.R_drew)); exact (Kd.R_mono (Kd.R_far (p := ⟨gb440, 2, none⟩) (Kd.R_far (p := ⟨gb440, 1, none⟩) (Kd.R_far (p := ⟨gb440, 0, none⟩) (Kd.R_types HO412.out BK440.out (by decide)) (fun _ hk => hk.2) (.slice Ao36 t431.length co36)) (fun _ hk => hk.2) (.int .i64 t434)) (fun _ hk => hk.2) (.slice Ao41 t435.length co41)) (fun _ h_ => h_.1))) hb); have n2_ := zm (Kd.R_below (by (with_reducible repeat (first | apply Kd.R_alloc | apply Kd.R_drewN | apply Kd.R_drew)); exact (Kd.R_mono (Kd.R_far (p := ⟨gb440, 2, none⟩) (Kd.R_far (p := ⟨gb440, 1, none⟩) (Kd.R_far (p := ⟨gb440, 0, none⟩) (Kd.R_types HO415.out BK440.out (by decide)) (fun _ hk => hk.2) (.slice Ao36 t431.length co36)) (fun _ hk => hk.2) (.int .i64 t434)) (fun _ hk => hk.2) (.slice Ao41 t435.length co41)) (fun _ h_ => h_.1))) hb); have n3_ := zm (Kd.R_below (by (with_reducible repeat (first | apply Kd.R_alloc | apply Kd.R_drewN | apply Kd.R_drew)); exact (Kd.R_mono (Kd.R_far (p := ⟨gb440, 2, none⟩) (Kd.R_far (p := ⟨gb440, 1, none⟩) (Kd.R_far (p := ⟨gb440, 0, none⟩) (Kd.R_types HO419.out BK440.out (by decide)) (fun _ hk => hk.2) (.slice Ao36 t431.length co36)) (fun _ hk => hk.2) (.int .i64 t434)) (fun _ hk => hk.2) (.slice Ao41 t435.length co41)) (fun _ h_ => h_.1))) hb); have n4_ := zm (Kd.R_below (by (with_reducible repeat (first | apply Kd.R_alloc | apply Kd.R_drewN | apply Kd.R_drew)); exact (Kd.R_mono (Kd.R_far (p := ⟨gb440, 2, none⟩) (Kd.R_far (p := ⟨gb440, 1, none⟩) (Kd.R_far (p := ⟨gb440, 0, none⟩) (Kd.R_types HO425.out BK440.out (by decide)) (fun _ hk => hk.2) (.slice Ao36 t431.length co36)) (fun _ hk => hk.2) (.int .i64 t434)) (fun _ hk => hk.2) (.slice Ao41 t435.length co41)) (fun _ h_ => h_.1))) hb); have n5_ := zm (Kd.R_below (by (with_reducible repeat (first | apply Kd.R_alloc | apply Kd.R_drewN | apply Kd.R_drew)); exact (Kd.R_mono (Kd.R_far (p := ⟨gb440, 2, none⟩) (Kd.R_far (p := ⟨gb440, 1, none⟩) (Kd.R_far (p := ⟨gb440, 0, none⟩) (Kd.R_types HO429.out BK440.out (by decide)) (fun _ hk => hk.2) (.slice Ao36 t431.length co36)) (fun _ hk => hk.2) (.int .i64 t434)) (fun _ hk => hk.2) (.slice Ao41 t435.length co41)) (fun _ h_ => h_.1))) hb); have n6_ := zm (Kd.R_below (by (with_reducible repeat (first | apply Kd.R_alloc | apply Kd.R_drewN | apply Kd.R_drew)); exact (Kd.R_mono (Kd.R_far (p := ⟨gb440, 2, none⟩) (Kd.R_far (p := ⟨gb440, 1, none⟩) (Kd.R_far (p := ⟨gb440, 0, none⟩) (Kd.R_types HO433.out BK440.out (by decide)) (fun _ hk => hk.2) (.slice Ao36 t431.length co36)) (fun _ hk => hk.2) (.int .i64 t434)) (fun _ hk => hk.2) (.slice Ao41 t435.length co41)) (fun _ h_ => h_.1))) hb); have n7_ := zm (Kd.R_below (by (with_reducible repeat (first | apply Kd.R_alloc | apply Kd.R_drewN | apply Kd.R_drew)); exact (Kd.R_mono (Kd.R_far (p := ⟨gb440, 2, none⟩) (Kd.R_far (p := ⟨gb440, 1, none⟩) (Kd.R_far (p := ⟨gb440, 0, none⟩) (Kd.R_types HO437.out BK440.out (by decide)) (fun _ hk => hk.2) (.slice Ao36 t431.length co36)) (fun _ hk => hk.2) (.int .i64 t434)) (fun _ hk => hk.2) (.slice Ao41 t435.length co41)) (fun _ h_ => h_.1))) hb); have n8_ := zm (blk_below (g := gb404) (o := .cells #[.slice A0_0 l0_0.length c0_0, .int .i64 a0_1, .slice A0_2 l0_2.length c0_2] 25 (0, 0)) zK hb); have n9_ := zm (blk_below (g := gb422) (o := .cells #[.slice Ao22 t413.length co22, .int .i64 t416, .slice Ao25 t417.length co25] 29 (0, 0)) zK hb); have n10_ := zm (blk_below (g := gb430) (o := .cells #[.slice Ao29 t423.length co29, .int .i64 t426, .slice Ao33 t427.length co33] 29 (0, 0)) zK hb); have n11_ := zm (blk_below (g := gb440) (o := .cells #[.slice Ao36 t431.length co36, .int .i64 t434, .slice Ao41 t435.length co41] 29 (0, 0)) (by (with_reducible repeat (first | refine blk_drewN ?_ _ | refine blk_drew ?_ | refine blk_alloc ?_ _)); refine blk_put (cs := #[.slice Ao36 t431.length co36, .int .i64 t434, .slice none 0 0]) ?_ 2 _ rfl; (with_reducible repeat (first | refine blk_drewN ?_ _ | refine blk_drew ?_ | refine blk_alloc ?_ _)); refine blk_put (cs := #[.slice Ao36 t431.length co36, .int .i64 0, .slice none 0 0]) ?_ 1 _ rfl; (with_reducible repeat (first | refine blk_drewN ?_ _ | refine blk_drew ?_ | refine blk_alloc ?_ _)); refine blk_put (cs := #[.slice none 0 0, .int .i64 0, .slice none 0 0]) ?_ 0 _ rfl; (with_reducible repeat (first | refine blk_drewN ?_ _ | refine blk_drew ?_ | refine blk_alloc ?_ _)); exact BK440.out) hb); have n12_ := zm (below_step zb hb); clear HO408; clear HO412; clear HO415; clear HO419; clear HO425; clear HO429; clear HO433; clear HO437; clear BK404; clear BK422; clear BK430; clear BK440; clear HB; have HO408 := n0_; have HO412 := n1_; have HO415 := n2_; have HO419 := n3_; have HO425 := n4_; have HO429 := n5_; have HO433 := n6_; have HO437 := n7_; have BK404 := n8_; have BK422 := n9_; have BK430 := n10_; have BK440 := n11_; have HB := n12_; clear n0_ n1_ n2_ n3_ n4_ n5_ n6_ n7_ n8_ n9_ n10_ n11_ n12_; (try clear hb); (try clear hb2); (try clear hk); (try clear hi)))
     go_meet
     case rel => exact ⟨_, ((t439 != t421)), (by first | rfl | (simp; done) | (simp [*]; done)), H', ⟨by first | omega | exact Nat.le_refl _⟩, ⟨by (with_reducible repeat (first | apply Kd.R_alloc | apply Kd.R_drewN | apply Kd.R_drew)); exact Kd.R_mono HO415.out (fun _ hk => ⟨hk.1.2, hk.2⟩)⟩, ⟨by (with_reducible repeat (first | apply Kd.R_alloc | apply Kd.R_drewN | apply Kd.R_drew)); exact Kd.R_mono HO419.out (fun _ hk => ⟨hk.1.2, hk.2⟩)⟩, ⟨by (with_reducible repeat (first | apply Kd.R_alloc | apply Kd.R_drewN | apply Kd.R_drew)); exact Kd.R_mono HO425.out (fun _ hk => ⟨hk.1.2, hk.2⟩)⟩, ⟨by (with_reducible repeat (first | apply Kd.R_alloc | apply Kd.R_drewN | apply Kd.R_drew)); exact Kd.R_mono HO429.out (fun _ hk => ⟨hk.1.2, hk.2⟩)⟩, ⟨by (with_reducible repeat (first | apply Kd.R_alloc | apply Kd.R_drewN | apply Kd.R_drew)); exact Kd.R_mono HO433.out (fun _ hk => ⟨hk.1.2, hk.2⟩)⟩, ⟨by (with_reducible repeat (first | apply Kd.R_alloc | apply Kd.R_drewN | apply Kd.R_drew)); exact Kd.R_mono HO437.out (fun _ hk => ⟨hk.1.2, hk.2⟩)⟩, ⟨zk⟩, ⟨zk⟩, ⟨zk⟩, ⟨zk⟩, ⟨zb⟩⟩
    ·
     rw [if_neg c44] at H
     have c44b0 : (t438 == t420) = false := beq_eq_false_iff_ne.mpr c44
     have c44b1 : (t438 != t420) = true := bne_iff_ne.mpr c44
     (first | rw [c44b0] | (simp only [i64_w, i32_w]; rw [c44b0]) | skip)
     exact (laws_FnExactReadSteps.j0_t (H.trans (congrArg some hr_))).elim
   ·
    replace c43 := Bool.eq_false_iff.mpr c43
    subst c43
    have H1 : (laws_FnExactReadSteps.j0 k a1 t420 t421 t438 t439 true l0_0 a0_1 l0_2 t413 t416 t417 t423 t426 t427 t431 t434 t435) = some r := by rw [if_neg (show ¬ (false = true) by decide)] at H; exact H
    clear H
    have H := H1
    clear H1
    exact (laws_FnExactReadSteps.j0_t (H.trans (congrArg some hr_))).elim
  case rest =>
   clear HC12
   try clear c1
   try clear c2
   try clear p2
   try clear c3
   try clear c4
   try clear c4b0
   try clear c5
   try clear c12
   try clear c14
   try clear c16
   try clear c19
   try clear c20
   try clear c23
   try clear c30
   try clear c31
   try clear c37
   try clear c38
   try clear c39
   try clear c43
   try clear c44
   try clear c44b0
   try clear c44b1
   try clear c45
   try clear c46
   try clear c47
   try clear c49
   try clear c50
   try clear hcz14_0
   try clear hcz14_1
   try clear hcz14_2
   try clear hcz16_0
   try clear hcz16_1
   try clear hcz16_2
   try clear hcz24_0
   try clear hcz24_1
   try clear hcz24_2
   try clear hcz26_0
   try clear hcz26_1
   try clear hcz26_2
   try clear hcz32_0
   try clear hcz32_1
   try clear hcz32_2
   try clear hcz40_0
   try clear hcz40_1
   try clear hcz40_2
   try clear hcz48_0
   try clear hcz48_1
   try clear hcz48_2
   try clear hcz51_0
   try clear hcz51_1
   try clear hcz51_2
   try clear hcz6_0
   try clear hcz6_1
   try clear hcz6_2
   try clear hfz14_0
   try clear hfz14_1
   try clear hfz14_2
   try clear hfz16_0
   try clear hfz16_1
   try clear hfz16_2
   try clear hfz24_0
   try clear hfz24_1
   try clear hfz24_2
   try clear hfz26_0
   try clear hfz26_1
   try clear hfz26_2
   try clear hfz32_0
   try clear hfz32_1
   try clear hfz32_2
   try clear hfz40_0
   try clear hfz40_1
   try clear hfz40_2
   try clear hfz48_0
   try clear hfz48_1
   try clear hfz48_2
   try clear hfz51_0
   try clear hfz51_1
   try clear hfz51_2
   try clear hfz6_0
   try clear hfz6_1
   try clear hfz6_2
   obtain ⟨kq, x54_11, rfl, HA, HJ11, HO_423000, HO_423002, HO_431000, HO_431002, HO_441000, HO_441002, BK404, BK422, BK430, BK440, HB⟩ := hcut
   cases kq with
   | zero => exact absurd HA.out (by simp [laws_FnExactReadSteps.j0])
   | succ kj11 =>
    have H := HA.out
    clear HA
    simp only [laws_FnExactReadSteps.j0] at H
    by_cases c53 : x54_11 = true
    ·
     subst c53
     have H1 : (some false) = some r := by rw [if_pos rfl] at H; exact H
     clear H
     have H := H1
     clear H1
     exact absurd ((Option.some.inj H).trans hr_) (by decide)
    ·
     replace c53 := Bool.eq_false_iff.mpr c53
     subst c53
     have H1 : ((laws_toReader.f kj11 l0_0 a0_1 l0_2).bind fun bt442 => ((laws_eqReader.f kj11 t423 t426 t427 bt442.1 bt442.2.1 bt442.2.2).bind fun t449 => (if t449 = true then ((laws_markReader.f kj11 t423 t426 t427 1).bind fun bt450 => (if bt450.1 < 0 then (laws_FnExactReadSteps.j1 kj11 a1 t420 t421 true l0_0 a0_1 l0_2 t413 t416 t417 t431 t434 t435) else ((laws_eqReader.f kj11 t431 t434 t435 t413 t416 t417).bind fun t453 => (if t453 = true then (if t438 = t420 then (laws_FnExactReadSteps.j1 kj11 a1 t420 t421 (t439 != t421) l0_0 a0_1 l0_2 t413 t416 t417 t431 t434 t435) else (laws_FnExactReadSteps.j1 kj11 a1 t420 t421 true l0_0 a0_1 l0_2 t413 t416 t417 t431 t434 t435)) else (laws_FnExactReadSteps.j1 kj11 a1 t420 t421 true l0_0 a0_1 l0_2 t413 t416 t417 t431 t434 t435))))) else (some false)))) = some r := by rw [if_neg (show ¬ (false = true) by decide)] at H; exact H
     clear H
     have H := H1
     clear H1
     replace H := Option.bind_eq_some_iff.mp H
     obtain ⟨⟨t442, t445, t446⟩, A540, H⟩ := H
     replace H : ((laws_eqReader.f kj11 t423 t426 t427 t442 t445 t446).bind fun t449 => (if t449 = true then ((laws_markReader.f kj11 t423 t426 t427 1).bind fun bt450 => (if bt450.1 < 0 then (laws_FnExactReadSteps.j1 kj11 a1 t420 t421 true l0_0 a0_1 l0_2 t413 t416 t417 t431 t434 t435) else ((laws_eqReader.f kj11 t431 t434 t435 t413 t416 t417).bind fun t453 => (if t453 = true then (if t438 = t420 then (laws_FnExactReadSteps.j1 kj11 a1 t420 t421 (t439 != t421) l0_0 a0_1 l0_2 t413 t416 t417 t431 t434 t435) else (laws_FnExactReadSteps.j1 kj11 a1 t420 t421 true l0_0 a0_1 l0_2 t413 t416 t417 t431 t434 t435)) else (laws_FnExactReadSteps.j1 kj11 a1 t420 t421 true l0_0 a0_1 l0_2 t413 t416 t417 t431 t434 t435))))) else (some false))) = some r := H
     have A54 := zm A540
     clear A540
     replace H := Option.bind_eq_some_iff.mp H
     obtain ⟨t449, A550, H⟩ := H
     replace H : (if t449 = true then ((laws_markReader.f kj11 t423 t426 t427 1).bind fun bt450 => (if bt450.1 < 0 then (laws_FnExactReadSteps.j1 kj11 a1 t420 t421 true l0_0 a0_1 l0_2 t413 t416 t417 t431 t434 t435) else ((laws_eqReader.f kj11 t431 t434 t435 t413 t416 t417).bind fun t453 => (if t453 = true then (if t438 = t420 then (laws_FnExactReadSteps.j1 kj11 a1 t420 t421 (t439 != t421) l0_0 a0_1 l0_2 t413 t416 t417 t431 t434 t435) else (laws_FnExactReadSteps.j1 kj11 a1 t420 t421 true l0_0 a0_1 l0_2 t413 t416 t417 t431 t434 t435)) else (laws_FnExactReadSteps.j1 kj11 a1 t420 t421 true l0_0 a0_1 l0_2 t413 t416 t417 t431 t434 t435))))) else (some false)) = some r := H
     have A55 := zm A550
     clear A550
     by_cases c56 : t449 = true
     ·
      subst c56
      have H1 : ((laws_markReader.f kj11 t423 t426 t427 1).bind fun bt450 => (if bt450.1 < 0 then (laws_FnExactReadSteps.j1 kj11 a1 t420 t421 true l0_0 a0_1 l0_2 t413 t416 t417 t431 t434 t435) else ((laws_eqReader.f kj11 t431 t434 t435 t413 t416 t417).bind fun t453 => (if t453 = true then (if t438 = t420 then (laws_FnExactReadSteps.j1 kj11 a1 t420 t421 (t439 != t421) l0_0 a0_1 l0_2 t413 t416 t417 t431 t434 t435) else (laws_FnExactReadSteps.j1 kj11 a1 t420 t421 true l0_0 a0_1 l0_2 t413 t416 t417 t431 t434 t435)) else (laws_FnExactReadSteps.j1 kj11 a1 t420 t421 true l0_0 a0_1 l0_2 t413 t416 t417 t431 t434 t435))))) = some r := by rw [if_pos rfl] at H; exact H
      clear H
      have H := H1
      clear H1
      replace H := Option.bind_eq_some_iff.mp H
      obtain ⟨⟨t450, t451, t452⟩, A570, H⟩ := H
      replace H : (if t450 < 0 then (laws_FnExactReadSteps.j1 kj11 a1 t420 t421 true l0_0 a0_1 l0_2 t413 t416 t417 t431 t434 t435) else ((laws_eqReader.f kj11 t431 t434 t435 t413 t416 t417).bind fun t453 => (if t453 = true then (if t438 = t420 then (laws_FnExactReadSteps.j1 kj11 a1 t420 t421 (t439 != t421) l0_0 a0_1 l0_2 t413 t416 t417 t431 t434 t435) else (laws_FnExactReadSteps.j1 kj11 a1 t420 t421 true l0_0 a0_1 l0_2 t413 t416 t417 t431 t434 t435)) else (laws_FnExactReadSteps.j1 kj11 a1 t420 t421 true l0_0 a0_1 l0_2 t413 t416 t417 t431 t434 t435)))) = some r := H
      have A57 := zm A570
      clear A570
      have HC58 := zm H
      clear H
      try go_wp2
      have n0_ := zm (Kd.R_drew HO_423000.out)
      have n1_ := zm (Kd.R_drew HO_423002.out)
      have n2_ := zm (Kd.R_drew HO_431000.out)
      have n3_ := zm (Kd.R_drew HO_431002.out)
      have n4_ := zm (Kd.R_drew HO_441000.out)
      have n5_ := zm (Kd.R_drew HO_441002.out)
      have n6_ := zm (blk_drew BK404.out)
      have n7_ := zm (blk_drew BK422.out)
      have n8_ := zm (blk_drew BK430.out)
      have n9_ := zm (blk_drew BK440.out)
      have n10_ := zm (below_drew1 HB.out)
      clear HO_423000
      clear HO_423002
      clear HO_431000
      clear HO_431002
      clear HO_441000
      clear HO_441002
      clear BK404
      clear BK422
      clear BK430
      clear BK440
      clear HB
      have HO_423000 := n0_
      have HO_423002 := n1_
      have HO_431000 := n2_
      have HO_431002 := n3_
      have HO_441000 := n4_
      have HO_441002 := n5_
      have BK404 := n6_
      have BK422 := n7_
      have BK430 := n8_
      have BK440 := n9_
      have HB := n10_
      clear n0_ n1_ n2_ n3_ n4_ n5_ n6_ n7_ n8_ n9_ n10_
      refine start_ (n := 5) (S := fun w' => w'.cell? ⟨gb430, 0, none⟩ = some (.slice Ao29 t423.length co29) ∧ w'.cell? ⟨gb430, 1, none⟩ = some (.int .i64 t426) ∧ w'.cell? ⟨gb430, 2, none⟩ = some (.slice Ao33 t427.length co33) ∧ w'.cell? ⟨gb404, 0, none⟩ = some (.slice A0_0 l0_0.length c0_0) ∧ w'.cell? ⟨gb404, 1, none⟩ = some (.int .i64 a0_1) ∧ w'.cell? ⟨gb404, 2, none⟩ = some (.slice A0_2 l0_2.length c0_2)) (ds := []) #[false, false, false, false, false] (by kernel_rfl) rfl rfl ⟨(blk_cell BK430.out 0).trans rfl, (blk_cell BK430.out 1).trans rfl, (blk_cell BK430.out 2).trans rfl, (blk_cell BK404.out 0).trans rfl, (blk_cell BK404.out 1).trans rfl, (blk_cell BK404.out 2).trans rfl⟩ (fun hHeld => ?_)
      generalize wc.drew = w59 at HO_423000 HO_423002 HO_431000 HO_431002 HO_441000 HO_441002 BK404 BK422 BK430 BK440 HB hHeld ⊢
      refine take_ (i := 0) (N := some 55) (v := ?_) (a' := ?_) #[true, false, false, false, false] rfl rfl (by kernel_rfl) (fun _ _ _ h => h) (Or.inl ⟨by rfl, ?_⟩) hHeld ?_ ?_
      rotate_left
      ·
       rintro w' ⟨s0, s1, s2, s3, s4, s5⟩
       go_simp
       with_reducible rfl
      rotate_left
      ·
       simp only [Act.put, zA, zB, zD, i64_w, i32_w]
       rfl
      refine take_ (i := 1) (N := some 56) (v := ?_) (a' := ?_) #[true, true, false, false, false] rfl rfl (by kernel_rfl) (fun _ _ _ h => h) (Or.inl ⟨by rfl, ?_⟩) hHeld ?_ ?_
      rotate_left
      ·
       rintro w' ⟨s0, s1, s2, s3, s4, s5⟩
       go_simp
       with_reducible rfl
      rotate_left
      ·
       simp only [Act.put, zA, zB, zD, i64_w, i32_w]
       rfl
      refine one_ (i := 2) (N := some 57) #[true, true, true, false, false] rfl rfl (by kernel_rfl) (by decide) (fun K hK => ?_)
      refine goes_ Try.func14 (by kernel_rfl) rfl #[.agg #[.slice A0_0 l0_0.length c0_0, .int .i64 a0_1, .slice A0_2 l0_2.length c0_2]] (by rfl) rfl rfl (by (try simp only [List.map_toArray, List.map_cons, List.map_nil]); first | done | rfl | (simp only [List.length_drop, List.length_take]; rfl)) ?_
      with_reducible refine (laws_toReader.calls kj11 _ _ l0_0 a0_1 _ _ l0_2 t442 t445 t446 _ ?side1 ?side2 ?side3 ?side4 A54.out).mono ?_
      (case side1 => repeat (first | exact (Kd.C_below HR0_0.out HB.out) | (with_reducible refine Kd.C_alloc ?_ _) | (with_reducible refine Kd.C_drewN ?_ _) | (with_reducible refine Kd.C_drew ?_)))
      (case side2 => exact HC0_0.out)
      (case side3 => repeat (first | exact (Kd.C_below HR0_2.out HB.out) | (with_reducible refine Kd.C_alloc ?_ _) | (with_reducible refine Kd.C_drewN ?_ _) | (with_reducible refine Kd.C_drew ?_)))
      (case side4 => exact HC0_2.out)
      rintro e w60 ⟨v443, v447, rfl, ho0, ho1, hb⟩
      refine ⟨_, rfl, ?_⟩
      have n0_ := zm (Kd.R_elder' (by (with_reducible repeat (first | apply Kd.R_alloc | apply Kd.R_drewN | apply Kd.R_drew)); exact HO_423000.out) (Kd.R_base ho0) hb)
      have n1_ := zm (Kd.R_elder' (by (with_reducible repeat (first | apply Kd.R_alloc | apply Kd.R_drewN | apply Kd.R_drew)); exact HO_423002.out) (Kd.R_base ho1) hb)
      have n2_ := zm (Kd.R_elder' (by (with_reducible repeat (first | apply Kd.R_alloc | apply Kd.R_drewN | apply Kd.R_drew)); exact HO_431000.out) (Kd.R_base ho0) hb)
      have n3_ := zm (Kd.R_elder' (by (with_reducible repeat (first | apply Kd.R_alloc | apply Kd.R_drewN | apply Kd.R_drew)); exact HO_431002.out) (Kd.R_base ho1) hb)
      have n4_ := zm (Kd.R_elder' (by (with_reducible repeat (first | apply Kd.R_alloc | apply Kd.R_drewN | apply Kd.R_drew)); exact HO_441000.out) (Kd.R_base ho0) hb)
      have n5_ := zm (Kd.R_elder' (by (with_reducible repeat (first | apply Kd.R_alloc | apply Kd.R_drewN | apply Kd.R_drew)); exact HO_441002.out) (Kd.R_base ho1) hb)
      have n6_ := zm (Kd.R_lower (Kd.R_new' (Kd.R_new' (Kd.R_new' ho0 (Kd.R_lt (by (with_reducible repeat (first | apply Kd.R_alloc | apply Kd.R_drewN | apply Kd.R_drew)); exact HO_423000.out))) (Kd.R_lt (by (with_reducible repeat (first | apply Kd.R_alloc | apply Kd.R_drewN | apply Kd.R_drew)); exact HO_431000.out))) (Kd.R_lt (by (with_reducible repeat (first | apply Kd.R_alloc | apply Kd.R_drewN | apply Kd.R_drew)); exact HO_441000.out))) (below_size zb))
      have n7_ := zm (Kd.R_lower (Kd.R_new' (Kd.R_new' (Kd.R_new' ho1 (Kd.R_lt (by (with_reducible repeat (first | apply Kd.R_alloc | apply Kd.R_drewN | apply Kd.R_drew)); exact HO_423002.out))) (Kd.R_lt (by (with_reducible repeat (first | apply Kd.R_alloc | apply Kd.R_drewN | apply Kd.R_drew)); exact HO_431002.out))) (Kd.R_lt (by (with_reducible repeat (first | apply Kd.R_alloc | apply Kd.R_drewN | apply Kd.R_drew)); exact HO_441002.out))) (below_size zb))
      have n8_ := zm (blk_below (g := gb404) zk hb)
      have n9_ := zm (blk_below (g := gb422) zk hb)
      have n10_ := zm (blk_below (g := gb430) zk hb)
      have n11_ := zm (blk_below (g := gb440) zk hb)
      have n12_ := zm (below_step zb hb)
      clear HO_423000
      clear HO_423002
      clear HO_431000
      clear HO_431002
      clear HO_441000
      clear HO_441002
      clear BK404
      clear BK422
      clear BK430
      clear BK440
      clear HB
      have HO_423000 := n0_
      have HO_423002 := n1_
      have HO_431000 := n2_
      have HO_431002 := n3_
      have HO_441000 := n4_
      have HO_441002 := n5_
      have HO444 := n6_
      have HO448 := n7_
      have BK404 := n8_
      have BK422 := n9_
      have BK430 := n10_
      have BK440 := n11_
      have HB := n12_
      clear n0_ n1_ n2_ n3_ n4_ n5_ n6_ n7_ n8_ n9_ n10_ n11_ n12_
      (try clear hb)
      (try clear hb2)
      (try clear hk)
      (try clear hi)
      (try clear ho0)
      (try clear ho1)
      obtain ⟨Ao61, co61, eo61⟩ := Kd.R_slice HO444.out
      (first | subst eo61 | (injection eo61 with f1_ f2_ f3_; have f4_ := f1_.symm; have f5_ := f3_.symm; clear f1_ f2_ f3_; subst f4_; subst f5_))
      obtain ⟨Ao62, co62, eo62⟩ := Kd.R_slice HO448.out
      (first | subst eo62 | (injection eo62 with f1_ f2_ f3_; have f4_ := f1_.symm; have f5_ := f3_.symm; clear f1_ f2_ f3_; subst f4_; subst f5_))
      refine hK.out _ _ ⟨(blk_cell BK430.out 0).trans rfl, (blk_cell BK430.out 1).trans rfl, (blk_cell BK430.out 2).trans rfl, (blk_cell BK404.out 0).trans rfl, (blk_cell BK404.out 1).trans rfl, (blk_cell BK404.out 2).trans rfl⟩ (fun hHeld => ?_)
      clear hK K
      refine norm_ (a' := ?_) ?_ ?_
      rotate_left
      ·
       show Act.put _ (some 57) _ = _
       simp only [Act.put, zA, zB, zD, i64_w, i32_w]
       rfl
      refine one_ (i := 3) (N := some 58) #[true, true, true, true, false] rfl rfl (by kernel_rfl) (by decide) (fun K hK => ?_)
      refine goes_ Try.func16 (by kernel_rfl) rfl #[.agg #[.slice Ao29 t423.length co29, .int .i64 t426, .slice Ao33 t427.length co33], .agg #[.slice Ao61 t442.length co61, .int .i64 t445, .slice Ao62 t446.length co62]] (by rfl) rfl rfl (by (try simp only [List.map_toArray, List.map_cons, List.map_nil]); first | done | rfl | (simp only [List.length_drop, List.length_take]; rfl)) ?_
      with_reducible refine (laws_eqReader.calls kj11 _ _ t423 t426 _ _ t427 _ _ t442 t445 _ _ t446 true _ ?side1 ?side2 ?side3 ?side4 ?side5 ?side6 ?side7 ?side8 A55.out).mono ?_
      (case side1 => repeat (first | exact (Kd.R_reads' HO_431000.out).2.2 | (with_reducible refine Kd.C_alloc ?_ _) | (with_reducible refine Kd.C_drewN ?_ _) | (with_reducible refine Kd.C_drew ?_)))
      (case side2 => exact (Kd.R_reads' HO_431000.out).2.1)
      (case side3 => repeat (first | exact (Kd.R_reads' HO_431002.out).2.2 | (with_reducible refine Kd.C_alloc ?_ _) | (with_reducible refine Kd.C_drewN ?_ _) | (with_reducible refine Kd.C_drew ?_)))
      (case side4 => exact (Kd.R_reads' HO_431002.out).2.1)
      (case side5 => repeat (first | exact (Kd.R_reads' HO444.out).2.2 | (with_reducible refine Kd.C_alloc ?_ _) | (with_reducible refine Kd.C_drewN ?_ _) | (with_reducible refine Kd.C_drew ?_)))
      (case side6 => exact (Kd.R_reads' HO444.out).2.1)
      (case side7 => repeat (first | exact (Kd.R_reads' HO448.out).2.2 | (with_reducible refine Kd.C_alloc ?_ _) | (with_reducible refine Kd.C_drewN ?_ _) | (with_reducible refine Kd.C_drew ?_)))
      (case side8 => exact (Kd.R_reads' HO448.out).2.1)
      rintro e w63 ⟨rfl, hb⟩
      refine ⟨_, rfl, ?_⟩
      have n0_ := zm (Kd.R_below (by (with_reducible repeat (first | apply Kd.R_alloc | apply Kd.R_drewN | apply Kd.R_drew)); exact HO_423000.out) hb)
      have n1_ := zm (Kd.R_below (by (with_reducible repeat (first | apply Kd.R_alloc | apply Kd.R_drewN | apply Kd.R_drew)); exact HO_423002.out) hb)
      have n2_ := zm (Kd.R_below (by (with_reducible repeat (first | apply Kd.R_alloc | apply Kd.R_drewN | apply Kd.R_drew)); exact HO_431000.out) hb)
      have n3_ := zm (Kd.R_below (by (with_reducible repeat (first | apply Kd.R_alloc | apply Kd.R_drewN | apply Kd.R_drew)); exact HO_431002.out) hb)
      have n4_ := zm (Kd.R_below (by (with_reducible repeat (first | apply Kd.R_alloc | apply Kd.R_drewN | apply Kd.R_drew)); exact HO_441000.out) hb)
      have n5_ := zm (Kd.R_below (by (with_reducible repeat (first | apply Kd.R_alloc | apply Kd.R_drewN | apply Kd.R_drew)); exact HO_441002.out) hb)
      have n6_ := zm (Kd.R_below (by (with_reducible repeat (first | apply Kd.R_alloc | apply Kd.R_drewN | apply Kd.R_drew)); exact HO444.out) hb)
      have n7_ := zm (Kd.R_below (by (with_reducible repeat (first | apply Kd.R_alloc | apply Kd.R_drewN | apply Kd.R_drew)); exact HO448.out) hb)
      have n8_ := zm (blk_below (g := gb404) zk hb)
      have n9_ := zm (blk_below (g := gb422) zk hb)
      have n10_ := zm (blk_below (g := gb430) zk hb)
      have n11_ := zm (blk_below (g := gb440) zk hb)
      have n12_ := zm (below_step zb hb)
      clear HO_423000
      clear HO_423002
      clear HO_431000
      clear HO_431002
      clear HO_441000
      clear HO_441002
      clear HO444
      clear HO448
      clear BK404
      clear BK422
      clear BK430
      clear BK440
      clear HB
      have HO_423000 := n0_
      have HO_423002 := n1_
      have HO_431000 := n2_
      have HO_431002 := n3_
      have HO_441000 := n4_
      have HO_441002 := n5_
      have HO444 := n6_
      have HO448 := n7_
      have BK404 := n8_
      have BK422 := n9_
      have BK430 := n10_
      have BK440 := n11_
      have HB := n12_
      clear n0_ n1_ n2_ n3_ n4_ n5_ n6_ n7_ n8_ n9_ n10_ n11_ n12_
      (try clear hb)
      (try clear hb2)
      (try clear hk)
      (try clear hi)
      refine hK.out _ _ ⟨(blk_cell BK430.out 0).trans rfl, (blk_cell BK430.out 1).trans rfl, (blk_cell BK430.out 2).trans rfl, (blk_cell BK404.out 0).trans rfl, (blk_cell BK404.out 1).trans rfl, (blk_cell BK404.out 2).trans rfl⟩ (fun hHeld => ?_)
      clear hK K
      refine norm_ (a' := ?_) ?_ ?_
      rotate_left
      ·
       show Act.put _ (some 58) _ = _
       simp only [Act.put, zA, zB, zD, i64_w, i32_w]
       rfl
      refine pure_ (i := 4) (N := some 59) (v := ?_) (a' := ?_) #[true, true, true, true, true] rfl rfl (by kernel_rfl) (fun _ _ _ h => h) (Or.inl ⟨by rfl, ?_⟩) ?_ ?_
      rotate_left
      ·
       intro w'
       go_simp
       with_reducible rfl
      rotate_left
      ·
       simp only [Act.put, zA, zB, zD, i64_w, i32_w]
       rfl
      refine done_ (by kernel_rfl) ?_
      have hnb64 := NB430_404.out
      have hnc64 := NB404_430.out
      have hnb65 := NB430_422.out
      have hnc65 := NB422_430.out
      have hnb66 := NB430_440.out
      have hnc66 := NB440_430.out
      obtain ⟨hcz67_0, hcz67_1, hcz67_2, hfz67_0, hfz67_1, hfz67_2⟩ := zc3 BK430.out
      go_upto_region 14 with (first | ((with_reducible refine gate_callee (f := 17) rfl ?_); refine goesL_ (some 62) rfl rfl Try.func17 (by kernel_rfl) rfl #[.agg #[.slice Ao29 t423.length co29, .int .i64 t426, .slice Ao33 t427.length co33], .int .i64 1] rfl (by (try simp only [List.map_toArray, List.map_cons, List.map_nil]); first | done | rfl | (simp only [List.length_drop, List.length_take]; rfl)) ?_; (with_reducible refine (laws_markReader.calls kj11 (fun k_ => some k_ = (.slice Ao29 t423.length co29 : Value).ownBlock) (.slice Ao29 t423.length co29) t423 t426 (fun k_ => some k_ = (.slice Ao33 t427.length co33 : Value).ownBlock) (.slice Ao33 t427.length co33) t427 1 t450 t451 t452 w _ ?side1 ?side2 ?side3 A57.out).mono ?_); (case side1 => repeat (first | (with_reducible first | exact HB.out | apply below_alloc | apply pw_below_drewN | apply below_drew1 | refine below_set ?_ GE404.out | refine below_set ?_ GE422.out | refine below_set ?_ GE430.out | refine below_set ?_ GE440.out) | exact HB.out)); (case side2 => exact Kd.R_tight rfl HO_431000.out); (case side3 => exact Kd.R_tight rfl HO_431002.out); rintro e w68 ⟨rfl, hy0, hy1, hb, hkp⟩; refine ⟨_, rfl, ?_⟩; have n0_ := zm (Kd.R_mono (ok' := fun k_ => some k_ ≠ (.slice Ao29 t423.length co29 : Value).ownBlock ∧ some k_ ≠ (.slice Ao36 t431.length co36 : Value).ownBlock ∧ some k_ ≠ (.slice Ao61 t442.length co61 : Value).ownBlock) (Kd.R_keptB ((Kd.R_apart' HO_423000.out (Kd.R_typed HO_431002.out) (by decide))) hkp (fun k_ hk_ hs_ => Or.elim hs_ (fun e_ => (hk_.1.1.1) e_) (fun e_ => (hk_.2) e_))) (fun k_ hk_ => ⟨hk_.1.1.1.1, hk_.1.1.1.2, hk_.1.1.2⟩)); have n1_ := zm (Kd.R_mono (ok' := fun k_ => some k_ ≠ (.slice Ao33 t427.length co33 : Value).ownBlock ∧ some k_ ≠ (.slice Ao41 t435.length co41 : Value).ownBlock ∧ some k_ ≠ (.slice Ao62 t446.length co62 : Value).ownBlock) (Kd.R_keptB ((Kd.R_apart' HO_423002.out (Kd.R_typed HO_431000.out) (by decide))) hkp (fun k_ hk_ hs_ => Or.elim hs_ (fun e_ => (hk_.2) e_) (fun e_ => (hk_.1.1.1) e_))) (fun k_ hk_ => ⟨hk_.1.1.1.1, hk_.1.1.1.2, hk_.1.1.2⟩)); have n2_ := zm (Kd.R_reok rfl hy0 (fun k_ e_ => HO_431000.out.1 k_ e_)); have n3_ := zm (Kd.R_reok rfl hy1 (fun k_ e_ => HO_431002.out.1 k_ e_)); have n4_ := zm (Kd.R_mono (ok' := fun k_ => some k_ ≠ (.slice Ao22 t413.length co22 : Value).ownBlock ∧ some k_ ≠ (.slice Ao29 t423.length co29 : Value).ownBlock ∧ some k_ ≠ (.slice Ao61 t442.length co61 : Value).ownBlock) (Kd.R_keptB ((Kd.R_apart' HO_441000.out (Kd.R_typed HO_431002.out) (by decide))) hkp (fun k_ hk_ hs_ => Or.elim hs_ (fun e_ => (hk_.1.1.2) e_) (fun e_ => (hk_.2) e_))) (fun k_ hk_ => ⟨hk_.1.1.1.1, hk_.1.1.1.2, hk_.1.1.2⟩)); have n5_ := zm (Kd.R_mono (ok' := fun k_ => some k_ ≠ (.slice Ao25 t417.length co25 : Value).ownBlock ∧ some k_ ≠ (.slice Ao33 t427.length co33 : Value).ownBlock ∧ some k_ ≠ (.slice Ao62 t446.length co62 : Value).ownBlock) (Kd.R_keptB ((Kd.R_apart' HO_441002.out (Kd.R_typed HO_431000.out) (by decide))) hkp (fun k_ hk_ hs_ => Or.elim hs_ (fun e_ => (hk_.2) e_) (fun e_ => (hk_.1.1.2) e_))) (fun k_ hk_ => ⟨hk_.1.1.1.1, hk_.1.1.1.2, hk_.1.1.2⟩)); have n6_ := zm (blk_kept zk hkp (fun hs_ => Or.elim hs_ (fun e_ => (fun e_ => (Kd.R_ne HO_431000.out BK404.out (by decide)) e_) e_) (fun e_ => (fun e_ => (Kd.R_ne HO_431002.out BK404.out (by decide)) e_) e_))); have n7_ := zm (blk_kept zk hkp (fun hs_ => Or.elim hs_ (fun e_ => (fun e_ => (Kd.R_ne HO_431000.out BK422.out (by decide)) e_) e_) (fun e_ => (fun e_ => (Kd.R_ne HO_431002.out BK422.out (by decide)) e_) e_))); have n8_ := zm (blk_kept zk hkp (fun hs_ => Or.elim hs_ (fun e_ => (fun e_ => (Kd.R_ne HO_431000.out BK430.out (by decide)) e_) e_) (fun e_ => (fun e_ => (Kd.R_ne HO_431002.out BK430.out (by decide)) e_) e_))); have n9_ := zm (blk_kept zk hkp (fun hs_ => Or.elim hs_ (fun e_ => (fun e_ => (Kd.R_ne HO_431000.out BK440.out (by decide)) e_) e_) (fun e_ => (fun e_ => (Kd.R_ne HO_431002.out BK440.out (by decide)) e_) e_))); have n10_ := zm (Kd.R_mono (ok' := fun k_ => some k_ ≠ (.slice Ao22 t413.length co22 : Value).ownBlock ∧ some k_ ≠ (.slice Ao29 t423.length co29 : Value).ownBlock ∧ some k_ ≠ (.slice Ao36 t431.length co36 : Value).ownBlock) (Kd.R_keptB ((Kd.R_apart' HO444.out (Kd.R_typed HO_431002.out) (by decide))) hkp (fun k_ hk_ hs_ => Or.elim hs_ (fun e_ => (hk_.1.1.2) e_) (fun e_ => (hk_.2) e_))) (fun k_ hk_ => ⟨hk_.1.1.1.1.2, hk_.1.1.1.2, hk_.1.1.2⟩)); have n11_ := zm (Kd.R_mono (ok' := fun k_ => some k_ ≠ (.slice Ao25 t417.length co25 : Value).ownBlock ∧ some k_ ≠ (.slice Ao33 t427.length co33 : Value).ownBlock ∧ some k_ ≠ (.slice Ao41 t435.length co41 : Value).ownBlock) (Kd.R_keptB ((Kd.R_apart' HO448.out (Kd.R_typed HO_431000.out) (by decide))) hkp (fun k_ hk_ hs_ => Or.elim hs_ (fun e_ => (hk_.2) e_) (fun e_ => (hk_.1.1.2) e_))) (fun k_ hk_ => ⟨hk_.1.1.1.1.2, hk_.1.1.1.2, hk_.1.1.2⟩)); have n12_ := zm (hb); clear HO_423000; clear HO_423002; clear HO_431000; clear HO_431002; clear HO_441000; clear HO_441002; clear BK404; clear BK422; clear BK430; clear BK440; clear HO444; clear HO448; clear HB; have HO_423000 := n0_; have HO_423002 := n1_; have HO_431000 := n2_; have HO_431002 := n3_; have HO_441000 := n4_; have HO_441002 := n5_; have BK404 := n6_; have BK422 := n7_; have BK430 := n8_; have BK440 := n9_; have HO444 := n10_; have HO448 := n11_; have HB := n12_; clear n0_ n1_ n2_ n3_ n4_ n5_ n6_ n7_ n8_ n9_ n10_ n11_ n12_; (try clear hb); (try clear hkp); (try clear hy0); (try clear hy1)))
      (try simp only [Act.put, List.setIfInBounds_toArray, List.set_cons_zero, List.set_cons_succ])
      go_cut [80] (fun v80 wc => ∃ (kq : Nat) (x80_57 : Bool), v80 = .bool x80_57 ∧ Aside0 (laws_FnExactReadSteps.j1 kq a1 t420 t421 x80_57 l0_0 a0_1 l0_2 t413 t416 t417 t431 t434 t435 = some r) ∧ Aside0 (kq ≤ kj11) ∧ Aside0 (Kd.R k137 137 wc w.heap.size (fun k_ => some k_ ≠ ((.slice Ao29 t423.length co29) : Value).ownBlock ∧ some k_ ≠ ((.slice Ao36 t431.length co36) : Value).ownBlock) (.slice Ao22 t413.length co22) t413) ∧ Aside0 (Kd.R (Kd.int .i64) 3 wc w.heap.size (fun k_ => some k_ ≠ ((.slice Ao33 t427.length co33) : Value).ownBlock ∧ some k_ ≠ ((.slice Ao41 t435.length co41) : Value).ownBlock) (.slice Ao25 t417.length co25) t417) ∧ Aside0 (Kd.R k137 137 wc w.heap.size (fun k_ => some k_ ≠ ((.slice Ao22 t413.length co22) : Value).ownBlock ∧ some k_ ≠ ((.slice Ao36 t431.length co36) : Value).ownBlock) (.slice Ao29 t423.length co29) t451) ∧ Aside0 (Kd.R (Kd.int .i64) 3 wc w.heap.size (fun k_ => some k_ ≠ ((.slice Ao25 t417.length co25) : Value).ownBlock ∧ some k_ ≠ ((.slice Ao41 t435.length co41) : Value).ownBlock) (.slice Ao33 t427.length co33) t452) ∧ Aside0 (Kd.R k137 137 wc w.heap.size (fun k_ => some k_ ≠ ((.slice Ao22 t413.length co22) : Value).ownBlock ∧ some k_ ≠ ((.slice Ao29 t423.length co29) : Value).ownBlock) (.slice Ao36 t431.length co36) t431) ∧ Aside0 (Kd.R (Kd.int .i64) 3 wc w.heap.size (fun k_ => some k_ ≠ ((.slice Ao25 t417.length co25) : Value).ownBlock ∧ some k_ ≠ ((.slice Ao33 t427.length co33) : Value).ownBlock) (.slice Ao41 t435.length co41) t435) ∧ Aside0 (wc.heap[gb404]? = some (.cells #[(.slice A0_0 l0_0.length c0_0), .int .i64 a0_1, (.slice A0_2 l0_2.length c0_2)] 25 (0, 0))) ∧ Aside0 (wc.heap[gb422]? = some (.cells #[(.slice Ao22 t413.length co22), .int .i64 t416, (.slice Ao25 t417.length co25)] 29 (0, 0))) ∧ Aside0 (wc.heap[gb430]? = some (.cells #[(.slice Ao29 t423.length co29), .int .i64 t426, (.slice Ao33 t427.length co33)] 29 (0, 0))) ∧ Aside0 (wc.heap[gb440]? = some (.cells #[(.slice Ao36 t431.length co36), .int .i64 t434, (.slice Ao41 t435.length co41)] 29 (0, 0))) ∧ Aside0 (Below w.heap.size w wc))
      case first =>
       have H := HC58.out
       clear HC58
       by_cases c69 : t450 < 0
       ·
        rw [if_pos c69] at H
        have c69b0 : decide (t450 < 0) = true := decide_eq_true c69
        clear c69
        (first | rw [c69b0] | (simp only [i64_w, i32_w]; rw [c69b0]) | skip)
        exact (laws_FnExactReadSteps.j1_t (H.trans (congrArg some hr_))).elim
       ·
        rw [if_neg c69] at H
        have c69b0 : decide (t450 < 0) = false := decide_eq_false c69
        clear c69
        (first | rw [c69b0] | (simp only [i64_w, i32_w]; rw [c69b0]) | skip)
        replace H := Option.bind_eq_some_iff.mp H
        obtain ⟨t453, A700, H⟩ := H
        replace H : (if t453 = true then (if t438 = t420 then (laws_FnExactReadSteps.j1 kj11 a1 t420 t421 (t439 != t421) l0_0 a0_1 l0_2 t413 t416 t417 t431 t434 t435) else (laws_FnExactReadSteps.j1 kj11 a1 t420 t421 true l0_0 a0_1 l0_2 t413 t416 t417 t431 t434 t435)) else (laws_FnExactReadSteps.j1 kj11 a1 t420 t421 true l0_0 a0_1 l0_2 t413 t416 t417 t431 t434 t435)) = some r := H
        have A70 := zm A700
        clear A700
        by_cases c71 : t453 = true
        ·
         subst c71
         have H1 : (if t438 = t420 then (laws_FnExactReadSteps.j1 kj11 a1 t420 t421 (t439 != t421) l0_0 a0_1 l0_2 t413 t416 t417 t431 t434 t435) else (laws_FnExactReadSteps.j1 kj11 a1 t420 t421 true l0_0 a0_1 l0_2 t413 t416 t417 t431 t434 t435)) = some r := by rw [if_pos rfl] at H; exact H
         clear H
         have H := H1
         clear H1
         by_cases c72 : t438 = t420
         ·
          rw [if_pos c72] at H
          have c72b0 : (t438 == t420) = true := beq_iff_eq.mpr c72
          have c72b1 : (t438 != t420) = false := bne_eq_false_iff_eq.mpr c72
          clear c72
          have H' := zm H
          clear H
          have hnb73 := NB440_404.out
          have hnc73 := NB404_440.out
          have hnb74 := NB440_422.out
          have hnc74 := NB422_440.out
          have hnb75 := NB440_430.out
          have hnc75 := NB430_440.out
          obtain ⟨hcz76_0, hcz76_1, hcz76_2, hfz76_0, hfz76_1, hfz76_2⟩ := zc3 BK440.out
          have hnb77 := NB422_404.out
          have hnc77 := NB404_422.out
          have hnb78 := NB422_430.out
          have hnc78 := NB430_422.out
          obtain ⟨hcz79_0, hcz79_1, hcz79_2, hfz79_0, hfz79_1, hfz79_2⟩ := zc3 BK422.out
          go_wp2_with (first | (go_at_call 16; (with_reducible refine (laws_eqReader.calls kj11 _ _ t431 t434 _ _ t435 _ _ t413 t416 _ _ t417 true _ ?side1 ?side2 ?side3 ?side4 ?side5 ?side6 ?side7 ?side8 A70.out).mono ?_); (case side1 => repeat (first | exact (Kd.R_reads' HO_441000.out).2.2 | (with_reducible refine Kd.C_alloc ?_ _) | (with_reducible refine Kd.C_drewN ?_ _) | (with_reducible refine Kd.C_drew ?_))); (case side2 => exact (Kd.R_reads' HO_441000.out).2.1); (case side3 => repeat (first | exact (Kd.R_reads' HO_441002.out).2.2 | (with_reducible refine Kd.C_alloc ?_ _) | (with_reducible refine Kd.C_drewN ?_ _) | (with_reducible refine Kd.C_drew ?_))); (case side4 => exact (Kd.R_reads' HO_441002.out).2.1); (case side5 => repeat (first | exact (Kd.R_reads' HO_423000.out).2.2 | (with_reducible refine Kd.C_alloc ?_ _) | (with_reducible refine Kd.C_drewN ?_ _) | (with_reducible refine Kd.C_drew ?_))); (case side6 => exact (Kd.R_reads' HO_423000.out).2.1); (case side7 => repeat (first | exact (Kd.R_reads' HO_423002.out).2.2 | (with_reducible refine Kd.C_alloc ?_ _) | (with_reducible refine Kd.C_drewN ?_ _) | (with_reducible refine Kd.C_drew ?_))); (case side8 => exact (Kd.R_reads' HO_423002.out).2.1); rintro e w80 ⟨rfl, hb⟩; have n0_ := zm (Kd.R_below (by (with_reducible repeat (first | apply Kd.R_alloc | apply Kd.R_drewN | apply Kd.R_drew)); exact HO_423000.out) hb); have n1_ := zm (Kd.R_below (by (with_reducible repeat (first | apply Kd.R_alloc | apply Kd.R_drewN | apply Kd.R_drew)); exact HO_423002.out) hb); have n2_ := zm (Kd.R_below (by (with_reducible repeat (first | apply Kd.R_alloc | apply Kd.R_drewN | apply Kd.R_drew)); exact HO_431000.out) hb); have n3_ := zm (Kd.R_below (by (with_reducible repeat (first | apply Kd.R_alloc | apply Kd.R_drewN | apply Kd.R_drew)); exact HO_431002.out) hb); have n4_ := zm (Kd.R_below (by (with_reducible repeat (first | apply Kd.R_alloc | apply Kd.R_drewN | apply Kd.R_drew)); exact HO_441000.out) hb); have n5_ := zm (Kd.R_below (by (with_reducible repeat (first | apply Kd.R_alloc | apply Kd.R_drewN | apply Kd.R_drew)); exact HO_441002.out) hb); have n6_ := zm (Kd.R_below (by (with_reducible repeat (first | apply Kd.R_alloc | apply Kd.R_drewN | apply Kd.R_drew)); exact HO444.out) hb); have n7_ := zm (Kd.R_below (by (with_reducible repeat (first | apply Kd.R_alloc | apply Kd.R_drewN | apply Kd.R_drew)); exact HO448.out) hb); have n8_ := zm (blk_below (g := gb404) zk hb); have n9_ := zm (blk_below (g := gb422) zk hb); have n10_ := zm (blk_below (g := gb430) zk hb); have n11_ := zm (blk_below (g := gb440) zk hb); have n12_ := zm (below_step zb hb); clear HO_423000; clear HO_423002; clear HO_431000; clear HO_431002; clear HO_441000; clear HO_441002; clear HO444; clear HO448; clear BK404; clear BK422; clear BK430; clear BK440; clear HB; have HO_423000 := n0_; have HO_423002 := n1_; have HO_431000 := n2_; have HO_431002 := n3_; have HO_441000 := n4_; have HO_441002 := n5_; have HO444 := n6_; have HO448 := n7_; have BK404 := n8_; have BK422 := n9_; have BK430 := n10_; have BK440 := n11_; have HB := n12_; clear n0_ n1_ n2_ n3_ n4_ n5_ n6_ n7_ n8_ n9_ n10_ n11_ n12_; (try clear hb); (try clear hb2); (try clear hk); (try clear hi)))
          go_meet
          case rel => exact ⟨_, ((t439 != t421)), (by first | rfl | (simp; done) | (simp [*]; done)), H', ⟨by have := HJ11.out; first | omega | exact Nat.le_refl _⟩, ⟨by (with_reducible repeat (first | apply Kd.R_alloc | apply Kd.R_drewN | apply Kd.R_drew)); exact Kd.R_mono HO_423000.out (fun _ hk => ⟨hk.1, hk.2.1⟩)⟩, ⟨by (with_reducible repeat (first | apply Kd.R_alloc | apply Kd.R_drewN | apply Kd.R_drew)); exact Kd.R_mono HO_423002.out (fun _ hk => ⟨hk.1, hk.2.1⟩)⟩, ⟨by (with_reducible repeat (first | apply Kd.R_alloc | apply Kd.R_drewN | apply Kd.R_drew)); exact Kd.R_mono HO_431000.out (fun _ hk => ⟨hk.1.1, hk.1.2⟩)⟩, ⟨by (with_reducible repeat (first | apply Kd.R_alloc | apply Kd.R_drewN | apply Kd.R_drew)); exact Kd.R_mono HO_431002.out (fun _ hk => ⟨hk.1.1, hk.1.2⟩)⟩, ⟨by (with_reducible repeat (first | apply Kd.R_alloc | apply Kd.R_drewN | apply Kd.R_drew)); exact Kd.R_mono HO_441000.out (fun _ hk => ⟨hk.1, hk.2.1⟩)⟩, ⟨by (with_reducible repeat (first | apply Kd.R_alloc | apply Kd.R_drewN | apply Kd.R_drew)); exact Kd.R_mono HO_441002.out (fun _ hk => ⟨hk.1, hk.2.1⟩)⟩, ⟨zk⟩, ⟨zk⟩, ⟨zk⟩, ⟨zk⟩, ⟨zb⟩⟩
         ·
          rw [if_neg c72] at H
          have c72b0 : (t438 == t420) = false := beq_eq_false_iff_ne.mpr c72
          have c72b1 : (t438 != t420) = true := bne_iff_ne.mpr c72
          exact (laws_FnExactReadSteps.j1_t (H.trans (congrArg some hr_))).elim
        ·
         replace c71 := Bool.eq_false_iff.mpr c71
         subst c71
         have H1 : (laws_FnExactReadSteps.j1 kj11 a1 t420 t421 true l0_0 a0_1 l0_2 t413 t416 t417 t431 t434 t435) = some r := by rw [if_neg (show ¬ (false = true) by decide)] at H; exact H
         clear H
         have H := H1
         clear H1
         exact (laws_FnExactReadSteps.j1_t (H.trans (congrArg some hr_))).elim
      case rest =>
       clear HC58
       try clear c1
       try clear c2
       try clear p2
       try clear c3
       try clear c4
       try clear c4b0
       try clear c5
       try clear c6
       try clear c7
       try clear c12
       try clear c14
       try clear c16
       try clear c17
       try clear c19
       try clear c20
       try clear c23
       try clear c30
       try clear c31
       try clear c37
       try clear c38
       try clear c39
       try clear c43
       try clear c44
       try clear c44b0
       try clear c44b1
       try clear c45
       try clear c46
       try clear c47
       try clear c49
       try clear c50
       try clear c53
       try clear c56
       try clear c64
       try clear c65
       try clear c66
       try clear c69
       try clear c69b0
       try clear c71
       try clear c72
       try clear c72b0
       try clear c72b1
       try clear c73
       try clear c74
       try clear c75
       try clear c77
       try clear c78
       try clear hcz14_0
       try clear hcz14_1
       try clear hcz14_2
       try clear hcz16_0
       try clear hcz16_1
       try clear hcz16_2
       try clear hcz24_0
       try clear hcz24_1
       try clear hcz24_2
       try clear hcz26_0
       try clear hcz26_1
       try clear hcz26_2
       try clear hcz32_0
       try clear hcz32_1
       try clear hcz32_2
       try clear hcz40_0
       try clear hcz40_1
       try clear hcz40_2
       try clear hcz48_0
       try clear hcz48_1
       try clear hcz48_2
       try clear hcz51_0
       try clear hcz51_1
       try clear hcz51_2
       try clear hcz67_0
       try clear hcz67_1
       try clear hcz67_2
       try clear hcz6_0
       try clear hcz6_1
       try clear hcz6_2
       try clear hcz76_0
       try clear hcz76_1
       try clear hcz76_2
       try clear hcz79_0
       try clear hcz79_1
       try clear hcz79_2
       try clear hfz14_0
       try clear hfz14_1
       try clear hfz14_2
       try clear hfz16_0
       try clear hfz16_1
       try clear hfz16_2
       try clear hfz24_0
       try clear hfz24_1
       try clear hfz24_2
       try clear hfz26_0
       try clear hfz26_1
       try clear hfz26_2
       try clear hfz32_0
       try clear hfz32_1
       try clear hfz32_2
       try clear hfz40_0
       try clear hfz40_1
       try clear hfz40_2
       try clear hfz48_0
       try clear hfz48_1
       try clear hfz48_2
       try clear hfz51_0
       try clear hfz51_1
       try clear hfz51_2
       try clear hfz67_0
       try clear hfz67_1
       try clear hfz67_2
       try clear hfz6_0
       try clear hfz6_1
       try clear hfz6_2
       try clear hfz76_0
       try clear hfz76_1
       try clear hfz76_2
       try clear hfz79_0
       try clear hfz79_1
       try clear hfz79_2
       try clear p2
       obtain ⟨kq, x80_57, rfl, HA, HJ57, HO_423000, HO_423002, HO_431000, HO_431002, HO_441000, HO_441002, BK404, BK422, BK430, BK440, HB⟩ := hcut
       have hl431000_57 := (Kd.R_reads' HO_431000.out).1
       rw [hl431000_57] at HO_431000
       (try simp only [hl431000_57])
       (try simp only [hl431000_57] at BK404)
       (try simp only [hl431000_57] at BK422)
       (try simp only [hl431000_57] at BK430)
       (try simp only [hl431000_57] at BK440)
       (try simp only [hl431000_57] at HO_423000)
       (try simp only [hl431000_57] at HO_423002)
       (try simp only [hl431000_57] at HO_431002)
       (try simp only [hl431000_57] at HO_441000)
       (try simp only [hl431000_57] at HO_441002)
       have hl431002_57 := (Kd.R_reads' HO_431002.out).1
       rw [hl431002_57] at HO_431002
       (try simp only [hl431002_57])
       (try simp only [hl431002_57] at BK404)
       (try simp only [hl431002_57] at BK422)
       (try simp only [hl431002_57] at BK430)
       (try simp only [hl431002_57] at BK440)
       (try simp only [hl431002_57] at HO_423000)
       (try simp only [hl431002_57] at HO_423002)
       (try simp only [hl431002_57] at HO_431000)
       (try simp only [hl431002_57] at HO_441000)
       (try simp only [hl431002_57] at HO_441002)
       cases kq with
       | zero => exact absurd HA.out (by simp [laws_FnExactReadSteps.j1])
       | succ kj57 =>
        have H := HA.out
        clear HA
        simp only [laws_FnExactReadSteps.j1] at H
        by_cases c81 : x80_57 = true
        ·
         subst c81
         have H1 : (some false) = some r := by rw [if_pos rfl] at H; exact H
         clear H
         have H := H1
         clear H1
         exact absurd ((Option.some.inj H).trans hr_) (by decide)
        ·
         replace c81 := Bool.eq_false_iff.mpr c81
         subst c81
         have H1 : ((laws_markReader.f kj57 t431 t434 t435 1).bind fun bt454 => ((laws_heldReader.f kj57 bt454.2.1 t434 bt454.2.2 1).bind fun t457 => (if t457 < 0 then (some false) else (if t457 = bt454.1 then ((laws_toReader.f kj57 l0_0 a0_1 l0_2).bind fun bt458 => ((impl_ReadSteps.f kj57 bt458.1 bt458.2.1 bt458.2.2 a1).bind fun bt465 => ((laws_eqReader.f kj57 bt465.1 bt465.2.1 bt465.2.2.1 t413 t416 t417).bind fun t475 => (if t475 = true then (if bt465.2.2.2.1 = t420 then (laws_FnExactReadSteps.j2 kj57 bt454.1 (bt465.2.2.2.2 != t421) bt454.2.1 t434 bt454.2.2) else (laws_FnExactReadSteps.j2 kj57 bt454.1 true bt454.2.1 t434 bt454.2.2)) else (laws_FnExactReadSteps.j2 kj57 bt454.1 true bt454.2.1 t434 bt454.2.2))))) else (some false))))) = some r := by rw [if_neg (show ¬ (false = true) by decide)] at H; exact H
         clear H
         have H := H1
         clear H1
         replace H := Option.bind_eq_some_iff.mp H
         obtain ⟨⟨t454, t455, t456⟩, A820, H⟩ := H
         replace H : ((laws_heldReader.f kj57 t455 t434 t456 1).bind fun t457 => (if t457 < 0 then (some false) else (if t457 = t454 then ((laws_toReader.f kj57 l0_0 a0_1 l0_2).bind fun bt458 => ((impl_ReadSteps.f kj57 bt458.1 bt458.2.1 bt458.2.2 a1).bind fun bt465 => ((laws_eqReader.f kj57 bt465.1 bt465.2.1 bt465.2.2.1 t413 t416 t417).bind fun t475 => (if t475 = true then (if bt465.2.2.2.1 = t420 then (laws_FnExactReadSteps.j2 kj57 t454 (bt465.2.2.2.2 != t421) t455 t434 t456) else (laws_FnExactReadSteps.j2 kj57 t454 true t455 t434 t456)) else (laws_FnExactReadSteps.j2 kj57 t454 true t455 t434 t456))))) else (some false)))) = some r := H
         have A82 := zm A820
         clear A820
         replace H := Option.bind_eq_some_iff.mp H
         obtain ⟨t457, A830, H⟩ := H
         replace H : (if t457 < 0 then (some false) else (if t457 = t454 then ((laws_toReader.f kj57 l0_0 a0_1 l0_2).bind fun bt458 => ((impl_ReadSteps.f kj57 bt458.1 bt458.2.1 bt458.2.2 a1).bind fun bt465 => ((laws_eqReader.f kj57 bt465.1 bt465.2.1 bt465.2.2.1 t413 t416 t417).bind fun t475 => (if t475 = true then (if bt465.2.2.2.1 = t420 then (laws_FnExactReadSteps.j2 kj57 t454 (bt465.2.2.2.2 != t421) t455 t434 t456) else (laws_FnExactReadSteps.j2 kj57 t454 true t455 t434 t456)) else (laws_FnExactReadSteps.j2 kj57 t454 true t455 t434 t456))))) else (some false))) = some r := H
         have A83 := zm A830
         clear A830
         by_cases c84 : t457 < 0
         ·
          rw [if_pos c84] at H
          have c84b0 : decide (t457 < 0) = true := decide_eq_true c84
          clear c84
          exact absurd ((Option.some.inj H).trans hr_) (by decide)
         ·
          rw [if_neg c84] at H
          have c84b0 : decide (t457 < 0) = false := decide_eq_false c84
          clear c84
          by_cases c85 : t457 = t454
          ·
           rw [if_pos c85] at H
           have c85b0 : (t457 == t454) = true := beq_iff_eq.mpr c85
           have c85b1 : (t457 != t454) = false := bne_eq_false_iff_eq.mpr c85
           clear c85
           replace H := Option.bind_eq_some_iff.mp H
           obtain ⟨⟨t458, t461, t462⟩, A860, H⟩ := H
           replace H : ((impl_ReadSteps.f kj57 t458 t461 t462 a1).bind fun bt465 => ((laws_eqReader.f kj57 bt465.1 bt465.2.1 bt465.2.2.1 t413 t416 t417).bind fun t475 => (if t475 = true then (if bt465.2.2.2.1 = t420 then (laws_FnExactReadSteps.j2 kj57 t454 (bt465.2.2.2.2 != t421) t455 t434 t456) else (laws_FnExactReadSteps.j2 kj57 t454 true t455 t434 t456)) else (laws_FnExactReadSteps.j2 kj57 t454 true t455 t434 t456)))) = some r := H
           have A86 := zm A860
           clear A860
           replace H := Option.bind_eq_some_iff.mp H
           obtain ⟨⟨t465, t468, t469, t472, t473⟩, A870, H⟩ := H
           replace H : ((laws_eqReader.f kj57 t465 t468 t469 t413 t416 t417).bind fun t475 => (if t475 = true then (if t472 = t420 then (laws_FnExactReadSteps.j2 kj57 t454 (t473 != t421) t455 t434 t456) else (laws_FnExactReadSteps.j2 kj57 t454 true t455 t434 t456)) else (laws_FnExactReadSteps.j2 kj57 t454 true t455 t434 t456))) = some r := H
           have A87 := zm A870
           clear A870
           have HC88 := zm H
           clear H
           have hnb89 := NB440_404.out
           have hnc89 := NB404_440.out
           have hnb90 := NB440_422.out
           have hnc90 := NB422_440.out
           have hnb91 := NB440_430.out
           have hnc91 := NB430_440.out
           obtain ⟨hcz92_0, hcz92_1, hcz92_2, hfz92_0, hfz92_1, hfz92_2⟩ := zc3 BK440.out
           go_upto_region 25 with (first | ((with_reducible refine gate_callee (f := 17) rfl ?_); refine goesL_ (some 83) rfl rfl Try.func17 (by kernel_rfl) rfl #[.agg #[.slice Ao36 t431.length co36, .int .i64 t434, .slice Ao41 t435.length co41], .int .i64 1] rfl (by (try simp only [List.map_toArray, List.map_cons, List.map_nil]); first | done | rfl | (simp only [List.length_drop, List.length_take]; rfl)) ?_; (with_reducible refine (laws_markReader.calls kj57 (fun k_ => some k_ = (.slice Ao36 t431.length co36 : Value).ownBlock) (.slice Ao36 t431.length co36) t431 t434 (fun k_ => some k_ = (.slice Ao41 t435.length co41 : Value).ownBlock) (.slice Ao41 t435.length co41) t435 1 t454 t455 t456 w _ ?side1 ?side2 ?side3 A82.out).mono ?_); (case side1 => repeat (first | (with_reducible first | exact HB.out | apply below_alloc | apply pw_below_drewN | apply below_drew1 | refine below_set ?_ GE404.out | refine below_set ?_ GE422.out | refine below_set ?_ GE430.out | refine below_set ?_ GE440.out) | exact HB.out)); (case side2 => exact Kd.R_tight rfl HO_441000.out); (case side3 => exact Kd.R_tight rfl HO_441002.out); rintro e w93 ⟨rfl, hy0, hy1, hb, hkp⟩; refine ⟨_, rfl, ?_⟩; have n0_ := zm (Kd.R_mono (ok' := fun k_ => some k_ ≠ (.slice Ao29 t451.length co29 : Value).ownBlock ∧ some k_ ≠ (.slice Ao36 t431.length co36 : Value).ownBlock) (Kd.R_keptB ((Kd.R_apart' HO_423000.out (Kd.R_typed HO_441002.out) (by decide))) hkp (fun k_ hk_ hs_ => Or.elim hs_ (fun e_ => (hk_.1.2) e_) (fun e_ => (hk_.2) e_))) (fun k_ hk_ => ⟨hk_.1.1.1, hk_.1.1.2⟩)); have n1_ := zm (Kd.R_mono (ok' := fun k_ => some k_ ≠ (.slice Ao33 t452.length co33 : Value).ownBlock ∧ some k_ ≠ (.slice Ao41 t435.length co41 : Value).ownBlock) (Kd.R_keptB ((Kd.R_apart' HO_423002.out (Kd.R_typed HO_441000.out) (by decide))) hkp (fun k_ hk_ hs_ => Or.elim hs_ (fun e_ => (hk_.2) e_) (fun e_ => (hk_.1.2) e_))) (fun k_ hk_ => ⟨hk_.1.1.1, hk_.1.1.2⟩)); have n2_ := zm (Kd.R_mono (ok' := fun k_ => some k_ ≠ (.slice Ao22 t413.length co22 : Value).ownBlock ∧ some k_ ≠ (.slice Ao36 t431.length co36 : Value).ownBlock) (Kd.R_keptB ((Kd.R_apart' HO_431000.out (Kd.R_typed HO_441002.out) (by decide))) hkp (fun k_ hk_ hs_ => Or.elim hs_ (fun e_ => (hk_.1.2) e_) (fun e_ => (hk_.2) e_))) (fun k_ hk_ => ⟨hk_.1.1.1, hk_.1.1.2⟩)); have n3_ := zm (Kd.R_mono (ok' := fun k_ => some k_ ≠ (.slice Ao25 t417.length co25 : Value).ownBlock ∧ some k_ ≠ (.slice Ao41 t435.length co41 : Value).ownBlock) (Kd.R_keptB ((Kd.R_apart' HO_431002.out (Kd.R_typed HO_441000.out) (by decide))) hkp (fun k_ hk_ hs_ => Or.elim hs_ (fun e_ => (hk_.2) e_) (fun e_ => (hk_.1.2) e_))) (fun k_ hk_ => ⟨hk_.1.1.1, hk_.1.1.2⟩)); have n4_ := zm (Kd.R_reok rfl hy0 (fun k_ e_ => HO_441000.out.1 k_ e_)); have n5_ := zm (Kd.R_reok rfl hy1 (fun k_ e_ => HO_441002.out.1 k_ e_)); have n6_ := zm (blk_kept zk hkp (fun hs_ => Or.elim hs_ (fun e_ => (fun e_ => (Kd.R_ne HO_441000.out BK404.out (by decide)) e_) e_) (fun e_ => (fun e_ => (Kd.R_ne HO_441002.out BK404.out (by decide)) e_) e_))); have n7_ := zm (blk_kept zk hkp (fun hs_ => Or.elim hs_ (fun e_ => (fun e_ => (Kd.R_ne HO_441000.out BK422.out (by decide)) e_) e_) (fun e_ => (fun e_ => (Kd.R_ne HO_441002.out BK422.out (by decide)) e_) e_))); have n8_ := zm (blk_kept zk hkp (fun hs_ => Or.elim hs_ (fun e_ => (fun e_ => (Kd.R_ne HO_441000.out BK430.out (by decide)) e_) e_) (fun e_ => (fun e_ => (Kd.R_ne HO_441002.out BK430.out (by decide)) e_) e_))); have n9_ := zm (blk_kept zk hkp (fun hs_ => Or.elim hs_ (fun e_ => (fun e_ => (Kd.R_ne HO_441000.out BK440.out (by decide)) e_) e_) (fun e_ => (fun e_ => (Kd.R_ne HO_441002.out BK440.out (by decide)) e_) e_))); have n10_ := zm (hb); clear HO_423000; clear HO_423002; clear HO_431000; clear HO_431002; clear HO_441000; clear HO_441002; clear BK404; clear BK422; clear BK430; clear BK440; clear HB; have HO_423000 := n0_; have HO_423002 := n1_; have HO_431000 := n2_; have HO_431002 := n3_; have HO_441000 := n4_; have HO_441002 := n5_; have BK404 := n6_; have BK422 := n7_; have BK430 := n8_; have BK440 := n9_; have HB := n10_; clear n0_ n1_ n2_ n3_ n4_ n5_ n6_ n7_ n8_ n9_ n10_; (try clear hb); (try clear hkp); (try clear hy0); (try clear hy1); obtain ⟨hcz94_0, hcz94_1, hcz94_2, hfz94_0, hfz94_1, hfz94_2⟩ := zc3 BK440.out) | ((with_reducible refine gate_callee (f := 18) rfl ?_); refine goesL_ (some 86) rfl rfl Try.func18 (by kernel_rfl) rfl #[.agg #[.slice Ao36 t455.length co36, .int .i64 t434, .slice Ao41 t456.length co41], .int .i64 1] rfl (by (try simp only [List.map_toArray, List.map_cons, List.map_nil]); first | done | (rw [show t455.length = t431.length from (Kd.R_reads' HO_441000.out).1.symm, show t456.length = t435.length from (Kd.R_reads' HO_441002.out).1.symm] <;> rfl) | rfl | (simp only [List.length_drop, List.length_take]; rfl)) ?_; (with_reducible refine (laws_heldReader.calls kj57 _ _ t455 t434 _ _ t456 1 t457 _ ?side1 ?side2 ?side3 ?side4 A83.out).mono ?_); (case side1 => repeat (first | exact (Kd.R_reads' HO_441000.out).2.2 | (with_reducible refine Kd.C_alloc ?_ _) | (with_reducible refine Kd.C_drewN ?_ _) | (with_reducible refine Kd.C_drew ?_))); (case side2 => rw [show t455.length = t431.length from (Kd.R_reads' HO_441000.out).1.symm]; exact (Kd.R_reads' HO_441000.out).2.1); (case side3 => repeat (first | exact (Kd.R_reads' HO_441002.out).2.2 | (with_reducible refine Kd.C_alloc ?_ _) | (with_reducible refine Kd.C_drewN ?_ _) | (with_reducible refine Kd.C_drew ?_))); (case side4 => rw [show t456.length = t435.length from (Kd.R_reads' HO_441002.out).1.symm]; exact (Kd.R_reads' HO_441002.out).2.1); rintro e w95 ⟨rfl, hb⟩; refine ⟨_, rfl, ?_⟩; have n0_ := zm (Kd.R_below (by (with_reducible repeat (first | apply Kd.R_alloc | apply Kd.R_drewN | apply Kd.R_drew)); exact HO_423000.out) hb); have n1_ := zm (Kd.R_below (by (with_reducible repeat (first | apply Kd.R_alloc | apply Kd.R_drewN | apply Kd.R_drew)); exact HO_423002.out) hb); have n2_ := zm (Kd.R_below (by (with_reducible repeat (first | apply Kd.R_alloc | apply Kd.R_drewN | apply Kd.R_drew)); exact HO_431000.out) hb); have n3_ := zm (Kd.R_below (by (with_reducible repeat (first | apply Kd.R_alloc | apply Kd.R_drewN | apply Kd.R_drew)); exact HO_431002.out) hb); have n4_ := zm (Kd.R_below (by (with_reducible repeat (first | apply Kd.R_alloc | apply Kd.R_drewN | apply Kd.R_drew)); exact HO_441000.out) hb); have n5_ := zm (Kd.R_below (by (with_reducible repeat (first | apply Kd.R_alloc | apply Kd.R_drewN | apply Kd.R_drew)); exact HO_441002.out) hb); have n6_ := zm (blk_below (g := gb404) zk hb); have n7_ := zm (blk_below (g := gb422) zk hb); have n8_ := zm (blk_below (g := gb430) zk hb); have n9_ := zm (blk_below (g := gb440) zk hb); have n10_ := zm (below_step zb hb); clear HO_423000; clear HO_423002; clear HO_431000; clear HO_431002; clear HO_441000; clear HO_441002; clear BK404; clear BK422; clear BK430; clear BK440; clear HB; have HO_423000 := n0_; have HO_423002 := n1_; have HO_431000 := n2_; have HO_431002 := n3_; have HO_441000 := n4_; have HO_441002 := n5_; have BK404 := n6_; have BK422 := n7_; have BK430 := n8_; have BK440 := n9_; have HB := n10_; clear n0_ n1_ n2_ n3_ n4_ n5_ n6_ n7_ n8_ n9_ n10_; (try clear hb); (try clear hb2); (try clear hk); (try clear hi); have hnb96 := NB404_422.out; have hnc96 := NB422_404.out; have hnb97 := NB404_430.out; have hnc97 := NB430_404.out; obtain ⟨hcz98_0, hcz98_1, hcz98_2, hfz98_0, hfz98_1, hfz98_2⟩ := zc3 BK404.out) | ((with_reducible refine gate_callee (f := 14) rfl ?_); refine goesL_ (some 94) rfl rfl Try.func14 (by kernel_rfl) rfl #[.agg #[.slice A0_0 l0_0.length c0_0, .int .i64 a0_1, .slice A0_2 l0_2.length c0_2]] rfl (by (try simp only [List.map_toArray, List.map_cons, List.map_nil]); first | done | rfl | (simp only [List.length_drop, List.length_take]; rfl)) ?_; (with_reducible refine (laws_toReader.calls kj57 _ _ l0_0 a0_1 _ _ l0_2 t458 t461 t462 _ ?side1 ?side2 ?side3 ?side4 A86.out).mono ?_); (case side1 => repeat (first | exact (Kd.C_below HR0_0.out HB.out) | (with_reducible refine Kd.C_alloc ?_ _) | (with_reducible refine Kd.C_drewN ?_ _) | (with_reducible refine Kd.C_drew ?_))); (case side2 => exact HC0_0.out); (case side3 => repeat (first | exact (Kd.C_below HR0_2.out HB.out) | (with_reducible refine Kd.C_alloc ?_ _) | (with_reducible refine Kd.C_drewN ?_ _) | (with_reducible refine Kd.C_drew ?_))); (case side4 => exact HC0_2.out); rintro e w99 ⟨v459, v463, rfl, ho0, ho1, hb⟩; refine ⟨_, rfl, ?_⟩; have n0_ := zm (Kd.R_elder' (by (with_reducible repeat (first | apply Kd.R_alloc | apply Kd.R_drewN | apply Kd.R_drew)); exact HO_423000.out) (Kd.R_base ho0) hb); have n1_ := zm (Kd.R_elder' (by (with_reducible repeat (first | apply Kd.R_alloc | apply Kd.R_drewN | apply Kd.R_drew)); exact HO_423002.out) (Kd.R_base ho1) hb); have n2_ := zm (Kd.R_elder' (by (with_reducible repeat (first | apply Kd.R_alloc | apply Kd.R_drewN | apply Kd.R_drew)); exact HO_431000.out) (Kd.R_base ho0) hb); have n3_ := zm (Kd.R_elder' (by (with_reducible repeat (first | apply Kd.R_alloc | apply Kd.R_drewN | apply Kd.R_drew)); exact HO_431002.out) (Kd.R_base ho1) hb); have n4_ := zm (Kd.R_elder' (by (with_reducible repeat (first | apply Kd.R_alloc | apply Kd.R_drewN | apply Kd.R_drew)); exact HO_441000.out) (Kd.R_base ho0) hb); have n5_ := zm (Kd.R_elder' (by (with_reducible repeat (first | apply Kd.R_alloc | apply Kd.R_drewN | apply Kd.R_drew)); exact HO_441002.out) (Kd.R_base ho1) hb); have n6_ := zm (Kd.R_lower (Kd.R_new' (Kd.R_new' (Kd.R_new' ho0 (Kd.R_lt (by (with_reducible repeat (first | apply Kd.R_alloc | apply Kd.R_drewN | apply Kd.R_drew)); exact HO_423000.out))) (Kd.R_lt (by (with_reducible repeat (first | apply Kd.R_alloc | apply Kd.R_drewN | apply Kd.R_drew)); exact HO_431000.out))) (Kd.R_lt (by (with_reducible repeat (first | apply Kd.R_alloc | apply Kd.R_drewN | apply Kd.R_drew)); exact HO_441000.out))) (below_size zb)); have n7_ := zm (Kd.R_lower (Kd.R_new' (Kd.R_new' (Kd.R_new' ho1 (Kd.R_lt (by (with_reducible repeat (first | apply Kd.R_alloc | apply Kd.R_drewN | apply Kd.R_drew)); exact HO_423002.out))) (Kd.R_lt (by (with_reducible repeat (first | apply Kd.R_alloc | apply Kd.R_drewN | apply Kd.R_drew)); exact HO_431002.out))) (Kd.R_lt (by (with_reducible repeat (first | apply Kd.R_alloc | apply Kd.R_drewN | apply Kd.R_drew)); exact HO_441002.out))) (below_size zb)); have n8_ := zm (blk_below (g := gb404) zk hb); have n9_ := zm (blk_below (g := gb422) zk hb); have n10_ := zm (blk_below (g := gb430) zk hb); have n11_ := zm (blk_below (g := gb440) zk hb); have n12_ := zm (below_step zb hb); clear HO_423000; clear HO_423002; clear HO_431000; clear HO_431002; clear HO_441000; clear HO_441002; clear BK404; clear BK422; clear BK430; clear BK440; clear HB; have HO_423000 := n0_; have HO_423002 := n1_; have HO_431000 := n2_; have HO_431002 := n3_; have HO_441000 := n4_; have HO_441002 := n5_; have HO460 := n6_; have HO464 := n7_; have BK404 := n8_; have BK422 := n9_; have BK430 := n10_; have BK440 := n11_; have HB := n12_; clear n0_ n1_ n2_ n3_ n4_ n5_ n6_ n7_ n8_ n9_ n10_ n11_ n12_; (try clear hb); (try clear hb2); (try clear hk); (try clear hi); (try clear ho0); (try clear ho1); obtain ⟨Ao100, co100, eo100⟩ := Kd.R_slice HO460.out; subst eo100; obtain ⟨Ao101, co101, eo101⟩ := Kd.R_slice HO464.out; subst eo101) | ((with_reducible refine gate_callee (f := 20) rfl ?_); refine goesL_ (some 96) rfl rfl Try.func20 (by kernel_rfl) rfl #[.agg #[.slice Ao100 t458.length co100, .int .i64 t461, .slice Ao101 t462.length co101], .int .i64 a1] rfl (by (try simp only [List.map_toArray, List.map_cons, List.map_nil]); first | done | rfl | (simp only [List.length_drop, List.length_take]; rfl)) ?_; (with_reducible refine (impl_ReadSteps.calls kj57 _ _ t458 t461 _ _ t462 a1 t465 t468 t469 t472 t473 _ ?side1 ?side2 ?side3 ?side4 A87.out).mono ?_); (case side1 => repeat (first | exact (Kd.R_reads' HO460.out).2.2 | (with_reducible refine Kd.C_alloc ?_ _) | (with_reducible refine Kd.C_drewN ?_ _) | (with_reducible refine Kd.C_drew ?_))); (case side2 => exact (Kd.R_reads' HO460.out).2.1); (case side3 => repeat (first | exact (Kd.R_reads' HO464.out).2.2 | (with_reducible refine Kd.C_alloc ?_ _) | (with_reducible refine Kd.C_drewN ?_ _) | (with_reducible refine Kd.C_drew ?_))); (case side4 => exact (Kd.R_reads' HO464.out).2.1); rintro e w102 ⟨v466, v470, rfl, ho0, ho1, hb⟩; refine ⟨_, rfl, ?_⟩; have n0_ := zm (Kd.R_elder' (by (with_reducible repeat (first | apply Kd.R_alloc | apply Kd.R_drewN | apply Kd.R_drew)); exact HO_423000.out) (Kd.R_base ho0) hb); have n1_ := zm (Kd.R_elder' (by (with_reducible repeat (first | apply Kd.R_alloc | apply Kd.R_drewN | apply Kd.R_drew)); exact HO_423002.out) (Kd.R_base ho1) hb); have n2_ := zm (Kd.R_elder' (by (with_reducible repeat (first | apply Kd.R_alloc | apply Kd.R_drewN | apply Kd.R_drew)); exact HO_431000.out) (Kd.R_base ho0) hb); have n3_ := zm (Kd.R_elder' (by (with_reducible repeat (first | apply Kd.R_alloc | apply Kd.R_drewN | apply Kd.R_drew)); exact HO_431002.out) (Kd.R_base ho1) hb); have n4_ := zm (Kd.R_elder' (by (with_reducible repeat (first | apply Kd.R_alloc | apply Kd.R_drewN | apply Kd.R_drew)); exact HO_441000.out) (Kd.R_base ho0) hb); have n5_ := zm (Kd.R_elder' (by (with_reducible repeat (first | apply Kd.R_alloc | apply Kd.R_drewN | apply Kd.R_drew)); exact HO_441002.out) (Kd.R_base ho1) hb); have n6_ := zm (Kd.R_elder' (by (with_reducible repeat (first | apply Kd.R_alloc | apply Kd.R_drewN | apply Kd.R_drew)); exact HO460.out) (Kd.R_base ho0) hb); have n7_ := zm (Kd.R_elder' (by (with_reducible repeat (first | apply Kd.R_alloc | apply Kd.R_drewN | apply Kd.R_drew)); exact HO464.out) (Kd.R_base ho1) hb); have n8_ := zm (Kd.R_lower (Kd.R_new' (Kd.R_new' (Kd.R_new' (Kd.R_new' ho0 (Kd.R_lt (by (with_reducible repeat (first | apply Kd.R_alloc | apply Kd.R_drewN | apply Kd.R_drew)); exact HO_423000.out))) (Kd.R_lt (by (with_reducible repeat (first | apply Kd.R_alloc | apply Kd.R_drewN | apply Kd.R_drew)); exact HO_431000.out))) (Kd.R_lt (by (with_reducible repeat (first | apply Kd.R_alloc | apply Kd.R_drewN | apply Kd.R_drew)); exact HO_441000.out))) (Kd.R_lt (by (with_reducible repeat (first | apply Kd.R_alloc | apply Kd.R_drewN | apply Kd.R_drew)); exact HO460.out))) (below_size zb)); have n9_ := zm (Kd.R_lower (Kd.R_new' (Kd.R_new' (Kd.R_new' (Kd.R_new' ho1 (Kd.R_lt (by (with_reducible repeat (first | apply Kd.R_alloc | apply Kd.R_drewN | apply Kd.R_drew)); exact HO_423002.out))) (Kd.R_lt (by (with_reducible repeat (first | apply Kd.R_alloc | apply Kd.R_drewN | apply Kd.R_drew)); exact HO_431002.out))) (Kd.R_lt (by (with_reducible repeat (first | apply Kd.R_alloc | apply Kd.R_drewN | apply Kd.R_drew)); exact HO_441002.out))) (Kd.R_lt (by (with_reducible repeat (first | apply Kd.R_alloc | apply Kd.R_drewN | apply Kd.R_drew)); exact HO464.out))) (below_size zb)); have n10_ := zm (blk_below (g := gb404) zk hb); have n11_ := zm (blk_below (g := gb422) zk hb); have n12_ := zm (blk_below (g := gb430) zk hb); have n13_ := zm (blk_below (g := gb440) zk hb); have n14_ := zm (below_step zb hb); clear HO_423000; clear HO_423002; clear HO_431000; clear HO_431002; clear HO_441000; clear HO_441002; clear HO460; clear HO464; clear BK404; clear BK422; clear BK430; clear BK440; clear HB; have HO_423000 := n0_; have HO_423002 := n1_; have HO_431000 := n2_; have HO_431002 := n3_; have HO_441000 := n4_; have HO_441002 := n5_; have HO460 := n6_; have HO464 := n7_; have HO467 := n8_; have HO471 := n9_; have BK404 := n10_; have BK422 := n11_; have BK430 := n12_; have BK440 := n13_; have HB := n14_; clear n0_ n1_ n2_ n3_ n4_ n5_ n6_ n7_ n8_ n9_ n10_ n11_ n12_ n13_ n14_; (try clear hb); (try clear hb2); (try clear hk); (try clear hi); (try clear ho0); (try clear ho1)) | ((with_reducible refine gate_dst (N := 16) rfl ?_); refine box_event ?hg (N := 16) ?hd (cs := #[.slice none 0 0, .int .i64 0, .slice none 0 0]) (t := 29) ?hr ?_; (case hd => rfl); (case hg => rfl); (case hr => first | (go_simp; done) | (go_simp; rfl)); intro gb474 hg w103 hbox hb; have n0_ := zm (Kd.R_below (by (with_reducible repeat (first | apply Kd.R_alloc | apply Kd.R_drewN | apply Kd.R_drew)); exact HO_423000.out) hb); have n1_ := zm (Kd.R_below (by (with_reducible repeat (first | apply Kd.R_alloc | apply Kd.R_drewN | apply Kd.R_drew)); exact HO_423002.out) hb); have n2_ := zm (Kd.R_below (by (with_reducible repeat (first | apply Kd.R_alloc | apply Kd.R_drewN | apply Kd.R_drew)); exact HO_431000.out) hb); have n3_ := zm (Kd.R_below (by (with_reducible repeat (first | apply Kd.R_alloc | apply Kd.R_drewN | apply Kd.R_drew)); exact HO_431002.out) hb); have n4_ := zm (Kd.R_below (by (with_reducible repeat (first | apply Kd.R_alloc | apply Kd.R_drewN | apply Kd.R_drew)); exact HO_441000.out) hb); have n5_ := zm (Kd.R_below (by (with_reducible repeat (first | apply Kd.R_alloc | apply Kd.R_drewN | apply Kd.R_drew)); exact HO_441002.out) hb); have n6_ := zm (Kd.R_below (by (with_reducible repeat (first | apply Kd.R_alloc | apply Kd.R_drewN | apply Kd.R_drew)); exact HO460.out) hb); have n7_ := zm (Kd.R_below (by (with_reducible repeat (first | apply Kd.R_alloc | apply Kd.R_drewN | apply Kd.R_drew)); exact HO464.out) hb); have n8_ := zm (Kd.R_below (by (with_reducible repeat (first | apply Kd.R_alloc | apply Kd.R_drewN | apply Kd.R_drew)); exact HO467.out) hb); have n9_ := zm (Kd.R_below (by (with_reducible repeat (first | apply Kd.R_alloc | apply Kd.R_drewN | apply Kd.R_drew)); exact HO471.out) hb); have n10_ := zm (blk_below (g := gb404) zk hb); have n11_ := zm (blk_below (g := gb422) zk hb); have n12_ := zm (blk_below (g := gb430) zk hb); have n13_ := zm (blk_below (g := gb440) zk hb); have n14_ := zm (below_step zb hb); have n15_ := zm (hbox); have n16_ := zm (zs hg zb : w.heap.size ≤ gb474); have n17_ := zm (zs hg zb : w.heap.size ≤ gb474); have n18_ := zm (zl hg zk : gb404 ≠ gb474); have n19_ := zm (zg hg zk : gb474 ≠ gb404); have n20_ := zm (zl hg zk : gb422 ≠ gb474); have n21_ := zm (zg hg zk : gb474 ≠ gb422); have n22_ := zm (zl hg zk : gb430 ≠ gb474); have n23_ := zm (zg hg zk : gb474 ≠ gb430); have n24_ := zm (zl hg zk : gb440 ≠ gb474); have n25_ := zm (zg hg zk : gb474 ≠ gb440); clear HO_423000; clear HO_423002; clear HO_431000; clear HO_431002; clear HO_441000; clear HO_441002; clear HO460; clear HO464; clear HO467; clear HO471; clear BK404; clear BK422; clear BK430; clear BK440; clear HB; have HO_423000 := n0_; have HO_423002 := n1_; have HO_431000 := n2_; have HO_431002 := n3_; have HO_441000 := n4_; have HO_441002 := n5_; have HO460 := n6_; have HO464 := n7_; have HO467 := n8_; have HO471 := n9_; have BK404 := n10_; have BK422 := n11_; have BK430 := n12_; have BK440 := n13_; have HB := n14_; have BK474 := n15_; have GW474 := n16_; have GE474 := n17_; have NB404_474 := n18_; have NB474_404 := n19_; have NB422_474 := n20_; have NB474_422 := n21_; have NB430_474 := n22_; have NB474_430 := n23_; have NB440_474 := n24_; have NB474_440 := n25_; clear n0_ n1_ n2_ n3_ n4_ n5_ n6_ n7_ n8_ n9_ n10_ n11_ n12_ n13_ n14_ n15_ n16_ n17_ n18_ n19_ n20_ n21_ n22_ n23_ n24_ n25_; clear hb hbox hg; obtain ⟨Ao104, co104, eo104⟩ := Kd.R_slice HO467.out; subst eo104; have hnb105 := NB474_404.out; have hnc105 := NB404_474.out; have hnb106 := NB474_422.out; have hnc106 := NB422_474.out; have hnb107 := NB474_430.out; have hnc107 := NB430_474.out; have hnb108 := NB474_440.out; have hnc108 := NB440_474.out; obtain ⟨hcz109_0, hcz109_1, hcz109_2, hfz109_0, hfz109_1, hfz109_2⟩ := zc3 BK474.out; obtain ⟨Ao110, co110, eo110⟩ := Kd.R_slice HO471.out; subst eo110))
           (try simp only [Act.put, List.setIfInBounds_toArray, List.set_cons_zero, List.set_cons_succ])
           go_cut [113] (fun v113 wc => ∃ (kq : Nat) (x113_87 : Bool), v113 = .bool x113_87 ∧ Aside0 (laws_FnExactReadSteps.j2 kq t454 x113_87 t455 t434 t456 = some r) ∧ Aside0 (kq ≤ kj57) ∧ Aside0 (Kd.R k137 137 wc w.heap.size (fun k_ => some k_ ≠ ((.slice Ao29 t451.length co29) : Value).ownBlock ∧ some k_ ≠ ((.slice Ao36 t431.length co36) : Value).ownBlock ∧ some k_ ≠ ((.slice Ao104 t465.length co104) : Value).ownBlock) (.slice Ao22 t413.length co22) t413) ∧ Aside0 (Kd.R (Kd.int .i64) 3 wc w.heap.size (fun k_ => some k_ ≠ ((.slice Ao33 t452.length co33) : Value).ownBlock ∧ some k_ ≠ ((.slice Ao41 t435.length co41) : Value).ownBlock ∧ some k_ ≠ ((.slice Ao110 t469.length co110) : Value).ownBlock) (.slice Ao25 t417.length co25) t417) ∧ Aside0 (Kd.R k137 137 wc w.heap.size (fun k_ => some k_ ≠ ((.slice Ao22 t413.length co22) : Value).ownBlock ∧ some k_ ≠ ((.slice Ao36 t431.length co36) : Value).ownBlock ∧ some k_ ≠ ((.slice Ao104 t465.length co104) : Value).ownBlock) (.slice Ao29 t451.length co29) t451) ∧ Aside0 (Kd.R (Kd.int .i64) 3 wc w.heap.size (fun k_ => some k_ ≠ ((.slice Ao25 t417.length co25) : Value).ownBlock ∧ some k_ ≠ ((.slice Ao41 t435.length co41) : Value).ownBlock ∧ some k_ ≠ ((.slice Ao110 t469.length co110) : Value).ownBlock) (.slice Ao33 t452.length co33) t452) ∧ Aside0 (Kd.R k137 137 wc w.heap.size (fun k_ => some k_ ≠ ((.slice Ao22 t413.length co22) : Value).ownBlock ∧ some k_ ≠ ((.slice Ao29 t451.length co29) : Value).ownBlock ∧ some k_ ≠ ((.slice Ao104 t465.length co104) : Value).ownBlock) (.slice Ao36 t431.length co36) t455) ∧ Aside0 (Kd.R (Kd.int .i64) 3 wc w.heap.size (fun k_ => some k_ ≠ ((.slice Ao25 t417.length co25) : Value).ownBlock ∧ some k_ ≠ ((.slice Ao33 t452.length co33) : Value).ownBlock ∧ some k_ ≠ ((.slice Ao110 t469.length co110) : Value).ownBlock) (.slice Ao41 t435.length co41) t456) ∧ Aside0 (Kd.R k137 137 wc w.heap.size (fun k_ => some k_ ≠ ((.slice Ao22 t413.length co22) : Value).ownBlock ∧ some k_ ≠ ((.slice Ao29 t451.length co29) : Value).ownBlock ∧ some k_ ≠ ((.slice Ao36 t431.length co36) : Value).ownBlock) (.slice Ao104 t465.length co104) t465) ∧ Aside0 (Kd.R (Kd.int .i64) 3 wc w.heap.size (fun k_ => some k_ ≠ ((.slice Ao25 t417.length co25) : Value).ownBlock ∧ some k_ ≠ ((.slice Ao33 t452.length co33) : Value).ownBlock ∧ some k_ ≠ ((.slice Ao41 t435.length co41) : Value).ownBlock) (.slice Ao110 t469.length co110) t469) ∧ Aside0 (wc.heap[gb404]? = some (.cells #[(.slice A0_0 l0_0.length c0_0), .int .i64 a0_1, (.slice A0_2 l0_2.length c0_2)] 25 (0, 0))) ∧ Aside0 (wc.heap[gb422]? = some (.cells #[(.slice Ao22 t413.length co22), .int .i64 t416, (.slice Ao25 t417.length co25)] 29 (0, 0))) ∧ Aside0 (wc.heap[gb430]? = some (.cells #[(.slice Ao29 t451.length co29), .int .i64 t426, (.slice Ao33 t452.length co33)] 29 (0, 0))) ∧ Aside0 (wc.heap[gb440]? = some (.cells #[(.slice Ao36 t431.length co36), .int .i64 t434, (.slice Ao41 t435.length co41)] 29 (0, 0))) ∧ Aside0 (wc.heap[gb474]? = some (.cells #[(.slice Ao104 t465.length co104), .int .i64 t468, (.slice Ao110 t469.length co110)] 29 (0, 0))) ∧ Aside0 (Below w.heap.size w wc))
           case first =>
            have H := HC88.out
            clear HC88
            replace H := Option.bind_eq_some_iff.mp H
            obtain ⟨t475, A1110, H⟩ := H
            replace H : (if t475 = true then (if t472 = t420 then (laws_FnExactReadSteps.j2 kj57 t454 (t473 != t421) t455 t434 t456) else (laws_FnExactReadSteps.j2 kj57 t454 true t455 t434 t456)) else (laws_FnExactReadSteps.j2 kj57 t454 true t455 t434 t456)) = some r := H
            have A111 := zm A1110
            clear A1110
            by_cases c112 : t475 = true
            ·
             subst c112
             have H1 : (if t472 = t420 then (laws_FnExactReadSteps.j2 kj57 t454 (t473 != t421) t455 t434 t456) else (laws_FnExactReadSteps.j2 kj57 t454 true t455 t434 t456)) = some r := by rw [if_pos rfl] at H; exact H
             clear H
             have H := H1
             clear H1
             by_cases c113 : t472 = t420
             ·
              rw [if_pos c113] at H
              have c113b0 : (t472 == t420) = true := beq_iff_eq.mpr c113
              have c113b1 : (t472 != t420) = false := bne_eq_false_iff_eq.mpr c113
              clear c113
              (first | rw [c113b0] | (simp only [i64_w, i32_w]; rw [c113b0]) | skip)
              have H' := zm H
              clear H
              have hnb114 := NB474_404.out
              have hnc114 := NB404_474.out
              have hnb115 := NB474_422.out
              have hnc115 := NB422_474.out
              have hnb116 := NB474_430.out
              have hnc116 := NB430_474.out
              have hnb117 := NB474_440.out
              have hnc117 := NB440_474.out
              obtain ⟨hcz118_0, hcz118_1, hcz118_2, hfz118_0, hfz118_1, hfz118_2⟩ := zc3 BK474.out
              have hnb119 := NB422_404.out
              have hnc119 := NB404_422.out
              have hnb120 := NB422_430.out
              have hnc120 := NB430_422.out
              have hnb121 := NB422_440.out
              have hnc121 := NB440_422.out
              obtain ⟨hcz122_0, hcz122_1, hcz122_2, hfz122_0, hfz122_1, hfz122_2⟩ := zc3 BK422.out
              go_wp2_with (first | ((with_reducible refine gate_callee (f := 16) rfl ?_); refine goesL_ (some 102) rfl rfl Try.func16 (by kernel_rfl) rfl #[.agg #[.slice Ao104 t465.length co104, .int .i64 t468, .slice Ao110 t469.length co110], .agg #[.slice Ao22 t413.length co22, .int .i64 t416, .slice Ao25 t417.length co25]] rfl (by (try simp only [List.map_toArray, List.map_cons, List.map_nil]); first | done | rfl | (simp only [List.length_drop, List.length_take]; rfl)) ?_; (with_reducible refine (laws_eqReader.calls kj57 _ _ t465 t468 _ _ t469 _ _ t413 t416 _ _ t417 true _ ?side1 ?side2 ?side3 ?side4 ?side5 ?side6 ?side7 ?side8 A111.out).mono ?_); (case side1 => refine (Kd.R_reads' (e := 137) (base := w.heap.size) (ok := fun k_ => ((((True ∧ some k_ ≠ (.slice Ao22 t413.length co22 : Value).ownBlock) ∧ some k_ ≠ (.slice Ao29 t451.length co29 : Value).ownBlock) ∧ some k_ ≠ (.slice Ao36 t431.length co36 : Value).ownBlock) ∧ some k_ ≠ (.slice Ao100 t458.length co100 : Value).ownBlock)) (n := t465.length) (c := co104) ?_).2.2; exact (by (with_reducible repeat (first | apply Kd.R_alloc | apply Kd.R_drewN | apply Kd.R_drew)); exact (Kd.R_mono (Kd.R_far (p := ⟨gb474, 2, none⟩) (Kd.R_far (p := ⟨gb474, 1, none⟩) (Kd.R_far (p := ⟨gb474, 0, none⟩) (Kd.R_types HO467.out BK474.out (by decide)) (fun _ hk => hk.2) (.slice Ao104 t465.length co104)) (fun _ hk => hk.2) (.int .i64 t468)) (fun _ hk => hk.2) (.slice Ao110 t469.length co110)) (fun _ h_ => h_.1)))); (case side2 => exact (Kd.R_reads' HO467.out).2.1); (case side3 => refine (Kd.R_reads' (e := 3) (base := w.heap.size) (ok := fun k_ => ((((True ∧ some k_ ≠ (.slice Ao25 t417.length co25 : Value).ownBlock) ∧ some k_ ≠ (.slice Ao33 t452.length co33 : Value).ownBlock) ∧ some k_ ≠ (.slice Ao41 t435.length co41 : Value).ownBlock) ∧ some k_ ≠ (.slice Ao101 t462.length co101 : Value).ownBlock)) (n := t469.length) (c := co110) ?_).2.2; exact (by (with_reducible repeat (first | apply Kd.R_alloc | apply Kd.R_drewN | apply Kd.R_drew)); exact (Kd.R_mono (Kd.R_far (p := ⟨gb474, 2, none⟩) (Kd.R_far (p := ⟨gb474, 1, none⟩) (Kd.R_far (p := ⟨gb474, 0, none⟩) (Kd.R_types HO471.out BK474.out (by decide)) (fun _ hk => hk.2) (.slice Ao104 t465.length co104)) (fun _ hk => hk.2) (.int .i64 t468)) (fun _ hk => hk.2) (.slice Ao110 t469.length co110)) (fun _ h_ => h_.1)))); (case side4 => exact (Kd.R_reads' HO471.out).2.1); (case side5 => refine (Kd.R_reads' (e := 137) (base := w.heap.size) (ok := fun k_ => (((some k_ ≠ (.slice Ao29 t451.length co29 : Value).ownBlock ∧ some k_ ≠ (.slice Ao36 t431.length co36 : Value).ownBlock) ∧ some k_ ≠ (.slice Ao100 t458.length co100 : Value).ownBlock) ∧ some k_ ≠ (.slice Ao104 t465.length co104 : Value).ownBlock)) (n := t413.length) (c := co22) ?_).2.2; exact (by (with_reducible repeat (first | apply Kd.R_alloc | apply Kd.R_drewN | apply Kd.R_drew)); exact (Kd.R_mono (Kd.R_far (p := ⟨gb474, 2, none⟩) (Kd.R_far (p := ⟨gb474, 1, none⟩) (Kd.R_far (p := ⟨gb474, 0, none⟩) (Kd.R_types HO_423000.out BK474.out (by decide)) (fun _ hk => hk.2) (.slice Ao104 t465.length co104)) (fun _ hk => hk.2) (.int .i64 t468)) (fun _ hk => hk.2) (.slice Ao110 t469.length co110)) (fun _ h_ => h_.1)))); (case side6 => exact (Kd.R_reads' HO_423000.out).2.1); (case side7 => refine (Kd.R_reads' (e := 3) (base := w.heap.size) (ok := fun k_ => (((some k_ ≠ (.slice Ao33 t452.length co33 : Value).ownBlock ∧ some k_ ≠ (.slice Ao41 t435.length co41 : Value).ownBlock) ∧ some k_ ≠ (.slice Ao101 t462.length co101 : Value).ownBlock) ∧ some k_ ≠ (.slice Ao110 t469.length co110 : Value).ownBlock)) (n := t417.length) (c := co25) ?_).2.2; exact (by (with_reducible repeat (first | apply Kd.R_alloc | apply Kd.R_drewN | apply Kd.R_drew)); exact (Kd.R_mono (Kd.R_far (p := ⟨gb474, 2, none⟩) (Kd.R_far (p := ⟨gb474, 1, none⟩) (Kd.R_far (p := ⟨gb474, 0, none⟩) (Kd.R_types HO_423002.out BK474.out (by decide)) (fun _ hk => hk.2) (.slice Ao104 t465.length co104)) (fun _ hk => hk.2) (.int .i64 t468)) (fun _ hk => hk.2) (.slice Ao110 t469.length co110)) (fun _ h_ => h_.1)))); (case side8 => exact (Kd.R_reads' HO_423002.out).2.1); rintro e w123 ⟨rfl, hb⟩; refine ⟨_, rfl, ?_⟩; have n0_ := zm (Kd.R_below (by (with_reducible repeat (first | apply Kd.R_alloc | apply Kd.R_drewN | apply Kd.R_drew)); exact (Kd.R_mono (Kd.R_far (p := ⟨gb474, 2, none⟩) (Kd.R_far (p := ⟨gb474, 1, none⟩) (Kd.R_far (p := ⟨gb474, 0, none⟩) (Kd.R_types HO_423000.out BK474.out (by decide)) (fun _ hk => hk.2) (.slice Ao104 t465.length co104)) (fun _ hk => hk.2) (.int .i64 t468)) (fun _ hk => hk.2) (.slice Ao110 t469.length co110)) (fun _ h_ => h_.1))) hb); have n1_ := zm (Kd.R_below (by (with_reducible repeat (first | apply Kd.R_alloc | apply Kd.R_drewN | apply Kd.R_drew)); exact (Kd.R_mono (Kd.R_far (p := ⟨gb474, 2, none⟩) (Kd.R_far (p := ⟨gb474, 1, none⟩) (Kd.R_far (p := ⟨gb474, 0, none⟩) (Kd.R_types HO_423002.out BK474.out (by decide)) (fun _ hk => hk.2) (.slice Ao104 t465.length co104)) (fun _ hk => hk.2) (.int .i64 t468)) (fun _ hk => hk.2) (.slice Ao110 t469.length co110)) (fun _ h_ => h_.1))) hb); have n2_ := zm (Kd.R_below (by (with_reducible repeat (first | apply Kd.R_alloc | apply Kd.R_drewN | apply Kd.R_drew)); exact (Kd.R_mono (Kd.R_far (p := ⟨gb474, 2, none⟩) (Kd.R_far (p := ⟨gb474, 1, none⟩) (Kd.R_far (p := ⟨gb474, 0, none⟩) (Kd.R_types HO_431000.out BK474.out (by decide)) (fun _ hk => hk.2) (.slice Ao104 t465.length co104)) (fun _ hk => hk.2) (.int .i64 t468)) (fun _ hk => hk.2) (.slice Ao110 t469.length co110)) (fun _ h_ => h_.1))) hb); have n3_ := zm (Kd.R_below (by (with_reducible repeat (first | apply Kd.R_alloc | apply Kd.R_drewN | apply Kd.R_drew)); exact (Kd.R_mono (Kd.R_far (p := ⟨gb474, 2, none⟩) (Kd.R_far (p := ⟨gb474, 1, none⟩) (Kd.R_far (p := ⟨gb474, 0, none⟩) (Kd.R_types HO_431002.out BK474.out (by decide)) (fun _ hk => hk.2) (.slice Ao104 t465.length co104)) (fun _ hk => hk.2) (.int .i64 t468)) (fun _ hk => hk.2) (.slice Ao110 t469.length co110)) (fun _ h_ => h_.1))) hb); have n4_ := zm (Kd.R_below (by (with_reducible repeat (first | apply Kd.R_alloc | apply Kd.R_drewN | apply Kd.R_drew)); exact (Kd.R_mono (Kd.R_far (p := ⟨gb474, 2, none⟩) (Kd.R_far (p := ⟨gb474, 1, none⟩) (Kd.R_far (p := ⟨gb474, 0, none⟩) (Kd.R_types HO_441000.out BK474.out (by decide)) (fun _ hk => hk.2) (.slice Ao104 t465.length co104)) (fun _ hk => hk.2) (.int .i64 t468)) (fun _ hk => hk.2) (.slice Ao110 t469.length co110)) (fun _ h_ => h_.1))) hb); have n5_ := zm (Kd.R_below (by (with_reducible repeat (first | apply Kd.R_alloc | apply Kd.R_drewN | apply Kd.R_drew)); exact (Kd.R_mono (Kd.R_far (p := ⟨gb474, 2, none⟩) (Kd.R_far (p := ⟨gb474, 1, none⟩) (Kd.R_far (p := ⟨gb474, 0, none⟩) (Kd.R_types HO_441002.out BK474.out (by decide)) (fun _ hk => hk.2) (.slice Ao104 t465.length co104)) (fun _ hk => hk.2) (.int .i64 t468)) (fun _ hk => hk.2) (.slice Ao110 t469.length co110)) (fun _ h_ => h_.1))) hb); have n6_ := zm (Kd.R_below (by (with_reducible repeat (first | apply Kd.R_alloc | apply Kd.R_drewN | apply Kd.R_drew)); exact (Kd.R_mono (Kd.R_far (p := ⟨gb474, 2, none⟩) (Kd.R_far (p := ⟨gb474, 1, none⟩) (Kd.R_far (p := ⟨gb474, 0, none⟩) (Kd.R_types HO460.out BK474.out (by decide)) (fun _ hk => hk.2) (.slice Ao104 t465.length co104)) (fun _ hk => hk.2) (.int .i64 t468)) (fun _ hk => hk.2) (.slice Ao110 t469.length co110)) (fun _ h_ => h_.1))) hb); have n7_ := zm (Kd.R_below (by (with_reducible repeat (first | apply Kd.R_alloc | apply Kd.R_drewN | apply Kd.R_drew)); exact (Kd.R_mono (Kd.R_far (p := ⟨gb474, 2, none⟩) (Kd.R_far (p := ⟨gb474, 1, none⟩) (Kd.R_far (p := ⟨gb474, 0, none⟩) (Kd.R_types HO464.out BK474.out (by decide)) (fun _ hk => hk.2) (.slice Ao104 t465.length co104)) (fun _ hk => hk.2) (.int .i64 t468)) (fun _ hk => hk.2) (.slice Ao110 t469.length co110)) (fun _ h_ => h_.1))) hb); have n8_ := zm (Kd.R_below (by (with_reducible repeat (first | apply Kd.R_alloc | apply Kd.R_drewN | apply Kd.R_drew)); exact (Kd.R_mono (Kd.R_far (p := ⟨gb474, 2, none⟩) (Kd.R_far (p := ⟨gb474, 1, none⟩) (Kd.R_far (p := ⟨gb474, 0, none⟩) (Kd.R_types HO467.out BK474.out (by decide)) (fun _ hk => hk.2) (.slice Ao104 t465.length co104)) (fun _ hk => hk.2) (.int .i64 t468)) (fun _ hk => hk.2) (.slice Ao110 t469.length co110)) (fun _ h_ => h_.1))) hb); have n9_ := zm (Kd.R_below (by (with_reducible repeat (first | apply Kd.R_alloc | apply Kd.R_drewN | apply Kd.R_drew)); exact (Kd.R_mono (Kd.R_far (p := ⟨gb474, 2, none⟩) (Kd.R_far (p := ⟨gb474, 1, none⟩) (Kd.R_far (p := ⟨gb474, 0, none⟩) (Kd.R_types HO471.out BK474.out (by decide)) (fun _ hk => hk.2) (.slice Ao104 t465.length co104)) (fun _ hk => hk.2) (.int .i64 t468)) (fun _ hk => hk.2) (.slice Ao110 t469.length co110)) (fun _ h_ => h_.1))) hb); have n10_ := zm (blk_below (g := gb404) (o := .cells #[.slice A0_0 l0_0.length c0_0, .int .i64 a0_1, .slice A0_2 l0_2.length c0_2] 25 (0, 0)) zK hb); have n11_ := zm (blk_below (g := gb422) (o := .cells #[.slice Ao22 t413.length co22, .int .i64 t416, .slice Ao25 t417.length co25] 29 (0, 0)) zK hb); have n12_ := zm (blk_below (g := gb430) (o := .cells #[.slice Ao29 t451.length co29, .int .i64 t426, .slice Ao33 t452.length co33] 29 (0, 0)) zK hb); have n13_ := zm (blk_below (g := gb440) (o := .cells #[.slice Ao36 t431.length co36, .int .i64 t434, .slice Ao41 t435.length co41] 29 (0, 0)) zK hb); have n14_ := zm (blk_below (g := gb474) (o := .cells #[.slice Ao104 t465.length co104, .int .i64 t468, .slice Ao110 t469.length co110] 29 (0, 0)) (by (with_reducible repeat (first | refine blk_drewN ?_ _ | refine blk_drew ?_ | refine blk_alloc ?_ _)); refine blk_put (cs := #[.slice Ao104 t465.length co104, .int .i64 t468, .slice none 0 0]) ?_ 2 _ rfl; (with_reducible repeat (first | refine blk_drewN ?_ _ | refine blk_drew ?_ | refine blk_alloc ?_ _)); refine blk_put (cs := #[.slice Ao104 t465.length co104, .int .i64 0, .slice none 0 0]) ?_ 1 _ rfl; (with_reducible repeat (first | refine blk_drewN ?_ _ | refine blk_drew ?_ | refine blk_alloc ?_ _)); refine blk_put (cs := #[.slice none 0 0, .int .i64 0, .slice none 0 0]) ?_ 0 _ rfl; (with_reducible repeat (first | refine blk_drewN ?_ _ | refine blk_drew ?_ | refine blk_alloc ?_ _)); exact BK474.out) hb); have n15_ := zm (below_step zb hb); clear HO_423000; clear HO_423002; clear HO_431000; clear HO_431002; clear HO_441000; clear HO_441002; clear HO460; clear HO464; clear HO467; clear HO471; clear BK404; clear BK422; clear BK430; clear BK440; clear BK474; clear HB; have HO_423000 := n0_; have HO_423002 := n1_; have HO_431000 := n2_; have HO_431002 := n3_; have HO_441000 := n4_; have HO_441002 := n5_; have HO460 := n6_; have HO464 := n7_; have HO467 := n8_; have HO471 := n9_; have BK404 := n10_; have BK422 := n11_; have BK430 := n12_; have BK440 := n13_; have BK474 := n14_; have HB := n15_; clear n0_ n1_ n2_ n3_ n4_ n5_ n6_ n7_ n8_ n9_ n10_ n11_ n12_ n13_ n14_ n15_; (try clear hb); (try clear hb2); (try clear hk); (try clear hi)))
              go_meet
              case rel => exact ⟨_, ((t473 != t421)), (by first | rfl | (simp; done) | (simp [*]; done)), H', ⟨by have := HJ11.out; have := HJ57.out; first | omega | exact Nat.le_refl _⟩, ⟨by (try simp only [hl431000_57]); (try simp only [hl431002_57]); (with_reducible repeat (first | apply Kd.R_alloc | apply Kd.R_drewN | apply Kd.R_drew)); exact Kd.R_mono HO_423000.out (fun _ hk => ⟨hk.1.1.1, ⟨hk.1.1.2, hk.2⟩⟩)⟩, ⟨by (try simp only [hl431000_57]); (try simp only [hl431002_57]); (with_reducible repeat (first | apply Kd.R_alloc | apply Kd.R_drewN | apply Kd.R_drew)); exact Kd.R_mono HO_423002.out (fun _ hk => ⟨hk.1.1.1, ⟨hk.1.1.2, hk.2⟩⟩)⟩, ⟨by (try simp only [hl431000_57]); (try simp only [hl431002_57]); (with_reducible repeat (first | apply Kd.R_alloc | apply Kd.R_drewN | apply Kd.R_drew)); exact Kd.R_mono HO_431000.out (fun _ hk => ⟨hk.1.1.1, ⟨hk.1.1.2, hk.2⟩⟩)⟩, ⟨by (try simp only [hl431000_57]); (try simp only [hl431002_57]); (with_reducible repeat (first | apply Kd.R_alloc | apply Kd.R_drewN | apply Kd.R_drew)); exact Kd.R_mono HO_431002.out (fun _ hk => ⟨hk.1.1.1, ⟨hk.1.1.2, hk.2⟩⟩)⟩, ⟨by (try simp only [hl431000_57]); (try simp only [hl431002_57]); (with_reducible repeat (first | apply Kd.R_alloc | apply Kd.R_drewN | apply Kd.R_drew)); exact Kd.R_mono HO_441000.out (fun _ hk => ⟨hk.1.1.1, ⟨hk.1.1.2, hk.2⟩⟩)⟩, ⟨by (try simp only [hl431000_57]); (try simp only [hl431002_57]); (with_reducible repeat (first | apply Kd.R_alloc | apply Kd.R_drewN | apply Kd.R_drew)); exact Kd.R_mono HO_441002.out (fun _ hk => ⟨hk.1.1.1, ⟨hk.1.1.2, hk.2⟩⟩)⟩, ⟨by (try simp only [hl431000_57]); (try simp only [hl431002_57]); (with_reducible repeat (first | apply Kd.R_alloc | apply Kd.R_drewN | apply Kd.R_drew)); exact Kd.R_mono HO467.out (fun _ hk => ⟨hk.1.1.1.2, ⟨hk.1.1.2, hk.1.2⟩⟩)⟩, ⟨by (try simp only [hl431000_57]); (try simp only [hl431002_57]); (with_reducible repeat (first | apply Kd.R_alloc | apply Kd.R_drewN | apply Kd.R_drew)); exact Kd.R_mono HO471.out (fun _ hk => ⟨hk.1.1.1.2, ⟨hk.1.1.2, hk.1.2⟩⟩)⟩, ⟨by (try simp only [hl431000_57]); (try simp only [hl431002_57]); (with_reducible repeat (first | refine blk_drewN ?_ _ | refine blk_drew ?_ | refine blk_alloc ?_ _)); exact BK404.out⟩, ⟨by (try simp only [hl431000_57]); (try simp only [hl431002_57]); (with_reducible repeat (first | refine blk_drewN ?_ _ | refine blk_drew ?_ | refine blk_alloc ?_ _)); exact BK422.out⟩, ⟨by (try simp only [hl431000_57]); (try simp only [hl431002_57]); (with_reducible repeat (first | refine blk_drewN ?_ _ | refine blk_drew ?_ | refine blk_alloc ?_ _)); exact BK430.out⟩, ⟨by (try simp only [hl431000_57]); (try simp only [hl431002_57]); (with_reducible repeat (first | refine blk_drewN ?_ _ | refine blk_drew ?_ | refine blk_alloc ?_ _)); exact BK440.out⟩, ⟨by (try simp only [hl431000_57]); (try simp only [hl431002_57]); (with_reducible repeat (first | refine blk_drewN ?_ _ | refine blk_drew ?_ | refine blk_alloc ?_ _)); exact BK474.out⟩, ⟨zb⟩⟩
             ·
              rw [if_neg c113] at H
              have c113b0 : (t472 == t420) = false := beq_eq_false_iff_ne.mpr c113
              have c113b1 : (t472 != t420) = true := bne_iff_ne.mpr c113
              (first | rw [c113b0] | (simp only [i64_w, i32_w]; rw [c113b0]) | skip)
              exact (laws_FnExactReadSteps.j2_t (H.trans (congrArg some hr_))).elim
            ·
             replace c112 := Bool.eq_false_iff.mpr c112
             subst c112
             have H1 : (laws_FnExactReadSteps.j2 kj57 t454 true t455 t434 t456) = some r := by rw [if_neg (show ¬ (false = true) by decide)] at H; exact H
             clear H
             have H := H1
             clear H1
             exact (laws_FnExactReadSteps.j2_t (H.trans (congrArg some hr_))).elim
           case rest =>
            clear HC88
            try clear c1
            try clear c2
            try clear p2
            try clear c3
            try clear c4
            try clear c4b0
            try clear c5
            try clear c6
            try clear c7
            try clear c8
            try clear c9
            try clear c10
            try clear c11
            try clear c12
            try clear c14
            try clear c16
            try clear c17
            try clear c18
            try clear c19
            try clear c20
            try clear c23
            try clear c30
            try clear c31
            try clear c37
            try clear c38
            try clear c39
            try clear c43
            try clear c44
            try clear c44b0
            try clear c44b1
            try clear c45
            try clear c46
            try clear c47
            try clear c49
            try clear c50
            try clear c53
            try clear c56
            try clear c64
            try clear c65
            try clear c66
            try clear c69
            try clear c69b0
            try clear c71
            try clear c72
            try clear c72b0
            try clear c72b1
            try clear c73
            try clear c74
            try clear c75
            try clear c77
            try clear c78
            try clear c81
            try clear c84
            try clear c84b0
            try clear c85
            try clear c85b0
            try clear c85b1
            try clear c89
            try clear c90
            try clear c91
            try clear c96
            try clear c97
            try clear c105
            try clear c106
            try clear c107
            try clear c108
            try clear c112
            try clear c113
            try clear c113b0
            try clear c113b1
            try clear c114
            try clear c115
            try clear c116
            try clear c117
            try clear c119
            try clear c120
            try clear c121
            try clear hcz109_0
            try clear hcz109_1
            try clear hcz109_2
            try clear hcz118_0
            try clear hcz118_1
            try clear hcz118_2
            try clear hcz122_0
            try clear hcz122_1
            try clear hcz122_2
            try clear hcz14_0
            try clear hcz14_1
            try clear hcz14_2
            try clear hcz16_0
            try clear hcz16_1
            try clear hcz16_2
            try clear hcz24_0
            try clear hcz24_1
            try clear hcz24_2
            try clear hcz26_0
            try clear hcz26_1
            try clear hcz26_2
            try clear hcz32_0
            try clear hcz32_1
            try clear hcz32_2
            try clear hcz40_0
            try clear hcz40_1
            try clear hcz40_2
            try clear hcz48_0
            try clear hcz48_1
            try clear hcz48_2
            try clear hcz51_0
            try clear hcz51_1
            try clear hcz51_2
            try clear hcz67_0
            try clear hcz67_1
            try clear hcz67_2
            try clear hcz6_0
            try clear hcz6_1
            try clear hcz6_2
            try clear hcz76_0
            try clear hcz76_1
            try clear hcz76_2
            try clear hcz79_0
            try clear hcz79_1
            try clear hcz79_2
            try clear hcz92_0
            try clear hcz92_1
            try clear hcz92_2
            try clear hcz94_0
            try clear hcz94_1
            try clear hcz94_2
            try clear hcz98_0
            try clear hcz98_1
            try clear hcz98_2
            try clear hfz109_0
            try clear hfz109_1
            try clear hfz109_2
            try clear hfz118_0
            try clear hfz118_1
            try clear hfz118_2
            try clear hfz122_0
            try clear hfz122_1
            try clear hfz122_2
            try clear hfz14_0
            try clear hfz14_1
            try clear hfz14_2
            try clear hfz16_0
            try clear hfz16_1
            try clear hfz16_2
            try clear hfz24_0
            try clear hfz24_1
            try clear hfz24_2
            try clear hfz26_0
            try clear hfz26_1
            try clear hfz26_2
            try clear hfz32_0
            try clear hfz32_1
            try clear hfz32_2
            try clear hfz40_0
            try clear hfz40_1
            try clear hfz40_2
            try clear hfz48_0
            try clear hfz48_1
            try clear hfz48_2
            try clear hfz51_0
            try clear hfz51_1
            try clear hfz51_2
            try clear hfz67_0
            try clear hfz67_1
            try clear hfz67_2
            try clear hfz6_0
            try clear hfz6_1
            try clear hfz6_2
            try clear hfz76_0
            try clear hfz76_1
            try clear hfz76_2
            try clear hfz79_0
            try clear hfz79_1
            try clear hfz79_2
            try clear hfz92_0
            try clear hfz92_1
            try clear hfz92_2
            try clear hfz94_0
            try clear hfz94_1
            try clear hfz94_2
            try clear hfz98_0
            try clear hfz98_1
            try clear hfz98_2
            try clear p2
            obtain ⟨kq, x113_87, rfl, HA, HJ87, HO_423000, HO_423002, HO_431000, HO_431002, HO_441000, HO_441002, HO_475000, HO_475002, BK404, BK422, BK430, BK440, BK474, HB⟩ := hcut
            have hl441000_87 := (Kd.R_reads' HO_441000.out).1
            rw [hl441000_87] at HO_441000
            (try simp only [hl441000_87])
            (try simp only [hl441000_87] at BK404)
            (try simp only [hl441000_87] at BK422)
            (try simp only [hl441000_87] at BK430)
            (try simp only [hl441000_87] at BK440)
            (try simp only [hl441000_87] at BK474)
            (try simp only [hl441000_87] at HO_423000)
            (try simp only [hl441000_87] at HO_423002)
            (try simp only [hl441000_87] at HO_431000)
            (try simp only [hl441000_87] at HO_431002)
            (try simp only [hl441000_87] at HO_441002)
            (try simp only [hl441000_87] at HO_475000)
            (try simp only [hl441000_87] at HO_475002)
            have hl441002_87 := (Kd.R_reads' HO_441002.out).1
            rw [hl441002_87] at HO_441002
            (try simp only [hl441002_87])
            (try simp only [hl441002_87] at BK404)
            (try simp only [hl441002_87] at BK422)
            (try simp only [hl441002_87] at BK430)
            (try simp only [hl441002_87] at BK440)
            (try simp only [hl441002_87] at BK474)
            (try simp only [hl441002_87] at HO_423000)
            (try simp only [hl441002_87] at HO_423002)
            (try simp only [hl441002_87] at HO_431000)
            (try simp only [hl441002_87] at HO_431002)
            (try simp only [hl441002_87] at HO_441000)
            (try simp only [hl441002_87] at HO_475000)
            (try simp only [hl441002_87] at HO_475002)
            cases kq with
            | zero => exact absurd HA.out (by simp [laws_FnExactReadSteps.j2])
            | succ kj87 =>
             have H := HA.out
             clear HA
             simp only [laws_FnExactReadSteps.j2] at H
             by_cases c124 : x113_87 = true
             ·
              subst c124
              have H1 : (some false) = some r := by rw [if_pos rfl] at H; exact H
              clear H
              have H := H1
              clear H1
              exact absurd ((Option.some.inj H).trans hr_) (by decide)
             ·
              replace c124 := Bool.eq_false_iff.mpr c124
              subst c124
              have H1 : ((laws_heldReader.f kj87 t455 t434 t456 1).bind fun t476 => (if t476 < 0 then (some false) else (if t476 = t454 then (some true) else (some false)))) = some r := by rw [if_neg (show ¬ (false = true) by decide)] at H; exact H
              clear H
              have H := H1
              clear H1
              replace H := Option.bind_eq_some_iff.mp H
              obtain ⟨t476, A1250, H⟩ := H
              replace H : (if t476 < 0 then (some false) else (if t476 = t454 then (some true) else (some false))) = some r := H
              have A125 := zm A1250
              clear A1250
              by_cases c126 : t476 < 0
              ·
               rw [if_pos c126] at H
               have c126b0 : decide (t476 < 0) = true := decide_eq_true c126
               clear c126
               exact absurd ((Option.some.inj H).trans hr_) (by decide)
              ·
               rw [if_neg c126] at H
               have c126b0 : decide (t476 < 0) = false := decide_eq_false c126
               clear c126
               by_cases c127 : t476 = t454
               ·
                rw [if_pos c127] at H
                have c127b0 : (t476 == t454) = true := beq_iff_eq.mpr c127
                have c127b1 : (t476 != t454) = false := bne_eq_false_iff_eq.mpr c127
                clear c127
                obtain rfl := Option.some.inj H
                have hnb128 := NB440_404.out
                have hnc128 := NB404_440.out
                have hnb129 := NB440_422.out
                have hnc129 := NB422_440.out
                have hnb130 := NB440_430.out
                have hnc130 := NB430_440.out
                have hnb131 := NB440_474.out
                have hnc131 := NB474_440.out
                obtain ⟨hcz132_0, hcz132_1, hcz132_2, hfz132_0, hfz132_1, hfz132_2⟩ := zc3 BK440.out
                go_wp2_with (first | ((with_reducible refine gate_callee (f := 18) rfl ?_); refine goesL_ (some 116) rfl rfl Try.func18 (by kernel_rfl) rfl #[.agg #[.slice Ao36 t455.length co36, .int .i64 t434, .slice Ao41 t456.length co41], .int .i64 1] rfl (by (try simp only [List.map_toArray, List.map_cons, List.map_nil]); first | done | rfl | (simp only [List.length_drop, List.length_take]; rfl)) ?_; (with_reducible refine (laws_heldReader.calls kj87 _ _ t455 t434 _ _ t456 1 t476 _ ?side1 ?side2 ?side3 ?side4 A125.out).mono ?_); (case side1 => repeat (first | exact (Kd.R_reads' HO_441000.out).2.2 | (with_reducible refine Kd.C_alloc ?_ _) | (with_reducible refine Kd.C_drewN ?_ _) | (with_reducible refine Kd.C_drew ?_))); (case side2 => exact (Kd.R_reads' HO_441000.out).2.1); (case side3 => repeat (first | exact (Kd.R_reads' HO_441002.out).2.2 | (with_reducible refine Kd.C_alloc ?_ _) | (with_reducible refine Kd.C_drewN ?_ _) | (with_reducible refine Kd.C_drew ?_))); (case side4 => exact (Kd.R_reads' HO_441002.out).2.1); rintro e w133 ⟨rfl, hb⟩; refine ⟨_, rfl, ?_⟩; have n0_ := zm (Kd.R_below (by (with_reducible repeat (first | apply Kd.R_alloc | apply Kd.R_drewN | apply Kd.R_drew)); exact HO_423000.out) hb); have n1_ := zm (Kd.R_below (by (with_reducible repeat (first | apply Kd.R_alloc | apply Kd.R_drewN | apply Kd.R_drew)); exact HO_423002.out) hb); have n2_ := zm (Kd.R_below (by (with_reducible repeat (first | apply Kd.R_alloc | apply Kd.R_drewN | apply Kd.R_drew)); exact HO_431000.out) hb); have n3_ := zm (Kd.R_below (by (with_reducible repeat (first | apply Kd.R_alloc | apply Kd.R_drewN | apply Kd.R_drew)); exact HO_431002.out) hb); have n4_ := zm (Kd.R_below (by (with_reducible repeat (first | apply Kd.R_alloc | apply Kd.R_drewN | apply Kd.R_drew)); exact HO_441000.out) hb); have n5_ := zm (Kd.R_below (by (with_reducible repeat (first | apply Kd.R_alloc | apply Kd.R_drewN | apply Kd.R_drew)); exact HO_441002.out) hb); have n6_ := zm (Kd.R_below (by (with_reducible repeat (first | apply Kd.R_alloc | apply Kd.R_drewN | apply Kd.R_drew)); exact HO_475000.out) hb); have n7_ := zm (Kd.R_below (by (with_reducible repeat (first | apply Kd.R_alloc | apply Kd.R_drewN | apply Kd.R_drew)); exact HO_475002.out) hb); have n8_ := zm (blk_below (g := gb404) zk hb); have n9_ := zm (blk_below (g := gb422) zk hb); have n10_ := zm (blk_below (g := gb430) zk hb); have n11_ := zm (blk_below (g := gb440) zk hb); have n12_ := zm (blk_below (g := gb474) zk hb); have n13_ := zm (below_step zb hb); clear HO_423000; clear HO_423002; clear HO_431000; clear HO_431002; clear HO_441000; clear HO_441002; clear HO_475000; clear HO_475002; clear BK404; clear BK422; clear BK430; clear BK440; clear BK474; clear HB; have HO_423000 := n0_; have HO_423002 := n1_; have HO_431000 := n2_; have HO_431002 := n3_; have HO_441000 := n4_; have HO_441002 := n5_; have HO_475000 := n6_; have HO_475002 := n7_; have BK404 := n8_; have BK422 := n9_; have BK430 := n10_; have BK440 := n11_; have BK474 := n12_; have HB := n13_; clear n0_ n1_ n2_ n3_ n4_ n5_ n6_ n7_ n8_ n9_ n10_ n11_ n12_ n13_; (try clear hb); (try clear hb2); (try clear hk); (try clear hi)))
                go_ret
                exact ⟨zr, zb⟩
               ·
                rw [if_neg c127] at H
                have c127b0 : (t476 == t454) = false := beq_eq_false_iff_ne.mpr c127
                have c127b1 : (t476 != t454) = true := bne_iff_ne.mpr c127
                exact absurd ((Option.some.inj H).trans hr_) (by decide)
          ·
           rw [if_neg c85] at H
           have c85b0 : (t457 == t454) = false := beq_eq_false_iff_ne.mpr c85
           have c85b1 : (t457 != t454) = true := bne_iff_ne.mpr c85
           exact absurd ((Option.some.inj H).trans hr_) (by decide)
     ·
      replace c56 := Bool.eq_false_iff.mpr c56
      subst c56
      have H1 : (some false) = some r := by rw [if_neg (show ¬ (false = true) by decide)] at H; exact H
      clear H
      have H := H1
      clear H1
      exact absurd ((Option.some.inj H).trans hr_) (by decide)

end Go.Proofs.Ytepkedhmbfkenaa.PEx
