-- Written for this claim by a program of this session (wip/tpl/patchprint.py), not by print.sh.
import Derived.Test.YtepkedhmbfkenaaPExx0
import Derived.Test.YtepkedhmbfkenaaPExx1
import Derived.Test.YtepkedhmbfkenaaPExx4
import Derived.Test.YtepkedhmbfkenaaPExx5
import Derived.Test.YtepkedhmbfkenaaPExx9
import Derived.Test.YtepkedhmbfkenaaPExx10
namespace Go.Proofs.Ytepkedhmbfkenaa.PEx
open Go.RowKit Go.Proofs.YtepkedhmbfkenaaW.PrintWords Go.Proofs.YtepkedhmbfkenaaW.PrintLast Go.Proofs.YtepkedhmbfkenaaW.PrintMore
attribute [local go_sem] max2_int min2_int max_two min_two max_three min_three max_four min_four   -- for this text's walks alone
set_option linter.unusedVariables false
set_option linter.unusedSimpArgs false

/-! ### laws_FnExactWindTo: function 3 -/
mutual
def laws_FnExactWindTo.j0 : Nat → Int → Bool → Bool → Bool → List (S139) → Int → List Int → List (S137) → Int → List Int → List (S137) → Int → List Int → List (S137) → Int → List Int → Option (Bool)
  | 0, _, _, _, _, _, _, _, _, _, _, _, _, _, _, _, _ => none
  | k + 1, x1, x7, x10, x44, x313000, x313001, x313002, x330000, x330001, x330002, x338000, x338001, x338002, x347000, x347001, x347002 => if x44 = true then (some false) else ((laws_toReader.f k x313000 x313001 x313002).bind fun bt348 => ((laws_eqReader.f k x338000 x338001 x338002 bt348.1 bt348.2.1 bt348.2.2).bind fun t355 => (if t355 = true then ((laws_markReader.f k x338000 x338001 x338002 1).bind fun bt356 => (if bt356.1 < 0 then (laws_FnExactWindTo.j1 k x1 x7 true x313000 x313001 x313002 x330000 x330001 x330002 x347000 x347001 x347002) else ((laws_eqReader.f k x347000 x347001 x347002 x330000 x330001 x330002).bind fun t359 => (if t359 = true then (laws_FnExactWindTo.j1 k x1 x7 (x10 != x7) x313000 x313001 x313002 x330000 x330001 x330002 x347000 x347001 x347002) else (laws_FnExactWindTo.j1 k x1 x7 true x313000 x313001 x313002 x330000 x330001 x330002 x347000 x347001 x347002))))) else (some false))))
def laws_FnExactWindTo.j1 : Nat → Int → Bool → Bool → List (S139) → Int → List Int → List (S137) → Int → List Int → List (S137) → Int → List Int → Option (Bool)
  | 0, _, _, _, _, _, _, _, _, _, _, _, _ => none
  | k + 1, x1, x7, x65, x313000, x313001, x313002, x330000, x330001, x330002, x347000, x347001, x347002 => if x65 = true then (some false) else ((laws_markReader.f k x347000 x347001 x347002 1).bind fun bt360 => ((laws_heldReader.f k bt360.2.1 x347001 bt360.2.2 1).bind fun t363 => (if t363 < 0 then (some false) else (if t363 = bt360.1 then ((laws_toReader.f k x313000 x313001 x313002).bind fun bt364 => ((impl_WindTo.f k bt364.1 bt364.2.1 bt364.2.2 x1).bind fun bt371 => ((laws_eqReader.f k bt371.1 bt371.2.1 bt371.2.2.1 x330000 x330001 x330002).bind fun t380 => (if t380 = true then (laws_FnExactWindTo.j2 k bt360.1 (bt371.2.2.2 != x7) bt360.2.1 x347001 bt360.2.2) else (laws_FnExactWindTo.j2 k bt360.1 true bt360.2.1 x347001 bt360.2.2))))) else (some false)))))
def laws_FnExactWindTo.j2 : Nat → Int → Bool → List (S137) → Int → List Int → Option (Bool)
  | 0, _, _, _, _, _ => none
  | k + 1, x12, x92, x347000, x347001, x347002 => if x92 = true then (some false) else ((laws_heldReader.f k x347000 x347001 x347002 1).bind fun t381 => (if t381 < 0 then (some false) else (if t381 = x12 then (some true) else (some false))))
end
def laws_FnExactWindTo.f (k : Nat) (l0_0 : List (S139)) (a0_1 : Int) (l0_2 : List Int) (a1 : Int) : Option (Bool) := (laws_szReader.f l0_0 a0_1 l0_2 1048576).bind fun t313 => (if t313 < 0 then (some true) else ((laws_toReader.f k l0_0 a0_1 l0_2).bind fun bt314 => ((spec_WindTo.f k bt314.1 bt314.2.1 bt314.2.2 a1).bind fun bt321 => ((laws_toReader.f k l0_0 a0_1 l0_2).bind fun bt330 => ((impl_WindTo.f k bt330.1 bt330.2.1 bt330.2.2 a1).bind fun bt338 => ((laws_eqReader.f k bt338.1 bt338.2.1 bt338.2.2.1 bt321.1 bt321.2.1 bt321.2.2.1).bind fun t347 => (if t347 = true then (laws_FnExactWindTo.j0 k a1 bt321.2.2.2 bt338.2.2.2 (bt338.2.2.2 != bt321.2.2.2) l0_0 a0_1 l0_2 bt321.1 bt321.2.1 bt321.2.2.1 bt330.1 bt330.2.1 bt330.2.2 bt338.1 bt338.2.1 bt338.2.2.1) else (laws_FnExactWindTo.j0 k a1 bt321.2.2.2 bt338.2.2.2 true l0_0 a0_1 l0_2 bt321.1 bt321.2.1 bt321.2.2.1 bt330.1 bt330.2.1 bt330.2.2 bt338.1 bt338.2.1 bt338.2.2.1))))))))
theorem laws_FnExactWindTo.mono_l : ∀ k, (∀ y0 y1 y2 y3 y4 y5 y6 y7 y8 y9 y10 y11 y12 y13 y14 y15, LeO (laws_FnExactWindTo.j0 k y0 y1 y2 y3 y4 y5 y6 y7 y8 y9 y10 y11 y12 y13 y14 y15) (laws_FnExactWindTo.j0 (k + 1) y0 y1 y2 y3 y4 y5 y6 y7 y8 y9 y10 y11 y12 y13 y14 y15)) ∧ (∀ y0 y1 y2 y3 y4 y5 y6 y7 y8 y9 y10 y11, LeO (laws_FnExactWindTo.j1 k y0 y1 y2 y3 y4 y5 y6 y7 y8 y9 y10 y11) (laws_FnExactWindTo.j1 (k + 1) y0 y1 y2 y3 y4 y5 y6 y7 y8 y9 y10 y11)) ∧ (∀ y0 y1 y2 y3 y4, LeO (laws_FnExactWindTo.j2 k y0 y1 y2 y3 y4) (laws_FnExactWindTo.j2 (k + 1) y0 y1 y2 y3 y4))
  | 0 => ⟨fun _ _ _ _ _ _ _ _ _ _ _ _ _ _ _ _ r h => by simp [laws_FnExactWindTo.j0] at h, fun _ _ _ _ _ _ _ _ _ _ _ _ r h => by simp [laws_FnExactWindTo.j1] at h, fun _ _ _ _ _ r h => by simp [laws_FnExactWindTo.j2] at h⟩
  | k + 1 => by
    obtain ⟨ih0, ih1, ih2⟩ := laws_FnExactWindTo.mono_l k
    refine ⟨?_, ?_, ?_⟩
    · intro y0 y1 y2 y3 y4 y5 y6 y7 y8 y9 y10 y11 y12 y13 y14 y15
      unfold laws_FnExactWindTo.j0
      repeat' first
      | (with_reducible exact ih0 _ _ _ _ _ _ _ _ _ _ _ _ _ _ _ _)
      | (with_reducible exact ih1 _ _ _ _ _ _ _ _ _ _ _ _)
      | (with_reducible exact ih2 _ _ _ _ _)
      | (with_reducible exact impl_WindTo.mono _ _ _ _ _)
      | (with_reducible exact laws_eqReader.mono _ _ _ _ _ _ _)
      | (with_reducible exact laws_heldReader.mono _ _ _ _ _)
      | (with_reducible exact laws_markReader.mono _ _ _ _ _)
      | (with_reducible exact laws_toReader.mono _ _ _ _)
      | (with_reducible exact spec_WindTo.mono _ _ _ _ _)
      | (with_reducible exact LeO.refl _)
      | (with_reducible exact LeO.none _)
      | (with_reducible refine LeO.ite ?_ ?_)
      | (with_reducible refine LeO.bind ?_ (fun _ => ?_))
      | exact ih0 _ _ _ _ _ _ _ _ _ _ _ _ _ _ _ _
      | exact ih1 _ _ _ _ _ _ _ _ _ _ _ _
      | exact ih2 _ _ _ _ _
      | exact impl_WindTo.mono _ _ _ _ _
      | exact laws_eqReader.mono _ _ _ _ _ _ _
      | exact laws_heldReader.mono _ _ _ _ _
      | exact laws_markReader.mono _ _ _ _ _
      | exact laws_toReader.mono _ _ _ _
      | exact spec_WindTo.mono _ _ _ _ _
      | exact LeO.none _
      | refine LeO.ite ?_ ?_
      | refine LeO.bind ?_ (fun _ => ?_)
    · intro y0 y1 y2 y3 y4 y5 y6 y7 y8 y9 y10 y11
      unfold laws_FnExactWindTo.j1
      repeat' first
      | (with_reducible exact ih0 _ _ _ _ _ _ _ _ _ _ _ _ _ _ _ _)
      | (with_reducible exact ih1 _ _ _ _ _ _ _ _ _ _ _ _)
      | (with_reducible exact ih2 _ _ _ _ _)
      | (with_reducible exact impl_WindTo.mono _ _ _ _ _)
      | (with_reducible exact laws_eqReader.mono _ _ _ _ _ _ _)
      | (with_reducible exact laws_heldReader.mono _ _ _ _ _)
      | (with_reducible exact laws_markReader.mono _ _ _ _ _)
      | (with_reducible exact laws_toReader.mono _ _ _ _)
      | (with_reducible exact spec_WindTo.mono _ _ _ _ _)
      | (with_reducible exact LeO.refl _)
      | (with_reducible exact LeO.none _)
      | (with_reducible refine LeO.ite ?_ ?_)
      | (with_reducible refine LeO.bind ?_ (fun _ => ?_))
      | exact ih0 _ _ _ _ _ _ _ _ _ _ _ _ _ _ _ _
      | exact ih1 _ _ _ _ _ _ _ _ _ _ _ _
      | exact ih2 _ _ _ _ _
      | exact impl_WindTo.mono _ _ _ _ _
      | exact laws_eqReader.mono _ _ _ _ _ _ _
      | exact laws_heldReader.mono _ _ _ _ _
      | exact laws_markReader.mono _ _ _ _ _
      | exact laws_toReader.mono _ _ _ _
      | exact spec_WindTo.mono _ _ _ _ _
      | exact LeO.none _
      | refine LeO.ite ?_ ?_
      | refine LeO.bind ?_ (fun _ => ?_)
    · intro y0 y1 y2 y3 y4
      unfold laws_FnExactWindTo.j2
      repeat' first
      | (with_reducible exact ih0 _ _ _ _ _ _ _ _ _ _ _ _ _ _ _ _)
      | (with_reducible exact ih1 _ _ _ _ _ _ _ _ _ _ _ _)
      | (with_reducible exact ih2 _ _ _ _ _)
      | (with_reducible exact impl_WindTo.mono _ _ _ _ _)
      | (with_reducible exact laws_eqReader.mono _ _ _ _ _ _ _)
      | (with_reducible exact laws_heldReader.mono _ _ _ _ _)
      | (with_reducible exact laws_markReader.mono _ _ _ _ _)
      | (with_reducible exact laws_toReader.mono _ _ _ _)
      | (with_reducible exact spec_WindTo.mono _ _ _ _ _)
      | (with_reducible exact LeO.refl _)
      | (with_reducible exact LeO.none _)
      | (with_reducible refine LeO.ite ?_ ?_)
      | (with_reducible refine LeO.bind ?_ (fun _ => ?_))
      | exact ih0 _ _ _ _ _ _ _ _ _ _ _ _ _ _ _ _
      | exact ih1 _ _ _ _ _ _ _ _ _ _ _ _
      | exact ih2 _ _ _ _ _
      | exact impl_WindTo.mono _ _ _ _ _
      | exact laws_eqReader.mono _ _ _ _ _ _ _
      | exact laws_heldReader.mono _ _ _ _ _
      | exact laws_markReader.mono _ _ _ _ _
      | exact laws_toReader.mono _ _ _ _
      | exact spec_WindTo.mono _ _ _ _ _
      | exact LeO.none _
      | refine LeO.ite ?_ ?_
      | refine LeO.bind ?_ (fun _ => ?_)
theorem laws_FnExactWindTo.mono : ∀ a0 a1 a2 a3 k, LeO (laws_FnExactWindTo.f k a0 a1 a2 a3) (laws_FnExactWindTo.f (k + 1) a0 a1 a2 a3) := by
  intro a0 a1 a2 a3 k
  obtain ⟨ih0, ih1, ih2⟩ := laws_FnExactWindTo.mono_l k
  unfold laws_FnExactWindTo.f
  repeat' first
      | (with_reducible exact ih0 _ _ _ _ _ _ _ _ _ _ _ _ _ _ _ _)
      | (with_reducible exact ih1 _ _ _ _ _ _ _ _ _ _ _ _)
      | (with_reducible exact ih2 _ _ _ _ _)
      | (with_reducible exact impl_WindTo.mono _ _ _ _ _)
      | (with_reducible exact laws_eqReader.mono _ _ _ _ _ _ _)
      | (with_reducible exact laws_heldReader.mono _ _ _ _ _)
      | (with_reducible exact laws_markReader.mono _ _ _ _ _)
      | (with_reducible exact laws_toReader.mono _ _ _ _)
      | (with_reducible exact spec_WindTo.mono _ _ _ _ _)
      | (with_reducible exact LeO.refl _)
      | (with_reducible exact LeO.none _)
      | (with_reducible refine LeO.ite ?_ ?_)
      | (with_reducible refine LeO.bind ?_ (fun _ => ?_))
      | exact ih0 _ _ _ _ _ _ _ _ _ _ _ _ _ _ _ _
      | exact ih1 _ _ _ _ _ _ _ _ _ _ _ _
      | exact ih2 _ _ _ _ _
      | exact impl_WindTo.mono _ _ _ _ _
      | exact laws_eqReader.mono _ _ _ _ _ _ _
      | exact laws_heldReader.mono _ _ _ _ _
      | exact laws_markReader.mono _ _ _ _ _
      | exact laws_toReader.mono _ _ _ _
      | exact spec_WindTo.mono _ _ _ _ _
      | exact LeO.none _
      | refine LeO.ite ?_ ?_
      | refine LeO.bind ?_ (fun _ => ?_)
theorem laws_FnExactWindTo.j0_t {k : Nat} : ∀ {a0_ a1_ a2_ a4_ a5_ a6_ a7_ a8_ a9_ a10_ a11_ a12_ a13_ a14_ a15_}, laws_FnExactWindTo.j0 k a0_ a1_ a2_ true a4_ a5_ a6_ a7_ a8_ a9_ a10_ a11_ a12_ a13_ a14_ a15_ = some true → False := by
  intros; rename_i h; revert h; cases k <;> simp [laws_FnExactWindTo.j0]
theorem laws_FnExactWindTo.j1_t {k : Nat} : ∀ {a0_ a1_ a3_ a4_ a5_ a6_ a7_ a8_ a9_ a10_ a11_}, laws_FnExactWindTo.j1 k a0_ a1_ true a3_ a4_ a5_ a6_ a7_ a8_ a9_ a10_ a11_ = some true → False := by
  intros; rename_i h; revert h; cases k <;> simp [laws_FnExactWindTo.j1]
theorem laws_FnExactWindTo.j2_t {k : Nat} : ∀ {a0_ a2_ a3_ a4_}, laws_FnExactWindTo.j2 k a0_ true a2_ a3_ a4_ = some true → False := by
  intros; rename_i h; revert h; cases k <;> simp [laws_FnExactWindTo.j2]
set_option maxHeartbeats 8000000 in
set_option maxRecDepth 100000 in
theorem laws_FnExactWindTo.calls (k : Nat) (A0_0 : Option Addr) (c0_0 : Nat) (l0_0 : List (S139)) (a0_1 : Int) (A0_2 : Option Addr) (c0_2 : Nat) (l0_2 : List Int) (a1 : Int) (r : Bool) (w : World) (hr0_0 : Kd.C k139 w A0_0 l0_0.length l0_0) (hc0_0 : l0_0.length ≤ c0_0) (hr0_2 : Kd.C (Kd.int .i64) w A0_2 l0_2.length l0_2) (hc0_2 : l0_2.length ≤ c0_2) (h : laws_FnExactWindTo.f k l0_0 a0_1 l0_2 a1 = some r) (hr_ : r = true) :
  Calls Try.prog 3 #[.agg #[.slice A0_0 l0_0.length c0_0, .int .i64 a0_1, .slice A0_2 l0_2.length c0_2], .int .i64 a1] w fun e w' => e = .returned (.bool r) ∧ Below w.heap.size w w' := by
 have hu25 := Try.underlying25
 have hu29 := Try.underlying29
 have HR0_0 := zm hr0_0
 have HC0_0 := zm hc0_0
 clear hr0_0 hc0_0
 have HR0_2 := zm hr0_2
 have HC0_2 := zm hc0_2
 clear hr0_2 hc0_2
 have HB := zm (Below.refl w.heap.size w)
 have H : ((laws_szReader.f l0_0 a0_1 l0_2 1048576).bind fun t313 => (if t313 < 0 then (some true) else ((laws_toReader.f k l0_0 a0_1 l0_2).bind fun bt314 => ((spec_WindTo.f k bt314.1 bt314.2.1 bt314.2.2 a1).bind fun bt321 => ((laws_toReader.f k l0_0 a0_1 l0_2).bind fun bt330 => ((impl_WindTo.f k bt330.1 bt330.2.1 bt330.2.2 a1).bind fun bt338 => ((laws_eqReader.f k bt338.1 bt338.2.1 bt338.2.2.1 bt321.1 bt321.2.1 bt321.2.2.1).bind fun t347 => (if t347 = true then (laws_FnExactWindTo.j0 k a1 bt321.2.2.2 bt338.2.2.2 (bt338.2.2.2 != bt321.2.2.2) l0_0 a0_1 l0_2 bt321.1 bt321.2.1 bt321.2.2.1 bt330.1 bt330.2.1 bt330.2.2 bt338.1 bt338.2.1 bt338.2.2.1) else (laws_FnExactWindTo.j0 k a1 bt321.2.2.2 bt338.2.2.2 true l0_0 a0_1 l0_2 bt321.1 bt321.2.1 bt321.2.2.1 bt330.1 bt330.2.1 bt330.2.2 bt338.1 bt338.2.1 bt338.2.2.1))))))))) = some r := h
 clear h
 replace H := Option.bind_eq_some_iff.mp H
 obtain ⟨t313, A30, H⟩ := H
 replace H : (if t313 < 0 then (some true) else ((laws_toReader.f k l0_0 a0_1 l0_2).bind fun bt314 => ((spec_WindTo.f k bt314.1 bt314.2.1 bt314.2.2 a1).bind fun bt321 => ((laws_toReader.f k l0_0 a0_1 l0_2).bind fun bt330 => ((impl_WindTo.f k bt330.1 bt330.2.1 bt330.2.2 a1).bind fun bt338 => ((laws_eqReader.f k bt338.1 bt338.2.1 bt338.2.2.1 bt321.1 bt321.2.1 bt321.2.2.1).bind fun t347 => (if t347 = true then (laws_FnExactWindTo.j0 k a1 bt321.2.2.2 bt338.2.2.2 (bt338.2.2.2 != bt321.2.2.2) l0_0 a0_1 l0_2 bt321.1 bt321.2.1 bt321.2.2.1 bt330.1 bt330.2.1 bt330.2.2 bt338.1 bt338.2.1 bt338.2.2.1) else (laws_FnExactWindTo.j0 k a1 bt321.2.2.2 bt338.2.2.2 true l0_0 a0_1 l0_2 bt321.1 bt321.2.1 bt321.2.2.1 bt330.1 bt330.2.1 bt330.2.2 bt338.1 bt338.2.1 bt338.2.2.1)))))))) = some r := H
 have A3 := zm A30
 clear A30
 by_cases c4 : t313 < 0
 ·
  rw [if_pos c4] at H
  have c4b0 : decide (t313 < 0) = true := decide_eq_true c4
  clear c4
  obtain rfl := Option.some.inj H
  go_enter Try.func3, Try.ntmps3
  go_wp2_with (first | ((with_reducible refine gate_dst (N := 2) rfl ?_); refine box_event ?hg (N := 2) ?hd (cs := #[.slice A0_0 l0_0.length c0_0, .int .i64 a0_1, .slice A0_2 l0_2.length c0_2]) (t := 25) ?hr ?_; (case hd => rfl); (case hg => rfl); (case hr => first | (go_simp; done) | (go_simp; rfl)); intro gb312 hg w5 hbox hb; have n0_ := zm (below_step zb hb); have n1_ := zm (hbox); have n2_ := zm (zs hg zb : w.heap.size ≤ gb312); have n3_ := zm (zs hg zb : w.heap.size ≤ gb312); clear HB; have HB := n0_; have BK312 := n1_; have GW312 := n2_; have GE312 := n3_; clear n0_ n1_ n2_ n3_; clear hb hbox hg; obtain ⟨hcz6_0, hcz6_1, hcz6_2, hfz6_0, hfz6_1, hfz6_2⟩ := zc3 BK312.out) | ((with_reducible refine gate_callee (f := 12) rfl ?_); refine goesL_ (some 18) rfl rfl Try.func12 (by kernel_rfl) rfl #[.agg #[.slice A0_0 l0_0.length c0_0, .int .i64 a0_1, .slice A0_2 l0_2.length c0_2], .int .i64 1048576] rfl (by (try simp only [List.map_toArray, List.map_cons, List.map_nil]); first | done | rfl | (simp only [List.length_drop, List.length_take]; rfl)) ?_; (with_reducible refine (laws_szReader.calls _ _ l0_0 a0_1 _ _ l0_2 1048576 t313 _ ?side1 ?side2 ?side3 ?side4 A3.out).mono ?_); (case side1 => repeat (first | exact (Kd.C_below HR0_0.out HB.out) | (with_reducible refine Kd.C_alloc ?_ _) | (with_reducible refine Kd.C_drewN ?_ _) | (with_reducible refine Kd.C_drew ?_))); (case side2 => exact HC0_0.out); (case side3 => repeat (first | exact (Kd.C_below HR0_2.out HB.out) | (with_reducible refine Kd.C_alloc ?_ _) | (with_reducible refine Kd.C_drewN ?_ _) | (with_reducible refine Kd.C_drew ?_))); (case side4 => exact HC0_2.out); rintro e w7 ⟨rfl, hb⟩; refine ⟨_, rfl, ?_⟩; have n0_ := zm (blk_below (g := gb312) zk hb); have n1_ := zm (below_step zb hb); clear BK312; clear HB; have BK312 := n0_; have HB := n1_; clear n0_ n1_; (try clear hb); (try clear hb2); (try clear hk); (try clear hi)))
  go_ret
  exact ⟨zr, zb⟩
 ·
  rw [if_neg c4] at H
  have c4b0 : decide (t313 < 0) = false := decide_eq_false c4
  clear c4
  replace H := Option.bind_eq_some_iff.mp H
  obtain ⟨⟨t314, t317, t318⟩, A80, H⟩ := H
  replace H : ((spec_WindTo.f k t314 t317 t318 a1).bind fun bt321 => ((laws_toReader.f k l0_0 a0_1 l0_2).bind fun bt330 => ((impl_WindTo.f k bt330.1 bt330.2.1 bt330.2.2 a1).bind fun bt338 => ((laws_eqReader.f k bt338.1 bt338.2.1 bt338.2.2.1 bt321.1 bt321.2.1 bt321.2.2.1).bind fun t347 => (if t347 = true then (laws_FnExactWindTo.j0 k a1 bt321.2.2.2 bt338.2.2.2 (bt338.2.2.2 != bt321.2.2.2) l0_0 a0_1 l0_2 bt321.1 bt321.2.1 bt321.2.2.1 bt330.1 bt330.2.1 bt330.2.2 bt338.1 bt338.2.1 bt338.2.2.1) else (laws_FnExactWindTo.j0 k a1 bt321.2.2.2 bt338.2.2.2 true l0_0 a0_1 l0_2 bt321.1 bt321.2.1 bt321.2.2.1 bt330.1 bt330.2.1 bt330.2.2 bt338.1 bt338.2.1 bt338.2.2.1)))))) = some r := H
  have A8 := zm A80
  clear A80
  replace H := Option.bind_eq_some_iff.mp H
  obtain ⟨⟨t321, t324, t325, t328⟩, A90, H⟩ := H
  replace H : ((laws_toReader.f k l0_0 a0_1 l0_2).bind fun bt330 => ((impl_WindTo.f k bt330.1 bt330.2.1 bt330.2.2 a1).bind fun bt338 => ((laws_eqReader.f k bt338.1 bt338.2.1 bt338.2.2.1 t321 t324 t325).bind fun t347 => (if t347 = true then (laws_FnExactWindTo.j0 k a1 t328 bt338.2.2.2 (bt338.2.2.2 != t328) l0_0 a0_1 l0_2 t321 t324 t325 bt330.1 bt330.2.1 bt330.2.2 bt338.1 bt338.2.1 bt338.2.2.1) else (laws_FnExactWindTo.j0 k a1 t328 bt338.2.2.2 true l0_0 a0_1 l0_2 t321 t324 t325 bt330.1 bt330.2.1 bt330.2.2 bt338.1 bt338.2.1 bt338.2.2.1))))) = some r := H
  have A9 := zm A90
  clear A90
  replace H := Option.bind_eq_some_iff.mp H
  obtain ⟨⟨t330, t333, t334⟩, A100, H⟩ := H
  replace H : ((impl_WindTo.f k t330 t333 t334 a1).bind fun bt338 => ((laws_eqReader.f k bt338.1 bt338.2.1 bt338.2.2.1 t321 t324 t325).bind fun t347 => (if t347 = true then (laws_FnExactWindTo.j0 k a1 t328 bt338.2.2.2 (bt338.2.2.2 != t328) l0_0 a0_1 l0_2 t321 t324 t325 t330 t333 t334 bt338.1 bt338.2.1 bt338.2.2.1) else (laws_FnExactWindTo.j0 k a1 t328 bt338.2.2.2 true l0_0 a0_1 l0_2 t321 t324 t325 t330 t333 t334 bt338.1 bt338.2.1 bt338.2.2.1)))) = some r := H
  have A10 := zm A100
  clear A100
  replace H := Option.bind_eq_some_iff.mp H
  obtain ⟨⟨t338, t341, t342, t345⟩, A110, H⟩ := H
  replace H : ((laws_eqReader.f k t338 t341 t342 t321 t324 t325).bind fun t347 => (if t347 = true then (laws_FnExactWindTo.j0 k a1 t328 t345 (t345 != t328) l0_0 a0_1 l0_2 t321 t324 t325 t330 t333 t334 t338 t341 t342) else (laws_FnExactWindTo.j0 k a1 t328 t345 true l0_0 a0_1 l0_2 t321 t324 t325 t330 t333 t334 t338 t341 t342))) = some r := H
  have A11 := zm A110
  clear A110
  have HC12 := zm H
  clear H
  go_enter Try.func3, Try.ntmps3
  go_upto_region 8 with (first | ((with_reducible refine gate_dst (N := 2) rfl ?_); refine box_event ?hg (N := 2) ?hd (cs := #[.slice A0_0 l0_0.length c0_0, .int .i64 a0_1, .slice A0_2 l0_2.length c0_2]) (t := 25) ?hr ?_; (case hd => rfl); (case hg => rfl); (case hr => first | (go_simp; done) | (go_simp; rfl)); intro gb312 hg w13 hbox hb; have n0_ := zm (below_step zb hb); have n1_ := zm (hbox); have n2_ := zm (zs hg zb : w.heap.size ≤ gb312); have n3_ := zm (zs hg zb : w.heap.size ≤ gb312); clear HB; have HB := n0_; have BK312 := n1_; have GW312 := n2_; have GE312 := n3_; clear n0_ n1_ n2_ n3_; clear hb hbox hg; obtain ⟨hcz14_0, hcz14_1, hcz14_2, hfz14_0, hfz14_1, hfz14_2⟩ := zc3 BK312.out) | ((with_reducible refine gate_callee (f := 12) rfl ?_); refine goesL_ (some 18) rfl rfl Try.func12 (by kernel_rfl) rfl #[.agg #[.slice A0_0 l0_0.length c0_0, .int .i64 a0_1, .slice A0_2 l0_2.length c0_2], .int .i64 1048576] rfl (by (try simp only [List.map_toArray, List.map_cons, List.map_nil]); first | done | rfl | (simp only [List.length_drop, List.length_take]; rfl)) ?_; (with_reducible refine (laws_szReader.calls _ _ l0_0 a0_1 _ _ l0_2 1048576 t313 _ ?side1 ?side2 ?side3 ?side4 A3.out).mono ?_); (case side1 => repeat (first | exact (Kd.C_below HR0_0.out HB.out) | (with_reducible refine Kd.C_alloc ?_ _) | (with_reducible refine Kd.C_drewN ?_ _) | (with_reducible refine Kd.C_drew ?_))); (case side2 => exact HC0_0.out); (case side3 => repeat (first | exact (Kd.C_below HR0_2.out HB.out) | (with_reducible refine Kd.C_alloc ?_ _) | (with_reducible refine Kd.C_drewN ?_ _) | (with_reducible refine Kd.C_drew ?_))); (case side4 => exact HC0_2.out); rintro e w15 ⟨rfl, hb⟩; refine ⟨_, rfl, ?_⟩; have n0_ := zm (blk_below (g := gb312) zk hb); have n1_ := zm (below_step zb hb); clear BK312; clear HB; have BK312 := n0_; have HB := n1_; clear n0_ n1_; (try clear hb); (try clear hb2); (try clear hk); (try clear hi); obtain ⟨hcz16_0, hcz16_1, hcz16_2, hfz16_0, hfz16_1, hfz16_2⟩ := zc3 BK312.out) | ((with_reducible refine gate_callee (f := 14) rfl ?_); refine goesL_ (some 23) rfl rfl Try.func14 (by kernel_rfl) rfl #[.agg #[.slice A0_0 l0_0.length c0_0, .int .i64 a0_1, .slice A0_2 l0_2.length c0_2]] rfl (by (try simp only [List.map_toArray, List.map_cons, List.map_nil]); first | done | rfl | (simp only [List.length_drop, List.length_take]; rfl)) ?_; (with_reducible refine (laws_toReader.calls k _ _ l0_0 a0_1 _ _ l0_2 t314 t317 t318 _ ?side1 ?side2 ?side3 ?side4 A8.out).mono ?_); (case side1 => repeat (first | exact (Kd.C_below HR0_0.out HB.out) | (with_reducible refine Kd.C_alloc ?_ _) | (with_reducible refine Kd.C_drewN ?_ _) | (with_reducible refine Kd.C_drew ?_))); (case side2 => exact HC0_0.out); (case side3 => repeat (first | exact (Kd.C_below HR0_2.out HB.out) | (with_reducible refine Kd.C_alloc ?_ _) | (with_reducible refine Kd.C_drewN ?_ _) | (with_reducible refine Kd.C_drew ?_))); (case side4 => exact HC0_2.out); rintro e w17 ⟨v315, v319, rfl, ho0, ho1, hb⟩; refine ⟨_, rfl, ?_⟩; have n0_ := zm (Kd.R_lower ho0 (below_size zb)); have n1_ := zm (Kd.R_lower ho1 (below_size zb)); have n2_ := zm (blk_below (g := gb312) zk hb); have n3_ := zm (below_step zb hb); clear BK312; clear HB; have HO316 := n0_; have HO320 := n1_; have BK312 := n2_; have HB := n3_; clear n0_ n1_ n2_ n3_; (try clear hb); (try clear hb2); (try clear hk); (try clear hi); (try clear ho0); (try clear ho1); obtain ⟨Ao18, co18, eo18⟩ := Kd.R_slice HO316.out; subst eo18; obtain ⟨Ao19, co19, eo19⟩ := Kd.R_slice HO320.out; subst eo19) | ((with_reducible refine gate_callee (f := 13) rfl ?_); refine goesL_ (some 25) rfl rfl Try.func13 (by kernel_rfl) rfl #[.agg #[.slice Ao18 t314.length co18, .int .i64 t317, .slice Ao19 t318.length co19], .int .i64 a1] rfl (by (try simp only [List.map_toArray, List.map_cons, List.map_nil]); first | done | rfl | (simp only [List.length_drop, List.length_take]; rfl)) ?_; (with_reducible refine (spec_WindTo.calls k _ _ t314 t317 _ _ t318 a1 t321 t324 t325 t328 _ ?side1 ?side2 ?side3 ?side4 A9.out).mono ?_); (case side1 => repeat (first | exact (Kd.R_reads' HO316.out).2.2 | (with_reducible refine Kd.C_alloc ?_ _) | (with_reducible refine Kd.C_drewN ?_ _) | (with_reducible refine Kd.C_drew ?_))); (case side2 => exact (Kd.R_reads' HO316.out).2.1); (case side3 => repeat (first | exact (Kd.R_reads' HO320.out).2.2 | (with_reducible refine Kd.C_alloc ?_ _) | (with_reducible refine Kd.C_drewN ?_ _) | (with_reducible refine Kd.C_drew ?_))); (case side4 => exact (Kd.R_reads' HO320.out).2.1); rintro e w20 ⟨v322, v326, rfl, ho0, ho1, hb⟩; refine ⟨_, rfl, ?_⟩; have n0_ := zm (Kd.R_elder' (by (with_reducible repeat (first | apply Kd.R_alloc | apply Kd.R_drewN | apply Kd.R_drew)); exact HO316.out) (Kd.R_base ho0) hb); have n1_ := zm (Kd.R_elder' (by (with_reducible repeat (first | apply Kd.R_alloc | apply Kd.R_drewN | apply Kd.R_drew)); exact HO320.out) (Kd.R_base ho1) hb); have n2_ := zm (Kd.R_lower (Kd.R_new' ho0 (Kd.R_lt (by (with_reducible repeat (first | apply Kd.R_alloc | apply Kd.R_drewN | apply Kd.R_drew)); exact HO316.out))) (below_size zb)); have n3_ := zm (Kd.R_lower (Kd.R_new' ho1 (Kd.R_lt (by (with_reducible repeat (first | apply Kd.R_alloc | apply Kd.R_drewN | apply Kd.R_drew)); exact HO320.out))) (below_size zb)); have n4_ := zm (blk_below (g := gb312) zk hb); have n5_ := zm (below_step zb hb); clear HO316; clear HO320; clear BK312; clear HB; have HO316 := n0_; have HO320 := n1_; have HO323 := n2_; have HO327 := n3_; have BK312 := n4_; have HB := n5_; clear n0_ n1_ n2_ n3_ n4_ n5_; (try clear hb); (try clear hb2); (try clear hk); (try clear hi); (try clear ho0); (try clear ho1)) | ((with_reducible refine gate_dst (N := 6) rfl ?_); refine box_event ?hg (N := 6) ?hd (cs := #[.slice none 0 0, .int .i64 0, .slice none 0 0]) (t := 29) ?hr ?_; (case hd => rfl); (case hg => rfl); (case hr => first | (go_simp; done) | (go_simp; rfl)); intro gb329 hg w21 hbox hb; have n0_ := zm (Kd.R_below (by (with_reducible repeat (first | apply Kd.R_alloc | apply Kd.R_drewN | apply Kd.R_drew)); exact HO316.out) hb); have n1_ := zm (Kd.R_below (by (with_reducible repeat (first | apply Kd.R_alloc | apply Kd.R_drewN | apply Kd.R_drew)); exact HO320.out) hb); have n2_ := zm (Kd.R_below (by (with_reducible repeat (first | apply Kd.R_alloc | apply Kd.R_drewN | apply Kd.R_drew)); exact HO323.out) hb); have n3_ := zm (Kd.R_below (by (with_reducible repeat (first | apply Kd.R_alloc | apply Kd.R_drewN | apply Kd.R_drew)); exact HO327.out) hb); have n4_ := zm (blk_below (g := gb312) zk hb); have n5_ := zm (below_step zb hb); have n6_ := zm (hbox); have n7_ := zm (zs hg zb : w.heap.size ≤ gb329); have n8_ := zm (zs hg zb : w.heap.size ≤ gb329); have n9_ := zm (zl hg zk : gb312 ≠ gb329); have n10_ := zm (zg hg zk : gb329 ≠ gb312); clear HO316; clear HO320; clear HO323; clear HO327; clear BK312; clear HB; have HO316 := n0_; have HO320 := n1_; have HO323 := n2_; have HO327 := n3_; have BK312 := n4_; have HB := n5_; have BK329 := n6_; have GW329 := n7_; have GE329 := n8_; have NB312_329 := n9_; have NB329_312 := n10_; clear n0_ n1_ n2_ n3_ n4_ n5_ n6_ n7_ n8_ n9_ n10_; clear hb hbox hg; obtain ⟨Ao22, co22, eo22⟩ := Kd.R_slice HO323.out; subst eo22; have hnb23 := NB329_312.out; have hnc23 := NB312_329.out; obtain ⟨hcz24_0, hcz24_1, hcz24_2, hfz24_0, hfz24_1, hfz24_2⟩ := zc3 BK329.out; obtain ⟨Ao25, co25, eo25⟩ := Kd.R_slice HO327.out; subst eo25; obtain ⟨hcz26_0, hcz26_1, hcz26_2, hfz26_0, hfz26_1, hfz26_2⟩ := zc3 BK312.out) | ((with_reducible refine gate_callee (f := 14) rfl ?_); refine goesL_ (some 29) rfl rfl Try.func14 (by kernel_rfl) rfl #[.agg #[.slice A0_0 l0_0.length c0_0, .int .i64 a0_1, .slice A0_2 l0_2.length c0_2]] rfl (by (try simp only [List.map_toArray, List.map_cons, List.map_nil]); first | done | rfl | (simp only [List.length_drop, List.length_take]; rfl)) ?_; (with_reducible refine (laws_toReader.calls k _ _ l0_0 a0_1 _ _ l0_2 t330 t333 t334 _ ?side1 ?side2 ?side3 ?side4 A10.out).mono ?_); (case side1 => exact Kd.C_below HR0_0.out zb); (case side2 => exact HC0_0.out); (case side3 => exact Kd.C_below HR0_2.out zb); (case side4 => exact HC0_2.out); rintro e w27 ⟨v331, v335, rfl, ho0, ho1, hb⟩; refine ⟨_, rfl, ?_⟩; have n0_ := zm (Kd.R_elder' (by (with_reducible repeat (first | apply Kd.R_alloc | apply Kd.R_drewN | apply Kd.R_drew)); exact (Kd.R_mono (Kd.R_far (p := ⟨gb329, 2, none⟩) (Kd.R_far (p := ⟨gb329, 1, none⟩) (Kd.R_far (p := ⟨gb329, 0, none⟩) (Kd.R_types HO316.out BK329.out (by decide)) (fun _ hk => hk.2) (.slice Ao22 t321.length co22)) (fun _ hk => hk.2) (.int .i64 t324)) (fun _ hk => hk.2) (.slice Ao25 t325.length co25)) (fun _ h_ => h_.1))) (Kd.R_base ho0) hb); have n1_ := zm (Kd.R_elder' (by (with_reducible repeat (first | apply Kd.R_alloc | apply Kd.R_drewN | apply Kd.R_drew)); exact (Kd.R_mono (Kd.R_far (p := ⟨gb329, 2, none⟩) (Kd.R_far (p := ⟨gb329, 1, none⟩) (Kd.R_far (p := ⟨gb329, 0, none⟩) (Kd.R_types HO320.out BK329.out (by decide)) (fun _ hk => hk.2) (.slice Ao22 t321.length co22)) (fun _ hk => hk.2) (.int .i64 t324)) (fun _ hk => hk.2) (.slice Ao25 t325.length co25)) (fun _ h_ => h_.1))) (Kd.R_base ho1) hb); have n2_ := zm (Kd.R_elder' (by (with_reducible repeat (first | apply Kd.R_alloc | apply Kd.R_drewN | apply Kd.R_drew)); exact (Kd.R_mono (Kd.R_far (p := ⟨gb329, 2, none⟩) (Kd.R_far (p := ⟨gb329, 1, none⟩) (Kd.R_far (p := ⟨gb329, 0, none⟩) (Kd.R_types HO323.out BK329.out (by decide)) (fun _ hk => hk.2) (.slice Ao22 t321.length co22)) (fun _ hk => hk.2) (.int .i64 t324)) (fun _ hk => hk.2) (.slice Ao25 t325.length co25)) (fun _ h_ => h_.1))) (Kd.R_base ho0) hb); have n3_ := zm (Kd.R_elder' (by (with_reducible repeat (first | apply Kd.R_alloc | apply Kd.R_drewN | apply Kd.R_drew)); exact (Kd.R_mono (Kd.R_far (p := ⟨gb329, 2, none⟩) (Kd.R_far (p := ⟨gb329, 1, none⟩) (Kd.R_far (p := ⟨gb329, 0, none⟩) (Kd.R_types HO327.out BK329.out (by decide)) (fun _ hk => hk.2) (.slice Ao22 t321.length co22)) (fun _ hk => hk.2) (.int .i64 t324)) (fun _ hk => hk.2) (.slice Ao25 t325.length co25)) (fun _ h_ => h_.1))) (Kd.R_base ho1) hb); have n4_ := zm (Kd.R_lower (Kd.R_new' (Kd.R_new' ho0 (Kd.R_lt (by (with_reducible repeat (first | apply Kd.R_alloc | apply Kd.R_drewN | apply Kd.R_drew)); exact (Kd.R_mono (Kd.R_far (p := ⟨gb329, 2, none⟩) (Kd.R_far (p := ⟨gb329, 1, none⟩) (Kd.R_far (p := ⟨gb329, 0, none⟩) (Kd.R_types HO316.out BK329.out (by decide)) (fun _ hk => hk.2) (.slice Ao22 t321.length co22)) (fun _ hk => hk.2) (.int .i64 t324)) (fun _ hk => hk.2) (.slice Ao25 t325.length co25)) (fun _ h_ => h_.1))))) (Kd.R_lt (by (with_reducible repeat (first | apply Kd.R_alloc | apply Kd.R_drewN | apply Kd.R_drew)); exact (Kd.R_mono (Kd.R_far (p := ⟨gb329, 2, none⟩) (Kd.R_far (p := ⟨gb329, 1, none⟩) (Kd.R_far (p := ⟨gb329, 0, none⟩) (Kd.R_types HO323.out BK329.out (by decide)) (fun _ hk => hk.2) (.slice Ao22 t321.length co22)) (fun _ hk => hk.2) (.int .i64 t324)) (fun _ hk => hk.2) (.slice Ao25 t325.length co25)) (fun _ h_ => h_.1))))) (below_size zb)); have n5_ := zm (Kd.R_lower (Kd.R_new' (Kd.R_new' ho1 (Kd.R_lt (by (with_reducible repeat (first | apply Kd.R_alloc | apply Kd.R_drewN | apply Kd.R_drew)); exact (Kd.R_mono (Kd.R_far (p := ⟨gb329, 2, none⟩) (Kd.R_far (p := ⟨gb329, 1, none⟩) (Kd.R_far (p := ⟨gb329, 0, none⟩) (Kd.R_types HO320.out BK329.out (by decide)) (fun _ hk => hk.2) (.slice Ao22 t321.length co22)) (fun _ hk => hk.2) (.int .i64 t324)) (fun _ hk => hk.2) (.slice Ao25 t325.length co25)) (fun _ h_ => h_.1))))) (Kd.R_lt (by (with_reducible repeat (first | apply Kd.R_alloc | apply Kd.R_drewN | apply Kd.R_drew)); exact (Kd.R_mono (Kd.R_far (p := ⟨gb329, 2, none⟩) (Kd.R_far (p := ⟨gb329, 1, none⟩) (Kd.R_far (p := ⟨gb329, 0, none⟩) (Kd.R_types HO327.out BK329.out (by decide)) (fun _ hk => hk.2) (.slice Ao22 t321.length co22)) (fun _ hk => hk.2) (.int .i64 t324)) (fun _ hk => hk.2) (.slice Ao25 t325.length co25)) (fun _ h_ => h_.1))))) (below_size zb)); have n6_ := zm (blk_below (g := gb312) (o := .cells #[.slice A0_0 l0_0.length c0_0, .int .i64 a0_1, .slice A0_2 l0_2.length c0_2] 25 (0, 0)) zK hb); have n7_ := zm (blk_below (g := gb329) (o := .cells #[.slice Ao22 t321.length co22, .int .i64 t324, .slice Ao25 t325.length co25] 29 (0, 0)) (by (with_reducible repeat (first | refine blk_drewN ?_ _ | refine blk_drew ?_ | refine blk_alloc ?_ _)); refine blk_put (cs := #[.slice Ao22 t321.length co22, .int .i64 t324, .slice none 0 0]) ?_ 2 _ rfl; (with_reducible repeat (first | refine blk_drewN ?_ _ | refine blk_drew ?_ | refine blk_alloc ?_ _)); refine blk_put (cs := #[.slice Ao22 t321.length co22, .int .i64 0, .slice none 0 0]) ?_ 1 _ rfl; (with_reducible repeat (first | refine blk_drewN ?_ _ | refine blk_drew ?_ | refine blk_alloc ?_ _)); refine blk_put (cs := #[.slice none 0 0, .int .i64 0, .slice none 0 0]) ?_ 0 _ rfl; (with_reducible repeat (first | refine blk_drewN ?_ _ | refine blk_drew ?_ | refine blk_alloc ?_ _)); exact BK329.out) hb); have n8_ := zm (below_step zb hb); clear HO316; clear HO320; clear HO323; clear HO327; clear BK312; clear BK329; clear HB; have HO316 := n0_; have HO320 := n1_; have HO323 := n2_; have HO327 := n3_; have HO332 := n4_; have HO336 := n5_; have BK312 := n6_; have BK329 := n7_; have HB := n8_; clear n0_ n1_ n2_ n3_ n4_ n5_ n6_ n7_ n8_; (try clear hb); (try clear hb2); (try clear hk); (try clear hi); (try clear ho0); (try clear ho1)) | ((with_reducible refine gate_dst (N := 8) rfl ?_); refine box_event ?hg (N := 8) ?hd (cs := #[.slice none 0 0, .int .i64 0, .slice none 0 0]) (t := 29) ?hr ?_; (case hd => rfl); (case hg => rfl); (case hr => first | (go_simp; done) | (go_simp; rfl)); intro gb337 hg w28 hbox hb; have n0_ := zm (Kd.R_below (by (with_reducible repeat (first | apply Kd.R_alloc | apply Kd.R_drewN | apply Kd.R_drew)); exact HO316.out) hb); have n1_ := zm (Kd.R_below (by (with_reducible repeat (first | apply Kd.R_alloc | apply Kd.R_drewN | apply Kd.R_drew)); exact HO320.out) hb); have n2_ := zm (Kd.R_below (by (with_reducible repeat (first | apply Kd.R_alloc | apply Kd.R_drewN | apply Kd.R_drew)); exact HO323.out) hb); have n3_ := zm (Kd.R_below (by (with_reducible repeat (first | apply Kd.R_alloc | apply Kd.R_drewN | apply Kd.R_drew)); exact HO327.out) hb); have n4_ := zm (Kd.R_below (by (with_reducible repeat (first | apply Kd.R_alloc | apply Kd.R_drewN | apply Kd.R_drew)); exact HO332.out) hb); have n5_ := zm (Kd.R_below (by (with_reducible repeat (first | apply Kd.R_alloc | apply Kd.R_drewN | apply Kd.R_drew)); exact HO336.out) hb); have n6_ := zm (blk_below (g := gb312) zk hb); have n7_ := zm (blk_below (g := gb329) zk hb); have n8_ := zm (below_step zb hb); have n9_ := zm (hbox); have n10_ := zm (zs hg zb : w.heap.size ≤ gb337); have n11_ := zm (zs hg zb : w.heap.size ≤ gb337); have n12_ := zm (zl hg zk : gb312 ≠ gb337); have n13_ := zm (zg hg zk : gb337 ≠ gb312); have n14_ := zm (zl hg zk : gb329 ≠ gb337); have n15_ := zm (zg hg zk : gb337 ≠ gb329); clear HO316; clear HO320; clear HO323; clear HO327; clear HO332; clear HO336; clear BK312; clear BK329; clear HB; have HO316 := n0_; have HO320 := n1_; have HO323 := n2_; have HO327 := n3_; have HO332 := n4_; have HO336 := n5_; have BK312 := n6_; have BK329 := n7_; have HB := n8_; have BK337 := n9_; have GW337 := n10_; have GE337 := n11_; have NB312_337 := n12_; have NB337_312 := n13_; have NB329_337 := n14_; have NB337_329 := n15_; clear n0_ n1_ n2_ n3_ n4_ n5_ n6_ n7_ n8_ n9_ n10_ n11_ n12_ n13_ n14_ n15_; clear hb hbox hg; obtain ⟨Ao29, co29, eo29⟩ := Kd.R_slice HO332.out; subst eo29; have hnb30 := NB337_312.out; have hnc30 := NB312_337.out; have hnb31 := NB337_329.out; have hnc31 := NB329_337.out; obtain ⟨hcz32_0, hcz32_1, hcz32_2, hfz32_0, hfz32_1, hfz32_2⟩ := zc3 BK337.out; obtain ⟨Ao33, co33, eo33⟩ := Kd.R_slice HO336.out; subst eo33) | ((with_reducible refine gate_callee (f := 15) rfl ?_); refine goesL_ (some 33) rfl rfl Try.func15 (by kernel_rfl) rfl #[.agg #[.slice Ao29 t330.length co29, .int .i64 t333, .slice Ao33 t334.length co33], .int .i64 a1] rfl (by (try simp only [List.map_toArray, List.map_cons, List.map_nil]); first | done | rfl | (simp only [List.length_drop, List.length_take]; rfl)) ?_; (with_reducible refine (impl_WindTo.calls k _ _ t330 t333 _ _ t334 a1 t338 t341 t342 t345 _ ?side1 ?side2 ?side3 ?side4 A11.out).mono ?_); (case side1 => refine (Kd.R_reads' (e := 137) (base := w.heap.size) (ok := fun k_ => ((True ∧ some k_ ≠ (.slice Ao18 t314.length co18 : Value).ownBlock) ∧ some k_ ≠ (.slice Ao22 t321.length co22 : Value).ownBlock)) (n := t330.length) (c := co29) ?_).2.2; exact (by (with_reducible repeat (first | apply Kd.R_alloc | apply Kd.R_drewN | apply Kd.R_drew)); exact (Kd.R_mono (Kd.R_far (p := ⟨gb337, 2, none⟩) (Kd.R_far (p := ⟨gb337, 1, none⟩) (Kd.R_far (p := ⟨gb337, 0, none⟩) (Kd.R_types HO332.out BK337.out (by decide)) (fun _ hk => hk.2) (.slice Ao29 t330.length co29)) (fun _ hk => hk.2) (.int .i64 t333)) (fun _ hk => hk.2) (.slice Ao33 t334.length co33)) (fun _ h_ => h_.1)))); (case side2 => exact (Kd.R_reads' HO332.out).2.1); (case side3 => refine (Kd.R_reads' (e := 3) (base := w.heap.size) (ok := fun k_ => ((True ∧ some k_ ≠ (.slice Ao19 t318.length co19 : Value).ownBlock) ∧ some k_ ≠ (.slice Ao25 t325.length co25 : Value).ownBlock)) (n := t334.length) (c := co33) ?_).2.2; exact (by (with_reducible repeat (first | apply Kd.R_alloc | apply Kd.R_drewN | apply Kd.R_drew)); exact (Kd.R_mono (Kd.R_far (p := ⟨gb337, 2, none⟩) (Kd.R_far (p := ⟨gb337, 1, none⟩) (Kd.R_far (p := ⟨gb337, 0, none⟩) (Kd.R_types HO336.out BK337.out (by decide)) (fun _ hk => hk.2) (.slice Ao29 t330.length co29)) (fun _ hk => hk.2) (.int .i64 t333)) (fun _ hk => hk.2) (.slice Ao33 t334.length co33)) (fun _ h_ => h_.1)))); (case side4 => exact (Kd.R_reads' HO336.out).2.1); rintro e w34 ⟨v339, v343, rfl, ho0, ho1, hb⟩; refine ⟨_, rfl, ?_⟩; have n0_ := zm (Kd.R_elder' (by (with_reducible repeat (first | apply Kd.R_alloc | apply Kd.R_drewN | apply Kd.R_drew)); exact (Kd.R_mono (Kd.R_far (p := ⟨gb337, 2, none⟩) (Kd.R_far (p := ⟨gb337, 1, none⟩) (Kd.R_far (p := ⟨gb337, 0, none⟩) (Kd.R_types HO316.out BK337.out (by decide)) (fun _ hk => hk.2) (.slice Ao29 t330.length co29)) (fun _ hk => hk.2) (.int .i64 t333)) (fun _ hk => hk.2) (.slice Ao33 t334.length co33)) (fun _ h_ => h_.1))) (Kd.R_base ho0) hb); have n1_ := zm (Kd.R_elder' (by (with_reducible repeat (first | apply Kd.R_alloc | apply Kd.R_drewN | apply Kd.R_drew)); exact (Kd.R_mono (Kd.R_far (p := ⟨gb337, 2, none⟩) (Kd.R_far (p := ⟨gb337, 1, none⟩) (Kd.R_far (p := ⟨gb337, 0, none⟩) (Kd.R_types HO320.out BK337.out (by decide)) (fun _ hk => hk.2) (.slice Ao29 t330.length co29)) (fun _ hk => hk.2) (.int .i64 t333)) (fun _ hk => hk.2) (.slice Ao33 t334.length co33)) (fun _ h_ => h_.1))) (Kd.R_base ho1) hb); have n2_ := zm (Kd.R_elder' (by (with_reducible repeat (first | apply Kd.R_alloc | apply Kd.R_drewN | apply Kd.R_drew)); exact (Kd.R_mono (Kd.R_far (p := ⟨gb337, 2, none⟩) (Kd.R_far (p := ⟨gb337, 1, none⟩) (Kd.R_far (p := ⟨gb337, 0, none⟩) (Kd.R_types HO323.out BK337.out (by decide)) (fun _ hk => hk.2) (.slice Ao29 t330.length co29)) (fun _ hk => hk.2) (.int .i64 t333)) (fun _ hk => hk.2) (.slice Ao33 t334.length co33)) (fun _ h_ => h_.1))) (Kd.R_base ho0) hb); have n3_ := zm (Kd.R_elder' (by (with_reducible repeat (first | apply Kd.R_alloc | apply Kd.R_drewN | apply Kd.R_drew)); exact (Kd.R_mono (Kd.R_far (p := ⟨gb337, 2, none⟩) (Kd.R_far (p := ⟨gb337, 1, none⟩) (Kd.R_far (p := ⟨gb337, 0, none⟩) (Kd.R_types HO327.out BK337.out (by decide)) (fun _ hk => hk.2) (.slice Ao29 t330.length co29)) (fun _ hk => hk.2) (.int .i64 t333)) (fun _ hk => hk.2) (.slice Ao33 t334.length co33)) (fun _ h_ => h_.1))) (Kd.R_base ho1) hb); have n4_ := zm (Kd.R_elder' (by (with_reducible repeat (first | apply Kd.R_alloc | apply Kd.R_drewN | apply Kd.R_drew)); exact (Kd.R_mono (Kd.R_far (p := ⟨gb337, 2, none⟩) (Kd.R_far (p := ⟨gb337, 1, none⟩) (Kd.R_far (p := ⟨gb337, 0, none⟩) (Kd.R_types HO332.out BK337.out (by decide)) (fun _ hk => hk.2) (.slice Ao29 t330.length co29)) (fun _ hk => hk.2) (.int .i64 t333)) (fun _ hk => hk.2) (.slice Ao33 t334.length co33)) (fun _ h_ => h_.1))) (Kd.R_base ho0) hb); have n5_ := zm (Kd.R_elder' (by (with_reducible repeat (first | apply Kd.R_alloc | apply Kd.R_drewN | apply Kd.R_drew)); exact (Kd.R_mono (Kd.R_far (p := ⟨gb337, 2, none⟩) (Kd.R_far (p := ⟨gb337, 1, none⟩) (Kd.R_far (p := ⟨gb337, 0, none⟩) (Kd.R_types HO336.out BK337.out (by decide)) (fun _ hk => hk.2) (.slice Ao29 t330.length co29)) (fun _ hk => hk.2) (.int .i64 t333)) (fun _ hk => hk.2) (.slice Ao33 t334.length co33)) (fun _ h_ => h_.1))) (Kd.R_base ho1) hb); have n6_ := zm (Kd.R_lower (Kd.R_new' (Kd.R_new' (Kd.R_new' ho0 (Kd.R_lt (by (with_reducible repeat (first | apply Kd.R_alloc | apply Kd.R_drewN | apply Kd.R_drew)); exact (Kd.R_mono (Kd.R_far (p := ⟨gb337, 2, none⟩) (Kd.R_far (p := ⟨gb337, 1, none⟩) (Kd.R_far (p := ⟨gb337, 0, none⟩) (Kd.R_types HO316.out BK337.out (by decide)) (fun _ hk => hk.2) (.slice Ao29 t330.length co29)) (fun _ hk => hk.2) (.int .i64 t333)) (fun _ hk => hk.2) (.slice Ao33 t334.length co33)) (fun _ h_ => h_.1))))) (Kd.R_lt (by (with_reducible repeat (first | apply Kd.R_alloc | apply Kd.R_drewN | apply Kd.R_drew)); exact (Kd.R_mono (Kd.R_far (p := ⟨gb337, 2, none⟩) (Kd.R_far (p := ⟨gb337, 1, none⟩) (Kd.R_far (p := ⟨gb337, 0, none⟩) (Kd.R_types HO323.out BK337.out (by decide)) (fun _ hk => hk.2) (.slice Ao29 t330.length co29)) (fun _ hk => hk.2) (.int .i64 t333)) (fun _ hk => hk.2) (.slice Ao33 t334.length co33)) (fun _ h_ => h_.1))))) (Kd.R_lt (by (with_reducible repeat (first | apply Kd.R_alloc | apply Kd.R_drewN | apply Kd.R_drew)); exact (Kd.R_mono (Kd.R_far (p := ⟨gb337, 2, none⟩) (Kd.R_far (p := ⟨gb337, 1, none⟩) (Kd.R_far (p := ⟨gb337, 0, none⟩) (Kd.R_types HO332.out BK337.out (by decide)) (fun _ hk => hk.2) (.slice Ao29 t330.length co29)) (fun _ hk => hk.2) (.int .i64 t333)) (fun _ hk => hk.2) (.slice Ao33 t334.length co33)) (fun _ h_ => h_.1))))) (below_size zb)); have n7_ := zm (Kd.R_lower (Kd.R_new' (Kd.R_new' (Kd.R_new' ho1 (Kd.R_lt (by (with_reducible repeat (first | apply Kd.R_alloc | apply Kd.R_drewN | apply Kd.R_drew)); exact (Kd.R_mono (Kd.R_far (p := ⟨gb337, 2, none⟩) (Kd.R_far (p := ⟨gb337, 1, none⟩) (Kd.R_far (p := ⟨gb337, 0, none⟩) (Kd.R_types HO320.out BK337.out (by decide)) (fun _ hk => hk.2) (.slice Ao29 t330.length co29)) (fun _ hk => hk.2) (.int .i64 t333)) (fun _ hk => hk.2) (.slice Ao33 t334.length co33)) (fun _ h_ => h_.1))))) (Kd.R_lt (by (with_reducible repeat (first | apply Kd.R_alloc | apply Kd.R_drewN | apply Kd.R_drew)); exact (Kd.R_mono (Kd.R_far (p := ⟨gb337, 2, none⟩) (Kd.R_far (p := ⟨gb337, 1, none⟩) (Kd.R_far (p := ⟨gb337, 0, none⟩) (Kd.R_types HO327.out BK337.out (by decide)) (fun _ hk => hk.2) (.slice Ao29 t330.length co29)) (fun _ hk => hk.2) (.int .i64 t333)) (fun _ hk => hk.2) (.slice Ao33 t334.length co33)) (fun _ h_ => h_.1))))) (Kd.R_lt (by (with_reducible repeat (first | apply Kd.R_alloc | apply Kd.R_drewN | apply Kd.R_drew)); exact (Kd.R_mono (Kd.R_far (p := ⟨gb337, 2, none⟩) (Kd.R_far (p := ⟨gb337, 1, none⟩) (Kd.R_far (p := ⟨gb337, 0, none⟩) (Kd.R_types HO336.out BK337.out (by decide)) (fun _ hk => hk.2) (.slice Ao29 t330.length co29)) (fun _ hk => hk.2) (.int .i64 t333)) (fun _ hk => hk.2) (.slice Ao33 t334.length co33)) (fun _ h_ => h_.1))))) (below_size zb)); have n8_ := zm (blk_below (g := gb312) (o := .cells #[.slice A0_0 l0_0.length c0_0, .int .i64 a0_1, .slice A0_2 l0_2.length c0_2] 25 (0, 0)) zK hb); have n9_ := zm (blk_below (g := gb329) (o := .cells #[.slice Ao22 t321.length co22, .int .i64 t324, .slice Ao25 t325.length co25] 29 (0, 0)) zK hb); have n10_ := zm (blk_below (g := gb337) (o := .cells #[.slice Ao29 t330.length co29, .int .i64 t333, .slice Ao33 t334.length co33] 29 (0, 0)) (by (with_reducible repeat (first | refine blk_drewN ?_ _ | refine blk_drew ?_ | refine blk_alloc ?_ _)); refine blk_put (cs := #[.slice Ao29 t330.length co29, .int .i64 t333, .slice none 0 0]) ?_ 2 _ rfl; (with_reducible repeat (first | refine blk_drewN ?_ _ | refine blk_drew ?_ | refine blk_alloc ?_ _)); refine blk_put (cs := #[.slice Ao29 t330.length co29, .int .i64 0, .slice none 0 0]) ?_ 1 _ rfl; (with_reducible repeat (first | refine blk_drewN ?_ _ | refine blk_drew ?_ | refine blk_alloc ?_ _)); refine blk_put (cs := #[.slice none 0 0, .int .i64 0, .slice none 0 0]) ?_ 0 _ rfl; (with_reducible repeat (first | refine blk_drewN ?_ _ | refine blk_drew ?_ | refine blk_alloc ?_ _)); exact BK337.out) hb); have n11_ := zm (below_step zb hb); clear HO316; clear HO320; clear HO323; clear HO327; clear HO332; clear HO336; clear BK312; clear BK329; clear BK337; clear HB; have HO316 := n0_; have HO320 := n1_; have HO323 := n2_; have HO327 := n3_; have HO332 := n4_; have HO336 := n5_; have HO340 := n6_; have HO344 := n7_; have BK312 := n8_; have BK329 := n9_; have BK337 := n10_; have HB := n11_; clear n0_ n1_ n2_ n3_ n4_ n5_ n6_ n7_ n8_ n9_ n10_ n11_; (try clear hb); (try clear hb2); (try clear hk); (try clear hi); (try clear ho0); (try clear ho1)) | ((with_reducible refine gate_dst (N := 9) rfl ?_); refine box_event ?hg (N := 9) ?hd (cs := #[.slice none 0 0, .int .i64 0, .slice none 0 0]) (t := 29) ?hr ?_; (case hd => rfl); (case hg => rfl); (case hr => first | (go_simp; done) | (go_simp; rfl)); intro gb346 hg w35 hbox hb; have n0_ := zm (Kd.R_below (by (with_reducible repeat (first | apply Kd.R_alloc | apply Kd.R_drewN | apply Kd.R_drew)); exact HO316.out) hb); have n1_ := zm (Kd.R_below (by (with_reducible repeat (first | apply Kd.R_alloc | apply Kd.R_drewN | apply Kd.R_drew)); exact HO320.out) hb); have n2_ := zm (Kd.R_below (by (with_reducible repeat (first | apply Kd.R_alloc | apply Kd.R_drewN | apply Kd.R_drew)); exact HO323.out) hb); have n3_ := zm (Kd.R_below (by (with_reducible repeat (first | apply Kd.R_alloc | apply Kd.R_drewN | apply Kd.R_drew)); exact HO327.out) hb); have n4_ := zm (Kd.R_below (by (with_reducible repeat (first | apply Kd.R_alloc | apply Kd.R_drewN | apply Kd.R_drew)); exact HO332.out) hb); have n5_ := zm (Kd.R_below (by (with_reducible repeat (first | apply Kd.R_alloc | apply Kd.R_drewN | apply Kd.R_drew)); exact HO336.out) hb); have n6_ := zm (Kd.R_below (by (with_reducible repeat (first | apply Kd.R_alloc | apply Kd.R_drewN | apply Kd.R_drew)); exact HO340.out) hb); have n7_ := zm (Kd.R_below (by (with_reducible repeat (first | apply Kd.R_alloc | apply Kd.R_drewN | apply Kd.R_drew)); exact HO344.out) hb); have n8_ := zm (blk_below (g := gb312) zk hb); have n9_ := zm (blk_below (g := gb329) zk hb); have n10_ := zm (blk_below (g := gb337) zk hb); have n11_ := zm (below_step zb hb); have n12_ := zm (hbox); have n13_ := zm (zs hg zb : w.heap.size ≤ gb346); have n14_ := zm (zs hg zb : w.heap.size ≤ gb346); have n15_ := zm (zl hg zk : gb312 ≠ gb346); have n16_ := zm (zg hg zk : gb346 ≠ gb312); have n17_ := zm (zl hg zk : gb329 ≠ gb346); have n18_ := zm (zg hg zk : gb346 ≠ gb329); have n19_ := zm (zl hg zk : gb337 ≠ gb346); have n20_ := zm (zg hg zk : gb346 ≠ gb337); clear HO316; clear HO320; clear HO323; clear HO327; clear HO332; clear HO336; clear HO340; clear HO344; clear BK312; clear BK329; clear BK337; clear HB; have HO316 := n0_; have HO320 := n1_; have HO323 := n2_; have HO327 := n3_; have HO332 := n4_; have HO336 := n5_; have HO340 := n6_; have HO344 := n7_; have BK312 := n8_; have BK329 := n9_; have BK337 := n10_; have HB := n11_; have BK346 := n12_; have GW346 := n13_; have GE346 := n14_; have NB312_346 := n15_; have NB346_312 := n16_; have NB329_346 := n17_; have NB346_329 := n18_; have NB337_346 := n19_; have NB346_337 := n20_; clear n0_ n1_ n2_ n3_ n4_ n5_ n6_ n7_ n8_ n9_ n10_ n11_ n12_ n13_ n14_ n15_ n16_ n17_ n18_ n19_ n20_; clear hb hbox hg; obtain ⟨Ao36, co36, eo36⟩ := Kd.R_slice HO340.out; subst eo36; have hnb37 := NB346_312.out; have hnc37 := NB312_346.out; have hnb38 := NB346_329.out; have hnc38 := NB329_346.out; have hnb39 := NB346_337.out; have hnc39 := NB337_346.out; obtain ⟨hcz40_0, hcz40_1, hcz40_2, hfz40_0, hfz40_1, hfz40_2⟩ := zc3 BK346.out; obtain ⟨Ao41, co41, eo41⟩ := Kd.R_slice HO344.out; subst eo41))
  (try simp only [Act.put, List.setIfInBounds_toArray, List.set_cons_zero, List.set_cons_succ])
  go_cut [44] (fun v44 wc => ∃ (kq : Nat) (x44_11 : Bool), v44 = .bool x44_11 ∧ Aside0 (laws_FnExactWindTo.j0 kq a1 t328 t345 x44_11 l0_0 a0_1 l0_2 t321 t324 t325 t330 t333 t334 t338 t341 t342 = some r) ∧ Aside0 (kq ≤ k) ∧ Aside0 (Kd.R k137 137 wc w.heap.size (fun k_ => some k_ ≠ ((.slice Ao29 t330.length co29) : Value).ownBlock ∧ some k_ ≠ ((.slice Ao36 t338.length co36) : Value).ownBlock) (.slice Ao22 t321.length co22) t321) ∧ Aside0 (Kd.R (Kd.int .i64) 3 wc w.heap.size (fun k_ => some k_ ≠ ((.slice Ao33 t334.length co33) : Value).ownBlock ∧ some k_ ≠ ((.slice Ao41 t342.length co41) : Value).ownBlock) (.slice Ao25 t325.length co25) t325) ∧ Aside0 (Kd.R k137 137 wc w.heap.size (fun k_ => some k_ ≠ ((.slice Ao22 t321.length co22) : Value).ownBlock ∧ some k_ ≠ ((.slice Ao36 t338.length co36) : Value).ownBlock) (.slice Ao29 t330.length co29) t330) ∧ Aside0 (Kd.R (Kd.int .i64) 3 wc w.heap.size (fun k_ => some k_ ≠ ((.slice Ao25 t325.length co25) : Value).ownBlock ∧ some k_ ≠ ((.slice Ao41 t342.length co41) : Value).ownBlock) (.slice Ao33 t334.length co33) t334) ∧ Aside0 (Kd.R k137 137 wc w.heap.size (fun k_ => some k_ ≠ ((.slice Ao22 t321.length co22) : Value).ownBlock ∧ some k_ ≠ ((.slice Ao29 t330.length co29) : Value).ownBlock) (.slice Ao36 t338.length co36) t338) ∧ Aside0 (Kd.R (Kd.int .i64) 3 wc w.heap.size (fun k_ => some k_ ≠ ((.slice Ao25 t325.length co25) : Value).ownBlock ∧ some k_ ≠ ((.slice Ao33 t334.length co33) : Value).ownBlock) (.slice Ao41 t342.length co41) t342) ∧ Aside0 (wc.heap[gb312]? = some (.cells #[(.slice A0_0 l0_0.length c0_0), .int .i64 a0_1, (.slice A0_2 l0_2.length c0_2)] 25 (0, 0))) ∧ Aside0 (wc.heap[gb329]? = some (.cells #[(.slice Ao22 t321.length co22), .int .i64 t324, (.slice Ao25 t325.length co25)] 29 (0, 0))) ∧ Aside0 (wc.heap[gb337]? = some (.cells #[(.slice Ao29 t330.length co29), .int .i64 t333, (.slice Ao33 t334.length co33)] 29 (0, 0))) ∧ Aside0 (wc.heap[gb346]? = some (.cells #[(.slice Ao36 t338.length co36), .int .i64 t341, (.slice Ao41 t342.length co41)] 29 (0, 0))) ∧ Aside0 (Below w.heap.size w wc))
  case first =>
   have H := HC12.out
   clear HC12
   replace H := Option.bind_eq_some_iff.mp H
   obtain ⟨t347, A420, H⟩ := H
   replace H : (if t347 = true then (laws_FnExactWindTo.j0 k a1 t328 t345 (t345 != t328) l0_0 a0_1 l0_2 t321 t324 t325 t330 t333 t334 t338 t341 t342) else (laws_FnExactWindTo.j0 k a1 t328 t345 true l0_0 a0_1 l0_2 t321 t324 t325 t330 t333 t334 t338 t341 t342)) = some r := H
   have A42 := zm A420
   clear A420
   by_cases c43 : t347 = true
   ·
    subst c43
    have H1 : (laws_FnExactWindTo.j0 k a1 t328 t345 (t345 != t328) l0_0 a0_1 l0_2 t321 t324 t325 t330 t333 t334 t338 t341 t342) = some r := by rw [if_pos rfl] at H; exact H
    clear H
    have H := H1
    clear H1
    have H' := zm H
    clear H
    have hnb44 := NB346_312.out
    have hnc44 := NB312_346.out
    have hnb45 := NB346_329.out
    have hnc45 := NB329_346.out
    have hnb46 := NB346_337.out
    have hnc46 := NB337_346.out
    obtain ⟨hcz47_0, hcz47_1, hcz47_2, hfz47_0, hfz47_1, hfz47_2⟩ := zc3 BK346.out
    have hnb48 := NB329_312.out
    have hnc48 := NB312_329.out
    have hnb49 := NB329_337.out
    have hnc49 := NB337_329.out
    obtain ⟨hcz50_0, hcz50_1, hcz50_2, hfz50_0, hfz50_1, hfz50_2⟩ := zc3 BK329.out
    go_wp2_with (first | ((with_reducible refine gate_callee (f := 16) rfl ?_); refine goesL_ (some 38) rfl rfl Try.func16 (by kernel_rfl) rfl #[.agg #[.slice Ao36 t338.length co36, .int .i64 t341, .slice Ao41 t342.length co41], .agg #[.slice Ao22 t321.length co22, .int .i64 t324, .slice Ao25 t325.length co25]] rfl (by (try simp only [List.map_toArray, List.map_cons, List.map_nil]); first | done | rfl | (simp only [List.length_drop, List.length_take]; rfl)) ?_; (with_reducible refine (laws_eqReader.calls k _ _ t338 t341 _ _ t342 _ _ t321 t324 _ _ t325 true _ ?side1 ?side2 ?side3 ?side4 ?side5 ?side6 ?side7 ?side8 A42.out).mono ?_); (case side1 => refine (Kd.R_reads' (e := 137) (base := w.heap.size) (ok := fun k_ => (((True ∧ some k_ ≠ (.slice Ao18 t314.length co18 : Value).ownBlock) ∧ some k_ ≠ (.slice Ao22 t321.length co22 : Value).ownBlock) ∧ some k_ ≠ (.slice Ao29 t330.length co29 : Value).ownBlock)) (n := t338.length) (c := co36) ?_).2.2; exact (by (with_reducible repeat (first | apply Kd.R_alloc | apply Kd.R_drewN | apply Kd.R_drew)); exact (Kd.R_mono (Kd.R_far (p := ⟨gb346, 2, none⟩) (Kd.R_far (p := ⟨gb346, 1, none⟩) (Kd.R_far (p := ⟨gb346, 0, none⟩) (Kd.R_types HO340.out BK346.out (by decide)) (fun _ hk => hk.2) (.slice Ao36 t338.length co36)) (fun _ hk => hk.2) (.int .i64 t341)) (fun _ hk => hk.2) (.slice Ao41 t342.length co41)) (fun _ h_ => h_.1)))); (case side2 => exact (Kd.R_reads' HO340.out).2.1); (case side3 => refine (Kd.R_reads' (e := 3) (base := w.heap.size) (ok := fun k_ => (((True ∧ some k_ ≠ (.slice Ao19 t318.length co19 : Value).ownBlock) ∧ some k_ ≠ (.slice Ao25 t325.length co25 : Value).ownBlock) ∧ some k_ ≠ (.slice Ao33 t334.length co33 : Value).ownBlock)) (n := t342.length) (c := co41) ?_).2.2; exact (by (with_reducible repeat (first | apply Kd.R_alloc | apply Kd.R_drewN | apply Kd.R_drew)); exact (Kd.R_mono (Kd.R_far (p := ⟨gb346, 2, none⟩) (Kd.R_far (p := ⟨gb346, 1, none⟩) (Kd.R_far (p := ⟨gb346, 0, none⟩) (Kd.R_types HO344.out BK346.out (by decide)) (fun _ hk => hk.2) (.slice Ao36 t338.length co36)) (fun _ hk => hk.2) (.int .i64 t341)) (fun _ hk => hk.2) (.slice Ao41 t342.length co41)) (fun _ h_ => h_.1)))); (case side4 => exact (Kd.R_reads' HO344.out).2.1); (case side5 => refine (Kd.R_reads' (e := 137) (base := w.heap.size) (ok := fun k_ => (((True ∧ some k_ ≠ (.slice Ao18 t314.length co18 : Value).ownBlock) ∧ some k_ ≠ (.slice Ao29 t330.length co29 : Value).ownBlock) ∧ some k_ ≠ (.slice Ao36 t338.length co36 : Value).ownBlock)) (n := t321.length) (c := co22) ?_).2.2; exact (by (with_reducible repeat (first | apply Kd.R_alloc | apply Kd.R_drewN | apply Kd.R_drew)); exact (Kd.R_mono (Kd.R_far (p := ⟨gb346, 2, none⟩) (Kd.R_far (p := ⟨gb346, 1, none⟩) (Kd.R_far (p := ⟨gb346, 0, none⟩) (Kd.R_types HO323.out BK346.out (by decide)) (fun _ hk => hk.2) (.slice Ao36 t338.length co36)) (fun _ hk => hk.2) (.int .i64 t341)) (fun _ hk => hk.2) (.slice Ao41 t342.length co41)) (fun _ h_ => h_.1)))); (case side6 => exact (Kd.R_reads' HO323.out).2.1); (case side7 => refine (Kd.R_reads' (e := 3) (base := w.heap.size) (ok := fun k_ => (((True ∧ some k_ ≠ (.slice Ao19 t318.length co19 : Value).ownBlock) ∧ some k_ ≠ (.slice Ao33 t334.length co33 : Value).ownBlock) ∧ some k_ ≠ (.slice Ao41 t342.length co41 : Value).ownBlock)) (n := t325.length) (c := co25) ?_).2.2; exact (by (with_reducible repeat (first | apply Kd.R_alloc | apply Kd.R_drewN | apply Kd.R_drew)); exact (Kd.R_mono (Kd.R_far (p := ⟨gb346, 2, none⟩) (Kd.R_far (p := ⟨gb346, 1, none⟩) (Kd.R_far (p := ⟨gb346, 0, none⟩) (Kd.R_types HO327.out BK346.out (by decide)) (fun _ hk => hk.2) (.slice Ao36 t338.length co36)) (fun _ hk => hk.2) (.int .i64 t341)) (fun _ hk => hk.2) (.slice Ao41 t342.length co41)) (fun _ h_ => h_.1)))); (case side8 => exact (Kd.R_reads' HO327.out).2.1); rintro e w51 ⟨rfl, hb⟩; refine ⟨_, rfl, ?_⟩; have n0_ := zm (Kd.R_below (by (with_reducible repeat (first | apply Kd.R_alloc | apply Kd.R_drewN | apply Kd.R_drew)); exact (Kd.R_mono (Kd.R_far (p := ⟨gb346, 2, none⟩) (Kd.R_far (p := ⟨gb346, 1, none⟩) (Kd.R_far (p := ⟨gb346, 0, none⟩) (Kd.R_types HO316.out BK346.out (by decide)) (fun _ hk => hk.2) (.slice Ao36 t338.length co36)) (fun _ hk => hk.2) (.int .i64 t341)) (fun _ hk => hk.2) (.slice Ao41 t342.length co41)) (fun _ h_ => h_.1))) hb); have n1_ := zm (Kd.R_below (by (with_reducible repeat (first | apply Kd.R_alloc | apply Kd.R_drewN | apply Kd.R_drew)); exact (Kd.R_mono (Kd.R_far (p := ⟨gb346, 2, none⟩) (Kd.R_far (p := ⟨gb346, 1, none⟩) (Kd.R_far (p := ⟨gb346, 0, none⟩) (Kd.R_types HO320.out BK346.out (by decide)) (fun _ hk => hk.2) (.slice Ao36 t338.length co36)) (fun _ hk => hk.2) (.int .i64 t341)) (fun _ hk => hk.2) (.slice Ao41 t342.length co41)) (fun _ h_ => h_.1))) hb); have n2_ := zm (Kd.R_below (by (with_reducible repeat (first | apply Kd.R_alloc | apply Kd.R_drewN | apply Kd.R_drew)); exact (Kd.R_mono (Kd.R_far (p := ⟨gb346, 2, none⟩) (Kd.R_far (p := ⟨gb346, 1, none⟩) (Kd.R_far (p := ⟨gb346, 0, none⟩) (Kd.R_types HO323.out BK346.out (by decide)) (fun _ hk => hk.2) (.slice Ao36 t338.length co36)) (fun _ hk => hk.2) (.int .i64 t341)) (fun _ hk => hk.2) (.slice Ao41 t342.length co41)) (fun _ h_ => h_.1))) hb); have n3_ := zm (Kd.R_below (by (with_reducible repeat (first | apply Kd.R_alloc | apply Kd.R_drewN | apply Kd.R_drew)); exact (Kd.R_mono (Kd.R_far (p := ⟨gb346, 2, none⟩) (Kd.R_far (p := ⟨gb346, 1, none⟩) (Kd.R_far (p := ⟨gb346, 0, none⟩) (Kd.R_types HO327.out BK346.out (by decide)) (fun _ hk => hk.2) (.slice Ao36 t338.length co36)) (fun _ hk => hk.2) (.int .i64 t341)) (fun _ hk => hk.2) (.slice Ao41 t342.length co41)) (fun _ h_ => h_.1))) hb); have n4_ := zm (Kd.R_below (by (with_reducible repeat (first | apply Kd.R_alloc | apply Kd.R_drewN | apply Kd.R_drew)); exact (Kd.R_mono (Kd.R_far (p := ⟨gb346, 2, none⟩) (Kd.R_far (p := ⟨gb346, 1, none⟩) (Kd.R_far (p := ⟨gb346, 0, none⟩) (Kd.R_types HO332.out BK346.out (by decide)) (fun _ hk => hk.2) (.slice Ao36 t338.length co36)) (fun _ hk => hk.2) (.int .i64 t341)) (fun _ hk => hk.2) (.slice Ao41 t342.length co41)) (fun _ h_ => h_.1))) hb); have n5_ := zm (Kd.R_below (by (with_reducible repeat (first | apply Kd.R_alloc | apply Kd.R_drewN | apply Kd.R_drew)); exact (Kd.R_mono (Kd.R_far (p := ⟨gb346, 2, none⟩) (Kd.R_far (p := ⟨gb346, 1, none⟩) (Kd.R_far (p := ⟨gb346, 0, none⟩) (Kd.R_types HO336.out BK346.out (by decide)) (fun _ hk => hk.2) (.slice Ao36 t338.length co36)) (fun _ hk => hk.2) (.int .i64 t341)) (fun _ hk => hk.2) (.slice Ao41 t342.length co41)) (fun _ h_ => h_.1))) hb); have n6_ := zm (Kd.R_below (by (with_reducible repeat (first | apply Kd.R_alloc | apply Kd.R_drewN | apply Kd.R_drew)); exact (Kd.R_mono (Kd.R_far (p := ⟨gb346, 2, none⟩) (Kd.R_far (p := ⟨gb346, 1, none⟩) (Kd.R_far (p := ⟨gb346, 0, none⟩) (Kd.R_types HO340.out BK346.out (by decide)) (fun _ hk => hk.2) (.slice Ao36 t338.length co36)) (fun _ hk => hk.2) (.int .i64 t341)) (fun _ hk => hk.2) (.slice Ao41 t342.length co41)) (fun _ h_ => h_.1))) hb); have n7_ := zm (Kd.R_below (by (with_reducible repeat (first | apply Kd.R_alloc | apply Kd.R_drewN | apply Kd.R_drew)); exact (Kd.R_mono (Kd.R_far (p := ⟨gb346, 2, none⟩) (Kd.R_far (p := ⟨gb346, 1, none⟩) (Kd.R_far (p := ⟨gb346, 0, none⟩) (Kd.R_types HO344.out BK346.out (by decide)) (fun _ hk => hk.2) (.slice Ao36 t338.length co36)) (fun _ hk => hk.2) (.int .i64 t341)) (fun _ hk => hk.2) (.slice Ao41 t342.length co41)) (fun _ h_ => h_.1))) hb); have n8_ := zm (blk_below (g := gb312) (o := .cells #[.slice A0_0 l0_0.length c0_0, .int .i64 a0_1, .slice A0_2 l0_2.length c0_2] 25 (0, 0)) zK hb); have n9_ := zm (blk_below (g := gb329) (o := .cells #[.slice Ao22 t321.length co22, .int .i64 t324, .slice Ao25 t325.length co25] 29 (0, 0)) zK hb); have n10_ := zm (blk_below (g := gb337) (o := .cells #[.slice Ao29 t330.length co29, .int .i64 t333, .slice Ao33 t334.length co33] 29 (0, 0)) zK hb); have n11_ := zm (blk_below (g := gb346) (o := .cells #[.slice Ao36 t338.length co36, .int .i64 t341, .slice Ao41 t342.length co41] 29 (0, 0)) (by (with_reducible repeat (first | refine blk_drewN ?_ _ | refine blk_drew ?_ | refine blk_alloc ?_ _)); refine blk_put (cs := #[.slice Ao36 t338.length co36, .int .i64 t341, .slice none 0 0]) ?_ 2 _ rfl; (with_reducible repeat (first | refine blk_drewN ?_ _ | refine blk_drew ?_ | refine blk_alloc ?_ _)); refine blk_put (cs := #[.slice Ao36 t338.length co36, .int .i64 0, .slice none 0 0]) ?_ 1 _ rfl; (with_reducible repeat (first | refine blk_drewN ?_ _ | refine blk_drew ?_ | refine blk_alloc ?_ _)); refine blk_put (cs := #[.slice none 0 0, .int .i64 0, .slice none 0 0]) ?_ 0 _ rfl; (with_reducible repeat (first | refine blk_drewN ?_ _ | refine blk_drew ?_ | refine blk_alloc ?_ _)); exact BK346.out) hb); have n12_ := zm (below_step zb hb); clear HO316; clear HO320; clear HO323; clear HO327; clear HO332; clear HO336; clear HO340; clear HO344; clear BK312; clear BK329; clear BK337; clear BK346; clear HB; have HO316 := n0_; have HO320 := n1_; have HO323 := n2_; have HO327 := n3_; have HO332 := n4_; have HO336 := n5_; have HO340 := n6_; have HO344 := n7_; have BK312 := n8_; have BK329 := n9_; have BK337 := n10_; have BK346 := n11_; have HB := n12_; clear n0_ n1_ n2_ n3_ n4_ n5_ n6_ n7_ n8_ n9_ n10_ n11_ n12_; (try clear hb); (try clear hb2); (try clear hk); (try clear hi)))
    go_meet
    case rel => exact ⟨_, ((t345 != t328)), (by first | rfl | (simp; done) | (simp [*]; done)), H', ⟨by first | omega | exact Nat.le_refl _⟩, ⟨by (with_reducible repeat (first | apply Kd.R_alloc | apply Kd.R_drewN | apply Kd.R_drew)); exact Kd.R_mono HO323.out (fun _ hk => ⟨hk.1.2, hk.2⟩)⟩, ⟨by (with_reducible repeat (first | apply Kd.R_alloc | apply Kd.R_drewN | apply Kd.R_drew)); exact Kd.R_mono HO327.out (fun _ hk => ⟨hk.1.2, hk.2⟩)⟩, ⟨by (with_reducible repeat (first | apply Kd.R_alloc | apply Kd.R_drewN | apply Kd.R_drew)); exact Kd.R_mono HO332.out (fun _ hk => ⟨hk.1.2, hk.2⟩)⟩, ⟨by (with_reducible repeat (first | apply Kd.R_alloc | apply Kd.R_drewN | apply Kd.R_drew)); exact Kd.R_mono HO336.out (fun _ hk => ⟨hk.1.2, hk.2⟩)⟩, ⟨by (with_reducible repeat (first | apply Kd.R_alloc | apply Kd.R_drewN | apply Kd.R_drew)); exact Kd.R_mono HO340.out (fun _ hk => ⟨hk.1.2, hk.2⟩)⟩, ⟨by (with_reducible repeat (first | apply Kd.R_alloc | apply Kd.R_drewN | apply Kd.R_drew)); exact Kd.R_mono HO344.out (fun _ hk => ⟨hk.1.2, hk.2⟩)⟩, ⟨zk⟩, ⟨zk⟩, ⟨zk⟩, ⟨zk⟩, ⟨zb⟩⟩
   ·
    replace c43 := Bool.eq_false_iff.mpr c43
    subst c43
    have H1 : (laws_FnExactWindTo.j0 k a1 t328 t345 true l0_0 a0_1 l0_2 t321 t324 t325 t330 t333 t334 t338 t341 t342) = some r := by rw [if_neg (show ¬ (false = true) by decide)] at H; exact H
    clear H
    have H := H1
    clear H1
    exact (laws_FnExactWindTo.j0_t (H.trans (congrArg some hr_))).elim
  case rest =>
   clear HC12
   try clear c1
   try clear c2
   try clear p2
   try clear c3
   try clear c4
   try clear c4b0
   try clear c12
   try clear c13
   try clear c14
   try clear c15
   try clear c16
   try clear c23
   try clear c30
   try clear c31
   try clear c37
   try clear c38
   try clear c39
   try clear c43
   try clear c44
   try clear c45
   try clear c46
   try clear c48
   try clear c49
   try clear hcz14_0
   try clear hcz14_1
   try clear hcz14_2
   try clear hcz16_0
   try clear hcz16_1
   try clear hcz16_2
   try clear hcz24_0
   try clear hcz24_1
   try clear hcz24_2
   try clear hcz26_0
   try clear hcz26_1
   try clear hcz26_2
   try clear hcz32_0
   try clear hcz32_1
   try clear hcz32_2
   try clear hcz40_0
   try clear hcz40_1
   try clear hcz40_2
   try clear hcz47_0
   try clear hcz47_1
   try clear hcz47_2
   try clear hcz50_0
   try clear hcz50_1
   try clear hcz50_2
   try clear hcz6_0
   try clear hcz6_1
   try clear hcz6_2
   try clear hfz14_0
   try clear hfz14_1
   try clear hfz14_2
   try clear hfz16_0
   try clear hfz16_1
   try clear hfz16_2
   try clear hfz24_0
   try clear hfz24_1
   try clear hfz24_2
   try clear hfz26_0
   try clear hfz26_1
   try clear hfz26_2
   try clear hfz32_0
   try clear hfz32_1
   try clear hfz32_2
   try clear hfz40_0
   try clear hfz40_1
   try clear hfz40_2
   try clear hfz47_0
   try clear hfz47_1
   try clear hfz47_2
   try clear hfz50_0
   try clear hfz50_1
   try clear hfz50_2
   try clear hfz6_0
   try clear hfz6_1
   try clear hfz6_2
   obtain ⟨kq, x44_11, rfl, HA, HJ11, HO_330000, HO_330002, HO_338000, HO_338002, HO_347000, HO_347002, BK312, BK329, BK337, BK346, HB⟩ := hcut
   cases kq with
   | zero => exact absurd HA.out (by simp [laws_FnExactWindTo.j0])
   | succ kj11 =>
    have H := HA.out
    clear HA
    simp only [laws_FnExactWindTo.j0] at H
    by_cases c52 : x44_11 = true
    ·
     subst c52
     have H1 : (some false) = some r := by rw [if_pos rfl] at H; exact H
     clear H
     have H := H1
     clear H1
     exact absurd ((Option.some.inj H).trans hr_) (by decide)
    ·
     replace c52 := Bool.eq_false_iff.mpr c52
     subst c52
     have H1 : ((laws_toReader.f kj11 l0_0 a0_1 l0_2).bind fun bt348 => ((laws_eqReader.f kj11 t330 t333 t334 bt348.1 bt348.2.1 bt348.2.2).bind fun t355 => (if t355 = true then ((laws_markReader.f kj11 t330 t333 t334 1).bind fun bt356 => (if bt356.1 < 0 then (laws_FnExactWindTo.j1 kj11 a1 t328 true l0_0 a0_1 l0_2 t321 t324 t325 t338 t341 t342) else ((laws_eqReader.f kj11 t338 t341 t342 t321 t324 t325).bind fun t359 => (if t359 = true then (laws_FnExactWindTo.j1 kj11 a1 t328 (t345 != t328) l0_0 a0_1 l0_2 t321 t324 t325 t338 t341 t342) else (laws_FnExactWindTo.j1 kj11 a1 t328 true l0_0 a0_1 l0_2 t321 t324 t325 t338 t341 t342))))) else (some false)))) = some r := by rw [if_neg (show ¬ (false = true) by decide)] at H; exact H
     clear H
     have H := H1
     clear H1
     replace H := Option.bind_eq_some_iff.mp H
     obtain ⟨⟨t348, t351, t352⟩, A530, H⟩ := H
     replace H : ((laws_eqReader.f kj11 t330 t333 t334 t348 t351 t352).bind fun t355 => (if t355 = true then ((laws_markReader.f kj11 t330 t333 t334 1).bind fun bt356 => (if bt356.1 < 0 then (laws_FnExactWindTo.j1 kj11 a1 t328 true l0_0 a0_1 l0_2 t321 t324 t325 t338 t341 t342) else ((laws_eqReader.f kj11 t338 t341 t342 t321 t324 t325).bind fun t359 => (if t359 = true then (laws_FnExactWindTo.j1 kj11 a1 t328 (t345 != t328) l0_0 a0_1 l0_2 t321 t324 t325 t338 t341 t342) else (laws_FnExactWindTo.j1 kj11 a1 t328 true l0_0 a0_1 l0_2 t321 t324 t325 t338 t341 t342))))) else (some false))) = some r := H
     have A53 := zm A530
     clear A530
     replace H := Option.bind_eq_some_iff.mp H
     obtain ⟨t355, A540, H⟩ := H
     replace H : (if t355 = true then ((laws_markReader.f kj11 t330 t333 t334 1).bind fun bt356 => (if bt356.1 < 0 then (laws_FnExactWindTo.j1 kj11 a1 t328 true l0_0 a0_1 l0_2 t321 t324 t325 t338 t341 t342) else ((laws_eqReader.f kj11 t338 t341 t342 t321 t324 t325).bind fun t359 => (if t359 = true then (laws_FnExactWindTo.j1 kj11 a1 t328 (t345 != t328) l0_0 a0_1 l0_2 t321 t324 t325 t338 t341 t342) else (laws_FnExactWindTo.j1 kj11 a1 t328 true l0_0 a0_1 l0_2 t321 t324 t325 t338 t341 t342))))) else (some false)) = some r := H
     have A54 := zm A540
     clear A540
     by_cases c55 : t355 = true
     ·
      subst c55
      have H1 : ((laws_markReader.f kj11 t330 t333 t334 1).bind fun bt356 => (if bt356.1 < 0 then (laws_FnExactWindTo.j1 kj11 a1 t328 true l0_0 a0_1 l0_2 t321 t324 t325 t338 t341 t342) else ((laws_eqReader.f kj11 t338 t341 t342 t321 t324 t325).bind fun t359 => (if t359 = true then (laws_FnExactWindTo.j1 kj11 a1 t328 (t345 != t328) l0_0 a0_1 l0_2 t321 t324 t325 t338 t341 t342) else (laws_FnExactWindTo.j1 kj11 a1 t328 true l0_0 a0_1 l0_2 t321 t324 t325 t338 t341 t342))))) = some r := by rw [if_pos rfl] at H; exact H
      clear H
      have H := H1
      clear H1
      replace H := Option.bind_eq_some_iff.mp H
      obtain ⟨⟨t356, t357, t358⟩, A560, H⟩ := H
      replace H : (if t356 < 0 then (laws_FnExactWindTo.j1 kj11 a1 t328 true l0_0 a0_1 l0_2 t321 t324 t325 t338 t341 t342) else ((laws_eqReader.f kj11 t338 t341 t342 t321 t324 t325).bind fun t359 => (if t359 = true then (laws_FnExactWindTo.j1 kj11 a1 t328 (t345 != t328) l0_0 a0_1 l0_2 t321 t324 t325 t338 t341 t342) else (laws_FnExactWindTo.j1 kj11 a1 t328 true l0_0 a0_1 l0_2 t321 t324 t325 t338 t341 t342)))) = some r := H
      have A56 := zm A560
      clear A560
      have HC57 := zm H
      clear H
      try go_wp2
      have n0_ := zm (Kd.R_drew HO_330000.out)
      have n1_ := zm (Kd.R_drew HO_330002.out)
      have n2_ := zm (Kd.R_drew HO_338000.out)
      have n3_ := zm (Kd.R_drew HO_338002.out)
      have n4_ := zm (Kd.R_drew HO_347000.out)
      have n5_ := zm (Kd.R_drew HO_347002.out)
      have n6_ := zm (blk_drew BK312.out)
      have n7_ := zm (blk_drew BK329.out)
      have n8_ := zm (blk_drew BK337.out)
      have n9_ := zm (blk_drew BK346.out)
      have n10_ := zm (below_drew1 HB.out)
      clear HO_330000
      clear HO_330002
      clear HO_338000
      clear HO_338002
      clear HO_347000
      clear HO_347002
      clear BK312
      clear BK329
      clear BK337
      clear BK346
      clear HB
      have HO_330000 := n0_
      have HO_330002 := n1_
      have HO_338000 := n2_
      have HO_338002 := n3_
      have HO_347000 := n4_
      have HO_347002 := n5_
      have BK312 := n6_
      have BK329 := n7_
      have BK337 := n8_
      have BK346 := n9_
      have HB := n10_
      clear n0_ n1_ n2_ n3_ n4_ n5_ n6_ n7_ n8_ n9_ n10_
      refine start_ (n := 5) (S := fun w' => w'.cell? ⟨gb337, 0, none⟩ = some (.slice Ao29 t330.length co29) ∧ w'.cell? ⟨gb337, 1, none⟩ = some (.int .i64 t333) ∧ w'.cell? ⟨gb337, 2, none⟩ = some (.slice Ao33 t334.length co33) ∧ w'.cell? ⟨gb312, 0, none⟩ = some (.slice A0_0 l0_0.length c0_0) ∧ w'.cell? ⟨gb312, 1, none⟩ = some (.int .i64 a0_1) ∧ w'.cell? ⟨gb312, 2, none⟩ = some (.slice A0_2 l0_2.length c0_2)) (ds := []) #[false, false, false, false, false] (by kernel_rfl) rfl rfl ⟨(blk_cell BK337.out 0).trans rfl, (blk_cell BK337.out 1).trans rfl, (blk_cell BK337.out 2).trans rfl, (blk_cell BK312.out 0).trans rfl, (blk_cell BK312.out 1).trans rfl, (blk_cell BK312.out 2).trans rfl⟩ (fun hHeld => ?_)
      generalize wc.drew = w58 at HO_330000 HO_330002 HO_338000 HO_338002 HO_347000 HO_347002 BK312 BK329 BK337 BK346 HB hHeld ⊢
      refine take_ (i := 0) (N := some 45) (v := ?_) (a' := ?_) #[true, false, false, false, false] rfl rfl (by kernel_rfl) (fun _ _ _ h => h) (Or.inl ⟨by rfl, ?_⟩) hHeld ?_ ?_
      rotate_left
      ·
       rintro w' ⟨s0, s1, s2, s3, s4, s5⟩
       go_simp
       with_reducible rfl
      rotate_left
      ·
       simp only [Act.put, zA, zB, zD, i64_w, i32_w]
       rfl
      refine take_ (i := 1) (N := some 46) (v := ?_) (a' := ?_) #[true, true, false, false, false] rfl rfl (by kernel_rfl) (fun _ _ _ h => h) (Or.inl ⟨by rfl, ?_⟩) hHeld ?_ ?_
      rotate_left
      ·
       rintro w' ⟨s0, s1, s2, s3, s4, s5⟩
       go_simp
       with_reducible rfl
      rotate_left
      ·
       simp only [Act.put, zA, zB, zD, i64_w, i32_w]
       rfl
      refine one_ (i := 2) (N := some 47) #[true, true, true, false, false] rfl rfl (by kernel_rfl) (by decide) (fun K hK => ?_)
      refine goes_ Try.func14 (by kernel_rfl) rfl #[.agg #[.slice A0_0 l0_0.length c0_0, .int .i64 a0_1, .slice A0_2 l0_2.length c0_2]] (by rfl) rfl rfl (by (try simp only [List.map_toArray, List.map_cons, List.map_nil]); first | done | rfl | (simp only [List.length_drop, List.length_take]; rfl)) ?_
      with_reducible refine (laws_toReader.calls kj11 _ _ l0_0 a0_1 _ _ l0_2 t348 t351 t352 _ ?side1 ?side2 ?side3 ?side4 A53.out).mono ?_
      (case side1 => repeat (first | exact (Kd.C_below HR0_0.out HB.out) | (with_reducible refine Kd.C_alloc ?_ _) | (with_reducible refine Kd.C_drewN ?_ _) | (with_reducible refine Kd.C_drew ?_)))
      (case side2 => exact HC0_0.out)
      (case side3 => repeat (first | exact (Kd.C_below HR0_2.out HB.out) | (with_reducible refine Kd.C_alloc ?_ _) | (with_reducible refine Kd.C_drewN ?_ _) | (with_reducible refine Kd.C_drew ?_)))
      (case side4 => exact HC0_2.out)
      rintro e w59 ⟨v349, v353, rfl, ho0, ho1, hb⟩
      refine ⟨_, rfl, ?_⟩
      have n0_ := zm (Kd.R_elder' (by (with_reducible repeat (first | apply Kd.R_alloc | apply Kd.R_drewN | apply Kd.R_drew)); exact HO_330000.out) (Kd.R_base ho0) hb)
      have n1_ := zm (Kd.R_elder' (by (with_reducible repeat (first | apply Kd.R_alloc | apply Kd.R_drewN | apply Kd.R_drew)); exact HO_330002.out) (Kd.R_base ho1) hb)
      have n2_ := zm (Kd.R_elder' (by (with_reducible repeat (first | apply Kd.R_alloc | apply Kd.R_drewN | apply Kd.R_drew)); exact HO_338000.out) (Kd.R_base ho0) hb)
      have n3_ := zm (Kd.R_elder' (by (with_reducible repeat (first | apply Kd.R_alloc | apply Kd.R_drewN | apply Kd.R_drew)); exact HO_338002.out) (Kd.R_base ho1) hb)
      have n4_ := zm (Kd.R_elder' (by (with_reducible repeat (first | apply Kd.R_alloc | apply Kd.R_drewN | apply Kd.R_drew)); exact HO_347000.out) (Kd.R_base ho0) hb)
      have n5_ := zm (Kd.R_elder' (by (with_reducible repeat (first | apply Kd.R_alloc | apply Kd.R_drewN | apply Kd.R_drew)); exact HO_347002.out) (Kd.R_base ho1) hb)
      have n6_ := zm (Kd.R_lower (Kd.R_new' (Kd.R_new' (Kd.R_new' ho0 (Kd.R_lt (by (with_reducible repeat (first | apply Kd.R_alloc | apply Kd.R_drewN | apply Kd.R_drew)); exact HO_330000.out))) (Kd.R_lt (by (with_reducible repeat (first | apply Kd.R_alloc | apply Kd.R_drewN | apply Kd.R_drew)); exact HO_338000.out))) (Kd.R_lt (by (with_reducible repeat (first | apply Kd.R_alloc | apply Kd.R_drewN | apply Kd.R_drew)); exact HO_347000.out))) (below_size zb))
      have n7_ := zm (Kd.R_lower (Kd.R_new' (Kd.R_new' (Kd.R_new' ho1 (Kd.R_lt (by (with_reducible repeat (first | apply Kd.R_alloc | apply Kd.R_drewN | apply Kd.R_drew)); exact HO_330002.out))) (Kd.R_lt (by (with_reducible repeat (first | apply Kd.R_alloc | apply Kd.R_drewN | apply Kd.R_drew)); exact HO_338002.out))) (Kd.R_lt (by (with_reducible repeat (first | apply Kd.R_alloc | apply Kd.R_drewN | apply Kd.R_drew)); exact HO_347002.out))) (below_size zb))
      have n8_ := zm (blk_below (g := gb312) zk hb)
      have n9_ := zm (blk_below (g := gb329) zk hb)
      have n10_ := zm (blk_below (g := gb337) zk hb)
      have n11_ := zm (blk_below (g := gb346) zk hb)
      have n12_ := zm (below_step zb hb)
      clear HO_330000
      clear HO_330002
      clear HO_338000
      clear HO_338002
      clear HO_347000
      clear HO_347002
      clear BK312
      clear BK329
      clear BK337
      clear BK346
      clear HB
      have HO_330000 := n0_
      have HO_330002 := n1_
      have HO_338000 := n2_
      have HO_338002 := n3_
      have HO_347000 := n4_
      have HO_347002 := n5_
      have HO350 := n6_
      have HO354 := n7_
      have BK312 := n8_
      have BK329 := n9_
      have BK337 := n10_
      have BK346 := n11_
      have HB := n12_
      clear n0_ n1_ n2_ n3_ n4_ n5_ n6_ n7_ n8_ n9_ n10_ n11_ n12_
      (try clear hb)
      (try clear hb2)
      (try clear hk)
      (try clear hi)
      (try clear ho0)
      (try clear ho1)
      obtain ⟨Ao60, co60, eo60⟩ := Kd.R_slice HO350.out
      (first | subst eo60 | (injection eo60 with f1_ f2_ f3_; have f4_ := f1_.symm; have f5_ := f3_.symm; clear f1_ f2_ f3_; subst f4_; subst f5_))
      obtain ⟨Ao61, co61, eo61⟩ := Kd.R_slice HO354.out
      (first | subst eo61 | (injection eo61 with f1_ f2_ f3_; have f4_ := f1_.symm; have f5_ := f3_.symm; clear f1_ f2_ f3_; subst f4_; subst f5_))
      refine hK.out _ _ ⟨(blk_cell BK337.out 0).trans rfl, (blk_cell BK337.out 1).trans rfl, (blk_cell BK337.out 2).trans rfl, (blk_cell BK312.out 0).trans rfl, (blk_cell BK312.out 1).trans rfl, (blk_cell BK312.out 2).trans rfl⟩ (fun hHeld => ?_)
      clear hK K
      refine norm_ (a' := ?_) ?_ ?_
      rotate_left
      ·
       show Act.put _ (some 47) _ = _
       simp only [Act.put, zA, zB, zD, i64_w, i32_w]
       rfl
      refine one_ (i := 3) (N := some 48) #[true, true, true, true, false] rfl rfl (by kernel_rfl) (by decide) (fun K hK => ?_)
      refine goes_ Try.func16 (by kernel_rfl) rfl #[.agg #[.slice Ao29 t330.length co29, .int .i64 t333, .slice Ao33 t334.length co33], .agg #[.slice Ao60 t348.length co60, .int .i64 t351, .slice Ao61 t352.length co61]] (by rfl) rfl rfl (by (try simp only [List.map_toArray, List.map_cons, List.map_nil]); first | done | rfl | (simp only [List.length_drop, List.length_take]; rfl)) ?_
      with_reducible refine (laws_eqReader.calls kj11 _ _ t330 t333 _ _ t334 _ _ t348 t351 _ _ t352 true _ ?side1 ?side2 ?side3 ?side4 ?side5 ?side6 ?side7 ?side8 A54.out).mono ?_
      (case side1 => repeat (first | exact (Kd.R_reads' HO_338000.out).2.2 | (with_reducible refine Kd.C_alloc ?_ _) | (with_reducible refine Kd.C_drewN ?_ _) | (with_reducible refine Kd.C_drew ?_)))
      (case side2 => exact (Kd.R_reads' HO_338000.out).2.1)
      (case side3 => repeat (first | exact (Kd.R_reads' HO_338002.out).2.2 | (with_reducible refine Kd.C_alloc ?_ _) | (with_reducible refine Kd.C_drewN ?_ _) | (with_reducible refine Kd.C_drew ?_)))
      (case side4 => exact (Kd.R_reads' HO_338002.out).2.1)
      (case side5 => repeat (first | exact (Kd.R_reads' HO350.out).2.2 | (with_reducible refine Kd.C_alloc ?_ _) | (with_reducible refine Kd.C_drewN ?_ _) | (with_reducible refine Kd.C_drew ?_)))
      (case side6 => exact (Kd.R_reads' HO350.out).2.1)
      (case side7 => repeat (first | exact (Kd.R_reads' HO354.out).2.2 | (with_reducible refine Kd.C_alloc ?_ _) | (with_reducible refine Kd.C_drewN ?_ _) | (with_reducible refine Kd.C_drew ?_)))
      (case side8 => exact (Kd.R_reads' HO354.out).2.1)
      rintro e w62 ⟨rfl, hb⟩
      refine ⟨_, rfl, ?_⟩
      have n0_ := zm (Kd.R_below (by (with_reducible repeat (first | apply Kd.R_alloc | apply Kd.R_drewN | apply Kd.R_drew)); exact HO_330000.out) hb)
      have n1_ := zm (Kd.R_below (by (with_reducible repeat (first | apply Kd.R_alloc | apply Kd.R_drewN | apply Kd.R_drew)); exact HO_330002.out) hb)
      have n2_ := zm (Kd.R_below (by (with_reducible repeat (first | apply Kd.R_alloc | apply Kd.R_drewN | apply Kd.R_drew)); exact HO_338000.out) hb)
      have n3_ := zm (Kd.R_below (by (with_reducible repeat (first | apply Kd.R_alloc | apply Kd.R_drewN | apply Kd.R_drew)); exact HO_338002.out) hb)
      have n4_ := zm (Kd.R_below (by (with_reducible repeat (first | apply Kd.R_alloc | apply Kd.R_drewN | apply Kd.R_drew)); exact HO_347000.out) hb)
      have n5_ := zm (Kd.R_below (by (with_reducible repeat (first | apply Kd.R_alloc | apply Kd.R_drewN | apply Kd.R_drew)); exact HO_347002.out) hb)
      have n6_ := zm (Kd.R_below (by (with_reducible repeat (first | apply Kd.R_alloc | apply Kd.R_drewN | apply Kd.R_drew)); exact HO350.out) hb)
      have n7_ := zm (Kd.R_below (by (with_reducible repeat (first | apply Kd.R_alloc | apply Kd.R_drewN | apply Kd.R_drew)); exact HO354.out) hb)
      have n8_ := zm (blk_below (g := gb312) zk hb)
      have n9_ := zm (blk_below (g := gb329) zk hb)
      have n10_ := zm (blk_below (g := gb337) zk hb)
      have n11_ := zm (blk_below (g := gb346) zk hb)
      have n12_ := zm (below_step zb hb)
      clear HO_330000
      clear HO_330002
      clear HO_338000
      clear HO_338002
      clear HO_347000
      clear HO_347002
      clear HO350
      clear HO354
      clear BK312
      clear BK329
      clear BK337
      clear BK346
      clear HB
      have HO_330000 := n0_
      have HO_330002 := n1_
      have HO_338000 := n2_
      have HO_338002 := n3_
      have HO_347000 := n4_
      have HO_347002 := n5_
      have HO350 := n6_
      have HO354 := n7_
      have BK312 := n8_
      have BK329 := n9_
      have BK337 := n10_
      have BK346 := n11_
      have HB := n12_
      clear n0_ n1_ n2_ n3_ n4_ n5_ n6_ n7_ n8_ n9_ n10_ n11_ n12_
      (try clear hb)
      (try clear hb2)
      (try clear hk)
      (try clear hi)
      refine hK.out _ _ ⟨(blk_cell BK337.out 0).trans rfl, (blk_cell BK337.out 1).trans rfl, (blk_cell BK337.out 2).trans rfl, (blk_cell BK312.out 0).trans rfl, (blk_cell BK312.out 1).trans rfl, (blk_cell BK312.out 2).trans rfl⟩ (fun hHeld => ?_)
      clear hK K
      refine norm_ (a' := ?_) ?_ ?_
      rotate_left
      ·
       show Act.put _ (some 48) _ = _
       simp only [Act.put, zA, zB, zD, i64_w, i32_w]
       rfl
      refine pure_ (i := 4) (N := some 49) (v := ?_) (a' := ?_) #[true, true, true, true, true] rfl rfl (by kernel_rfl) (fun _ _ _ h => h) (Or.inl ⟨by rfl, ?_⟩) ?_ ?_
      rotate_left
      ·
       intro w'
       go_simp
       with_reducible rfl
      rotate_left
      ·
       simp only [Act.put, zA, zB, zD, i64_w, i32_w]
       rfl
      refine done_ (by kernel_rfl) ?_
      have hnb63 := NB337_312.out
      have hnc63 := NB312_337.out
      have hnb64 := NB337_329.out
      have hnc64 := NB329_337.out
      have hnb65 := NB337_346.out
      have hnc65 := NB346_337.out
      obtain ⟨hcz66_0, hcz66_1, hcz66_2, hfz66_0, hfz66_1, hfz66_2⟩ := zc3 BK337.out
      go_upto_region 14 with (first | ((with_reducible refine gate_callee (f := 17) rfl ?_); refine goesL_ (some 52) rfl rfl Try.func17 (by kernel_rfl) rfl #[.agg #[.slice Ao29 t330.length co29, .int .i64 t333, .slice Ao33 t334.length co33], .int .i64 1] rfl (by (try simp only [List.map_toArray, List.map_cons, List.map_nil]); first | done | rfl | (simp only [List.length_drop, List.length_take]; rfl)) ?_; (with_reducible refine (laws_markReader.calls kj11 (fun k_ => some k_ = (.slice Ao29 t330.length co29 : Value).ownBlock) (.slice Ao29 t330.length co29) t330 t333 (fun k_ => some k_ = (.slice Ao33 t334.length co33 : Value).ownBlock) (.slice Ao33 t334.length co33) t334 1 t356 t357 t358 w _ ?side1 ?side2 ?side3 A56.out).mono ?_); (case side1 => repeat (first | (with_reducible first | exact HB.out | apply below_alloc | apply pw_below_drewN | apply below_drew1 | refine below_set ?_ GE312.out | refine below_set ?_ GE329.out | refine below_set ?_ GE337.out | refine below_set ?_ GE346.out) | exact HB.out)); (case side2 => exact Kd.R_tight rfl HO_338000.out); (case side3 => exact Kd.R_tight rfl HO_338002.out); rintro e w67 ⟨rfl, hy0, hy1, hb, hkp⟩; refine ⟨_, rfl, ?_⟩; have n0_ := zm (Kd.R_mono (ok' := fun k_ => some k_ ≠ (.slice Ao29 t330.length co29 : Value).ownBlock ∧ some k_ ≠ (.slice Ao36 t338.length co36 : Value).ownBlock ∧ some k_ ≠ (.slice Ao60 t348.length co60 : Value).ownBlock) (Kd.R_keptB ((Kd.R_apart' HO_330000.out (Kd.R_typed HO_338002.out) (by decide))) hkp (fun k_ hk_ hs_ => Or.elim hs_ (fun e_ => (hk_.1.1.1) e_) (fun e_ => (hk_.2) e_))) (fun k_ hk_ => ⟨hk_.1.1.1.1, hk_.1.1.1.2, hk_.1.1.2⟩)); have n1_ := zm (Kd.R_mono (ok' := fun k_ => some k_ ≠ (.slice Ao33 t334.length co33 : Value).ownBlock ∧ some k_ ≠ (.slice Ao41 t342.length co41 : Value).ownBlock ∧ some k_ ≠ (.slice Ao61 t352.length co61 : Value).ownBlock) (Kd.R_keptB ((Kd.R_apart' HO_330002.out (Kd.R_typed HO_338000.out) (by decide))) hkp (fun k_ hk_ hs_ => Or.elim hs_ (fun e_ => (hk_.2) e_) (fun e_ => (hk_.1.1.1) e_))) (fun k_ hk_ => ⟨hk_.1.1.1.1, hk_.1.1.1.2, hk_.1.1.2⟩)); have n2_ := zm (Kd.R_reok rfl hy0 (fun k_ e_ => HO_338000.out.1 k_ e_)); have n3_ := zm (Kd.R_reok rfl hy1 (fun k_ e_ => HO_338002.out.1 k_ e_)); have n4_ := zm (Kd.R_mono (ok' := fun k_ => some k_ ≠ (.slice Ao22 t321.length co22 : Value).ownBlock ∧ some k_ ≠ (.slice Ao29 t330.length co29 : Value).ownBlock ∧ some k_ ≠ (.slice Ao60 t348.length co60 : Value).ownBlock) (Kd.R_keptB ((Kd.R_apart' HO_347000.out (Kd.R_typed HO_338002.out) (by decide))) hkp (fun k_ hk_ hs_ => Or.elim hs_ (fun e_ => (hk_.1.1.2) e_) (fun e_ => (hk_.2) e_))) (fun k_ hk_ => ⟨hk_.1.1.1.1, hk_.1.1.1.2, hk_.1.1.2⟩)); have n5_ := zm (Kd.R_mono (ok' := fun k_ => some k_ ≠ (.slice Ao25 t325.length co25 : Value).ownBlock ∧ some k_ ≠ (.slice Ao33 t334.length co33 : Value).ownBlock ∧ some k_ ≠ (.slice Ao61 t352.length co61 : Value).ownBlock) (Kd.R_keptB ((Kd.R_apart' HO_347002.out (Kd.R_typed HO_338000.out) (by decide))) hkp (fun k_ hk_ hs_ => Or.elim hs_ (fun e_ => (hk_.2) e_) (fun e_ => (hk_.1.1.2) e_))) (fun k_ hk_ => ⟨hk_.1.1.1.1, hk_.1.1.1.2, hk_.1.1.2⟩)); have n6_ := zm (blk_kept zk hkp (fun hs_ => Or.elim hs_ (fun e_ => (fun e_ => (Kd.R_ne HO_338000.out BK312.out (by decide)) e_) e_) (fun e_ => (fun e_ => (Kd.R_ne HO_338002.out BK312.out (by decide)) e_) e_))); have n7_ := zm (blk_kept zk hkp (fun hs_ => Or.elim hs_ (fun e_ => (fun e_ => (Kd.R_ne HO_338000.out BK329.out (by decide)) e_) e_) (fun e_ => (fun e_ => (Kd.R_ne HO_338002.out BK329.out (by decide)) e_) e_))); have n8_ := zm (blk_kept zk hkp (fun hs_ => Or.elim hs_ (fun e_ => (fun e_ => (Kd.R_ne HO_338000.out BK337.out (by decide)) e_) e_) (fun e_ => (fun e_ => (Kd.R_ne HO_338002.out BK337.out (by decide)) e_) e_))); have n9_ := zm (blk_kept zk hkp (fun hs_ => Or.elim hs_ (fun e_ => (fun e_ => (Kd.R_ne HO_338000.out BK346.out (by decide)) e_) e_) (fun e_ => (fun e_ => (Kd.R_ne HO_338002.out BK346.out (by decide)) e_) e_))); have n10_ := zm (Kd.R_mono (ok' := fun k_ => some k_ ≠ (.slice Ao22 t321.length co22 : Value).ownBlock ∧ some k_ ≠ (.slice Ao29 t330.length co29 : Value).ownBlock ∧ some k_ ≠ (.slice Ao36 t338.length co36 : Value).ownBlock) (Kd.R_keptB ((Kd.R_apart' HO350.out (Kd.R_typed HO_338002.out) (by decide))) hkp (fun k_ hk_ hs_ => Or.elim hs_ (fun e_ => (hk_.1.1.2) e_) (fun e_ => (hk_.2) e_))) (fun k_ hk_ => ⟨hk_.1.1.1.1.2, hk_.1.1.1.2, hk_.1.1.2⟩)); have n11_ := zm (Kd.R_mono (ok' := fun k_ => some k_ ≠ (.slice Ao25 t325.length co25 : Value).ownBlock ∧ some k_ ≠ (.slice Ao33 t334.length co33 : Value).ownBlock ∧ some k_ ≠ (.slice Ao41 t342.length co41 : Value).ownBlock) (Kd.R_keptB ((Kd.R_apart' HO354.out (Kd.R_typed HO_338000.out) (by decide))) hkp (fun k_ hk_ hs_ => Or.elim hs_ (fun e_ => (hk_.2) e_) (fun e_ => (hk_.1.1.2) e_))) (fun k_ hk_ => ⟨hk_.1.1.1.1.2, hk_.1.1.1.2, hk_.1.1.2⟩)); have n12_ := zm (hb); clear HO_330000; clear HO_330002; clear HO_338000; clear HO_338002; clear HO_347000; clear HO_347002; clear BK312; clear BK329; clear BK337; clear BK346; clear HO350; clear HO354; clear HB; have HO_330000 := n0_; have HO_330002 := n1_; have HO_338000 := n2_; have HO_338002 := n3_; have HO_347000 := n4_; have HO_347002 := n5_; have BK312 := n6_; have BK329 := n7_; have BK337 := n8_; have BK346 := n9_; have HO350 := n10_; have HO354 := n11_; have HB := n12_; clear n0_ n1_ n2_ n3_ n4_ n5_ n6_ n7_ n8_ n9_ n10_ n11_ n12_; (try clear hb); (try clear hkp); (try clear hy0); (try clear hy1)))
      (try simp only [Act.put, List.setIfInBounds_toArray, List.set_cons_zero, List.set_cons_succ])
      go_cut [65] (fun v65 wc => ∃ (kq : Nat) (x65_56 : Bool), v65 = .bool x65_56 ∧ Aside0 (laws_FnExactWindTo.j1 kq a1 t328 x65_56 l0_0 a0_1 l0_2 t321 t324 t325 t338 t341 t342 = some r) ∧ Aside0 (kq ≤ kj11) ∧ Aside0 (Kd.R k137 137 wc w.heap.size (fun k_ => some k_ ≠ ((.slice Ao29 t330.length co29) : Value).ownBlock ∧ some k_ ≠ ((.slice Ao36 t338.length co36) : Value).ownBlock) (.slice Ao22 t321.length co22) t321) ∧ Aside0 (Kd.R (Kd.int .i64) 3 wc w.heap.size (fun k_ => some k_ ≠ ((.slice Ao33 t334.length co33) : Value).ownBlock ∧ some k_ ≠ ((.slice Ao41 t342.length co41) : Value).ownBlock) (.slice Ao25 t325.length co25) t325) ∧ Aside0 (Kd.R k137 137 wc w.heap.size (fun k_ => some k_ ≠ ((.slice Ao22 t321.length co22) : Value).ownBlock ∧ some k_ ≠ ((.slice Ao36 t338.length co36) : Value).ownBlock) (.slice Ao29 t330.length co29) t357) ∧ Aside0 (Kd.R (Kd.int .i64) 3 wc w.heap.size (fun k_ => some k_ ≠ ((.slice Ao25 t325.length co25) : Value).ownBlock ∧ some k_ ≠ ((.slice Ao41 t342.length co41) : Value).ownBlock) (.slice Ao33 t334.length co33) t358) ∧ Aside0 (Kd.R k137 137 wc w.heap.size (fun k_ => some k_ ≠ ((.slice Ao22 t321.length co22) : Value).ownBlock ∧ some k_ ≠ ((.slice Ao29 t330.length co29) : Value).ownBlock) (.slice Ao36 t338.length co36) t338) ∧ Aside0 (Kd.R (Kd.int .i64) 3 wc w.heap.size (fun k_ => some k_ ≠ ((.slice Ao25 t325.length co25) : Value).ownBlock ∧ some k_ ≠ ((.slice Ao33 t334.length co33) : Value).ownBlock) (.slice Ao41 t342.length co41) t342) ∧ Aside0 (wc.heap[gb312]? = some (.cells #[(.slice A0_0 l0_0.length c0_0), .int .i64 a0_1, (.slice A0_2 l0_2.length c0_2)] 25 (0, 0))) ∧ Aside0 (wc.heap[gb329]? = some (.cells #[(.slice Ao22 t321.length co22), .int .i64 t324, (.slice Ao25 t325.length co25)] 29 (0, 0))) ∧ Aside0 (wc.heap[gb337]? = some (.cells #[(.slice Ao29 t330.length co29), .int .i64 t333, (.slice Ao33 t334.length co33)] 29 (0, 0))) ∧ Aside0 (wc.heap[gb346]? = some (.cells #[(.slice Ao36 t338.length co36), .int .i64 t341, (.slice Ao41 t342.length co41)] 29 (0, 0))) ∧ Aside0 (Below w.heap.size w wc))
      case first =>
       have H := HC57.out
       clear HC57
       by_cases c68 : t356 < 0
       ·
        rw [if_pos c68] at H
        have c68b0 : decide (t356 < 0) = true := decide_eq_true c68
        clear c68
        (first | rw [c68b0] | (simp only [i64_w, i32_w]; rw [c68b0]) | skip)
        exact (laws_FnExactWindTo.j1_t (H.trans (congrArg some hr_))).elim
       ·
        rw [if_neg c68] at H
        have c68b0 : decide (t356 < 0) = false := decide_eq_false c68
        clear c68
        (first | rw [c68b0] | (simp only [i64_w, i32_w]; rw [c68b0]) | skip)
        replace H := Option.bind_eq_some_iff.mp H
        obtain ⟨t359, A690, H⟩ := H
        replace H : (if t359 = true then (laws_FnExactWindTo.j1 kj11 a1 t328 (t345 != t328) l0_0 a0_1 l0_2 t321 t324 t325 t338 t341 t342) else (laws_FnExactWindTo.j1 kj11 a1 t328 true l0_0 a0_1 l0_2 t321 t324 t325 t338 t341 t342)) = some r := H
        have A69 := zm A690
        clear A690
        by_cases c70 : t359 = true
        ·
         subst c70
         have H1 : (laws_FnExactWindTo.j1 kj11 a1 t328 (t345 != t328) l0_0 a0_1 l0_2 t321 t324 t325 t338 t341 t342) = some r := by rw [if_pos rfl] at H; exact H
         clear H
         have H := H1
         clear H1
         have H' := zm H
         clear H
         have hnb71 := NB346_312.out
         have hnc71 := NB312_346.out
         have hnb72 := NB346_329.out
         have hnc72 := NB329_346.out
         have hnb73 := NB346_337.out
         have hnc73 := NB337_346.out
         obtain ⟨hcz74_0, hcz74_1, hcz74_2, hfz74_0, hfz74_1, hfz74_2⟩ := zc3 BK346.out
         have hnb75 := NB329_312.out
         have hnc75 := NB312_329.out
         have hnb76 := NB329_337.out
         have hnc76 := NB337_329.out
         obtain ⟨hcz77_0, hcz77_1, hcz77_2, hfz77_0, hfz77_1, hfz77_2⟩ := zc3 BK329.out
         go_wp2_with (first | (go_at_call 16; (with_reducible refine (laws_eqReader.calls kj11 _ _ t338 t341 _ _ t342 _ _ t321 t324 _ _ t325 true _ ?side1 ?side2 ?side3 ?side4 ?side5 ?side6 ?side7 ?side8 A69.out).mono ?_); (case side1 => repeat (first | exact (Kd.R_reads' HO_347000.out).2.2 | (with_reducible refine Kd.C_alloc ?_ _) | (with_reducible refine Kd.C_drewN ?_ _) | (with_reducible refine Kd.C_drew ?_))); (case side2 => exact (Kd.R_reads' HO_347000.out).2.1); (case side3 => repeat (first | exact (Kd.R_reads' HO_347002.out).2.2 | (with_reducible refine Kd.C_alloc ?_ _) | (with_reducible refine Kd.C_drewN ?_ _) | (with_reducible refine Kd.C_drew ?_))); (case side4 => exact (Kd.R_reads' HO_347002.out).2.1); (case side5 => repeat (first | exact (Kd.R_reads' HO_330000.out).2.2 | (with_reducible refine Kd.C_alloc ?_ _) | (with_reducible refine Kd.C_drewN ?_ _) | (with_reducible refine Kd.C_drew ?_))); (case side6 => exact (Kd.R_reads' HO_330000.out).2.1); (case side7 => repeat (first | exact (Kd.R_reads' HO_330002.out).2.2 | (with_reducible refine Kd.C_alloc ?_ _) | (with_reducible refine Kd.C_drewN ?_ _) | (with_reducible refine Kd.C_drew ?_))); (case side8 => exact (Kd.R_reads' HO_330002.out).2.1); rintro e w78 ⟨rfl, hb⟩; have n0_ := zm (Kd.R_below (by (with_reducible repeat (first | apply Kd.R_alloc | apply Kd.R_drewN | apply Kd.R_drew)); exact HO_330000.out) hb); have n1_ := zm (Kd.R_below (by (with_reducible repeat (first | apply Kd.R_alloc | apply Kd.R_drewN | apply Kd.R_drew)); exact HO_330002.out) hb); have n2_ := zm (Kd.R_below (by (with_reducible repeat (first | apply Kd.R_alloc | apply Kd.R_drewN | apply Kd.R_drew)); exact HO_338000.out) hb); have n3_ := zm (Kd.R_below (by (with_reducible repeat (first | apply Kd.R_alloc | apply Kd.R_drewN | apply Kd.R_drew)); exact HO_338002.out) hb); have n4_ := zm (Kd.R_below (by (with_reducible repeat (first | apply Kd.R_alloc | apply Kd.R_drewN | apply Kd.R_drew)); exact HO_347000.out) hb); have n5_ := zm (Kd.R_below (by (with_reducible repeat (first | apply Kd.R_alloc | apply Kd.R_drewN | apply Kd.R_drew)); exact HO_347002.out) hb); have n6_ := zm (Kd.R_below (by (with_reducible repeat (first | apply Kd.R_alloc | apply Kd.R_drewN | apply Kd.R_drew)); exact HO350.out) hb); have n7_ := zm (Kd.R_below (by (with_reducible repeat (first | apply Kd.R_alloc | apply Kd.R_drewN | apply Kd.R_drew)); exact HO354.out) hb); have n8_ := zm (blk_below (g := gb312) zk hb); have n9_ := zm (blk_below (g := gb329) zk hb); have n10_ := zm (blk_below (g := gb337) zk hb); have n11_ := zm (blk_below (g := gb346) zk hb); have n12_ := zm (below_step zb hb); clear HO_330000; clear HO_330002; clear HO_338000; clear HO_338002; clear HO_347000; clear HO_347002; clear HO350; clear HO354; clear BK312; clear BK329; clear BK337; clear BK346; clear HB; have HO_330000 := n0_; have HO_330002 := n1_; have HO_338000 := n2_; have HO_338002 := n3_; have HO_347000 := n4_; have HO_347002 := n5_; have HO350 := n6_; have HO354 := n7_; have BK312 := n8_; have BK329 := n9_; have BK337 := n10_; have BK346 := n11_; have HB := n12_; clear n0_ n1_ n2_ n3_ n4_ n5_ n6_ n7_ n8_ n9_ n10_ n11_ n12_; (try clear hb); (try clear hb2); (try clear hk); (try clear hi)))
         go_meet
         case rel => exact ⟨_, ((t345 != t328)), (by first | rfl | (simp; done) | (simp [*]; done)), H', ⟨by have := HJ11.out; first | omega | exact Nat.le_refl _⟩, ⟨by (with_reducible repeat (first | apply Kd.R_alloc | apply Kd.R_drewN | apply Kd.R_drew)); exact Kd.R_mono HO_330000.out (fun _ hk => ⟨hk.1, hk.2.1⟩)⟩, ⟨by (with_reducible repeat (first | apply Kd.R_alloc | apply Kd.R_drewN | apply Kd.R_drew)); exact Kd.R_mono HO_330002.out (fun _ hk => ⟨hk.1, hk.2.1⟩)⟩, ⟨by (with_reducible repeat (first | apply Kd.R_alloc | apply Kd.R_drewN | apply Kd.R_drew)); exact Kd.R_mono HO_338000.out (fun _ hk => ⟨hk.1.1, hk.1.2⟩)⟩, ⟨by (with_reducible repeat (first | apply Kd.R_alloc | apply Kd.R_drewN | apply Kd.R_drew)); exact Kd.R_mono HO_338002.out (fun _ hk => ⟨hk.1.1, hk.1.2⟩)⟩, ⟨by (with_reducible repeat (first | apply Kd.R_alloc | apply Kd.R_drewN | apply Kd.R_drew)); exact Kd.R_mono HO_347000.out (fun _ hk => ⟨hk.1, hk.2.1⟩)⟩, ⟨by (with_reducible repeat (first | apply Kd.R_alloc | apply Kd.R_drewN | apply Kd.R_drew)); exact Kd.R_mono HO_347002.out (fun _ hk => ⟨hk.1, hk.2.1⟩)⟩, ⟨zk⟩, ⟨zk⟩, ⟨zk⟩, ⟨zk⟩, ⟨zb⟩⟩
        ·
         replace c70 := Bool.eq_false_iff.mpr c70
         subst c70
         have H1 : (laws_FnExactWindTo.j1 kj11 a1 t328 true l0_0 a0_1 l0_2 t321 t324 t325 t338 t341 t342) = some r := by rw [if_neg (show ¬ (false = true) by decide)] at H; exact H
         clear H
         have H := H1
         clear H1
         exact (laws_FnExactWindTo.j1_t (H.trans (congrArg some hr_))).elim
      case rest =>
       clear HC57
       try clear c1
       try clear c2
       try clear p2
       try clear c3
       try clear c4
       try clear c4b0
       try clear c5
       try clear c6
       try clear c7
       try clear c12
       try clear c13
       try clear c14
       try clear c15
       try clear c16
       try clear c17
       try clear c23
       try clear c30
       try clear c31
       try clear c37
       try clear c38
       try clear c39
       try clear c43
       try clear c44
       try clear c45
       try clear c46
       try clear c48
       try clear c49
       try clear c52
       try clear c55
       try clear c63
       try clear c64
       try clear c65
       try clear c68
       try clear c68b0
       try clear c70
       try clear c71
       try clear c72
       try clear c73
       try clear c75
       try clear c76
       try clear hcz14_0
       try clear hcz14_1
       try clear hcz14_2
       try clear hcz16_0
       try clear hcz16_1
       try clear hcz16_2
       try clear hcz24_0
       try clear hcz24_1
       try clear hcz24_2
       try clear hcz26_0
       try clear hcz26_1
       try clear hcz26_2
       try clear hcz32_0
       try clear hcz32_1
       try clear hcz32_2
       try clear hcz40_0
       try clear hcz40_1
       try clear hcz40_2
       try clear hcz47_0
       try clear hcz47_1
       try clear hcz47_2
       try clear hcz50_0
       try clear hcz50_1
       try clear hcz50_2
       try clear hcz66_0
       try clear hcz66_1
       try clear hcz66_2
       try clear hcz6_0
       try clear hcz6_1
       try clear hcz6_2
       try clear hcz74_0
       try clear hcz74_1
       try clear hcz74_2
       try clear hcz77_0
       try clear hcz77_1
       try clear hcz77_2
       try clear hfz14_0
       try clear hfz14_1
       try clear hfz14_2
       try clear hfz16_0
       try clear hfz16_1
       try clear hfz16_2
       try clear hfz24_0
       try clear hfz24_1
       try clear hfz24_2
       try clear hfz26_0
       try clear hfz26_1
       try clear hfz26_2
       try clear hfz32_0
       try clear hfz32_1
       try clear hfz32_2
       try clear hfz40_0
       try clear hfz40_1
       try clear hfz40_2
       try clear hfz47_0
       try clear hfz47_1
       try clear hfz47_2
       try clear hfz50_0
       try clear hfz50_1
       try clear hfz50_2
       try clear hfz66_0
       try clear hfz66_1
       try clear hfz66_2
       try clear hfz6_0
       try clear hfz6_1
       try clear hfz6_2
       try clear hfz74_0
       try clear hfz74_1
       try clear hfz74_2
       try clear hfz77_0
       try clear hfz77_1
       try clear hfz77_2
       try clear p2
       obtain ⟨kq, x65_56, rfl, HA, HJ56, HO_330000, HO_330002, HO_338000, HO_338002, HO_347000, HO_347002, BK312, BK329, BK337, BK346, HB⟩ := hcut
       have hl338000_56 := (Kd.R_reads' HO_338000.out).1
       rw [hl338000_56] at HO_338000
       (try simp only [hl338000_56])
       (try simp only [hl338000_56] at BK312)
       (try simp only [hl338000_56] at BK329)
       (try simp only [hl338000_56] at BK337)
       (try simp only [hl338000_56] at BK346)
       (try simp only [hl338000_56] at HO_330000)
       (try simp only [hl338000_56] at HO_330002)
       (try simp only [hl338000_56] at HO_338002)
       (try simp only [hl338000_56] at HO_347000)
       (try simp only [hl338000_56] at HO_347002)
       have hl338002_56 := (Kd.R_reads' HO_338002.out).1
       rw [hl338002_56] at HO_338002
       (try simp only [hl338002_56])
       (try simp only [hl338002_56] at BK312)
       (try simp only [hl338002_56] at BK329)
       (try simp only [hl338002_56] at BK337)
       (try simp only [hl338002_56] at BK346)
       (try simp only [hl338002_56] at HO_330000)
       (try simp only [hl338002_56] at HO_330002)
       (try simp only [hl338002_56] at HO_338000)
       (try simp only [hl338002_56] at HO_347000)
       (try simp only [hl338002_56] at HO_347002)
       cases kq with
       | zero => exact absurd HA.out (by simp [laws_FnExactWindTo.j1])
       | succ kj56 =>
        have H := HA.out
        clear HA
        simp only [laws_FnExactWindTo.j1] at H
        by_cases c79 : x65_56 = true
        ·
         subst c79
         have H1 : (some false) = some r := by rw [if_pos rfl] at H; exact H
         clear H
         have H := H1
         clear H1
         exact absurd ((Option.some.inj H).trans hr_) (by decide)
        ·
         replace c79 := Bool.eq_false_iff.mpr c79
         subst c79
         have H1 : ((laws_markReader.f kj56 t338 t341 t342 1).bind fun bt360 => ((laws_heldReader.f kj56 bt360.2.1 t341 bt360.2.2 1).bind fun t363 => (if t363 < 0 then (some false) else (if t363 = bt360.1 then ((laws_toReader.f kj56 l0_0 a0_1 l0_2).bind fun bt364 => ((impl_WindTo.f kj56 bt364.1 bt364.2.1 bt364.2.2 a1).bind fun bt371 => ((laws_eqReader.f kj56 bt371.1 bt371.2.1 bt371.2.2.1 t321 t324 t325).bind fun t380 => (if t380 = true then (laws_FnExactWindTo.j2 kj56 bt360.1 (bt371.2.2.2 != t328) bt360.2.1 t341 bt360.2.2) else (laws_FnExactWindTo.j2 kj56 bt360.1 true bt360.2.1 t341 bt360.2.2))))) else (some false))))) = some r := by rw [if_neg (show ¬ (false = true) by decide)] at H; exact H
         clear H
         have H := H1
         clear H1
         replace H := Option.bind_eq_some_iff.mp H
         obtain ⟨⟨t360, t361, t362⟩, A800, H⟩ := H
         replace H : ((laws_heldReader.f kj56 t361 t341 t362 1).bind fun t363 => (if t363 < 0 then (some false) else (if t363 = t360 then ((laws_toReader.f kj56 l0_0 a0_1 l0_2).bind fun bt364 => ((impl_WindTo.f kj56 bt364.1 bt364.2.1 bt364.2.2 a1).bind fun bt371 => ((laws_eqReader.f kj56 bt371.1 bt371.2.1 bt371.2.2.1 t321 t324 t325).bind fun t380 => (if t380 = true then (laws_FnExactWindTo.j2 kj56 t360 (bt371.2.2.2 != t328) t361 t341 t362) else (laws_FnExactWindTo.j2 kj56 t360 true t361 t341 t362))))) else (some false)))) = some r := H
         have A80 := zm A800
         clear A800
         replace H := Option.bind_eq_some_iff.mp H
         obtain ⟨t363, A810, H⟩ := H
         replace H : (if t363 < 0 then (some false) else (if t363 = t360 then ((laws_toReader.f kj56 l0_0 a0_1 l0_2).bind fun bt364 => ((impl_WindTo.f kj56 bt364.1 bt364.2.1 bt364.2.2 a1).bind fun bt371 => ((laws_eqReader.f kj56 bt371.1 bt371.2.1 bt371.2.2.1 t321 t324 t325).bind fun t380 => (if t380 = true then (laws_FnExactWindTo.j2 kj56 t360 (bt371.2.2.2 != t328) t361 t341 t362) else (laws_FnExactWindTo.j2 kj56 t360 true t361 t341 t362))))) else (some false))) = some r := H
         have A81 := zm A810
         clear A810
         by_cases c82 : t363 < 0
         ·
          rw [if_pos c82] at H
          have c82b0 : decide (t363 < 0) = true := decide_eq_true c82
          clear c82
          exact absurd ((Option.some.inj H).trans hr_) (by decide)
         ·
          rw [if_neg c82] at H
          have c82b0 : decide (t363 < 0) = false := decide_eq_false c82
          clear c82
          by_cases c83 : t363 = t360
          ·
           rw [if_pos c83] at H
           have c83b0 : (t363 == t360) = true := beq_iff_eq.mpr c83
           have c83b1 : (t363 != t360) = false := bne_eq_false_iff_eq.mpr c83
           clear c83
           replace H := Option.bind_eq_some_iff.mp H
           obtain ⟨⟨t364, t367, t368⟩, A840, H⟩ := H
           replace H : ((impl_WindTo.f kj56 t364 t367 t368 a1).bind fun bt371 => ((laws_eqReader.f kj56 bt371.1 bt371.2.1 bt371.2.2.1 t321 t324 t325).bind fun t380 => (if t380 = true then (laws_FnExactWindTo.j2 kj56 t360 (bt371.2.2.2 != t328) t361 t341 t362) else (laws_FnExactWindTo.j2 kj56 t360 true t361 t341 t362)))) = some r := H
           have A84 := zm A840
           clear A840
           replace H := Option.bind_eq_some_iff.mp H
           obtain ⟨⟨t371, t374, t375, t378⟩, A850, H⟩ := H
           replace H : ((laws_eqReader.f kj56 t371 t374 t375 t321 t324 t325).bind fun t380 => (if t380 = true then (laws_FnExactWindTo.j2 kj56 t360 (t378 != t328) t361 t341 t362) else (laws_FnExactWindTo.j2 kj56 t360 true t361 t341 t362))) = some r := H
           have A85 := zm A850
           clear A850
           have HC86 := zm H
           clear H
           have hnb87 := NB346_312.out
           have hnc87 := NB312_346.out
           have hnb88 := NB346_329.out
           have hnc88 := NB329_346.out
           have hnb89 := NB346_337.out
           have hnc89 := NB337_346.out
           obtain ⟨hcz90_0, hcz90_1, hcz90_2, hfz90_0, hfz90_1, hfz90_2⟩ := zc3 BK346.out
           go_upto_region 25 with (first | ((with_reducible refine gate_callee (f := 17) rfl ?_); refine goesL_ (some 68) rfl rfl Try.func17 (by kernel_rfl) rfl #[.agg #[.slice Ao36 t338.length co36, .int .i64 t341, .slice Ao41 t342.length co41], .int .i64 1] rfl (by (try simp only [List.map_toArray, List.map_cons, List.map_nil]); first | done | rfl | (simp only [List.length_drop, List.length_take]; rfl)) ?_; (with_reducible refine (laws_markReader.calls kj56 (fun k_ => some k_ = (.slice Ao36 t338.length co36 : Value).ownBlock) (.slice Ao36 t338.length co36) t338 t341 (fun k_ => some k_ = (.slice Ao41 t342.length co41 : Value).ownBlock) (.slice Ao41 t342.length co41) t342 1 t360 t361 t362 w _ ?side1 ?side2 ?side3 A80.out).mono ?_); (case side1 => repeat (first | (with_reducible first | exact HB.out | apply below_alloc | apply pw_below_drewN | apply below_drew1 | refine below_set ?_ GE312.out | refine below_set ?_ GE329.out | refine below_set ?_ GE337.out | refine below_set ?_ GE346.out) | exact HB.out)); (case side2 => exact Kd.R_tight rfl HO_347000.out); (case side3 => exact Kd.R_tight rfl HO_347002.out); rintro e w91 ⟨rfl, hy0, hy1, hb, hkp⟩; refine ⟨_, rfl, ?_⟩; have n0_ := zm (Kd.R_mono (ok' := fun k_ => some k_ ≠ (.slice Ao29 t357.length co29 : Value).ownBlock ∧ some k_ ≠ (.slice Ao36 t338.length co36 : Value).ownBlock) (Kd.R_keptB ((Kd.R_apart' HO_330000.out (Kd.R_typed HO_347002.out) (by decide))) hkp (fun k_ hk_ hs_ => Or.elim hs_ (fun e_ => (hk_.1.2) e_) (fun e_ => (hk_.2) e_))) (fun k_ hk_ => ⟨hk_.1.1.1, hk_.1.1.2⟩)); have n1_ := zm (Kd.R_mono (ok' := fun k_ => some k_ ≠ (.slice Ao33 t358.length co33 : Value).ownBlock ∧ some k_ ≠ (.slice Ao41 t342.length co41 : Value).ownBlock) (Kd.R_keptB ((Kd.R_apart' HO_330002.out (Kd.R_typed HO_347000.out) (by decide))) hkp (fun k_ hk_ hs_ => Or.elim hs_ (fun e_ => (hk_.2) e_) (fun e_ => (hk_.1.2) e_))) (fun k_ hk_ => ⟨hk_.1.1.1, hk_.1.1.2⟩)); have n2_ := zm (Kd.R_mono (ok' := fun k_ => some k_ ≠ (.slice Ao22 t321.length co22 : Value).ownBlock ∧ some k_ ≠ (.slice Ao36 t338.length co36 : Value).ownBlock) (Kd.R_keptB ((Kd.R_apart' HO_338000.out (Kd.R_typed HO_347002.out) (by decide))) hkp (fun k_ hk_ hs_ => Or.elim hs_ (fun e_ => (hk_.1.2) e_) (fun e_ => (hk_.2) e_))) (fun k_ hk_ => ⟨hk_.1.1.1, hk_.1.1.2⟩)); have n3_ := zm (Kd.R_mono (ok' := fun k_ => some k_ ≠ (.slice Ao25 t325.length co25 : Value).ownBlock ∧ some k_ ≠ (.slice Ao41 t342.length co41 : Value).ownBlock) (Kd.R_keptB ((Kd.R_apart' HO_338002.out (Kd.R_typed HO_347000.out) (by decide))) hkp (fun k_ hk_ hs_ => Or.elim hs_ (fun e_ => (hk_.2) e_) (fun e_ => (hk_.1.2) e_))) (fun k_ hk_ => ⟨hk_.1.1.1, hk_.1.1.2⟩)); have n4_ := zm (Kd.R_reok rfl hy0 (fun k_ e_ => HO_347000.out.1 k_ e_)); have n5_ := zm (Kd.R_reok rfl hy1 (fun k_ e_ => HO_347002.out.1 k_ e_)); have n6_ := zm (blk_kept zk hkp (fun hs_ => Or.elim hs_ (fun e_ => (fun e_ => (Kd.R_ne HO_347000.out BK312.out (by decide)) e_) e_) (fun e_ => (fun e_ => (Kd.R_ne HO_347002.out BK312.out (by decide)) e_) e_))); have n7_ := zm (blk_kept zk hkp (fun hs_ => Or.elim hs_ (fun e_ => (fun e_ => (Kd.R_ne HO_347000.out BK329.out (by decide)) e_) e_) (fun e_ => (fun e_ => (Kd.R_ne HO_347002.out BK329.out (by decide)) e_) e_))); have n8_ := zm (blk_kept zk hkp (fun hs_ => Or.elim hs_ (fun e_ => (fun e_ => (Kd.R_ne HO_347000.out BK337.out (by decide)) e_) e_) (fun e_ => (fun e_ => (Kd.R_ne HO_347002.out BK337.out (by decide)) e_) e_))); have n9_ := zm (blk_kept zk hkp (fun hs_ => Or.elim hs_ (fun e_ => (fun e_ => (Kd.R_ne HO_347000.out BK346.out (by decide)) e_) e_) (fun e_ => (fun e_ => (Kd.R_ne HO_347002.out BK346.out (by decide)) e_) e_))); have n10_ := zm (hb); clear HO_330000; clear HO_330002; clear HO_338000; clear HO_338002; clear HO_347000; clear HO_347002; clear BK312; clear BK329; clear BK337; clear BK346; clear HB; have HO_330000 := n0_; have HO_330002 := n1_; have HO_338000 := n2_; have HO_338002 := n3_; have HO_347000 := n4_; have HO_347002 := n5_; have BK312 := n6_; have BK329 := n7_; have BK337 := n8_; have BK346 := n9_; have HB := n10_; clear n0_ n1_ n2_ n3_ n4_ n5_ n6_ n7_ n8_ n9_ n10_; (try clear hb); (try clear hkp); (try clear hy0); (try clear hy1); obtain ⟨hcz92_0, hcz92_1, hcz92_2, hfz92_0, hfz92_1, hfz92_2⟩ := zc3 BK346.out) | ((with_reducible refine gate_callee (f := 18) rfl ?_); refine goesL_ (some 71) rfl rfl Try.func18 (by kernel_rfl) rfl #[.agg #[.slice Ao36 t361.length co36, .int .i64 t341, .slice Ao41 t362.length co41], .int .i64 1] rfl (by (try simp only [List.map_toArray, List.map_cons, List.map_nil]); first | done | (rw [show t361.length = t338.length from (Kd.R_reads' HO_347000.out).1.symm, show t362.length = t342.length from (Kd.R_reads' HO_347002.out).1.symm] <;> rfl) | rfl | (simp only [List.length_drop, List.length_take]; rfl)) ?_; (with_reducible refine (laws_heldReader.calls kj56 _ _ t361 t341 _ _ t362 1 t363 _ ?side1 ?side2 ?side3 ?side4 A81.out).mono ?_); (case side1 => repeat (first | exact (Kd.R_reads' HO_347000.out).2.2 | (with_reducible refine Kd.C_alloc ?_ _) | (with_reducible refine Kd.C_drewN ?_ _) | (with_reducible refine Kd.C_drew ?_))); (case side2 => rw [show t361.length = t338.length from (Kd.R_reads' HO_347000.out).1.symm]; exact (Kd.R_reads' HO_347000.out).2.1); (case side3 => repeat (first | exact (Kd.R_reads' HO_347002.out).2.2 | (with_reducible refine Kd.C_alloc ?_ _) | (with_reducible refine Kd.C_drewN ?_ _) | (with_reducible refine Kd.C_drew ?_))); (case side4 => rw [show t362.length = t342.length from (Kd.R_reads' HO_347002.out).1.symm]; exact (Kd.R_reads' HO_347002.out).2.1); rintro e w93 ⟨rfl, hb⟩; refine ⟨_, rfl, ?_⟩; have n0_ := zm (Kd.R_below (by (with_reducible repeat (first | apply Kd.R_alloc | apply Kd.R_drewN | apply Kd.R_drew)); exact HO_330000.out) hb); have n1_ := zm (Kd.R_below (by (with_reducible repeat (first | apply Kd.R_alloc | apply Kd.R_drewN | apply Kd.R_drew)); exact HO_330002.out) hb); have n2_ := zm (Kd.R_below (by (with_reducible repeat (first | apply Kd.R_alloc | apply Kd.R_drewN | apply Kd.R_drew)); exact HO_338000.out) hb); have n3_ := zm (Kd.R_below (by (with_reducible repeat (first | apply Kd.R_alloc | apply Kd.R_drewN | apply Kd.R_drew)); exact HO_338002.out) hb); have n4_ := zm (Kd.R_below (by (with_reducible repeat (first | apply Kd.R_alloc | apply Kd.R_drewN | apply Kd.R_drew)); exact HO_347000.out) hb); have n5_ := zm (Kd.R_below (by (with_reducible repeat (first | apply Kd.R_alloc | apply Kd.R_drewN | apply Kd.R_drew)); exact HO_347002.out) hb); have n6_ := zm (blk_below (g := gb312) zk hb); have n7_ := zm (blk_below (g := gb329) zk hb); have n8_ := zm (blk_below (g := gb337) zk hb); have n9_ := zm (blk_below (g := gb346) zk hb); have n10_ := zm (below_step zb hb); clear HO_330000; clear HO_330002; clear HO_338000; clear HO_338002; clear HO_347000; clear HO_347002; clear BK312; clear BK329; clear BK337; clear BK346; clear HB; have HO_330000 := n0_; have HO_330002 := n1_; have HO_338000 := n2_; have HO_338002 := n3_; have HO_347000 := n4_; have HO_347002 := n5_; have BK312 := n6_; have BK329 := n7_; have BK337 := n8_; have BK346 := n9_; have HB := n10_; clear n0_ n1_ n2_ n3_ n4_ n5_ n6_ n7_ n8_ n9_ n10_; (try clear hb); (try clear hb2); (try clear hk); (try clear hi); have hnb94 := NB312_329.out; have hnc94 := NB329_312.out; have hnb95 := NB312_337.out; have hnc95 := NB337_312.out; obtain ⟨hcz96_0, hcz96_1, hcz96_2, hfz96_0, hfz96_1, hfz96_2⟩ := zc3 BK312.out) | ((with_reducible refine gate_callee (f := 14) rfl ?_); refine goesL_ (some 79) rfl rfl Try.func14 (by kernel_rfl) rfl #[.agg #[.slice A0_0 l0_0.length c0_0, .int .i64 a0_1, .slice A0_2 l0_2.length c0_2]] rfl (by (try simp only [List.map_toArray, List.map_cons, List.map_nil]); first | done | rfl | (simp only [List.length_drop, List.length_take]; rfl)) ?_; (with_reducible refine (laws_toReader.calls kj56 _ _ l0_0 a0_1 _ _ l0_2 t364 t367 t368 _ ?side1 ?side2 ?side3 ?side4 A84.out).mono ?_); (case side1 => repeat (first | exact (Kd.C_below HR0_0.out HB.out) | (with_reducible refine Kd.C_alloc ?_ _) | (with_reducible refine Kd.C_drewN ?_ _) | (with_reducible refine Kd.C_drew ?_))); (case side2 => exact HC0_0.out); (case side3 => repeat (first | exact (Kd.C_below HR0_2.out HB.out) | (with_reducible refine Kd.C_alloc ?_ _) | (with_reducible refine Kd.C_drewN ?_ _) | (with_reducible refine Kd.C_drew ?_))); (case side4 => exact HC0_2.out); rintro e w97 ⟨v365, v369, rfl, ho0, ho1, hb⟩; refine ⟨_, rfl, ?_⟩; have n0_ := zm (Kd.R_elder' (by (with_reducible repeat (first | apply Kd.R_alloc | apply Kd.R_drewN | apply Kd.R_drew)); exact HO_330000.out) (Kd.R_base ho0) hb); have n1_ := zm (Kd.R_elder' (by (with_reducible repeat (first | apply Kd.R_alloc | apply Kd.R_drewN | apply Kd.R_drew)); exact HO_330002.out) (Kd.R_base ho1) hb); have n2_ := zm (Kd.R_elder' (by (with_reducible repeat (first | apply Kd.R_alloc | apply Kd.R_drewN | apply Kd.R_drew)); exact HO_338000.out) (Kd.R_base ho0) hb); have n3_ := zm (Kd.R_elder' (by (with_reducible repeat (first | apply Kd.R_alloc | apply Kd.R_drewN | apply Kd.R_drew)); exact HO_338002.out) (Kd.R_base ho1) hb); have n4_ := zm (Kd.R_elder' (by (with_reducible repeat (first | apply Kd.R_alloc | apply Kd.R_drewN | apply Kd.R_drew)); exact HO_347000.out) (Kd.R_base ho0) hb); have n5_ := zm (Kd.R_elder' (by (with_reducible repeat (first | apply Kd.R_alloc | apply Kd.R_drewN | apply Kd.R_drew)); exact HO_347002.out) (Kd.R_base ho1) hb); have n6_ := zm (Kd.R_lower (Kd.R_new' (Kd.R_new' (Kd.R_new' ho0 (Kd.R_lt (by (with_reducible repeat (first | apply Kd.R_alloc | apply Kd.R_drewN | apply Kd.R_drew)); exact HO_330000.out))) (Kd.R_lt (by (with_reducible repeat (first | apply Kd.R_alloc | apply Kd.R_drewN | apply Kd.R_drew)); exact HO_338000.out))) (Kd.R_lt (by (with_reducible repeat (first | apply Kd.R_alloc | apply Kd.R_drewN | apply Kd.R_drew)); exact HO_347000.out))) (below_size zb)); have n7_ := zm (Kd.R_lower (Kd.R_new' (Kd.R_new' (Kd.R_new' ho1 (Kd.R_lt (by (with_reducible repeat (first | apply Kd.R_alloc | apply Kd.R_drewN | apply Kd.R_drew)); exact HO_330002.out))) (Kd.R_lt (by (with_reducible repeat (first | apply Kd.R_alloc | apply Kd.R_drewN | apply Kd.R_drew)); exact HO_338002.out))) (Kd.R_lt (by (with_reducible repeat (first | apply Kd.R_alloc | apply Kd.R_drewN | apply Kd.R_drew)); exact HO_347002.out))) (below_size zb)); have n8_ := zm (blk_below (g := gb312) zk hb); have n9_ := zm (blk_below (g := gb329) zk hb); have n10_ := zm (blk_below (g := gb337) zk hb); have n11_ := zm (blk_below (g := gb346) zk hb); have n12_ := zm (below_step zb hb); clear HO_330000; clear HO_330002; clear HO_338000; clear HO_338002; clear HO_347000; clear HO_347002; clear BK312; clear BK329; clear BK337; clear BK346; clear HB; have HO_330000 := n0_; have HO_330002 := n1_; have HO_338000 := n2_; have HO_338002 := n3_; have HO_347000 := n4_; have HO_347002 := n5_; have HO366 := n6_; have HO370 := n7_; have BK312 := n8_; have BK329 := n9_; have BK337 := n10_; have BK346 := n11_; have HB := n12_; clear n0_ n1_ n2_ n3_ n4_ n5_ n6_ n7_ n8_ n9_ n10_ n11_ n12_; (try clear hb); (try clear hb2); (try clear hk); (try clear hi); (try clear ho0); (try clear ho1); obtain ⟨Ao98, co98, eo98⟩ := Kd.R_slice HO366.out; subst eo98; obtain ⟨Ao99, co99, eo99⟩ := Kd.R_slice HO370.out; subst eo99) | ((with_reducible refine gate_callee (f := 15) rfl ?_); refine goesL_ (some 81) rfl rfl Try.func15 (by kernel_rfl) rfl #[.agg #[.slice Ao98 t364.length co98, .int .i64 t367, .slice Ao99 t368.length co99], .int .i64 a1] rfl (by (try simp only [List.map_toArray, List.map_cons, List.map_nil]); first | done | rfl | (simp only [List.length_drop, List.length_take]; rfl)) ?_; (with_reducible refine (impl_WindTo.calls kj56 _ _ t364 t367 _ _ t368 a1 t371 t374 t375 t378 _ ?side1 ?side2 ?side3 ?side4 A85.out).mono ?_); (case side1 => repeat (first | exact (Kd.R_reads' HO366.out).2.2 | (with_reducible refine Kd.C_alloc ?_ _) | (with_reducible refine Kd.C_drewN ?_ _) | (with_reducible refine Kd.C_drew ?_))); (case side2 => exact (Kd.R_reads' HO366.out).2.1); (case side3 => repeat (first | exact (Kd.R_reads' HO370.out).2.2 | (with_reducible refine Kd.C_alloc ?_ _) | (with_reducible refine Kd.C_drewN ?_ _) | (with_reducible refine Kd.C_drew ?_))); (case side4 => exact (Kd.R_reads' HO370.out).2.1); rintro e w100 ⟨v372, v376, rfl, ho0, ho1, hb⟩; refine ⟨_, rfl, ?_⟩; have n0_ := zm (Kd.R_elder' (by (with_reducible repeat (first | apply Kd.R_alloc | apply Kd.R_drewN | apply Kd.R_drew)); exact HO_330000.out) (Kd.R_base ho0) hb); have n1_ := zm (Kd.R_elder' (by (with_reducible repeat (first | apply Kd.R_alloc | apply Kd.R_drewN | apply Kd.R_drew)); exact HO_330002.out) (Kd.R_base ho1) hb); have n2_ := zm (Kd.R_elder' (by (with_reducible repeat (first | apply Kd.R_alloc | apply Kd.R_drewN | apply Kd.R_drew)); exact HO_338000.out) (Kd.R_base ho0) hb); have n3_ := zm (Kd.R_elder' (by (with_reducible repeat (first | apply Kd.R_alloc | apply Kd.R_drewN | apply Kd.R_drew)); exact HO_338002.out) (Kd.R_base ho1) hb); have n4_ := zm (Kd.R_elder' (by (with_reducible repeat (first | apply Kd.R_alloc | apply Kd.R_drewN | apply Kd.R_drew)); exact HO_347000.out) (Kd.R_base ho0) hb); have n5_ := zm (Kd.R_elder' (by (with_reducible repeat (first | apply Kd.R_alloc | apply Kd.R_drewN | apply Kd.R_drew)); exact HO_347002.out) (Kd.R_base ho1) hb); have n6_ := zm (Kd.R_elder' (by (with_reducible repeat (first | apply Kd.R_alloc | apply Kd.R_drewN | apply Kd.R_drew)); exact HO366.out) (Kd.R_base ho0) hb); have n7_ := zm (Kd.R_elder' (by (with_reducible repeat (first | apply Kd.R_alloc | apply Kd.R_drewN | apply Kd.R_drew)); exact HO370.out) (Kd.R_base ho1) hb); have n8_ := zm (Kd.R_lower (Kd.R_new' (Kd.R_new' (Kd.R_new' (Kd.R_new' ho0 (Kd.R_lt (by (with_reducible repeat (first | apply Kd.R_alloc | apply Kd.R_drewN | apply Kd.R_drew)); exact HO_330000.out))) (Kd.R_lt (by (with_reducible repeat (first | apply Kd.R_alloc | apply Kd.R_drewN | apply Kd.R_drew)); exact HO_338000.out))) (Kd.R_lt (by (with_reducible repeat (first | apply Kd.R_alloc | apply Kd.R_drewN | apply Kd.R_drew)); exact HO_347000.out))) (Kd.R_lt (by (with_reducible repeat (first | apply Kd.R_alloc | apply Kd.R_drewN | apply Kd.R_drew)); exact HO366.out))) (below_size zb)); have n9_ := zm (Kd.R_lower (Kd.R_new' (Kd.R_new' (Kd.R_new' (Kd.R_new' ho1 (Kd.R_lt (by (with_reducible repeat (first | apply Kd.R_alloc | apply Kd.R_drewN | apply Kd.R_drew)); exact HO_330002.out))) (Kd.R_lt (by (with_reducible repeat (first | apply Kd.R_alloc | apply Kd.R_drewN | apply Kd.R_drew)); exact HO_338002.out))) (Kd.R_lt (by (with_reducible repeat (first | apply Kd.R_alloc | apply Kd.R_drewN | apply Kd.R_drew)); exact HO_347002.out))) (Kd.R_lt (by (with_reducible repeat (first | apply Kd.R_alloc | apply Kd.R_drewN | apply Kd.R_drew)); exact HO370.out))) (below_size zb)); have n10_ := zm (blk_below (g := gb312) zk hb); have n11_ := zm (blk_below (g := gb329) zk hb); have n12_ := zm (blk_below (g := gb337) zk hb); have n13_ := zm (blk_below (g := gb346) zk hb); have n14_ := zm (below_step zb hb); clear HO_330000; clear HO_330002; clear HO_338000; clear HO_338002; clear HO_347000; clear HO_347002; clear HO366; clear HO370; clear BK312; clear BK329; clear BK337; clear BK346; clear HB; have HO_330000 := n0_; have HO_330002 := n1_; have HO_338000 := n2_; have HO_338002 := n3_; have HO_347000 := n4_; have HO_347002 := n5_; have HO366 := n6_; have HO370 := n7_; have HO373 := n8_; have HO377 := n9_; have BK312 := n10_; have BK329 := n11_; have BK337 := n12_; have BK346 := n13_; have HB := n14_; clear n0_ n1_ n2_ n3_ n4_ n5_ n6_ n7_ n8_ n9_ n10_ n11_ n12_ n13_ n14_; (try clear hb); (try clear hb2); (try clear hk); (try clear hi); (try clear ho0); (try clear ho1)) | ((with_reducible refine gate_dst (N := 14) rfl ?_); refine box_event ?hg (N := 14) ?hd (cs := #[.slice none 0 0, .int .i64 0, .slice none 0 0]) (t := 29) ?hr ?_; (case hd => rfl); (case hg => rfl); (case hr => first | (go_simp; done) | (go_simp; rfl)); intro gb379 hg w101 hbox hb; have n0_ := zm (Kd.R_below (by (with_reducible repeat (first | apply Kd.R_alloc | apply Kd.R_drewN | apply Kd.R_drew)); exact HO_330000.out) hb); have n1_ := zm (Kd.R_below (by (with_reducible repeat (first | apply Kd.R_alloc | apply Kd.R_drewN | apply Kd.R_drew)); exact HO_330002.out) hb); have n2_ := zm (Kd.R_below (by (with_reducible repeat (first | apply Kd.R_alloc | apply Kd.R_drewN | apply Kd.R_drew)); exact HO_338000.out) hb); have n3_ := zm (Kd.R_below (by (with_reducible repeat (first | apply Kd.R_alloc | apply Kd.R_drewN | apply Kd.R_drew)); exact HO_338002.out) hb); have n4_ := zm (Kd.R_below (by (with_reducible repeat (first | apply Kd.R_alloc | apply Kd.R_drewN | apply Kd.R_drew)); exact HO_347000.out) hb); have n5_ := zm (Kd.R_below (by (with_reducible repeat (first | apply Kd.R_alloc | apply Kd.R_drewN | apply Kd.R_drew)); exact HO_347002.out) hb); have n6_ := zm (Kd.R_below (by (with_reducible repeat (first | apply Kd.R_alloc | apply Kd.R_drewN | apply Kd.R_drew)); exact HO366.out) hb); have n7_ := zm (Kd.R_below (by (with_reducible repeat (first | apply Kd.R_alloc | apply Kd.R_drewN | apply Kd.R_drew)); exact HO370.out) hb); have n8_ := zm (Kd.R_below (by (with_reducible repeat (first | apply Kd.R_alloc | apply Kd.R_drewN | apply Kd.R_drew)); exact HO373.out) hb); have n9_ := zm (Kd.R_below (by (with_reducible repeat (first | apply Kd.R_alloc | apply Kd.R_drewN | apply Kd.R_drew)); exact HO377.out) hb); have n10_ := zm (blk_below (g := gb312) zk hb); have n11_ := zm (blk_below (g := gb329) zk hb); have n12_ := zm (blk_below (g := gb337) zk hb); have n13_ := zm (blk_below (g := gb346) zk hb); have n14_ := zm (below_step zb hb); have n15_ := zm (hbox); have n16_ := zm (zs hg zb : w.heap.size ≤ gb379); have n17_ := zm (zs hg zb : w.heap.size ≤ gb379); have n18_ := zm (zl hg zk : gb312 ≠ gb379); have n19_ := zm (zg hg zk : gb379 ≠ gb312); have n20_ := zm (zl hg zk : gb329 ≠ gb379); have n21_ := zm (zg hg zk : gb379 ≠ gb329); have n22_ := zm (zl hg zk : gb337 ≠ gb379); have n23_ := zm (zg hg zk : gb379 ≠ gb337); have n24_ := zm (zl hg zk : gb346 ≠ gb379); have n25_ := zm (zg hg zk : gb379 ≠ gb346); clear HO_330000; clear HO_330002; clear HO_338000; clear HO_338002; clear HO_347000; clear HO_347002; clear HO366; clear HO370; clear HO373; clear HO377; clear BK312; clear BK329; clear BK337; clear BK346; clear HB; have HO_330000 := n0_; have HO_330002 := n1_; have HO_338000 := n2_; have HO_338002 := n3_; have HO_347000 := n4_; have HO_347002 := n5_; have HO366 := n6_; have HO370 := n7_; have HO373 := n8_; have HO377 := n9_; have BK312 := n10_; have BK329 := n11_; have BK337 := n12_; have BK346 := n13_; have HB := n14_; have BK379 := n15_; have GW379 := n16_; have GE379 := n17_; have NB312_379 := n18_; have NB379_312 := n19_; have NB329_379 := n20_; have NB379_329 := n21_; have NB337_379 := n22_; have NB379_337 := n23_; have NB346_379 := n24_; have NB379_346 := n25_; clear n0_ n1_ n2_ n3_ n4_ n5_ n6_ n7_ n8_ n9_ n10_ n11_ n12_ n13_ n14_ n15_ n16_ n17_ n18_ n19_ n20_ n21_ n22_ n23_ n24_ n25_; clear hb hbox hg; obtain ⟨Ao102, co102, eo102⟩ := Kd.R_slice HO373.out; subst eo102; have hnb103 := NB379_312.out; have hnc103 := NB312_379.out; have hnb104 := NB379_329.out; have hnc104 := NB329_379.out; have hnb105 := NB379_337.out; have hnc105 := NB337_379.out; have hnb106 := NB379_346.out; have hnc106 := NB346_379.out; obtain ⟨hcz107_0, hcz107_1, hcz107_2, hfz107_0, hfz107_1, hfz107_2⟩ := zc3 BK379.out; obtain ⟨Ao108, co108, eo108⟩ := Kd.R_slice HO377.out; subst eo108))
           (try simp only [Act.put, List.setIfInBounds_toArray, List.set_cons_zero, List.set_cons_succ])
           go_cut [92] (fun v92 wc => ∃ (kq : Nat) (x92_85 : Bool), v92 = .bool x92_85 ∧ Aside0 (laws_FnExactWindTo.j2 kq t360 x92_85 t361 t341 t362 = some r) ∧ Aside0 (kq ≤ kj56) ∧ Aside0 (Kd.R k137 137 wc w.heap.size (fun k_ => some k_ ≠ ((.slice Ao29 t357.length co29) : Value).ownBlock ∧ some k_ ≠ ((.slice Ao36 t338.length co36) : Value).ownBlock ∧ some k_ ≠ ((.slice Ao102 t371.length co102) : Value).ownBlock) (.slice Ao22 t321.length co22) t321) ∧ Aside0 (Kd.R (Kd.int .i64) 3 wc w.heap.size (fun k_ => some k_ ≠ ((.slice Ao33 t358.length co33) : Value).ownBlock ∧ some k_ ≠ ((.slice Ao41 t342.length co41) : Value).ownBlock ∧ some k_ ≠ ((.slice Ao108 t375.length co108) : Value).ownBlock) (.slice Ao25 t325.length co25) t325) ∧ Aside0 (Kd.R k137 137 wc w.heap.size (fun k_ => some k_ ≠ ((.slice Ao22 t321.length co22) : Value).ownBlock ∧ some k_ ≠ ((.slice Ao36 t338.length co36) : Value).ownBlock ∧ some k_ ≠ ((.slice Ao102 t371.length co102) : Value).ownBlock) (.slice Ao29 t357.length co29) t357) ∧ Aside0 (Kd.R (Kd.int .i64) 3 wc w.heap.size (fun k_ => some k_ ≠ ((.slice Ao25 t325.length co25) : Value).ownBlock ∧ some k_ ≠ ((.slice Ao41 t342.length co41) : Value).ownBlock ∧ some k_ ≠ ((.slice Ao108 t375.length co108) : Value).ownBlock) (.slice Ao33 t358.length co33) t358) ∧ Aside0 (Kd.R k137 137 wc w.heap.size (fun k_ => some k_ ≠ ((.slice Ao22 t321.length co22) : Value).ownBlock ∧ some k_ ≠ ((.slice Ao29 t357.length co29) : Value).ownBlock ∧ some k_ ≠ ((.slice Ao102 t371.length co102) : Value).ownBlock) (.slice Ao36 t338.length co36) t361) ∧ Aside0 (Kd.R (Kd.int .i64) 3 wc w.heap.size (fun k_ => some k_ ≠ ((.slice Ao25 t325.length co25) : Value).ownBlock ∧ some k_ ≠ ((.slice Ao33 t358.length co33) : Value).ownBlock ∧ some k_ ≠ ((.slice Ao108 t375.length co108) : Value).ownBlock) (.slice Ao41 t342.length co41) t362) ∧ Aside0 (Kd.R k137 137 wc w.heap.size (fun k_ => some k_ ≠ ((.slice Ao22 t321.length co22) : Value).ownBlock ∧ some k_ ≠ ((.slice Ao29 t357.length co29) : Value).ownBlock ∧ some k_ ≠ ((.slice Ao36 t338.length co36) : Value).ownBlock) (.slice Ao102 t371.length co102) t371) ∧ Aside0 (Kd.R (Kd.int .i64) 3 wc w.heap.size (fun k_ => some k_ ≠ ((.slice Ao25 t325.length co25) : Value).ownBlock ∧ some k_ ≠ ((.slice Ao33 t358.length co33) : Value).ownBlock ∧ some k_ ≠ ((.slice Ao41 t342.length co41) : Value).ownBlock) (.slice Ao108 t375.length co108) t375) ∧ Aside0 (wc.heap[gb312]? = some (.cells #[(.slice A0_0 l0_0.length c0_0), .int .i64 a0_1, (.slice A0_2 l0_2.length c0_2)] 25 (0, 0))) ∧ Aside0 (wc.heap[gb329]? = some (.cells #[(.slice Ao22 t321.length co22), .int .i64 t324, (.slice Ao25 t325.length co25)] 29 (0, 0))) ∧ Aside0 (wc.heap[gb337]? = some (.cells #[(.slice Ao29 t357.length co29), .int .i64 t333, (.slice Ao33 t358.length co33)] 29 (0, 0))) ∧ Aside0 (wc.heap[gb346]? = some (.cells #[(.slice Ao36 t338.length co36), .int .i64 t341, (.slice Ao41 t342.length co41)] 29 (0, 0))) ∧ Aside0 (wc.heap[gb379]? = some (.cells #[(.slice Ao102 t371.length co102), .int .i64 t374, (.slice Ao108 t375.length co108)] 29 (0, 0))) ∧ Aside0 (Below w.heap.size w wc))
           case first =>
            have H := HC86.out
            clear HC86
            replace H := Option.bind_eq_some_iff.mp H
            obtain ⟨t380, A1090, H⟩ := H
            replace H : (if t380 = true then (laws_FnExactWindTo.j2 kj56 t360 (t378 != t328) t361 t341 t362) else (laws_FnExactWindTo.j2 kj56 t360 true t361 t341 t362)) = some r := H
            have A109 := zm A1090
            clear A1090
            by_cases c110 : t380 = true
            ·
             subst c110
             have H1 : (laws_FnExactWindTo.j2 kj56 t360 (t378 != t328) t361 t341 t362) = some r := by rw [if_pos rfl] at H; exact H
             clear H
             have H := H1
             clear H1
             have H' := zm H
             clear H
             have hnb111 := NB379_312.out
             have hnc111 := NB312_379.out
             have hnb112 := NB379_329.out
             have hnc112 := NB329_379.out
             have hnb113 := NB379_337.out
             have hnc113 := NB337_379.out
             have hnb114 := NB379_346.out
             have hnc114 := NB346_379.out
             obtain ⟨hcz115_0, hcz115_1, hcz115_2, hfz115_0, hfz115_1, hfz115_2⟩ := zc3 BK379.out
             have hnb116 := NB329_312.out
             have hnc116 := NB312_329.out
             have hnb117 := NB329_337.out
             have hnc117 := NB337_329.out
             have hnb118 := NB329_346.out
             have hnc118 := NB346_329.out
             obtain ⟨hcz119_0, hcz119_1, hcz119_2, hfz119_0, hfz119_1, hfz119_2⟩ := zc3 BK329.out
             go_wp2_with (first | ((with_reducible refine gate_callee (f := 16) rfl ?_); refine goesL_ (some 86) rfl rfl Try.func16 (by kernel_rfl) rfl #[.agg #[.slice Ao102 t371.length co102, .int .i64 t374, .slice Ao108 t375.length co108], .agg #[.slice Ao22 t321.length co22, .int .i64 t324, .slice Ao25 t325.length co25]] rfl (by (try simp only [List.map_toArray, List.map_cons, List.map_nil]); first | done | rfl | (simp only [List.length_drop, List.length_take]; rfl)) ?_; (with_reducible refine (laws_eqReader.calls kj56 _ _ t371 t374 _ _ t375 _ _ t321 t324 _ _ t325 true _ ?side1 ?side2 ?side3 ?side4 ?side5 ?side6 ?side7 ?side8 A109.out).mono ?_); (case side1 => refine (Kd.R_reads' (e := 137) (base := w.heap.size) (ok := fun k_ => ((((True ∧ some k_ ≠ (.slice Ao22 t321.length co22 : Value).ownBlock) ∧ some k_ ≠ (.slice Ao29 t357.length co29 : Value).ownBlock) ∧ some k_ ≠ (.slice Ao36 t338.length co36 : Value).ownBlock) ∧ some k_ ≠ (.slice Ao98 t364.length co98 : Value).ownBlock)) (n := t371.length) (c := co102) ?_).2.2; exact (by (with_reducible repeat (first | apply Kd.R_alloc | apply Kd.R_drewN | apply Kd.R_drew)); exact (Kd.R_mono (Kd.R_far (p := ⟨gb379, 2, none⟩) (Kd.R_far (p := ⟨gb379, 1, none⟩) (Kd.R_far (p := ⟨gb379, 0, none⟩) (Kd.R_types HO373.out BK379.out (by decide)) (fun _ hk => hk.2) (.slice Ao102 t371.length co102)) (fun _ hk => hk.2) (.int .i64 t374)) (fun _ hk => hk.2) (.slice Ao108 t375.length co108)) (fun _ h_ => h_.1)))); (case side2 => exact (Kd.R_reads' HO373.out).2.1); (case side3 => refine (Kd.R_reads' (e := 3) (base := w.heap.size) (ok := fun k_ => ((((True ∧ some k_ ≠ (.slice Ao25 t325.length co25 : Value).ownBlock) ∧ some k_ ≠ (.slice Ao33 t358.length co33 : Value).ownBlock) ∧ some k_ ≠ (.slice Ao41 t342.length co41 : Value).ownBlock) ∧ some k_ ≠ (.slice Ao99 t368.length co99 : Value).ownBlock)) (n := t375.length) (c := co108) ?_).2.2; exact (by (with_reducible repeat (first | apply Kd.R_alloc | apply Kd.R_drewN | apply Kd.R_drew)); exact (Kd.R_mono (Kd.R_far (p := ⟨gb379, 2, none⟩) (Kd.R_far (p := ⟨gb379, 1, none⟩) (Kd.R_far (p := ⟨gb379, 0, none⟩) (Kd.R_types HO377.out BK379.out (by decide)) (fun _ hk => hk.2) (.slice Ao102 t371.length co102)) (fun _ hk => hk.2) (.int .i64 t374)) (fun _ hk => hk.2) (.slice Ao108 t375.length co108)) (fun _ h_ => h_.1)))); (case side4 => exact (Kd.R_reads' HO377.out).2.1); (case side5 => refine (Kd.R_reads' (e := 137) (base := w.heap.size) (ok := fun k_ => (((some k_ ≠ (.slice Ao29 t357.length co29 : Value).ownBlock ∧ some k_ ≠ (.slice Ao36 t338.length co36 : Value).ownBlock) ∧ some k_ ≠ (.slice Ao98 t364.length co98 : Value).ownBlock) ∧ some k_ ≠ (.slice Ao102 t371.length co102 : Value).ownBlock)) (n := t321.length) (c := co22) ?_).2.2; exact (by (with_reducible repeat (first | apply Kd.R_alloc | apply Kd.R_drewN | apply Kd.R_drew)); exact (Kd.R_mono (Kd.R_far (p := ⟨gb379, 2, none⟩) (Kd.R_far (p := ⟨gb379, 1, none⟩) (Kd.R_far (p := ⟨gb379, 0, none⟩) (Kd.R_types HO_330000.out BK379.out (by decide)) (fun _ hk => hk.2) (.slice Ao102 t371.length co102)) (fun _ hk => hk.2) (.int .i64 t374)) (fun _ hk => hk.2) (.slice Ao108 t375.length co108)) (fun _ h_ => h_.1)))); (case side6 => exact (Kd.R_reads' HO_330000.out).2.1); (case side7 => refine (Kd.R_reads' (e := 3) (base := w.heap.size) (ok := fun k_ => (((some k_ ≠ (.slice Ao33 t358.length co33 : Value).ownBlock ∧ some k_ ≠ (.slice Ao41 t342.length co41 : Value).ownBlock) ∧ some k_ ≠ (.slice Ao99 t368.length co99 : Value).ownBlock) ∧ some k_ ≠ (.slice Ao108 t375.length co108 : Value).ownBlock)) (n := t325.length) (c := co25) ?_).2.2; exact (by (with_reducible repeat (first | apply Kd.R_alloc | apply Kd.R_drewN | apply Kd.R_drew)); exact (Kd.R_mono (Kd.R_far (p := ⟨gb379, 2, none⟩) (Kd.R_far (p := ⟨gb379, 1, none⟩) (Kd.R_far (p := ⟨gb379, 0, none⟩) (Kd.R_types HO_330002.out BK379.out (by decide)) (fun _ hk => hk.2) (.slice Ao102 t371.length co102)) (fun _ hk => hk.2) (.int .i64 t374)) (fun _ hk => hk.2) (.slice Ao108 t375.length co108)) (fun _ h_ => h_.1)))); (case side8 => exact (Kd.R_reads' HO_330002.out).2.1); rintro e w120 ⟨rfl, hb⟩; refine ⟨_, rfl, ?_⟩; have n0_ := zm (Kd.R_below (by (with_reducible repeat (first | apply Kd.R_alloc | apply Kd.R_drewN | apply Kd.R_drew)); exact (Kd.R_mono (Kd.R_far (p := ⟨gb379, 2, none⟩) (Kd.R_far (p := ⟨gb379, 1, none⟩) (Kd.R_far (p := ⟨gb379, 0, none⟩) (Kd.R_types HO_330000.out BK379.out (by decide)) (fun _ hk => hk.2) (.slice Ao102 t371.length co102)) (fun _ hk => hk.2) (.int .i64 t374)) (fun _ hk => hk.2) (.slice Ao108 t375.length co108)) (fun _ h_ => h_.1))) hb); have n1_ := zm (Kd.R_below (by (with_reducible repeat (first | apply Kd.R_alloc | apply Kd.R_drewN | apply Kd.R_drew)); exact (Kd.R_mono (Kd.R_far (p := ⟨gb379, 2, none⟩) (Kd.R_far (p := ⟨gb379, 1, none⟩) (Kd.R_far (p := ⟨gb379, 0, none⟩) (Kd.R_types HO_330002.out BK379.out (by decide)) (fun _ hk => hk.2) (.slice Ao102 t371.length co102)) (fun _ hk => hk.2) (.int .i64 t374)) (fun _ hk => hk.2) (.slice Ao108 t375.length co108)) (fun _ h_ => h_.1))) hb); have n2_ := zm (Kd.R_below (by (with_reducible repeat (first | apply Kd.R_alloc | apply Kd.R_drewN | apply Kd.R_drew)); exact (Kd.R_mono (Kd.R_far (p := ⟨gb379, 2, none⟩) (Kd.R_far (p := ⟨gb379, 1, none⟩) (Kd.R_far (p := ⟨gb379, 0, none⟩) (Kd.R_types HO_338000.out BK379.out (by decide)) (fun _ hk => hk.2) (.slice Ao102 t371.length co102)) (fun _ hk => hk.2) (.int .i64 t374)) (fun _ hk => hk.2) (.slice Ao108 t375.length co108)) (fun _ h_ => h_.1))) hb); have n3_ := zm (Kd.R_below (by (with_reducible repeat (first | apply Kd.R_alloc | apply Kd.R_drewN | apply Kd.R_drew)); exact (Kd.R_mono (Kd.R_far (p := ⟨gb379, 2, none⟩) (Kd.R_far (p := ⟨gb379, 1, none⟩) (Kd.R_far (p := ⟨gb379, 0, none⟩) (Kd.R_types HO_338002.out BK379.out (by decide)) (fun _ hk => hk.2) (.slice Ao102 t371.length co102)) (fun _ hk => hk.2) (.int .i64 t374)) (fun _ hk => hk.2) (.slice Ao108 t375.length co108)) (fun _ h_ => h_.1))) hb); have n4_ := zm (Kd.R_below (by (with_reducible repeat (first | apply Kd.R_alloc | apply Kd.R_drewN | apply Kd.R_drew)); exact (Kd.R_mono (Kd.R_far (p := ⟨gb379, 2, none⟩) (Kd.R_far (p := ⟨gb379, 1, none⟩) (Kd.R_far (p := ⟨gb379, 0, none⟩) (Kd.R_types HO_347000.out BK379.out (by decide)) (fun _ hk => hk.2) (.slice Ao102 t371.length co102)) (fun _ hk => hk.2) (.int .i64 t374)) (fun _ hk => hk.2) (.slice Ao108 t375.length co108)) (fun _ h_ => h_.1))) hb); have n5_ := zm (Kd.R_below (by (with_reducible repeat (first | apply Kd.R_alloc | apply Kd.R_drewN | apply Kd.R_drew)); exact (Kd.R_mono (Kd.R_far (p := ⟨gb379, 2, none⟩) (Kd.R_far (p := ⟨gb379, 1, none⟩) (Kd.R_far (p := ⟨gb379, 0, none⟩) (Kd.R_types HO_347002.out BK379.out (by decide)) (fun _ hk => hk.2) (.slice Ao102 t371.length co102)) (fun _ hk => hk.2) (.int .i64 t374)) (fun _ hk => hk.2) (.slice Ao108 t375.length co108)) (fun _ h_ => h_.1))) hb); have n6_ := zm (Kd.R_below (by (with_reducible repeat (first | apply Kd.R_alloc | apply Kd.R_drewN | apply Kd.R_drew)); exact (Kd.R_mono (Kd.R_far (p := ⟨gb379, 2, none⟩) (Kd.R_far (p := ⟨gb379, 1, none⟩) (Kd.R_far (p := ⟨gb379, 0, none⟩) (Kd.R_types HO366.out BK379.out (by decide)) (fun _ hk => hk.2) (.slice Ao102 t371.length co102)) (fun _ hk => hk.2) (.int .i64 t374)) (fun _ hk => hk.2) (.slice Ao108 t375.length co108)) (fun _ h_ => h_.1))) hb); have n7_ := zm (Kd.R_below (by (with_reducible repeat (first | apply Kd.R_alloc | apply Kd.R_drewN | apply Kd.R_drew)); exact (Kd.R_mono (Kd.R_far (p := ⟨gb379, 2, none⟩) (Kd.R_far (p := ⟨gb379, 1, none⟩) (Kd.R_far (p := ⟨gb379, 0, none⟩) (Kd.R_types HO370.out BK379.out (by decide)) (fun _ hk => hk.2) (.slice Ao102 t371.length co102)) (fun _ hk => hk.2) (.int .i64 t374)) (fun _ hk => hk.2) (.slice Ao108 t375.length co108)) (fun _ h_ => h_.1))) hb); have n8_ := zm (Kd.R_below (by (with_reducible repeat (first | apply Kd.R_alloc | apply Kd.R_drewN | apply Kd.R_drew)); exact (Kd.R_mono (Kd.R_far (p := ⟨gb379, 2, none⟩) (Kd.R_far (p := ⟨gb379, 1, none⟩) (Kd.R_far (p := ⟨gb379, 0, none⟩) (Kd.R_types HO373.out BK379.out (by decide)) (fun _ hk => hk.2) (.slice Ao102 t371.length co102)) (fun _ hk => hk.2) (.int .i64 t374)) (fun _ hk => hk.2) (.slice Ao108 t375.length co108)) (fun _ h_ => h_.1))) hb); have n9_ := zm (Kd.R_below (by (with_reducible repeat (first | apply Kd.R_alloc | apply Kd.R_drewN | apply Kd.R_drew)); exact (Kd.R_mono (Kd.R_far (p := ⟨gb379, 2, none⟩) (Kd.R_far (p := ⟨gb379, 1, none⟩) (Kd.R_far (p := ⟨gb379, 0, none⟩) (Kd.R_types HO377.out BK379.out (by decide)) (fun _ hk => hk.2) (.slice Ao102 t371.length co102)) (fun _ hk => hk.2) (.int .i64 t374)) (fun _ hk => hk.2) (.slice Ao108 t375.length co108)) (fun _ h_ => h_.1))) hb); have n10_ := zm (blk_below (g := gb312) (o := .cells #[.slice A0_0 l0_0.length c0_0, .int .i64 a0_1, .slice A0_2 l0_2.length c0_2] 25 (0, 0)) zK hb); have n11_ := zm (blk_below (g := gb329) (o := .cells #[.slice Ao22 t321.length co22, .int .i64 t324, .slice Ao25 t325.length co25] 29 (0, 0)) zK hb); have n12_ := zm (blk_below (g := gb337) (o := .cells #[.slice Ao29 t357.length co29, .int .i64 t333, .slice Ao33 t358.length co33] 29 (0, 0)) zK hb); have n13_ := zm (blk_below (g := gb346) (o := .cells #[.slice Ao36 t338.length co36, .int .i64 t341, .slice Ao41 t342.length co41] 29 (0, 0)) zK hb); have n14_ := zm (blk_below (g := gb379) (o := .cells #[.slice Ao102 t371.length co102, .int .i64 t374, .slice Ao108 t375.length co108] 29 (0, 0)) (by (with_reducible repeat (first | refine blk_drewN ?_ _ | refine blk_drew ?_ | refine blk_alloc ?_ _)); refine blk_put (cs := #[.slice Ao102 t371.length co102, .int .i64 t374, .slice none 0 0]) ?_ 2 _ rfl; (with_reducible repeat (first | refine blk_drewN ?_ _ | refine blk_drew ?_ | refine blk_alloc ?_ _)); refine blk_put (cs := #[.slice Ao102 t371.length co102, .int .i64 0, .slice none 0 0]) ?_ 1 _ rfl; (with_reducible repeat (first | refine blk_drewN ?_ _ | refine blk_drew ?_ | refine blk_alloc ?_ _)); refine blk_put (cs := #[.slice none 0 0, .int .i64 0, .slice none 0 0]) ?_ 0 _ rfl; (with_reducible repeat (first | refine blk_drewN ?_ _ | refine blk_drew ?_ | refine blk_alloc ?_ _)); exact BK379.out) hb); have n15_ := zm (below_step zb hb); clear HO_330000; clear HO_330002; clear HO_338000; clear HO_338002; clear HO_347000; clear HO_347002; clear HO366; clear HO370; clear HO373; clear HO377; clear BK312; clear BK329; clear BK337; clear BK346; clear BK379; clear HB; have HO_330000 := n0_; have HO_330002 := n1_; have HO_338000 := n2_; have HO_338002 := n3_; have HO_347000 := n4_; have HO_347002 := n5_; have HO366 := n6_; have HO370 := n7_; have HO373 := n8_; have HO377 := n9_; have BK312 := n10_; have BK329 := n11_; have BK337 := n12_; have BK346 := n13_; have BK379 := n14_; have HB := n15_; clear n0_ n1_ n2_ n3_ n4_ n5_ n6_ n7_ n8_ n9_ n10_ n11_ n12_ n13_ n14_ n15_; (try clear hb); (try clear hb2); (try clear hk); (try clear hi)))
             go_meet
             case rel => exact ⟨_, ((t378 != t328)), (by first | rfl | (simp; done) | (simp [*]; done)), H', ⟨by have := HJ11.out; have := HJ56.out; first | omega | exact Nat.le_refl _⟩, ⟨by (try simp only [hl338000_56]); (try simp only [hl338002_56]); (with_reducible repeat (first | apply Kd.R_alloc | apply Kd.R_drewN | apply Kd.R_drew)); exact Kd.R_mono HO_330000.out (fun _ hk => ⟨hk.1.1.1, ⟨hk.1.1.2, hk.2⟩⟩)⟩, ⟨by (try simp only [hl338000_56]); (try simp only [hl338002_56]); (with_reducible repeat (first | apply Kd.R_alloc | apply Kd.R_drewN | apply Kd.R_drew)); exact Kd.R_mono HO_330002.out (fun _ hk => ⟨hk.1.1.1, ⟨hk.1.1.2, hk.2⟩⟩)⟩, ⟨by (try simp only [hl338000_56]); (try simp only [hl338002_56]); (with_reducible repeat (first | apply Kd.R_alloc | apply Kd.R_drewN | apply Kd.R_drew)); exact Kd.R_mono HO_338000.out (fun _ hk => ⟨hk.1.1.1, ⟨hk.1.1.2, hk.2⟩⟩)⟩, ⟨by (try simp only [hl338000_56]); (try simp only [hl338002_56]); (with_reducible repeat (first | apply Kd.R_alloc | apply Kd.R_drewN | apply Kd.R_drew)); exact Kd.R_mono HO_338002.out (fun _ hk => ⟨hk.1.1.1, ⟨hk.1.1.2, hk.2⟩⟩)⟩, ⟨by (try simp only [hl338000_56]); (try simp only [hl338002_56]); (with_reducible repeat (first | apply Kd.R_alloc | apply Kd.R_drewN | apply Kd.R_drew)); exact Kd.R_mono HO_347000.out (fun _ hk => ⟨hk.1.1.1, ⟨hk.1.1.2, hk.2⟩⟩)⟩, ⟨by (try simp only [hl338000_56]); (try simp only [hl338002_56]); (with_reducible repeat (first | apply Kd.R_alloc | apply Kd.R_drewN | apply Kd.R_drew)); exact Kd.R_mono HO_347002.out (fun _ hk => ⟨hk.1.1.1, ⟨hk.1.1.2, hk.2⟩⟩)⟩, ⟨by (try simp only [hl338000_56]); (try simp only [hl338002_56]); (with_reducible repeat (first | apply Kd.R_alloc | apply Kd.R_drewN | apply Kd.R_drew)); exact Kd.R_mono HO373.out (fun _ hk => ⟨hk.1.1.1.2, ⟨hk.1.1.2, hk.1.2⟩⟩)⟩, ⟨by (try simp only [hl338000_56]); (try simp only [hl338002_56]); (with_reducible repeat (first | apply Kd.R_alloc | apply Kd.R_drewN | apply Kd.R_drew)); exact Kd.R_mono HO377.out (fun _ hk => ⟨hk.1.1.1.2, ⟨hk.1.1.2, hk.1.2⟩⟩)⟩, ⟨by (try simp only [hl338000_56]); (try simp only [hl338002_56]); (with_reducible repeat (first | refine blk_drewN ?_ _ | refine blk_drew ?_ | refine blk_alloc ?_ _)); exact BK312.out⟩, ⟨by (try simp only [hl338000_56]); (try simp only [hl338002_56]); (with_reducible repeat (first | refine blk_drewN ?_ _ | refine blk_drew ?_ | refine blk_alloc ?_ _)); exact BK329.out⟩, ⟨by (try simp only [hl338000_56]); (try simp only [hl338002_56]); (with_reducible repeat (first | refine blk_drewN ?_ _ | refine blk_drew ?_ | refine blk_alloc ?_ _)); exact BK337.out⟩, ⟨by (try simp only [hl338000_56]); (try simp only [hl338002_56]); (with_reducible repeat (first | refine blk_drewN ?_ _ | refine blk_drew ?_ | refine blk_alloc ?_ _)); exact BK346.out⟩, ⟨by (try simp only [hl338000_56]); (try simp only [hl338002_56]); (with_reducible repeat (first | refine blk_drewN ?_ _ | refine blk_drew ?_ | refine blk_alloc ?_ _)); exact BK379.out⟩, ⟨zb⟩⟩
            ·
             replace c110 := Bool.eq_false_iff.mpr c110
             subst c110
             have H1 : (laws_FnExactWindTo.j2 kj56 t360 true t361 t341 t362) = some r := by rw [if_neg (show ¬ (false = true) by decide)] at H; exact H
             clear H
             have H := H1
             clear H1
             exact (laws_FnExactWindTo.j2_t (H.trans (congrArg some hr_))).elim
           case rest =>
            clear HC86
            try clear c1
            try clear c2
            try clear p2
            try clear c3
            try clear c4
            try clear c4b0
            try clear c5
            try clear c6
            try clear c7
            try clear c8
            try clear c9
            try clear c10
            try clear c11
            try clear c12
            try clear c13
            try clear c14
            try clear c15
            try clear c16
            try clear c17
            try clear c18
            try clear c23
            try clear c30
            try clear c31
            try clear c37
            try clear c38
            try clear c39
            try clear c43
            try clear c44
            try clear c45
            try clear c46
            try clear c48
            try clear c49
            try clear c52
            try clear c55
            try clear c63
            try clear c64
            try clear c65
            try clear c68
            try clear c68b0
            try clear c70
            try clear c71
            try clear c72
            try clear c73
            try clear c75
            try clear c76
            try clear c79
            try clear c82
            try clear c82b0
            try clear c83
            try clear c83b0
            try clear c83b1
            try clear c87
            try clear c88
            try clear c89
            try clear c94
            try clear c95
            try clear c103
            try clear c104
            try clear c105
            try clear c106
            try clear c110
            try clear c111
            try clear c112
            try clear c113
            try clear c114
            try clear c116
            try clear c117
            try clear c118
            try clear hcz107_0
            try clear hcz107_1
            try clear hcz107_2
            try clear hcz115_0
            try clear hcz115_1
            try clear hcz115_2
            try clear hcz119_0
            try clear hcz119_1
            try clear hcz119_2
            try clear hcz14_0
            try clear hcz14_1
            try clear hcz14_2
            try clear hcz16_0
            try clear hcz16_1
            try clear hcz16_2
            try clear hcz24_0
            try clear hcz24_1
            try clear hcz24_2
            try clear hcz26_0
            try clear hcz26_1
            try clear hcz26_2
            try clear hcz32_0
            try clear hcz32_1
            try clear hcz32_2
            try clear hcz40_0
            try clear hcz40_1
            try clear hcz40_2
            try clear hcz47_0
            try clear hcz47_1
            try clear hcz47_2
            try clear hcz50_0
            try clear hcz50_1
            try clear hcz50_2
            try clear hcz66_0
            try clear hcz66_1
            try clear hcz66_2
            try clear hcz6_0
            try clear hcz6_1
            try clear hcz6_2
            try clear hcz74_0
            try clear hcz74_1
            try clear hcz74_2
            try clear hcz77_0
            try clear hcz77_1
            try clear hcz77_2
            try clear hcz90_0
            try clear hcz90_1
            try clear hcz90_2
            try clear hcz92_0
            try clear hcz92_1
            try clear hcz92_2
            try clear hcz96_0
            try clear hcz96_1
            try clear hcz96_2
            try clear hfz107_0
            try clear hfz107_1
            try clear hfz107_2
            try clear hfz115_0
            try clear hfz115_1
            try clear hfz115_2
            try clear hfz119_0
            try clear hfz119_1
            try clear hfz119_2
            try clear hfz14_0
            try clear hfz14_1
            try clear hfz14_2
            try clear hfz16_0
            try clear hfz16_1
            try clear hfz16_2
            try clear hfz24_0
            try clear hfz24_1
            try clear hfz24_2
            try clear hfz26_0
            try clear hfz26_1
            try clear hfz26_2
            try clear hfz32_0
            try clear hfz32_1
            try clear hfz32_2
            try clear hfz40_0
            try clear hfz40_1
            try clear hfz40_2
            try clear hfz47_0
            try clear hfz47_1
            try clear hfz47_2
            try clear hfz50_0
            try clear hfz50_1
            try clear hfz50_2
            try clear hfz66_0
            try clear hfz66_1
            try clear hfz66_2
            try clear hfz6_0
            try clear hfz6_1
            try clear hfz6_2
            try clear hfz74_0
            try clear hfz74_1
            try clear hfz74_2
            try clear hfz77_0
            try clear hfz77_1
            try clear hfz77_2
            try clear hfz90_0
            try clear hfz90_1
            try clear hfz90_2
            try clear hfz92_0
            try clear hfz92_1
            try clear hfz92_2
            try clear hfz96_0
            try clear hfz96_1
            try clear hfz96_2
            try clear p2
            obtain ⟨kq, x92_85, rfl, HA, HJ85, HO_330000, HO_330002, HO_338000, HO_338002, HO_347000, HO_347002, HO_380000, HO_380002, BK312, BK329, BK337, BK346, BK379, HB⟩ := hcut
            have hl347000_85 := (Kd.R_reads' HO_347000.out).1
            rw [hl347000_85] at HO_347000
            (try simp only [hl347000_85])
            (try simp only [hl347000_85] at BK312)
            (try simp only [hl347000_85] at BK329)
            (try simp only [hl347000_85] at BK337)
            (try simp only [hl347000_85] at BK346)
            (try simp only [hl347000_85] at BK379)
            (try simp only [hl347000_85] at HO_330000)
            (try simp only [hl347000_85] at HO_330002)
            (try simp only [hl347000_85] at HO_338000)
            (try simp only [hl347000_85] at HO_338002)
            (try simp only [hl347000_85] at HO_347002)
            (try simp only [hl347000_85] at HO_380000)
            (try simp only [hl347000_85] at HO_380002)
            have hl347002_85 := (Kd.R_reads' HO_347002.out).1
            rw [hl347002_85] at HO_347002
            (try simp only [hl347002_85])
            (try simp only [hl347002_85] at BK312)
            (try simp only [hl347002_85] at BK329)
            (try simp only [hl347002_85] at BK337)
            (try simp only [hl347002_85] at BK346)
            (try simp only [hl347002_85] at BK379)
            (try simp only [hl347002_85] at HO_330000)
            (try simp only [hl347002_85] at HO_330002)
            (try simp only [hl347002_85] at HO_338000)
            (try simp only [hl347002_85] at HO_338002)
            (try simp only [hl347002_85] at HO_347000)
            (try simp only [hl347002_85] at HO_380000)
            (try simp only [hl347002_85] at HO_380002)
            cases kq with
            | zero => exact absurd HA.out (by simp [laws_FnExactWindTo.j2])
            | succ kj85 =>
             have H := HA.out
             clear HA
             simp only [laws_FnExactWindTo.j2] at H
             by_cases c121 : x92_85 = true
             ·
              subst c121
              have H1 : (some false) = some r := by rw [if_pos rfl] at H; exact H
              clear H
              have H := H1
              clear H1
              exact absurd ((Option.some.inj H).trans hr_) (by decide)
             ·
              replace c121 := Bool.eq_false_iff.mpr c121
              subst c121
              have H1 : ((laws_heldReader.f kj85 t361 t341 t362 1).bind fun t381 => (if t381 < 0 then (some false) else (if t381 = t360 then (some true) else (some false)))) = some r := by rw [if_neg (show ¬ (false = true) by decide)] at H; exact H
              clear H
              have H := H1
              clear H1
              replace H := Option.bind_eq_some_iff.mp H
              obtain ⟨t381, A1220, H⟩ := H
              replace H : (if t381 < 0 then (some false) else (if t381 = t360 then (some true) else (some false))) = some r := H
              have A122 := zm A1220
              clear A1220
              by_cases c123 : t381 < 0
              ·
               rw [if_pos c123] at H
               have c123b0 : decide (t381 < 0) = true := decide_eq_true c123
               clear c123
               exact absurd ((Option.some.inj H).trans hr_) (by decide)
              ·
               rw [if_neg c123] at H
               have c123b0 : decide (t381 < 0) = false := decide_eq_false c123
               clear c123
               by_cases c124 : t381 = t360
               ·
                rw [if_pos c124] at H
                have c124b0 : (t381 == t360) = true := beq_iff_eq.mpr c124
                have c124b1 : (t381 != t360) = false := bne_eq_false_iff_eq.mpr c124
                clear c124
                obtain rfl := Option.some.inj H
                have hnb125 := NB346_312.out
                have hnc125 := NB312_346.out
                have hnb126 := NB346_329.out
                have hnc126 := NB329_346.out
                have hnb127 := NB346_337.out
                have hnc127 := NB337_346.out
                have hnb128 := NB346_379.out
                have hnc128 := NB379_346.out
                obtain ⟨hcz129_0, hcz129_1, hcz129_2, hfz129_0, hfz129_1, hfz129_2⟩ := zc3 BK346.out
                go_wp2_with (first | ((with_reducible refine gate_callee (f := 18) rfl ?_); refine goesL_ (some 95) rfl rfl Try.func18 (by kernel_rfl) rfl #[.agg #[.slice Ao36 t361.length co36, .int .i64 t341, .slice Ao41 t362.length co41], .int .i64 1] rfl (by (try simp only [List.map_toArray, List.map_cons, List.map_nil]); first | done | rfl | (simp only [List.length_drop, List.length_take]; rfl)) ?_; (with_reducible refine (laws_heldReader.calls kj85 _ _ t361 t341 _ _ t362 1 t381 _ ?side1 ?side2 ?side3 ?side4 A122.out).mono ?_); (case side1 => repeat (first | exact (Kd.R_reads' HO_347000.out).2.2 | (with_reducible refine Kd.C_alloc ?_ _) | (with_reducible refine Kd.C_drewN ?_ _) | (with_reducible refine Kd.C_drew ?_))); (case side2 => exact (Kd.R_reads' HO_347000.out).2.1); (case side3 => repeat (first | exact (Kd.R_reads' HO_347002.out).2.2 | (with_reducible refine Kd.C_alloc ?_ _) | (with_reducible refine Kd.C_drewN ?_ _) | (with_reducible refine Kd.C_drew ?_))); (case side4 => exact (Kd.R_reads' HO_347002.out).2.1); rintro e w130 ⟨rfl, hb⟩; refine ⟨_, rfl, ?_⟩; have n0_ := zm (Kd.R_below (by (with_reducible repeat (first | apply Kd.R_alloc | apply Kd.R_drewN | apply Kd.R_drew)); exact HO_330000.out) hb); have n1_ := zm (Kd.R_below (by (with_reducible repeat (first | apply Kd.R_alloc | apply Kd.R_drewN | apply Kd.R_drew)); exact HO_330002.out) hb); have n2_ := zm (Kd.R_below (by (with_reducible repeat (first | apply Kd.R_alloc | apply Kd.R_drewN | apply Kd.R_drew)); exact HO_338000.out) hb); have n3_ := zm (Kd.R_below (by (with_reducible repeat (first | apply Kd.R_alloc | apply Kd.R_drewN | apply Kd.R_drew)); exact HO_338002.out) hb); have n4_ := zm (Kd.R_below (by (with_reducible repeat (first | apply Kd.R_alloc | apply Kd.R_drewN | apply Kd.R_drew)); exact HO_347000.out) hb); have n5_ := zm (Kd.R_below (by (with_reducible repeat (first | apply Kd.R_alloc | apply Kd.R_drewN | apply Kd.R_drew)); exact HO_347002.out) hb); have n6_ := zm (Kd.R_below (by (with_reducible repeat (first | apply Kd.R_alloc | apply Kd.R_drewN | apply Kd.R_drew)); exact HO_380000.out) hb); have n7_ := zm (Kd.R_below (by (with_reducible repeat (first | apply Kd.R_alloc | apply Kd.R_drewN | apply Kd.R_drew)); exact HO_380002.out) hb); have n8_ := zm (blk_below (g := gb312) zk hb); have n9_ := zm (blk_below (g := gb329) zk hb); have n10_ := zm (blk_below (g := gb337) zk hb); have n11_ := zm (blk_below (g := gb346) zk hb); have n12_ := zm (blk_below (g := gb379) zk hb); have n13_ := zm (below_step zb hb); clear HO_330000; clear HO_330002; clear HO_338000; clear HO_338002; clear HO_347000; clear HO_347002; clear HO_380000; clear HO_380002; clear BK312; clear BK329; clear BK337; clear BK346; clear BK379; clear HB; have HO_330000 := n0_; have HO_330002 := n1_; have HO_338000 := n2_; have HO_338002 := n3_; have HO_347000 := n4_; have HO_347002 := n5_; have HO_380000 := n6_; have HO_380002 := n7_; have BK312 := n8_; have BK329 := n9_; have BK337 := n10_; have BK346 := n11_; have BK379 := n12_; have HB := n13_; clear n0_ n1_ n2_ n3_ n4_ n5_ n6_ n7_ n8_ n9_ n10_ n11_ n12_ n13_; (try clear hb); (try clear hb2); (try clear hk); (try clear hi)))
                go_ret
                exact ⟨zr, zb⟩
               ·
                rw [if_neg c124] at H
                have c124b0 : (t381 == t360) = false := beq_eq_false_iff_ne.mpr c124
                have c124b1 : (t381 != t360) = true := bne_iff_ne.mpr c124
                exact absurd ((Option.some.inj H).trans hr_) (by decide)
          ·
           rw [if_neg c83] at H
           have c83b0 : (t363 == t360) = false := beq_eq_false_iff_ne.mpr c83
           have c83b1 : (t363 != t360) = true := bne_iff_ne.mpr c83
           exact absurd ((Option.some.inj H).trans hr_) (by decide)
     ·
      replace c55 := Bool.eq_false_iff.mpr c55
      subst c55
      have H1 : (some false) = some r := by rw [if_neg (show ¬ (false = true) by decide)] at H; exact H
      clear H
      have H := H1
      clear H1
      exact absurd ((Option.some.inj H).trans hr_) (by decide)

end Go.Proofs.Ytepkedhmbfkenaa.PEx
