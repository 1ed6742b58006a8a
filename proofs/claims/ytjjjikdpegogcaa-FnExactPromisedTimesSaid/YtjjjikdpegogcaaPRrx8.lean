-- Written for this claim by a program of this session (wip/tpl/patchprint.py), not by print.sh.
import Derived.Test.YtjjjikdpegogcaaPRrx0
import Derived.Test.YtjjjikdpegogcaaPRrx1
import Derived.Test.YtjjjikdpegogcaaPRrx3
import Derived.Test.YtjjjikdpegogcaaPRrx5
import Derived.Test.YtjjjikdpegogcaaPRrx6
import Derived.Test.YtjjjikdpegogcaaPRrx7
namespace Go.Proofs.Ytjjjikdpegogcaa.PRr
open Go.RowKit Go.Proofs.YtjjjikdpegogcaaW.PrintWords Go.Proofs.YtjjjikdpegogcaaW.PrintLast Go.Proofs.YtjjjikdpegogcaaW.PrintMore
attribute [local go_sem] max2_int min2_int max_two min_two max_three min_three max_four min_four   -- for this text's walks alone
set_option linter.unusedVariables false
set_option linter.unusedSimpArgs false

/-! ### laws_FnExactPromisedTimes: function 3 -/
mutual
def laws_FnExactPromisedTimes.j0 : Nat → List (S84) → Int → List (List Int) → Bool → List (S82) → List (List Int) → Bool → Bool → Int → Int → Int → Option (Bool)
  | 0, _, _, _, _, _, _, _, _, _, _, _ => none
  | k + 1, x0, x2, x8, x9, x10, x11, x12, x50, x211000, x211001, x211002 => if x50 = true then (some false) else ((laws_toNoteS.f k x0).bind fun t233 => ((laws_eqNoteS.f k x10 t233).bind fun t236 => (if t236 = true then ((laws_markNoteS.f k x10 1).bind fun bt237 => (if bt237.1 < 0 then (laws_FnExactPromisedTimes.j1 k x0 x2 x8 x9 x11 true x211000 x211001 x211002) else ((laws_eqIntSS.f k x11 x8).bind fun t239 => (if t239 = true then (laws_FnExactPromisedTimes.j1 k x0 x2 x8 x9 x11 (x12 != x9) x211000 x211001 x211002) else (laws_FnExactPromisedTimes.j1 k x0 x2 x8 x9 x11 true x211000 x211001 x211002))))) else (some false))))
def laws_FnExactPromisedTimes.j1 : Nat → List (S84) → Int → List (List Int) → Bool → List (List Int) → Bool → Int → Int → Int → Option (Bool)
  | 0, _, _, _, _, _, _, _, _, _ => none
  | k + 1, x0, x2, x8, x9, x11, x71, x211000, x211001, x211002 => if x71 = true then (some false) else ((laws_markIntSS.f k x11 1).bind fun bt240 => ((laws_heldIntSS.f k bt240.2 1).bind fun t242 => (if t242 < 0 then (some false) else (if t242 = bt240.1 then ((laws_toNoteS.f k x0).bind fun t243 => ((laws_toAction.f x211000 x211001 x211002).bind fun bt246 => ((impl_PromisedTimes.f k t243 bt246.1 bt246.2.1 bt246.2.2 x2).bind fun bt249 => ((laws_eqIntSS.f k bt249.1 x8).bind fun t253 => (if t253 = true then (laws_FnExactPromisedTimes.j2 k bt240.2 bt240.1 (bt249.2 != x9)) else (laws_FnExactPromisedTimes.j2 k bt240.2 bt240.1 true)))))) else (some false)))))
def laws_FnExactPromisedTimes.j2 : Nat → List (List Int) → Int → Bool → Option (Bool)
  | 0, _, _, _ => none
  | k + 1, x11, x14, x100 => if x100 = true then (some false) else ((laws_heldIntSS.f k x11 1).bind fun t254 => (if t254 < 0 then (some false) else (if t254 = x14 then (some true) else (some false))))
end
def laws_FnExactPromisedTimes.f (k : Nat) (l0 : List (S84)) (a1_0 : Int) (a1_1 : Int) (a1_2 : Int) (a2 : Int) : Option (Bool) := (laws_szNoteS.f l0 1048576).bind fun t211 => (if t211 < 0 then (some true) else ((laws_toNoteS.f k l0).bind fun t212 => ((laws_toAction.f a1_0 a1_1 a1_2).bind fun bt215 => ((spec_PromisedTimes.f k t212 bt215.1 bt215.2.1 bt215.2.2 a2).bind fun bt218 => ((laws_toNoteS.f k l0).bind fun t222 => ((laws_toAction.f a1_0 a1_1 a1_2).bind fun bt225 => ((impl_PromisedTimes.f k t222 bt225.1 bt225.2.1 bt225.2.2 a2).bind fun bt228 => ((laws_eqIntSS.f k bt228.1 bt218.1).bind fun t232 => (if t232 = true then (laws_FnExactPromisedTimes.j0 k l0 a2 bt218.1 bt218.2 t222 bt228.1 bt228.2 (bt228.2 != bt218.2) a1_0 a1_1 a1_2) else (laws_FnExactPromisedTimes.j0 k l0 a2 bt218.1 bt218.2 t222 bt228.1 bt228.2 true a1_0 a1_1 a1_2))))))))))
theorem laws_FnExactPromisedTimes.mono_l : ∀ k, (∀ y0 y1 y2 y3 y4 y5 y6 y7 y8 y9 y10, LeO (laws_FnExactPromisedTimes.j0 k y0 y1 y2 y3 y4 y5 y6 y7 y8 y9 y10) (laws_FnExactPromisedTimes.j0 (k + 1) y0 y1 y2 y3 y4 y5 y6 y7 y8 y9 y10)) ∧ (∀ y0 y1 y2 y3 y4 y5 y6 y7 y8, LeO (laws_FnExactPromisedTimes.j1 k y0 y1 y2 y3 y4 y5 y6 y7 y8) (laws_FnExactPromisedTimes.j1 (k + 1) y0 y1 y2 y3 y4 y5 y6 y7 y8)) ∧ (∀ y0 y1 y2, LeO (laws_FnExactPromisedTimes.j2 k y0 y1 y2) (laws_FnExactPromisedTimes.j2 (k + 1) y0 y1 y2))
  | 0 => ⟨fun _ _ _ _ _ _ _ _ _ _ _ r h => by simp [laws_FnExactPromisedTimes.j0] at h, fun _ _ _ _ _ _ _ _ _ r h => by simp [laws_FnExactPromisedTimes.j1] at h, fun _ _ _ r h => by simp [laws_FnExactPromisedTimes.j2] at h⟩
  | k + 1 => by
    obtain ⟨ih0, ih1, ih2⟩ := laws_FnExactPromisedTimes.mono_l k
    refine ⟨?_, ?_, ?_⟩
    · intro y0 y1 y2 y3 y4 y5 y6 y7 y8 y9 y10
      unfold laws_FnExactPromisedTimes.j0
      repeat' first
      | (with_reducible exact ih0 _ _ _ _ _ _ _ _ _ _ _)
      | (with_reducible exact ih1 _ _ _ _ _ _ _ _ _)
      | (with_reducible exact ih2 _ _ _)
      | (with_reducible exact impl_PromisedTimes.mono _ _ _ _ _ _)
      | (with_reducible exact laws_eqIntSS.mono _ _ _)
      | (with_reducible exact laws_eqNoteS.mono _ _ _)
      | (with_reducible exact laws_heldIntSS.mono _ _ _)
      | (with_reducible exact laws_markIntSS.mono _ _ _)
      | (with_reducible exact laws_markNoteS.mono _ _ _)
      | (with_reducible exact laws_toNoteS.mono _ _)
      | (with_reducible exact spec_PromisedTimes.mono _ _ _ _ _ _)
      | (with_reducible exact LeO.refl _)
      | (with_reducible exact LeO.none _)
      | (with_reducible refine LeO.ite ?_ ?_)
      | (with_reducible refine LeO.bind ?_ (fun _ => ?_))
      | exact ih0 _ _ _ _ _ _ _ _ _ _ _
      | exact ih1 _ _ _ _ _ _ _ _ _
      | exact ih2 _ _ _
      | exact impl_PromisedTimes.mono _ _ _ _ _ _
      | exact laws_eqIntSS.mono _ _ _
      | exact laws_eqNoteS.mono _ _ _
      | exact laws_heldIntSS.mono _ _ _
      | exact laws_markIntSS.mono _ _ _
      | exact laws_markNoteS.mono _ _ _
      | exact laws_toNoteS.mono _ _
      | exact spec_PromisedTimes.mono _ _ _ _ _ _
      | exact LeO.none _
      | refine LeO.ite ?_ ?_
      | refine LeO.bind ?_ (fun _ => ?_)
    · intro y0 y1 y2 y3 y4 y5 y6 y7 y8
      unfold laws_FnExactPromisedTimes.j1
      repeat' first
      | (with_reducible exact ih0 _ _ _ _ _ _ _ _ _ _ _)
      | (with_reducible exact ih1 _ _ _ _ _ _ _ _ _)
      | (with_reducible exact ih2 _ _ _)
      | (with_reducible exact impl_PromisedTimes.mono _ _ _ _ _ _)
      | (with_reducible exact laws_eqIntSS.mono _ _ _)
      | (with_reducible exact laws_eqNoteS.mono _ _ _)
      | (with_reducible exact laws_heldIntSS.mono _ _ _)
      | (with_reducible exact laws_markIntSS.mono _ _ _)
      | (with_reducible exact laws_markNoteS.mono _ _ _)
      | (with_reducible exact laws_toNoteS.mono _ _)
      | (with_reducible exact spec_PromisedTimes.mono _ _ _ _ _ _)
      | (with_reducible exact LeO.refl _)
      | (with_reducible exact LeO.none _)
      | (with_reducible refine LeO.ite ?_ ?_)
      | (with_reducible refine LeO.bind ?_ (fun _ => ?_))
      | exact ih0 _ _ _ _ _ _ _ _ _ _ _
      | exact ih1 _ _ _ _ _ _ _ _ _
      | exact ih2 _ _ _
      | exact impl_PromisedTimes.mono _ _ _ _ _ _
      | exact laws_eqIntSS.mono _ _ _
      | exact laws_eqNoteS.mono _ _ _
      | exact laws_heldIntSS.mono _ _ _
      | exact laws_markIntSS.mono _ _ _
      | exact laws_markNoteS.mono _ _ _
      | exact laws_toNoteS.mono _ _
      | exact spec_PromisedTimes.mono _ _ _ _ _ _
      | exact LeO.none _
      | refine LeO.ite ?_ ?_
      | refine LeO.bind ?_ (fun _ => ?_)
    · intro y0 y1 y2
      unfold laws_FnExactPromisedTimes.j2
      repeat' first
      | (with_reducible exact ih0 _ _ _ _ _ _ _ _ _ _ _)
      | (with_reducible exact ih1 _ _ _ _ _ _ _ _ _)
      | (with_reducible exact ih2 _ _ _)
      | (with_reducible exact impl_PromisedTimes.mono _ _ _ _ _ _)
      | (with_reducible exact laws_eqIntSS.mono _ _ _)
      | (with_reducible exact laws_eqNoteS.mono _ _ _)
      | (with_reducible exact laws_heldIntSS.mono _ _ _)
      | (with_reducible exact laws_markIntSS.mono _ _ _)
      | (with_reducible exact laws_markNoteS.mono _ _ _)
      | (with_reducible exact laws_toNoteS.mono _ _)
      | (with_reducible exact spec_PromisedTimes.mono _ _ _ _ _ _)
      | (with_reducible exact LeO.refl _)
      | (with_reducible exact LeO.none _)
      | (with_reducible refine LeO.ite ?_ ?_)
      | (with_reducible refine LeO.bind ?_ (fun _ => ?_))
      | exact ih0 _ _ _ _ _ _ _ _ _ _ _
      | exact ih1 _ _ _ _ _ _ _ _ _
      | exact ih2 _ _ _
      | exact impl_PromisedTimes.mono _ _ _ _ _ _
      | exact laws_eqIntSS.mono _ _ _
      | exact laws_eqNoteS.mono _ _ _
      | exact laws_heldIntSS.mono _ _ _
      | exact laws_markIntSS.mono _ _ _
      | exact laws_markNoteS.mono _ _ _
      | exact laws_toNoteS.mono _ _
      | exact spec_PromisedTimes.mono _ _ _ _ _ _
      | exact LeO.none _
      | refine LeO.ite ?_ ?_
      | refine LeO.bind ?_ (fun _ => ?_)
theorem laws_FnExactPromisedTimes.mono : ∀ a0 a1 a2 a3 a4 k, LeO (laws_FnExactPromisedTimes.f k a0 a1 a2 a3 a4) (laws_FnExactPromisedTimes.f (k + 1) a0 a1 a2 a3 a4) := by
  intro a0 a1 a2 a3 a4 k
  obtain ⟨ih0, ih1, ih2⟩ := laws_FnExactPromisedTimes.mono_l k
  unfold laws_FnExactPromisedTimes.f
  repeat' first
      | (with_reducible exact ih0 _ _ _ _ _ _ _ _ _ _ _)
      | (with_reducible exact ih1 _ _ _ _ _ _ _ _ _)
      | (with_reducible exact ih2 _ _ _)
      | (with_reducible exact impl_PromisedTimes.mono _ _ _ _ _ _)
      | (with_reducible exact laws_eqIntSS.mono _ _ _)
      | (with_reducible exact laws_eqNoteS.mono _ _ _)
      | (with_reducible exact laws_heldIntSS.mono _ _ _)
      | (with_reducible exact laws_markIntSS.mono _ _ _)
      | (with_reducible exact laws_markNoteS.mono _ _ _)
      | (with_reducible exact laws_toNoteS.mono _ _)
      | (with_reducible exact spec_PromisedTimes.mono _ _ _ _ _ _)
      | (with_reducible exact LeO.refl _)
      | (with_reducible exact LeO.none _)
      | (with_reducible refine LeO.ite ?_ ?_)
      | (with_reducible refine LeO.bind ?_ (fun _ => ?_))
      | exact ih0 _ _ _ _ _ _ _ _ _ _ _
      | exact ih1 _ _ _ _ _ _ _ _ _
      | exact ih2 _ _ _
      | exact impl_PromisedTimes.mono _ _ _ _ _ _
      | exact laws_eqIntSS.mono _ _ _
      | exact laws_eqNoteS.mono _ _ _
      | exact laws_heldIntSS.mono _ _ _
      | exact laws_markIntSS.mono _ _ _
      | exact laws_markNoteS.mono _ _ _
      | exact laws_toNoteS.mono _ _
      | exact spec_PromisedTimes.mono _ _ _ _ _ _
      | exact LeO.none _
      | refine LeO.ite ?_ ?_
      | refine LeO.bind ?_ (fun _ => ?_)
def laws_FnExactPromisedTimes.T5 : Bool × List (List Nat × List Nat) := (true, [([], []), ([0], [0]), ([], []), ([2, 1], [2]), ([], []), ([1, 3, 4, 3], [1, 3, 4]), ([5], [5]), ([6], [6]), ([6], [6]), ([7, 5, 0, 1, 2, 3, 4, 5, 6, 7], [7]), ([8, 9, 0, 1, 2, 3, 4, 5, 6, 7, 8, 9], [8])])
def laws_FnExactPromisedTimes.B5 : List Nat := [0, 1, 0, 7, 0, 31, 63, 127, 127, 255, 1023]
theorem laws_FnExactPromisedTimes.tab5 : rtab .any (opsOf Try.f3 5) = laws_FnExactPromisedTimes.T5 := by kernel_rfl
theorem laws_FnExactPromisedTimes.bits5 : waitsOk laws_FnExactPromisedTimes.T5.2 laws_FnExactPromisedTimes.B5 = true := by kernel_rfl
def laws_FnExactPromisedTimes.T24 : Bool × List (List Nat × List Nat) := (true, [([], []), ([0], [0]), ([], []), ([2, 1], [2]), ([], []), ([1, 3, 4, 3], [1, 3, 4]), ([5], [5]), ([6], [6]), ([6], [6]), ([7, 5, 0, 1, 2, 3, 4, 5, 6, 7], [7]), ([8, 9, 0, 1, 2, 3, 4, 5, 6, 7, 8, 9], [8])])
def laws_FnExactPromisedTimes.B24 : List Nat := [0, 1, 0, 7, 0, 31, 63, 127, 127, 255, 1023]
theorem laws_FnExactPromisedTimes.tab24 : rtab .any (opsOf Try.f3 24) = laws_FnExactPromisedTimes.T24 := by kernel_rfl
theorem laws_FnExactPromisedTimes.bits24 : waitsOk laws_FnExactPromisedTimes.T24.2 laws_FnExactPromisedTimes.B24 = true := by kernel_rfl
theorem laws_FnExactPromisedTimes.j0_t {k : Nat} : ∀ {a0_ a1_ a2_ a3_ a4_ a5_ a6_ a8_ a9_ a10_}, laws_FnExactPromisedTimes.j0 k a0_ a1_ a2_ a3_ a4_ a5_ a6_ true a8_ a9_ a10_ = some true → False := by
  intros; rename_i h; revert h; cases k <;> simp [laws_FnExactPromisedTimes.j0]
theorem laws_FnExactPromisedTimes.j1_t {k : Nat} : ∀ {a0_ a1_ a2_ a3_ a4_ a6_ a7_ a8_}, laws_FnExactPromisedTimes.j1 k a0_ a1_ a2_ a3_ a4_ true a6_ a7_ a8_ = some true → False := by
  intros; rename_i h; revert h; cases k <;> simp [laws_FnExactPromisedTimes.j1]
theorem laws_FnExactPromisedTimes.j2_t {k : Nat} : ∀ {a0_ a1_}, laws_FnExactPromisedTimes.j2 k a0_ a1_ true = some true → False := by
  intros; rename_i h; revert h; cases k <;> simp [laws_FnExactPromisedTimes.j2]
set_option maxHeartbeats 8000000 in
set_option maxRecDepth 100000 in
theorem laws_FnExactPromisedTimes.calls (k : Nat) (A0 : Option Addr) (c0 : Nat) (l0 : List (S84)) (a1_0 : Int) (a1_1 : Int) (a1_2 : Int) (a2 : Int) (r : Bool) (w : World) (hr0 : Kd.C k84 w A0 l0.length l0) (hc0 : l0.length ≤ c0) (h : laws_FnExactPromisedTimes.f k l0 a1_0 a1_1 a1_2 a2 = some r) (hr_ : r = true) :
  Calls Try.prog 3 #[.slice A0 l0.length c0, .agg #[.int .i64 a1_0, .int .i64 a1_1, .int .i64 a1_2], .int .i64 a2] w fun e w' => e = .returned (.bool r) ∧ Below w.heap.size w w' := by
 have hu24 := Try.underlying24
 have HR0 := zm hr0
 have HC0 := zm hc0
 clear hr0 hc0
 have HB := zm (Below.refl w.heap.size w)
 have H : ((laws_szNoteS.f l0 1048576).bind fun t211 => (if t211 < 0 then (some true) else ((laws_toNoteS.f k l0).bind fun t212 => ((laws_toAction.f a1_0 a1_1 a1_2).bind fun bt215 => ((spec_PromisedTimes.f k t212 bt215.1 bt215.2.1 bt215.2.2 a2).bind fun bt218 => ((laws_toNoteS.f k l0).bind fun t222 => ((laws_toAction.f a1_0 a1_1 a1_2).bind fun bt225 => ((impl_PromisedTimes.f k t222 bt225.1 bt225.2.1 bt225.2.2 a2).bind fun bt228 => ((laws_eqIntSS.f k bt228.1 bt218.1).bind fun t232 => (if t232 = true then (laws_FnExactPromisedTimes.j0 k l0 a2 bt218.1 bt218.2 t222 bt228.1 bt228.2 (bt228.2 != bt218.2) a1_0 a1_1 a1_2) else (laws_FnExactPromisedTimes.j0 k l0 a2 bt218.1 bt218.2 t222 bt228.1 bt228.2 true a1_0 a1_1 a1_2))))))))))) = some r := h
 clear h
 replace H := Option.bind_eq_some_iff.mp H
 obtain ⟨t211, A40, H⟩ := H
 (try dsimp only at H)
 have A4 := zm A40
 clear A40
 by_cases c5 : t211 < 0
 ·
  rw [if_pos c5] at H
  have c5b0 : decide (t211 < 0) = true := decide_eq_true c5
  clear c5
  obtain rfl := Option.some.inj H
  go_enter Try.func3, Try.ntmps3
  go_wp2_with (first | ((with_reducible refine gate_dst (N := 4) rfl ?_); refine box_event ?hg (N := 4) ?hd (cs := #[.int .i64 a1_0, .int .i64 a1_1, .int .i64 a1_2]) (t := 24) ?hr ?_; (case hd => rfl); (case hg => rfl); (case hr => first | (go_simp; done) | (go_simp; rfl)); intro gb210 hg w6 hbox hb; have n0_ := zm (below_step zb hb); have n1_ := zm (hbox); have n2_ := zm (zs hg zb : w.heap.size ≤ gb210); have n3_ := zm (zs hg zb : w.heap.size ≤ gb210); clear HB; have HB := n0_; have BK210 := n1_; have GW210 := n2_; have GE210 := n3_; clear n0_ n1_ n2_ n3_; clear hb hbox hg) | ((with_reducible refine gate_callee (f := 11) rfl ?_); refine goesA_ (some 20) Try.func11 #[.slice A0 l0.length c0, .int .i64 1048576] rfl ?_; (with_reducible refine (laws_szNoteS.calls _ _ l0 1048576 t211 _ ?side1 ?side2 A4.out).mono ?_); (case side1 => repeat (first | exact (Kd.C_below HR0.out HB.out) | (with_reducible refine Kd.C_alloc ?_ _) | (with_reducible refine Kd.C_drewN ?_ _) | (with_reducible refine Kd.C_drew ?_))); (case side2 => exact HC0.out); rintro e w' ⟨rfl, ⟨nd, rfl⟩⟩; refine ⟨_, rfl, ?_⟩))
  go_ret
  exact ⟨zr, zb⟩
 ·
  rw [if_neg c5] at H
  have c5b0 : decide (t211 < 0) = false := decide_eq_false c5
  clear c5
  replace H := Option.bind_eq_some_iff.mp H
  obtain ⟨t212, A70, H⟩ := H
  (try dsimp only at H)
  have A7 := zm A70
  clear A70
  replace H := Option.bind_eq_some_iff.mp H
  obtain ⟨⟨t215, t216, t217⟩, A80, H⟩ := H
  (try dsimp only at H)
  have A8 := zm A80
  clear A80
  replace H := Option.bind_eq_some_iff.mp H
  obtain ⟨⟨t218, t221⟩, A90, H⟩ := H
  (try dsimp only at H)
  have A9 := zm A90
  clear A90
  replace H := Option.bind_eq_some_iff.mp H
  obtain ⟨t222, A100, H⟩ := H
  (try dsimp only at H)
  have A10 := zm A100
  clear A100
  replace H := Option.bind_eq_some_iff.mp H
  obtain ⟨⟨t225, t226, t227⟩, A110, H⟩ := H
  (try dsimp only at H)
  have A11 := zm A110
  clear A110
  replace H := Option.bind_eq_some_iff.mp H
  obtain ⟨⟨t228, t231⟩, A120, H⟩ := H
  (try dsimp only at H)
  have A12 := zm A120
  clear A120
  have HC13 := zm H
  clear H
  go_enter Try.func3, Try.ntmps3
  try go_wp2_with (first | ((with_reducible refine gate_dst (N := 4) rfl ?_); refine box_event ?hg (N := 4) ?hd (cs := #[.int .i64 a1_0, .int .i64 a1_1, .int .i64 a1_2]) (t := 24) ?hr ?_; (case hd => rfl); (case hg => rfl); (case hr => first | (go_simp; done) | (go_simp; rfl)); intro gb210 hg w14 hbox hb; have n0_ := zm (below_step zb hb); have n1_ := zm (hbox); have n2_ := zm (zs hg zb : w.heap.size ≤ gb210); have n3_ := zm (zs hg zb : w.heap.size ≤ gb210); clear HB; have HB := n0_; have BK210 := n1_; have GW210 := n2_; have GE210 := n3_; clear n0_ n1_ n2_ n3_; clear hb hbox hg) | ((with_reducible refine gate_callee (f := 11) rfl ?_); refine goesA_ (some 20) Try.func11 #[.slice A0 l0.length c0, .int .i64 1048576] rfl ?_; (with_reducible refine (laws_szNoteS.calls _ _ l0 1048576 t211 _ ?side1 ?side2 A4.out).mono ?_); (case side1 => repeat (first | exact (Kd.C_below HR0.out HB.out) | (with_reducible refine Kd.C_alloc ?_ _) | (with_reducible refine Kd.C_drewN ?_ _) | (with_reducible refine Kd.C_drew ?_))); (case side2 => exact HC0.out); rintro e w' ⟨rfl, ⟨nd, rfl⟩⟩; refine ⟨_, rfl, ?_⟩))
  (try (rw [drewN_self w14]; generalize hq_ : World.drewN w14 _ = w14; have n0_ : Aside0 (w14.heap[gb210]? = some (.cells #[.int .i64 a1_0, .int .i64 a1_1, .int .i64 a1_2] 24 (0, 0))) := ⟨by rw [← hq_]; exact zk⟩; have n1_ : Aside0 (Below w.heap.size w w14) := ⟨by rw [← hq_]; exact zb⟩; clear BK210 HB hq_; have BK210 := n0_; have HB := n1_; clear n0_ n1_))
  have n0_ := zm (blk_drew BK210.out)
  have n1_ := zm (below_drew1 HB.out)
  clear BK210
  clear HB
  have BK210 := n0_
  have HB := n1_
  clear n0_ n1_
  refine start_ (n := 11) (S := fun w' => w'.cell? ⟨gb210, 0, none⟩ = some (.int .i64 a1_0) ∧ w'.cell? ⟨gb210, 1, none⟩ = some (.int .i64 a1_1) ∧ w'.cell? ⟨gb210, 2, none⟩ = some (.int .i64 a1_2)) (ds := []) #[false, false, false, false, false, false, false, false, false, false, false] (by kernel_rfl) rfl rfl ⟨(blk_cell BK210.out 0).trans rfl, (blk_cell BK210.out 1).trans rfl, (blk_cell BK210.out 2).trans rfl⟩ (fun hHeld => ?_); refine with_tabW laws_FnExactPromisedTimes.tab5 laws_FnExactPromisedTimes.bits5 (fun HT_ HW_ => ?_)
  generalize w14.drew = w15 at BK210 HB hHeld ⊢
  refine pure_ (i := 0) (N := some 24) (v := ?_) (a' := ?_) #[true, false, false, false, false, false, false, false, false, false, false] rfl rfl (any_of HT_.out (by kernel_rfl)) (fun _ _ _ h => h) (Or.inl ⟨by rfl, ?_⟩) ?_ ?_
  rotate_left
  ·
   intro w'
   go_simp
   with_reducible rfl
  rotate_left
  ·
   simp only [Act.put, zA, zB, zD, i64_w, i32_w]
   rfl
  refine pure_ (i := 4) (N := some 28) (v := ?_) (a' := ?_) #[true, false, false, false, true, false, false, false, false, false, false] rfl rfl (any_of HT_.out (by kernel_rfl)) (fun _ _ _ h => h) (Or.inl ⟨by rfl, ?_⟩) ?_ ?_
  rotate_left
  ·
   intro w'
   go_simp
   with_reducible rfl
  rotate_left
  ·
   simp only [Act.put, zA, zB, zD, i64_w, i32_w]
   rfl
  refine take_ (i := 2) (N := some 26) (v := ?_) (a' := ?_) #[true, false, true, false, true, false, false, false, false, false, false] rfl rfl (take_ofW HT_.out HW_.out (by kernel_rfl)) (fun _ _ _ h => h) (Or.inl ⟨by rfl, ?_⟩) hHeld ?_ ?_
  rotate_left
  ·
   rintro w' ⟨s0, s1, s2⟩
   go_simp
   with_reducible rfl
  rotate_left
  ·
   simp only [Act.put, zA, zB, zD, i64_w, i32_w]
   rfl
  refine one_ (i := 1) (N := some 25) #[true, true, true, false, true, false, false, false, false, false, false] rfl rfl (one_of HT_.out (by kernel_rfl)) (by decide) (fun K hK => ?_)
  refine goes_ Try.func13 (by kernel_rfl) rfl #[.slice A0 l0.length c0] (by rfl) rfl rfl (by (try simp only [List.map_toArray, List.map_cons, List.map_nil]); first | done | rfl | (simp only [List.length_drop, List.length_take]; rfl)) ?_
  with_reducible refine (laws_toNoteS.calls k _ _ l0 t212 _ ?side1 ?side2 A7.out).mono ?_
  (case side1 => repeat (first | exact (Kd.C_below HR0.out HB.out) | (with_reducible refine Kd.C_alloc ?_ _) | (with_reducible refine Kd.C_drewN ?_ _) | (with_reducible refine Kd.C_drew ?_)))
  (case side2 => exact HC0.out)
  rintro e w16 ⟨v213, rfl, ho0, hb⟩
  refine ⟨_, rfl, ?_⟩
  have n0_ := zm (Kd.R_lower ho0 (below_size zb))
  have n1_ := zm (blk_below (g := gb210) (o := .cells #[.int .i64 a1_0, .int .i64 a1_1, .int .i64 a1_2] 24 (0, 0)) zk hb)
  have n2_ := zm (below_step zb hb)
  clear BK210
  clear HB
  have HO214 := n0_
  have BK210 := n1_
  have HB := n2_
  clear n0_ n1_ n2_
  (try clear hb)
  (try clear hb2)
  (try clear hk)
  (try clear hi)
  (try clear ho0)
  refine hK.out _ _ ⟨(blk_cell BK210.out 0).trans rfl, (blk_cell BK210.out 1).trans rfl, (blk_cell BK210.out 2).trans rfl⟩ (fun hHeld => ?_)
  clear hK K
  refine norm_ (a' := ?_) ?_ ?_
  rotate_left
  ·
   show Act.put _ (some 25) _ = _
   simp only [Act.put, zA, zB, zD, i64_w, i32_w]
   rfl
  refine one_ (i := 3) (N := some 27) #[true, true, true, true, true, false, false, false, false, false, false] rfl rfl (one_of HT_.out (by kernel_rfl)) (by decide) (fun K hK => ?_)
  refine goes_ Try.func14 (by kernel_rfl) rfl #[.agg #[.int .i64 a1_0, .int .i64 a1_1, .int .i64 a1_2]] (by rfl) rfl rfl (by (try simp only [List.map_toArray, List.map_cons, List.map_nil]); first | done | rfl | (simp only [List.length_drop, List.length_take]; rfl)) ?_
  with_reducible refine (laws_toAction.calls a1_0 a1_1 a1_2 t215 t216 t217 _ A8.out).mono ?_
  rintro e w17 ⟨rfl, hb⟩
  refine ⟨_, rfl, ?_⟩
  have n0_ := zm (Kd.R_below (by (with_reducible repeat (first | apply Kd.R_alloc | apply Kd.R_drewN | apply Kd.R_drew)); exact HO214.out) hb)
  have n1_ := zm (blk_below (g := gb210) (o := .cells #[.int .i64 a1_0, .int .i64 a1_1, .int .i64 a1_2] 24 (0, 0)) zk hb)
  have n2_ := zm (below_step zb hb)
  clear HO214
  clear BK210
  clear HB
  have HO214 := n0_
  have BK210 := n1_
  have HB := n2_
  clear n0_ n1_ n2_
  (try clear hb)
  (try clear hb2)
  (try clear hk)
  (try clear hi)
  obtain ⟨Ao18, co18, eo18⟩ := Kd.R_slice HO214.out
  (first | subst eo18 | (injection eo18 with f1_ f2_ f3_; have f4_ := f1_.symm; have f5_ := f3_.symm; clear f1_ f2_ f3_; subst f4_; subst f5_))
  refine hK.out _ _ ⟨(blk_cell BK210.out 0).trans rfl, (blk_cell BK210.out 1).trans rfl, (blk_cell BK210.out 2).trans rfl⟩ (fun hHeld => ?_)
  clear hK K
  refine norm_ (a' := ?_) ?_ ?_
  rotate_left
  ·
   show Act.put _ (some 27) _ = _
   simp only [Act.put, zA, zB, zD, i64_w, i32_w]
   rfl
  refine one_ (i := 5) (N := some 29) #[true, true, true, true, true, true, false, false, false, false, false] rfl rfl (one_of HT_.out (by kernel_rfl)) (by decide) (fun K hK => ?_)
  refine goes_ Try.func12 (by kernel_rfl) rfl #[.slice Ao18 t212.length co18, .agg #[.int .i64 t215, .int .i64 t216, .int .i64 t217], .int .i64 a2] (by rfl) rfl rfl (by (try simp only [List.map_toArray, List.map_cons, List.map_nil]); first | done | rfl | (simp only [List.length_drop, List.length_take]; rfl)) ?_
  with_reducible refine (spec_PromisedTimes.calls k _ _ t212 t215 t216 t217 a2 t218 t221 _ ?side1 ?side2 A9.out).mono ?_
  (case side1 => repeat (first | exact (Kd.R_reads' HO214.out).2.2 | (with_reducible refine Kd.C_alloc ?_ _) | (with_reducible refine Kd.C_drewN ?_ _) | (with_reducible refine Kd.C_drew ?_)))
  (case side2 => exact (Kd.R_reads' HO214.out).2.1)
  rintro e w19 ⟨v219, rfl, ho0, hb⟩
  refine ⟨_, rfl, ?_⟩
  have n0_ := zm (Kd.R_below (by (with_reducible repeat (first | apply Kd.R_alloc | apply Kd.R_drewN | apply Kd.R_drew)); exact HO214.out) hb)
  have n1_ := zm (Kd.S_lower ho0 (below_size zb))
  have n2_ := zm (blk_below (g := gb210) (o := .cells #[.int .i64 a1_0, .int .i64 a1_1, .int .i64 a1_2] 24 (0, 0)) zk hb)
  have n3_ := zm (below_step zb hb)
  clear HO214
  clear BK210
  clear HB
  have HO214 := n0_
  have HO220 := n1_
  have BK210 := n2_
  have HB := n3_
  clear n0_ n1_ n2_ n3_
  (try clear hb)
  (try clear hb2)
  (try clear hk)
  (try clear hi)
  (try clear ho0)
  refine hK.out _ _ ⟨(blk_cell BK210.out 0).trans rfl, (blk_cell BK210.out 1).trans rfl, (blk_cell BK210.out 2).trans rfl⟩ (fun hHeld => ?_)
  clear hK K
  refine norm_ (a' := ?_) ?_ ?_
  rotate_left
  ·
   show Act.put _ (some 29) _ = _
   simp only [Act.put, zA, zB, zD, i64_w, i32_w]
   rfl
  refine pure_ (i := 6) (N := some 23) (v := ?_) (a' := ?_) #[true, true, true, true, true, true, true, false, false, false, false] rfl rfl (any_of HT_.out (by kernel_rfl)) (fun _ _ _ h => h) (Or.inl ⟨by rfl, ?_⟩) ?_ ?_
  rotate_left
  ·
   intro w'
   go_simp
   with_reducible rfl
  rotate_left
  ·
   simp only [Act.put, zA, zB, zD, i64_w, i32_w]
   rfl
  refine pure_ (i := 7) (N := some 30) (v := ?_) (a' := ?_) #[true, true, true, true, true, true, true, true, false, false, false] rfl rfl (any_of HT_.out (by kernel_rfl)) (fun _ _ _ h => h) (Or.inl ⟨by rfl, ?_⟩) ?_ ?_
  rotate_left
  ·
   intro w'
   go_simp
   with_reducible rfl
  rotate_left
  ·
   simp only [Act.put, zA, zB, zD, i64_w, i32_w]
   rfl
  refine pure_ (i := 8) (N := some 31) (v := ?_) (a' := ?_) #[true, true, true, true, true, true, true, true, true, false, false] rfl rfl (any_of HT_.out (by kernel_rfl)) (fun _ _ _ h => h) (Or.inl ⟨by rfl, ?_⟩) ?_ ?_
  rotate_left
  ·
   intro w'
   go_simp
   with_reducible rfl
  rotate_left
  ·
   simp only [Act.put, zA, zB, zD, i64_w, i32_w]
   rfl
  refine pure_ (i := 9) (N := some 8) (v := ?_) (a' := ?_) #[true, true, true, true, true, true, true, true, true, true, false] rfl rfl (any_of HT_.out (by kernel_rfl)) (fun _ _ _ h => h) (Or.inl ⟨by rfl, ?_⟩) ?_ ?_
  rotate_left
  ·
   intro w'
   go_simp
   with_reducible rfl
  rotate_left
  ·
   simp only [Act.put, zA, zB, zD, i64_w, i32_w]
   rfl
  refine pure_ (i := 10) (N := some 9) (v := ?_) (a' := ?_) #[true, true, true, true, true, true, true, true, true, true, true] rfl rfl (any_of HT_.out (by kernel_rfl)) (fun _ _ _ h => h) (Or.inl ⟨by rfl, ?_⟩) ?_ ?_
  rotate_left
  ·
   intro w'
   go_simp
   with_reducible rfl
  rotate_left
  ·
   simp only [Act.put, zA, zB, zD, i64_w, i32_w]
   rfl
  refine done_ (done_of HT_.out (by kernel_rfl)) ?_
  go_upto_region 8 with (first | ((with_reducible refine gate_callee (f := 13) rfl ?_); refine goesA_ (some 33) Try.func13 #[.slice A0 l0.length c0] rfl ?_; (with_reducible refine (laws_toNoteS.calls k _ _ l0 t222 _ ?side1 ?side2 A10.out).mono ?_); (case side1 => repeat (first | exact (Kd.C_below HR0.out HB.out) | (with_reducible refine Kd.C_alloc ?_ _) | (with_reducible refine Kd.C_drewN ?_ _) | (with_reducible refine Kd.C_drew ?_))); (case side2 => exact HC0.out); rintro e w20 ⟨v223, rfl, ho0, hb⟩; refine ⟨_, rfl, ?_⟩; have n0_ := zm (Kd.R_elder' (by (with_reducible repeat (first | apply Kd.R_alloc | apply Kd.R_drewN | apply Kd.R_drew)); exact HO214.out) (Kd.R_base ho0) hb); have n1_ := zm (Kd.S_below (by (with_reducible repeat (first | apply Kd.S_alloc | apply Kd.S_drewN | apply Kd.S_drew)); exact HO220.out) hb); have n2_ := zm (Kd.R_lower (Kd.R_new' ho0 (Kd.R_lt (by (with_reducible repeat (first | apply Kd.R_alloc | apply Kd.R_drewN | apply Kd.R_drew)); exact HO214.out))) (below_size zb)); have n3_ := zm (blk_below (g := gb210) (o := .cells #[.int .i64 a1_0, .int .i64 a1_1, .int .i64 a1_2] 24 (0, 0)) zk hb); have n4_ := zm (below_step zb hb); clear HO214; clear HO220; clear BK210; clear HB; have HO214 := n0_; have HO220 := n1_; have HO224 := n2_; have BK210 := n3_; have HB := n4_; clear n0_ n1_ n2_ n3_ n4_; (try clear hb); (try clear hb2); (try clear hk); (try clear hi); (try clear ho0); obtain ⟨hcz21_0, hcz21_1, hcz21_2, hfz21_0, hfz21_1, hfz21_2⟩ := zc3 BK210.out) | ((with_reducible refine gate_callee (f := 14) rfl ?_); refine goesA_ (some 37) Try.func14 #[.agg #[.int .i64 a1_0, .int .i64 a1_1, .int .i64 a1_2]] rfl ?_; (with_reducible refine (laws_toAction.calls a1_0 a1_1 a1_2 t225 t226 t227 _ A11.out).mono ?_); rintro e w22 ⟨rfl, hb⟩; refine ⟨_, rfl, ?_⟩; have n0_ := zm (Kd.R_below (by (with_reducible repeat (first | apply Kd.R_alloc | apply Kd.R_drewN | apply Kd.R_drew)); exact HO214.out) hb); have n1_ := zm (Kd.S_below (by (with_reducible repeat (first | apply Kd.S_alloc | apply Kd.S_drewN | apply Kd.S_drew)); exact HO220.out) hb); have n2_ := zm (Kd.R_below (by (with_reducible repeat (first | apply Kd.R_alloc | apply Kd.R_drewN | apply Kd.R_drew)); exact HO224.out) hb); have n3_ := zm (blk_below (g := gb210) (o := .cells #[.int .i64 a1_0, .int .i64 a1_1, .int .i64 a1_2] 24 (0, 0)) zk hb); have n4_ := zm (below_step zb hb); clear HO214; clear HO220; clear HO224; clear BK210; clear HB; have HO214 := n0_; have HO220 := n1_; have HO224 := n2_; have BK210 := n3_; have HB := n4_; clear n0_ n1_ n2_ n3_ n4_; (try clear hb); (try clear hb2); (try clear hk); (try clear hi); obtain ⟨Ao23, co23, eo23⟩ := Kd.R_slice HO224.out; subst eo23) | ((with_reducible refine gate_callee (f := 15) rfl ?_); refine goesA_ (some 39) Try.func15 #[.slice Ao23 t222.length co23, .agg #[.int .i64 t225, .int .i64 t226, .int .i64 t227], .int .i64 a2] rfl ?_; (with_reducible refine (impl_PromisedTimes.calls k _ _ t222 t225 t226 t227 a2 t228 t231 _ ?side1 ?side2 A12.out).mono ?_); (case side1 => repeat (first | exact (Kd.R_reads' HO224.out).2.2 | (with_reducible refine Kd.C_alloc ?_ _) | (with_reducible refine Kd.C_drewN ?_ _) | (with_reducible refine Kd.C_drew ?_))); (case side2 => exact (Kd.R_reads' HO224.out).2.1); rintro e w24 ⟨v229, rfl, ho0, hb⟩; refine ⟨_, rfl, ?_⟩; obtain ⟨NG, hNG_⟩ := zN hb; have HGgb210 := zm (show gb210 < NG from hNG_ ▸ blk_lt (g := gb210) (o := .cells #[.int .i64 a1_0, .int .i64 a1_1, .int .i64 a1_2] 24 (0, 0)) zk); have n0_ := zm (Kd.R_below (by (with_reducible repeat (first | apply Kd.R_alloc | apply Kd.R_drewN | apply Kd.R_drew)); exact HO214.out) hb); have n1_ := zm (zE (by (with_reducible repeat (first | apply Kd.S_alloc | apply Kd.S_drewN | apply Kd.S_drew)); exact HO220.out) hNG_ hb); have n2_ := zm (Kd.R_below (by (with_reducible repeat (first | apply Kd.R_alloc | apply Kd.R_drewN | apply Kd.R_drew)); exact HO224.out) hb); have n3_ := zm (Kd.S_lower (zY ho0 hNG_) (below_size zb)); have n4_ := zm (blk_below (g := gb210) (o := .cells #[.int .i64 a1_0, .int .i64 a1_1, .int .i64 a1_2] 24 (0, 0)) zk hb); have n5_ := zm (below_step zb hb); clear HO214; clear HO220; clear HO224; clear BK210; clear HB; have HO214 := n0_; have HO220 := n1_; have HO224 := n2_; have HO230 := n3_; have BK210 := n4_; have HB := n5_; clear n0_ n1_ n2_ n3_ n4_ n5_; clear hNG_; (try clear hb); (try clear hb2); (try clear hk); (try clear hi); (try clear ho0)))
  (try simp only [Act.put, List.setIfInBounds_toArray, List.set_cons_zero, List.set_cons_succ])
  go_cut [50] (fun v50 wc => ∃ (kq : Nat) (x50_12 : Bool), v50 = .bool x50_12 ∧ Aside0 (laws_FnExactPromisedTimes.j0 kq l0 a2 t218 t221 t222 t228 t231 x50_12 a1_0 a1_1 a1_2 = some r) ∧ Aside0 (kq ≤ k) ∧ Aside0 (Kd.S (Kd.slice 3 (Kd.int .i64)) 38 wc w.heap.size (fun k_ => k_ < NG) v219 t218) ∧ Aside0 (Kd.R k82 82 wc w.heap.size (fun _ => True) (.slice Ao23 t222.length co23) t222) ∧ Aside0 (Kd.S (Kd.slice 3 (Kd.int .i64)) 38 wc w.heap.size (fun k_ => NG ≤ k_) v229 t228) ∧ Aside0 (wc.heap[gb210]? = some (.cells #[.int .i64 a1_0, .int .i64 a1_1, .int .i64 a1_2] 24 (0, 0))) ∧ Aside0 (Below w.heap.size w wc))
  case first =>
   have H := HC13.out
   clear HC13
   replace H := Option.bind_eq_some_iff.mp H
   obtain ⟨t232, A250, H⟩ := H
   (try dsimp only at H)
   have A25 := zm A250
   clear A250
   by_cases c26 : t232 = true
   ·
    subst c26
    have H1 : (laws_FnExactPromisedTimes.j0 k l0 a2 t218 t221 t222 t228 t231 (t231 != t221) a1_0 a1_1 a1_2) = some r := by rw [if_pos rfl] at H; exact H
    clear H
    have H := H1
    clear H1
    have H' := zm H
    clear H
    obtain ⟨Ao27, co27, eo27⟩ := Kd.S_slice HO230.out
    subst eo27
    obtain ⟨Ao28, co28, eo28⟩ := Kd.S_slice HO220.out
    subst eo28
    go_wp2_with (first | ((with_reducible refine gate_callee (f := 16) rfl ?_); refine goesA_ (some 44) Try.func16 #[.slice Ao27 t228.length co27, .slice Ao28 t218.length co28] rfl ?_; (with_reducible refine (laws_eqIntSS.calls k _ _ t228 _ _ t218 true _ ?side1 ?side2 ?side3 ?side4 A25.out).mono ?_); (case side1 => repeat (first | exact (Kd.S_reads' HO230.out).2.2 | (with_reducible refine Kd.C_alloc ?_ _) | (with_reducible refine Kd.C_drewN ?_ _) | (with_reducible refine Kd.C_drew ?_))); (case side2 => exact (Kd.S_reads' HO230.out).2.1); (case side3 => repeat (first | exact (Kd.S_reads' HO220.out).2.2 | (with_reducible refine Kd.C_alloc ?_ _) | (with_reducible refine Kd.C_drewN ?_ _) | (with_reducible refine Kd.C_drew ?_))); (case side4 => exact (Kd.S_reads' HO220.out).2.1); rintro e w' ⟨rfl, ⟨nd, rfl⟩⟩; refine ⟨_, rfl, ?_⟩))
    go_meet
    case rel => exact ⟨_, ((t231 != t221)), (by first | rfl | (simp; done) | (simp [*]; done)), H', ⟨by first | omega | exact Nat.le_refl _⟩, ⟨by (with_reducible repeat (first | apply Kd.S_alloc | apply Kd.S_drewN | apply Kd.S_drew)); exact Kd.S_mono HO220.out (fun _ hk => by first | exact hk | exact hk.2 | exact hk.1)⟩, ⟨by (with_reducible repeat (first | apply Kd.R_alloc | apply Kd.R_drewN | apply Kd.R_drew)); exact Kd.R_mono HO224.out (fun _ hk => trivial)⟩, ⟨by (with_reducible repeat (first | apply Kd.S_alloc | apply Kd.S_drewN | apply Kd.S_drew)); exact Kd.S_mono HO230.out (fun _ hk => by first | exact hk | exact hk.2 | exact hk.1)⟩, ⟨zk⟩, ⟨zb⟩⟩
   ·
    replace c26 := Bool.eq_false_iff.mpr c26
    subst c26
    have H1 : (laws_FnExactPromisedTimes.j0 k l0 a2 t218 t221 t222 t228 t231 true a1_0 a1_1 a1_2) = some r := by rw [if_neg (show ¬ (false = true) by decide)] at H; exact H
    clear H
    have H := H1
    clear H1
    exact (laws_FnExactPromisedTimes.j0_t (H.trans (congrArg some hr_))).elim
  case rest =>
   clear HC13
   (try clear c1); (try clear c2); (try clear p2); (try clear c3); (try clear c5); (try clear c5b0); (try clear c11); (try clear c12); (try clear c13); (try clear c14); (try clear c15); (try clear c16); (try clear c26); (try clear hcz21_0); (try clear hcz21_1); (try clear hcz21_2); (try clear hfz21_0); (try clear hfz21_1); (try clear hfz21_2)
   obtain ⟨kq, x50_12, rfl, HA, HJ12, HO_8, HO_10, HO_11, BK210, HB⟩ := hcut
   cases kq with
   | zero => exact absurd HA.out (by simp [laws_FnExactPromisedTimes.j0])
   | succ kj12 =>
    have H := HA.out
    clear HA
    simp only [laws_FnExactPromisedTimes.j0] at H
    by_cases c29 : x50_12 = true
    ·
     subst c29
     have H1 : (some false) = some r := by rw [if_pos rfl] at H; exact H
     clear H
     have H := H1
     clear H1
     exact absurd ((Option.some.inj H).trans hr_) (by decide)
    ·
     replace c29 := Bool.eq_false_iff.mpr c29
     subst c29
     have H1 : ((laws_toNoteS.f kj12 l0).bind fun t233 => ((laws_eqNoteS.f kj12 t222 t233).bind fun t236 => (if t236 = true then ((laws_markNoteS.f kj12 t222 1).bind fun bt237 => (if bt237.1 < 0 then (laws_FnExactPromisedTimes.j1 kj12 l0 a2 t218 t221 t228 true a1_0 a1_1 a1_2) else ((laws_eqIntSS.f kj12 t228 t218).bind fun t239 => (if t239 = true then (laws_FnExactPromisedTimes.j1 kj12 l0 a2 t218 t221 t228 (t231 != t221) a1_0 a1_1 a1_2) else (laws_FnExactPromisedTimes.j1 kj12 l0 a2 t218 t221 t228 true a1_0 a1_1 a1_2))))) else (some false)))) = some r := by rw [if_neg (show ¬ (false = true) by decide)] at H; exact H
     clear H
     have H := H1
     clear H1
     replace H := Option.bind_eq_some_iff.mp H
     obtain ⟨t233, A300, H⟩ := H
     (try dsimp only at H)
     have A30 := zm A300
     clear A300
     replace H := Option.bind_eq_some_iff.mp H
     obtain ⟨t236, A310, H⟩ := H
     (try dsimp only at H)
     have A31 := zm A310
     clear A310
     by_cases c32 : t236 = true
     ·
      subst c32
      have H1 : ((laws_markNoteS.f kj12 t222 1).bind fun bt237 => (if bt237.1 < 0 then (laws_FnExactPromisedTimes.j1 kj12 l0 a2 t218 t221 t228 true a1_0 a1_1 a1_2) else ((laws_eqIntSS.f kj12 t228 t218).bind fun t239 => (if t239 = true then (laws_FnExactPromisedTimes.j1 kj12 l0 a2 t218 t221 t228 (t231 != t221) a1_0 a1_1 a1_2) else (laws_FnExactPromisedTimes.j1 kj12 l0 a2 t218 t221 t228 true a1_0 a1_1 a1_2))))) = some r := by rw [if_pos rfl] at H; exact H
      clear H
      have H := H1
      clear H1
      replace H := Option.bind_eq_some_iff.mp H
      obtain ⟨⟨t237, t238⟩, A330, H⟩ := H
      (try dsimp only at H)
      have A33 := zm A330
      clear A330
      have HC34 := zm H
      clear H
      go_upto_region 14 with (first | ((with_reducible refine gate_callee (f := 13) rfl ?_); refine goesA_ (some 53) Try.func13 #[.slice A0 l0.length c0] rfl ?_; (with_reducible refine (laws_toNoteS.calls kj12 _ _ l0 t233 _ ?side1 ?side2 A30.out).mono ?_); (case side1 => repeat (first | exact (Kd.C_below HR0.out HB.out) | (with_reducible refine Kd.C_alloc ?_ _) | (with_reducible refine Kd.C_drewN ?_ _) | (with_reducible refine Kd.C_drew ?_))); (case side2 => exact HC0.out); rintro e w35 ⟨v234, rfl, ho0, hb⟩; refine ⟨_, rfl, ?_⟩; have n0_ := zm (Kd.S_below (by (with_reducible repeat (first | apply Kd.S_alloc | apply Kd.S_drewN | apply Kd.S_drew)); exact HO_8.out) hb); have n1_ := zm (Kd.R_elder' (by (with_reducible repeat (first | apply Kd.R_alloc | apply Kd.R_drewN | apply Kd.R_drew)); exact HO_10.out) (Kd.R_base ho0) hb); have n2_ := zm (Kd.S_below (by (with_reducible repeat (first | apply Kd.S_alloc | apply Kd.S_drewN | apply Kd.S_drew)); exact HO_11.out) hb); have n3_ := zm (Kd.R_lower (Kd.R_new' ho0 (Kd.R_lt (by (with_reducible repeat (first | apply Kd.R_alloc | apply Kd.R_drewN | apply Kd.R_drew)); exact HO_10.out))) (below_size zb)); have n4_ := zm (blk_below (g := gb210) (o := .cells #[.int .i64 a1_0, .int .i64 a1_1, .int .i64 a1_2] 24 (0, 0)) zk hb); have n5_ := zm (below_step zb hb); clear HO_8; clear HO_10; clear HO_11; clear BK210; clear HB; have HO_8 := n0_; have HO_10 := n1_; have HO_11 := n2_; have HO235 := n3_; have BK210 := n4_; have HB := n5_; clear n0_ n1_ n2_ n3_ n4_ n5_; (try clear hb); (try clear hb2); (try clear hk); (try clear hi); (try clear ho0); obtain ⟨Ao36, co36, eo36⟩ := Kd.R_slice HO235.out; subst eo36) | ((with_reducible refine gate_callee (f := 17) rfl ?_); refine goesA_ (some 54) Try.func17 #[.slice Ao23 t222.length co23, .slice Ao36 t233.length co36] rfl ?_; (with_reducible refine (laws_eqNoteS.calls kj12 _ _ t222 _ _ t233 true _ ?side1 ?side2 ?side3 ?side4 A31.out).mono ?_); (case side1 => repeat (first | exact (Kd.R_reads' HO_10.out).2.2 | (with_reducible refine Kd.C_alloc ?_ _) | (with_reducible refine Kd.C_drewN ?_ _) | (with_reducible refine Kd.C_drew ?_))); (case side2 => exact (Kd.R_reads' HO_10.out).2.1); (case side3 => repeat (first | exact (Kd.R_reads' HO235.out).2.2 | (with_reducible refine Kd.C_alloc ?_ _) | (with_reducible refine Kd.C_drewN ?_ _) | (with_reducible refine Kd.C_drew ?_))); (case side4 => exact (Kd.R_reads' HO235.out).2.1); rintro e w37 ⟨rfl, hb⟩; refine ⟨_, rfl, ?_⟩; have n0_ := zm (Kd.S_below (by (with_reducible repeat (first | apply Kd.S_alloc | apply Kd.S_drewN | apply Kd.S_drew)); exact HO_8.out) hb); have n1_ := zm (Kd.R_below (by (with_reducible repeat (first | apply Kd.R_alloc | apply Kd.R_drewN | apply Kd.R_drew)); exact HO_10.out) hb); have n2_ := zm (Kd.S_below (by (with_reducible repeat (first | apply Kd.S_alloc | apply Kd.S_drewN | apply Kd.S_drew)); exact HO_11.out) hb); have n3_ := zm (Kd.R_below (by (with_reducible repeat (first | apply Kd.R_alloc | apply Kd.R_drewN | apply Kd.R_drew)); exact HO235.out) hb); have n4_ := zm (blk_below (g := gb210) (o := .cells #[.int .i64 a1_0, .int .i64 a1_1, .int .i64 a1_2] 24 (0, 0)) zk hb); have n5_ := zm (below_step zb hb); clear HO_8; clear HO_10; clear HO_11; clear HO235; clear BK210; clear HB; have HO_8 := n0_; have HO_10 := n1_; have HO_11 := n2_; have HO235 := n3_; have BK210 := n4_; have HB := n5_; clear n0_ n1_ n2_ n3_ n4_ n5_; (try clear hb); (try clear hb2); (try clear hk); (try clear hi)) | ((with_reducible refine gate_callee (f := 18) rfl ?_); refine goesA_ (some 58) Try.func18 #[.slice Ao23 t222.length co23, .int .i64 1] rfl ?_; (with_reducible refine (laws_markNoteS.calls kj12 (fun k_ => some k_ = (.slice Ao23 t222.length co23 : Value).ownBlock) (.slice Ao23 t222.length co23) t222 1 t237 t238 w _ ?side1 ?side2 A33.out).mono ?_); (case side1 => repeat (first | (with_reducible first | exact HB.out | apply below_alloc | apply pw_below_drewN | apply below_drew1 | refine below_set ?_ GE210.out) | exact HB.out)); (case side2 => exact Kd.R_tight rfl HO_10.out); rintro e w38 ⟨rfl, hy0, hb, hkp⟩; refine ⟨_, rfl, ?_⟩; have n0_ := zm (Kd.S_mono (ok' := fun k_ => k_ < NG) (Kd.S_keptB ((Kd.S_apart' HO_8.out (Kd.R_typed HO_10.out) (by decide))) hkp (fun k_ hk_ hs_ => (hk_.2) hs_)) (fun k_ hk_ => hk_.1.1)); have n1_ := zm (Kd.R_reok rfl hy0 (fun k_ e_ => HO_10.out.1 k_ e_)); have n2_ := zm (Kd.S_mono (ok' := fun k_ => NG ≤ k_) (Kd.S_keptB ((Kd.S_apart' HO_11.out (Kd.R_typed HO_10.out) (by decide))) hkp (fun k_ hk_ hs_ => (hk_.2) hs_)) (fun k_ hk_ => hk_.1.1)); have n3_ := zm (blk_kept (g := gb210) (o := .cells #[.int .i64 a1_0, .int .i64 a1_1, .int .i64 a1_2] 24 (0, 0)) zk hkp (fun hs_ => (fun e_ => (Kd.R_ne HO_10.out BK210.out (by decide)) e_) hs_)); have n4_ := zm (Kd.R_mono (ok' := fun k_ => some k_ ≠ (.slice Ao23 t222.length co23 : Value).ownBlock) (Kd.R_keptB (HO235.out) hkp (fun k_ hk_ hs_ => (hk_.2) hs_)) (fun k_ hk_ => hk_.1.2)); have n5_ := zm (hb); clear HO_8; clear HO_10; clear HO_11; clear BK210; clear HO235; clear HB; have HO_8 := n0_; have HO_10 := n1_; have HO_11 := n2_; have BK210 := n3_; have HO235 := n4_; have HB := n5_; clear n0_ n1_ n2_ n3_ n4_ n5_; (try clear hb); (try clear hkp); (try clear hy0)))
      (try simp only [Act.put, List.setIfInBounds_toArray, List.set_cons_zero, List.set_cons_succ])
      go_cut [71] (fun v71 wc => ∃ (kq : Nat) (x71_33 : Bool), v71 = .bool x71_33 ∧ Aside0 (laws_FnExactPromisedTimes.j1 kq l0 a2 t218 t221 t228 x71_33 a1_0 a1_1 a1_2 = some r) ∧ Aside0 (kq ≤ kj12) ∧ Aside0 (Kd.S (Kd.slice 3 (Kd.int .i64)) 38 wc w.heap.size (fun k_ => k_ < NG) v219 t218) ∧ Aside0 (Kd.S (Kd.slice 3 (Kd.int .i64)) 38 wc w.heap.size (fun k_ => NG ≤ k_) v229 t228) ∧ Aside0 (wc.heap[gb210]? = some (.cells #[.int .i64 a1_0, .int .i64 a1_1, .int .i64 a1_2] 24 (0, 0))) ∧ Aside0 (Below w.heap.size w wc))
      case first =>
       have H := HC34.out
       clear HC34
       by_cases c39 : t237 < 0
       ·
        rw [if_pos c39] at H
        have c39b0 : decide (t237 < 0) = true := decide_eq_true c39
        clear c39
        (first | rw [c39b0] | (simp only [i64_w, i32_w]; rw [c39b0]) | skip)
        exact (laws_FnExactPromisedTimes.j1_t (H.trans (congrArg some hr_))).elim
       ·
        rw [if_neg c39] at H
        have c39b0 : decide (t237 < 0) = false := decide_eq_false c39
        clear c39
        (first | rw [c39b0] | (simp only [i64_w, i32_w]; rw [c39b0]) | skip)
        replace H := Option.bind_eq_some_iff.mp H
        obtain ⟨t239, A400, H⟩ := H
        (try dsimp only at H)
        have A40 := zm A400
        clear A400
        by_cases c41 : t239 = true
        ·
         subst c41
         have H1 : (laws_FnExactPromisedTimes.j1 kj12 l0 a2 t218 t221 t228 (t231 != t221) a1_0 a1_1 a1_2) = some r := by rw [if_pos rfl] at H; exact H
         clear H
         have H := H1
         clear H1
         have H' := zm H
         clear H
         obtain ⟨Ao42, co42, eo42⟩ := Kd.S_slice HO_11.out
         subst eo42
         obtain ⟨Ao43, co43, eo43⟩ := Kd.S_slice HO_8.out
         subst eo43
         go_wp2_with (first | (go_at_call 16; (with_reducible refine (laws_eqIntSS.calls kj12 _ _ t228 _ _ t218 true _ ?side1 ?side2 ?side3 ?side4 A40.out).mono ?_); (case side1 => repeat (first | exact (Kd.S_reads' HO_11.out).2.2 | (with_reducible refine Kd.C_alloc ?_ _) | (with_reducible refine Kd.C_drewN ?_ _) | (with_reducible refine Kd.C_drew ?_))); (case side2 => exact (Kd.S_reads' HO_11.out).2.1); (case side3 => repeat (first | exact (Kd.S_reads' HO_8.out).2.2 | (with_reducible refine Kd.C_alloc ?_ _) | (with_reducible refine Kd.C_drewN ?_ _) | (with_reducible refine Kd.C_drew ?_))); (case side4 => exact (Kd.S_reads' HO_8.out).2.1); rintro e w' ⟨rfl, ⟨nd, rfl⟩⟩))
         go_meet
         case rel => exact ⟨_, ((t231 != t221)), (by first | rfl | (simp; done) | (simp [*]; done)), H', ⟨by have := HJ12.out; first | omega | exact Nat.le_refl _⟩, ⟨by (with_reducible repeat (first | apply Kd.S_alloc | apply Kd.S_drewN | apply Kd.S_drew)); exact HO_8.out⟩, ⟨by (with_reducible repeat (first | apply Kd.S_alloc | apply Kd.S_drewN | apply Kd.S_drew)); exact HO_11.out⟩, ⟨zk⟩, ⟨zb⟩⟩
        ·
         replace c41 := Bool.eq_false_iff.mpr c41
         subst c41
         have H1 : (laws_FnExactPromisedTimes.j1 kj12 l0 a2 t218 t221 t228 true a1_0 a1_1 a1_2) = some r := by rw [if_neg (show ¬ (false = true) by decide)] at H; exact H
         clear H
         have H := H1
         clear H1
         exact (laws_FnExactPromisedTimes.j1_t (H.trans (congrArg some hr_))).elim
      case rest =>
       clear HC34
       (try clear c1); (try clear c2); (try clear p2); (try clear c3); (try clear c4); (try clear c5); (try clear c5b0); (try clear c11); (try clear c12); (try clear c13); (try clear c14); (try clear c15); (try clear c16); (try clear c17); (try clear c18); (try clear c26); (try clear c29); (try clear c32); (try clear c39); (try clear c39b0); (try clear c41); (try clear hcz21_0); (try clear hcz21_1); (try clear hcz21_2); (try clear hfz21_0); (try clear hfz21_1); (try clear hfz21_2); (try clear p2)
       obtain ⟨kq, x71_33, rfl, HA, HJ33, HO_8, HO_11, BK210, HB⟩ := hcut
       cases kq with
       | zero => exact absurd HA.out (by simp [laws_FnExactPromisedTimes.j1])
       | succ kj33 =>
        have H := HA.out
        clear HA
        simp only [laws_FnExactPromisedTimes.j1] at H
        by_cases c44 : x71_33 = true
        ·
         subst c44
         have H1 : (some false) = some r := by rw [if_pos rfl] at H; exact H
         clear H
         have H := H1
         clear H1
         exact absurd ((Option.some.inj H).trans hr_) (by decide)
        ·
         replace c44 := Bool.eq_false_iff.mpr c44
         subst c44
         have H1 : ((laws_markIntSS.f kj33 t228 1).bind fun bt240 => ((laws_heldIntSS.f kj33 bt240.2 1).bind fun t242 => (if t242 < 0 then (some false) else (if t242 = bt240.1 then ((laws_toNoteS.f kj33 l0).bind fun t243 => ((laws_toAction.f a1_0 a1_1 a1_2).bind fun bt246 => ((impl_PromisedTimes.f kj33 t243 bt246.1 bt246.2.1 bt246.2.2 a2).bind fun bt249 => ((laws_eqIntSS.f kj33 bt249.1 t218).bind fun t253 => (if t253 = true then (laws_FnExactPromisedTimes.j2 kj33 bt240.2 bt240.1 (bt249.2 != t221)) else (laws_FnExactPromisedTimes.j2 kj33 bt240.2 bt240.1 true)))))) else (some false))))) = some r := by rw [if_neg (show ¬ (false = true) by decide)] at H; exact H
         clear H
         have H := H1
         clear H1
         replace H := Option.bind_eq_some_iff.mp H
         obtain ⟨⟨t240, t241⟩, A450, H⟩ := H
         (try dsimp only at H)
         have A45 := zm A450
         clear A450
         replace H := Option.bind_eq_some_iff.mp H
         obtain ⟨t242, A460, H⟩ := H
         (try dsimp only at H)
         have A46 := zm A460
         clear A460
         by_cases c47 : t242 < 0
         ·
          rw [if_pos c47] at H
          have c47b0 : decide (t242 < 0) = true := decide_eq_true c47
          clear c47
          exact absurd ((Option.some.inj H).trans hr_) (by decide)
         ·
          rw [if_neg c47] at H
          have c47b0 : decide (t242 < 0) = false := decide_eq_false c47
          clear c47
          by_cases c48 : t242 = t240
          ·
           rw [if_pos c48] at H
           have c48b0 : (t242 == t240) = true := beq_iff_eq.mpr c48
           have c48b1 : (t242 != t240) = false := bne_eq_false_iff_eq.mpr c48
           clear c48
           replace H := Option.bind_eq_some_iff.mp H
           obtain ⟨t243, A490, H⟩ := H
           (try dsimp only at H)
           have A49 := zm A490
           clear A490
           replace H := Option.bind_eq_some_iff.mp H
           obtain ⟨⟨t246, t247, t248⟩, A500, H⟩ := H
           (try dsimp only at H)
           have A50 := zm A500
           clear A500
           replace H := Option.bind_eq_some_iff.mp H
           obtain ⟨⟨t249, t252⟩, A510, H⟩ := H
           (try dsimp only at H)
           have A51 := zm A510
           clear A510
           have HC52 := zm H
           clear H
           obtain ⟨Ao53, co53, eo53⟩ := Kd.S_slice HO_11.out
           subst eo53
           try go_wp2_with (first | ((with_reducible refine gate_callee (f := 19) rfl ?_); refine goesA_ (some 74) Try.func19 #[.slice Ao53 t228.length co53, .int .i64 1] rfl ?_; (with_reducible refine (laws_markIntSS.calls kj33 (fun k_ => NG ≤ k_) (.slice Ao53 t228.length co53) t228 1 t240 t241 w _ ?side1 ?side2 A45.out).mono ?_); (case side1 => repeat (first | (with_reducible first | exact HB.out | apply below_alloc | apply pw_below_drewN | apply below_drew1 | refine below_set ?_ GE210.out) | exact HB.out)); (case side2 => exact HO_11.out); rintro e w54 ⟨rfl, hy0, hb, hkp⟩; refine ⟨_, rfl, ?_⟩; have n0_ := zm (Kd.S_mono (ok' := fun k_ => some k_ ≠ (.slice Ao53 t228.length co53 : Value).ownBlock) (Kd.S_keptB (HO_8.out) hkp (fun k_ hk_ hs_ => absurd hs_ (Nat.not_le.2 hk_))) (fun k_ hk_ => fun e_ => absurd (((Kd.S_R HO_11.out).1 k_ e_.symm)) (Nat.not_le.2 hk_.1))); have n1_ := zm (Kd.S_mono (ok' := fun k_ => some k_ ≠ (v219 : Value).ownBlock) hy0 (fun k_ hk_ => fun e_ => hk_.elim (fun h_ => absurd (((Kd.S_R HO_8.out).1 k_ e_.symm)) (Nat.not_lt.2 h_)) (fun h_ => absurd (Kd.S_lt HO_8.out k_ e_.symm) (Nat.not_lt.2 h_)))); have n2_ := zm (blk_kept (g := gb210) (o := .cells #[.int .i64 a1_0, .int .i64 a1_1, .int .i64 a1_2] 24 (0, 0)) zk hkp (fun hs_ => absurd hs_ (Nat.not_le.2 HGgb210.out))); have n3_ := zm (hb); clear HO_8; clear HO_11; clear BK210; clear HB; have HO_8 := n0_; have HO_11 := n1_; have BK210 := n2_; have HB := n3_; clear n0_ n1_ n2_ n3_; (try clear hb); (try clear hkp); (try clear hy0)) | ((with_reducible refine gate_callee (f := 20) rfl ?_); refine goesL_ (some 77) rfl rfl Try.func20 (by kernel_rfl) rfl #[.slice Ao53 t241.length co53, .int .i64 1] rfl (by (try simp only [List.map_toArray, List.map_cons, List.map_nil]); first | done | (rw [show t241.length = t228.length from (Kd.S_reads' HO_11.out).1.symm] <;> rfl) | rfl | (simp only [List.length_drop, List.length_take]; rfl)) ?_; (with_reducible refine (laws_heldIntSS.calls kj33 _ _ t241 1 t242 _ ?side1 ?side2 A46.out).mono ?_); (case side1 => repeat (first | exact (Kd.S_reads' HO_11.out).2.2 | (with_reducible refine Kd.C_alloc ?_ _) | (with_reducible refine Kd.C_drewN ?_ _) | (with_reducible refine Kd.C_drew ?_))); (case side2 => rw [show t241.length = t228.length from (Kd.S_reads' HO_11.out).1.symm]; exact (Kd.S_reads' HO_11.out).2.1); rintro e w' ⟨rfl, ⟨nd, rfl⟩⟩; refine ⟨_, rfl, ?_⟩))
           (try (rw [drewN_self w54]; generalize hq_ : World.drewN w54 _ = w54; have n0_ : Aside0 (Kd.S (Kd.slice 3 (Kd.int .i64)) 38 w54 w.heap.size (fun k_ => some k_ ≠ (v219 : Value).ownBlock) (.slice Ao53 t228.length co53) t241) := ⟨by rw [← hq_]; exact (by (with_reducible repeat (first | apply Kd.S_alloc | apply Kd.S_drewN | apply Kd.S_drew)); exact HO_11.out)⟩; have n1_ : Aside0 (Kd.S (Kd.slice 3 (Kd.int .i64)) 38 w54 w.heap.size (fun k_ => some k_ ≠ (.slice Ao53 t228.length co53 : Value).ownBlock) v219 t218) := ⟨by rw [← hq_]; exact (by (with_reducible repeat (first | apply Kd.S_alloc | apply Kd.S_drewN | apply Kd.S_drew)); exact HO_8.out)⟩; have n2_ : Aside0 (w54.heap[gb210]? = some (.cells #[.int .i64 a1_0, .int .i64 a1_1, .int .i64 a1_2] 24 (0, 0))) := ⟨by rw [← hq_]; exact zk⟩; have n3_ : Aside0 (Below w.heap.size w w54) := ⟨by rw [← hq_]; exact zb⟩; clear HO_11 HO_8 BK210 HB hq_; have HO_11 := n0_; have HO_8 := n1_; have BK210 := n2_; have HB := n3_; clear n0_ n1_ n2_ n3_))
           have n0_ := zm (Kd.S_drew HO_8.out)
           have n1_ := zm (Kd.S_drew HO_11.out)
           have n2_ := zm (blk_drew BK210.out)
           have n3_ := zm (below_drew1 HB.out)
           clear HO_8
           clear HO_11
           clear BK210
           clear HB
           have HO_8 := n0_
           have HO_11 := n1_
           have BK210 := n2_
           have HB := n3_
           clear n0_ n1_ n2_ n3_
           refine start_ (n := 11) (S := fun w' => w'.cell? ⟨gb210, 0, none⟩ = some (.int .i64 a1_0) ∧ w'.cell? ⟨gb210, 1, none⟩ = some (.int .i64 a1_1) ∧ w'.cell? ⟨gb210, 2, none⟩ = some (.int .i64 a1_2)) (ds := []) #[false, false, false, false, false, false, false, false, false, false, false] (by kernel_rfl) rfl rfl ⟨(blk_cell BK210.out 0).trans rfl, (blk_cell BK210.out 1).trans rfl, (blk_cell BK210.out 2).trans rfl⟩ (fun hHeld => ?_); refine with_tabW laws_FnExactPromisedTimes.tab24 laws_FnExactPromisedTimes.bits24 (fun HT_ HW_ => ?_)
           generalize w54.drew = w55 at HO_8 HO_11 BK210 HB hHeld ⊢
           refine pure_ (i := 0) (N := some 84) (v := ?_) (a' := ?_) #[true, false, false, false, false, false, false, false, false, false, false] rfl rfl (any_of HT_.out (by kernel_rfl)) (fun _ _ _ h => h) (Or.inl ⟨by rfl, ?_⟩) ?_ ?_
           rotate_left
           ·
            intro w'
            go_simp
            with_reducible rfl
           rotate_left
           ·
            simp only [Act.put, zA, zB, zD, i64_w, i32_w]
            rfl
           refine pure_ (i := 4) (N := some 88) (v := ?_) (a' := ?_) #[true, false, false, false, true, false, false, false, false, false, false] rfl rfl (any_of HT_.out (by kernel_rfl)) (fun _ _ _ h => h) (Or.inl ⟨by rfl, ?_⟩) ?_ ?_
           rotate_left
           ·
            intro w'
            go_simp
            with_reducible rfl
           rotate_left
           ·
            simp only [Act.put, zA, zB, zD, i64_w, i32_w]
            rfl
           refine take_ (i := 2) (N := some 86) (v := ?_) (a' := ?_) #[true, false, true, false, true, false, false, false, false, false, false] rfl rfl (take_ofW HT_.out HW_.out (by kernel_rfl)) (fun _ _ _ h => h) (Or.inl ⟨by rfl, ?_⟩) hHeld ?_ ?_
           rotate_left
           ·
            rintro w' ⟨s0, s1, s2⟩
            go_simp
            with_reducible rfl
           rotate_left
           ·
            simp only [Act.put, zA, zB, zD, i64_w, i32_w]
            rfl
           refine one_ (i := 1) (N := some 85) #[true, true, true, false, true, false, false, false, false, false, false] rfl rfl (one_of HT_.out (by kernel_rfl)) (by decide) (fun K hK => ?_)
           refine goes_ Try.func13 (by kernel_rfl) rfl #[.slice A0 l0.length c0] (by rfl) rfl rfl (by (try simp only [List.map_toArray, List.map_cons, List.map_nil]); first | done | rfl | (simp only [List.length_drop, List.length_take]; rfl)) ?_
           with_reducible refine (laws_toNoteS.calls kj33 _ _ l0 t243 _ ?side1 ?side2 A49.out).mono ?_
           (case side1 => repeat (first | exact (Kd.C_below HR0.out HB.out) | (with_reducible refine Kd.C_alloc ?_ _) | (with_reducible refine Kd.C_drewN ?_ _) | (with_reducible refine Kd.C_drew ?_)))
           (case side2 => exact HC0.out)
           rintro e w56 ⟨v244, rfl, ho0, hb⟩
           refine ⟨_, rfl, ?_⟩
           have n0_ := zm (Kd.S_below (by (with_reducible repeat (first | apply Kd.S_alloc | apply Kd.S_drewN | apply Kd.S_drew)); exact HO_8.out) hb)
           have n1_ := zm (Kd.S_below (by (with_reducible repeat (first | apply Kd.S_alloc | apply Kd.S_drewN | apply Kd.S_drew)); exact HO_11.out) hb)
           have n2_ := zm (Kd.R_lower ho0 (below_size zb))
           have n3_ := zm (blk_below (g := gb210) (o := .cells #[.int .i64 a1_0, .int .i64 a1_1, .int .i64 a1_2] 24 (0, 0)) zk hb)
           have n4_ := zm (below_step zb hb)
           clear HO_8
           clear HO_11
           clear BK210
           clear HB
           have HO_8 := n0_
           have HO_11 := n1_
           have HO245 := n2_
           have BK210 := n3_
           have HB := n4_
           clear n0_ n1_ n2_ n3_ n4_
           (try clear hb)
           (try clear hb2)
           (try clear hk)
           (try clear hi)
           (try clear ho0)
           refine hK.out _ _ ⟨(blk_cell BK210.out 0).trans rfl, (blk_cell BK210.out 1).trans rfl, (blk_cell BK210.out 2).trans rfl⟩ (fun hHeld => ?_)
           clear hK K
           refine norm_ (a' := ?_) ?_ ?_
           rotate_left
           ·
            show Act.put _ (some 85) _ = _
            simp only [Act.put, zA, zB, zD, i64_w, i32_w]
            rfl
           refine one_ (i := 3) (N := some 87) #[true, true, true, true, true, false, false, false, false, false, false] rfl rfl (one_of HT_.out (by kernel_rfl)) (by decide) (fun K hK => ?_)
           refine goes_ Try.func14 (by kernel_rfl) rfl #[.agg #[.int .i64 a1_0, .int .i64 a1_1, .int .i64 a1_2]] (by rfl) rfl rfl (by (try simp only [List.map_toArray, List.map_cons, List.map_nil]); first | done | rfl | (simp only [List.length_drop, List.length_take]; rfl)) ?_
           with_reducible refine (laws_toAction.calls a1_0 a1_1 a1_2 t246 t247 t248 _ A50.out).mono ?_
           rintro e w57 ⟨rfl, hb⟩
           refine ⟨_, rfl, ?_⟩
           have n0_ := zm (Kd.S_below (by (with_reducible repeat (first | apply Kd.S_alloc | apply Kd.S_drewN | apply Kd.S_drew)); exact HO_8.out) hb)
           have n1_ := zm (Kd.S_below (by (with_reducible repeat (first | apply Kd.S_alloc | apply Kd.S_drewN | apply Kd.S_drew)); exact HO_11.out) hb)
           have n2_ := zm (Kd.R_below (by (with_reducible repeat (first | apply Kd.R_alloc | apply Kd.R_drewN | apply Kd.R_drew)); exact HO245.out) hb)
           have n3_ := zm (blk_below (g := gb210) (o := .cells #[.int .i64 a1_0, .int .i64 a1_1, .int .i64 a1_2] 24 (0, 0)) zk hb)
           have n4_ := zm (below_step zb hb)
           clear HO_8
           clear HO_11
           clear HO245
           clear BK210
           clear HB
           have HO_8 := n0_
           have HO_11 := n1_
           have HO245 := n2_
           have BK210 := n3_
           have HB := n4_
           clear n0_ n1_ n2_ n3_ n4_
           (try clear hb)
           (try clear hb2)
           (try clear hk)
           (try clear hi)
           obtain ⟨Ao58, co58, eo58⟩ := Kd.R_slice HO245.out
           (first | subst eo58 | (injection eo58 with f1_ f2_ f3_; have f4_ := f1_.symm; have f5_ := f3_.symm; clear f1_ f2_ f3_; subst f4_; subst f5_))
           refine hK.out _ _ ⟨(blk_cell BK210.out 0).trans rfl, (blk_cell BK210.out 1).trans rfl, (blk_cell BK210.out 2).trans rfl⟩ (fun hHeld => ?_)
           clear hK K
           refine norm_ (a' := ?_) ?_ ?_
           rotate_left
           ·
            show Act.put _ (some 87) _ = _
            simp only [Act.put, zA, zB, zD, i64_w, i32_w]
            rfl
           refine one_ (i := 5) (N := some 89) #[true, true, true, true, true, true, false, false, false, false, false] rfl rfl (one_of HT_.out (by kernel_rfl)) (by decide) (fun K hK => ?_)
           refine goes_ Try.func15 (by kernel_rfl) rfl #[.slice Ao58 t243.length co58, .agg #[.int .i64 t246, .int .i64 t247, .int .i64 t248], .int .i64 a2] (by rfl) rfl rfl (by (try simp only [List.map_toArray, List.map_cons, List.map_nil]); first | done | rfl | (simp only [List.length_drop, List.length_take]; rfl)) ?_
           with_reducible refine (impl_PromisedTimes.calls kj33 _ _ t243 t246 t247 t248 a2 t249 t252 _ ?side1 ?side2 A51.out).mono ?_
           (case side1 => repeat (first | exact (Kd.R_reads' HO245.out).2.2 | (with_reducible refine Kd.C_alloc ?_ _) | (with_reducible refine Kd.C_drewN ?_ _) | (with_reducible refine Kd.C_drew ?_)))
           (case side2 => exact (Kd.R_reads' HO245.out).2.1)
           rintro e w59 ⟨v250, rfl, ho0, hb⟩
           refine ⟨_, rfl, ?_⟩
           have n0_ := zm (Kd.S_elder' (by (with_reducible repeat (first | apply Kd.S_alloc | apply Kd.S_drewN | apply Kd.S_drew)); exact HO_8.out) (Kd.S_base ho0) hb)
           have n1_ := zm (Kd.S_elder' (by (with_reducible repeat (first | apply Kd.S_alloc | apply Kd.S_drewN | apply Kd.S_drew)); exact HO_11.out) (Kd.S_base ho0) hb)
           have n2_ := zm (Kd.R_below (by (with_reducible repeat (first | apply Kd.R_alloc | apply Kd.R_drewN | apply Kd.R_drew)); exact HO245.out) hb)
           have n3_ := zm (Kd.S_lower (Kd.S_new' (Kd.S_new' ho0 (Kd.S_lt (by (with_reducible repeat (first | apply Kd.S_alloc | apply Kd.S_drewN | apply Kd.S_drew)); exact HO_8.out))) (Kd.S_lt (by (with_reducible repeat (first | apply Kd.S_alloc | apply Kd.S_drewN | apply Kd.S_drew)); exact HO_11.out))) (below_size zb))
           have n4_ := zm (blk_below (g := gb210) (o := .cells #[.int .i64 a1_0, .int .i64 a1_1, .int .i64 a1_2] 24 (0, 0)) zk hb)
           have n5_ := zm (below_step zb hb)
           clear HO_8
           clear HO_11
           clear HO245
           clear BK210
           clear HB
           have HO_8 := n0_
           have HO_11 := n1_
           have HO245 := n2_
           have HO251 := n3_
           have BK210 := n4_
           have HB := n5_
           clear n0_ n1_ n2_ n3_ n4_ n5_
           (try clear hb)
           (try clear hb2)
           (try clear hk)
           (try clear hi)
           (try clear ho0)
           refine hK.out _ _ ⟨(blk_cell BK210.out 0).trans rfl, (blk_cell BK210.out 1).trans rfl, (blk_cell BK210.out 2).trans rfl⟩ (fun hHeld => ?_)
           clear hK K
           refine norm_ (a' := ?_) ?_ ?_
           rotate_left
           ·
            show Act.put _ (some 89) _ = _
            simp only [Act.put, zA, zB, zD, i64_w, i32_w]
            rfl
           refine pure_ (i := 6) (N := some 83) (v := ?_) (a' := ?_) #[true, true, true, true, true, true, true, false, false, false, false] rfl rfl (any_of HT_.out (by kernel_rfl)) (fun _ _ _ h => h) (Or.inl ⟨by rfl, ?_⟩) ?_ ?_
           rotate_left
           ·
            intro w'
            go_simp
            with_reducible rfl
           rotate_left
           ·
            simp only [Act.put, zA, zB, zD, i64_w, i32_w]
            rfl
           refine pure_ (i := 7) (N := some 90) (v := ?_) (a' := ?_) #[true, true, true, true, true, true, true, true, false, false, false] rfl rfl (any_of HT_.out (by kernel_rfl)) (fun _ _ _ h => h) (Or.inl ⟨by rfl, ?_⟩) ?_ ?_
           rotate_left
           ·
            intro w'
            go_simp
            with_reducible rfl
           rotate_left
           ·
            simp only [Act.put, zA, zB, zD, i64_w, i32_w]
            rfl
           refine pure_ (i := 8) (N := some 91) (v := ?_) (a' := ?_) #[true, true, true, true, true, true, true, true, true, false, false] rfl rfl (any_of HT_.out (by kernel_rfl)) (fun _ _ _ h => h) (Or.inl ⟨by rfl, ?_⟩) ?_ ?_
           rotate_left
           ·
            intro w'
            go_simp
            with_reducible rfl
           rotate_left
           ·
            simp only [Act.put, zA, zB, zD, i64_w, i32_w]
            rfl
           refine pure_ (i := 9) (N := some 16) (v := ?_) (a' := ?_) #[true, true, true, true, true, true, true, true, true, true, false] rfl rfl (any_of HT_.out (by kernel_rfl)) (fun _ _ _ h => h) (Or.inl ⟨by rfl, ?_⟩) ?_ ?_
           rotate_left
           ·
            intro w'
            go_simp
            with_reducible rfl
           rotate_left
           ·
            simp only [Act.put, zA, zB, zD, i64_w, i32_w]
            rfl
           refine pure_ (i := 10) (N := some 17) (v := ?_) (a' := ?_) #[true, true, true, true, true, true, true, true, true, true, true] rfl rfl (any_of HT_.out (by kernel_rfl)) (fun _ _ _ h => h) (Or.inl ⟨by rfl, ?_⟩) ?_ ?_
           rotate_left
           ·
            intro w'
            go_simp
            with_reducible rfl
           rotate_left
           ·
            simp only [Act.put, zA, zB, zD, i64_w, i32_w]
            rfl
           refine done_ (done_of HT_.out (by kernel_rfl)) ?_
           go_upto_region 25 with (fail)
           go_cut [100] (fun v100 wc => ∃ (kq : Nat) (x100_51 : Bool), v100 = .bool x100_51 ∧ Aside0 (laws_FnExactPromisedTimes.j2 kq t241 t240 x100_51 = some r) ∧ Aside0 (kq ≤ kj33) ∧ Aside0 (Kd.S (Kd.slice 3 (Kd.int .i64)) 38 wc w.heap.size (fun _ => True) (.slice Ao53 t228.length co53) t241) ∧ Aside0 (wc.heap[gb210]? = some (.cells #[.int .i64 a1_0, .int .i64 a1_1, .int .i64 a1_2] 24 (0, 0))) ∧ Aside0 (Below w.heap.size w wc))
           case first =>
            have H := HC52.out
            clear HC52
            replace H := Option.bind_eq_some_iff.mp H
            obtain ⟨t253, A600, H⟩ := H
            (try dsimp only at H)
            have A60 := zm A600
            clear A600
            by_cases c61 : t253 = true
            ·
             subst c61
             have H1 : (laws_FnExactPromisedTimes.j2 kj33 t241 t240 (t252 != t221)) = some r := by rw [if_pos rfl] at H; exact H
             clear H
             have H := H1
             clear H1
             have H' := zm H
             clear H
             obtain ⟨Ao62, co62, eo62⟩ := Kd.S_slice HO251.out
             subst eo62
             obtain ⟨Ao63, co63, eo63⟩ := Kd.S_slice HO_8.out
             subst eo63
             go_wp2_with (first | ((with_reducible refine gate_callee (f := 16) rfl ?_); refine goesA_ (some 94) Try.func16 #[.slice Ao62 t249.length co62, .slice Ao63 t218.length co63] rfl ?_; (with_reducible refine (laws_eqIntSS.calls kj33 _ _ t249 _ _ t218 true _ ?side1 ?side2 ?side3 ?side4 A60.out).mono ?_); (case side1 => repeat (first | exact (Kd.S_reads' HO251.out).2.2 | (with_reducible refine Kd.C_alloc ?_ _) | (with_reducible refine Kd.C_drewN ?_ _) | (with_reducible refine Kd.C_drew ?_))); (case side2 => exact (Kd.S_reads' HO251.out).2.1); (case side3 => repeat (first | exact (Kd.S_reads' HO_8.out).2.2 | (with_reducible refine Kd.C_alloc ?_ _) | (with_reducible refine Kd.C_drewN ?_ _) | (with_reducible refine Kd.C_drew ?_))); (case side4 => exact (Kd.S_reads' HO_8.out).2.1); rintro e w' ⟨rfl, ⟨nd, rfl⟩⟩; refine ⟨_, rfl, ?_⟩))
             go_meet
             case rel => exact ⟨_, ((t252 != t221)), (by first | rfl | (simp; done) | (simp [*]; done)), H', ⟨by have := HJ12.out; have := HJ33.out; first | omega | exact Nat.le_refl _⟩, ⟨by (with_reducible repeat (first | apply Kd.S_alloc | apply Kd.S_drewN | apply Kd.S_drew)); exact Kd.S_mono HO_11.out (fun _ hk => trivial)⟩, ⟨zk⟩, ⟨zb⟩⟩
            ·
             replace c61 := Bool.eq_false_iff.mpr c61
             subst c61
             have H1 : (laws_FnExactPromisedTimes.j2 kj33 t241 t240 true) = some r := by rw [if_neg (show ¬ (false = true) by decide)] at H; exact H
             clear H
             have H := H1
             clear H1
             exact (laws_FnExactPromisedTimes.j2_t (H.trans (congrArg some hr_))).elim
           case rest =>
            clear HC52
            (try clear c1); (try clear c2); (try clear p2); (try clear c3); (try clear c4); (try clear c5); (try clear c5b0); (try clear c6); (try clear c11); (try clear c12); (try clear c13); (try clear c14); (try clear c15); (try clear c16); (try clear c17); (try clear c18); (try clear c19); (try clear c20); (try clear c26); (try clear c29); (try clear c32); (try clear c39); (try clear c39b0); (try clear c41); (try clear c44); (try clear c47); (try clear c47b0); (try clear c48); (try clear c48b0); (try clear c48b1); (try clear c61); (try clear hcz21_0); (try clear hcz21_1); (try clear hcz21_2); (try clear hfz21_0); (try clear hfz21_1); (try clear hfz21_2); (try clear p2)
            obtain ⟨kq, x100_51, rfl, HA, HJ51, HO_11, BK210, HB⟩ := hcut
            have hl11_51 := (Kd.S_reads' HO_11.out).1
            rw [hl11_51] at HO_11
            (try simp only [hl11_51])
            (try simp only [hl11_51] at BK210)
            cases kq with
            | zero => exact absurd HA.out (by simp [laws_FnExactPromisedTimes.j2])
            | succ kj51 =>
             have H := HA.out
             clear HA
             simp only [laws_FnExactPromisedTimes.j2] at H
             by_cases c64 : x100_51 = true
             ·
              subst c64
              have H1 : (some false) = some r := by rw [if_pos rfl] at H; exact H
              clear H
              have H := H1
              clear H1
              exact absurd ((Option.some.inj H).trans hr_) (by decide)
             ·
              replace c64 := Bool.eq_false_iff.mpr c64
              subst c64
              have H1 : ((laws_heldIntSS.f kj51 t241 1).bind fun t254 => (if t254 < 0 then (some false) else (if t254 = t240 then (some true) else (some false)))) = some r := by rw [if_neg (show ¬ (false = true) by decide)] at H; exact H
              clear H
              have H := H1
              clear H1
              replace H := Option.bind_eq_some_iff.mp H
              obtain ⟨t254, A650, H⟩ := H
              (try dsimp only at H)
              have A65 := zm A650
              clear A650
              by_cases c66 : t254 < 0
              ·
               rw [if_pos c66] at H
               have c66b0 : decide (t254 < 0) = true := decide_eq_true c66
               clear c66
               exact absurd ((Option.some.inj H).trans hr_) (by decide)
              ·
               rw [if_neg c66] at H
               have c66b0 : decide (t254 < 0) = false := decide_eq_false c66
               clear c66
               by_cases c67 : t254 = t240
               ·
                rw [if_pos c67] at H
                have c67b0 : (t254 == t240) = true := beq_iff_eq.mpr c67
                have c67b1 : (t254 != t240) = false := bne_eq_false_iff_eq.mpr c67
                clear c67
                obtain rfl := Option.some.inj H
                go_wp2_with (first | ((with_reducible refine gate_callee (f := 20) rfl ?_); refine goesA_ (some 103) Try.func20 #[.slice Ao53 t241.length co53, .int .i64 1] rfl ?_; (with_reducible refine (laws_heldIntSS.calls kj51 _ _ t241 1 t254 _ ?side1 ?side2 A65.out).mono ?_); (case side1 => repeat (first | exact (Kd.S_reads' HO_11.out).2.2 | (with_reducible refine Kd.C_alloc ?_ _) | (with_reducible refine Kd.C_drewN ?_ _) | (with_reducible refine Kd.C_drew ?_))); (case side2 => exact (Kd.S_reads' HO_11.out).2.1); rintro e w' ⟨rfl, ⟨nd, rfl⟩⟩; refine ⟨_, rfl, ?_⟩))
                go_ret
                exact ⟨zr, zb⟩
               ·
                rw [if_neg c67] at H
                have c67b0 : (t254 == t240) = false := beq_eq_false_iff_ne.mpr c67
                have c67b1 : (t254 != t240) = true := bne_iff_ne.mpr c67
                exact absurd ((Option.some.inj H).trans hr_) (by decide)
          ·
           rw [if_neg c48] at H
           have c48b0 : (t242 == t240) = false := beq_eq_false_iff_ne.mpr c48
           have c48b1 : (t242 != t240) = true := bne_iff_ne.mpr c48
           exact absurd ((Option.some.inj H).trans hr_) (by decide)
     ·
      replace c32 := Bool.eq_false_iff.mpr c32
      subst c32
      have H1 : (some false) = some r := by rw [if_neg (show ¬ (false = true) by decide)] at H; exact H
      clear H
      have H := H1
      clear H1
      exact absurd ((Option.some.inj H).trans hr_) (by decide)

end Go.Proofs.Ytjjjikdpegogcaa.PRr
