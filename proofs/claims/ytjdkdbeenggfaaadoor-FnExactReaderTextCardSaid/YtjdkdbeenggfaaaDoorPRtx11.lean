-- Written for this claim by a program of this session (wip/tpl/patchprint.py), not by print.sh.
import Derived.Test.YtjdkdbeenggfaaaDoorPRtx0
import Derived.Test.YtjdkdbeenggfaaaDoorPRtx1
import Derived.Test.YtjdkdbeenggfaaaDoorPRtx5
import Derived.Test.YtjdkdbeenggfaaaDoorPRtx9
import Derived.Test.YtjdkdbeenggfaaaDoorPRtx10
namespace Go.Proofs.YtjdkdbeenggfaaaDoor.PRt
open Go.RowKit Go.Proofs.YtjdkdbeenggfaaaDoorW.PrintWords Go.Proofs.YtjdkdbeenggfaaaDoorW.PrintLast Go.Proofs.YtjdkdbeenggfaaaDoorW.PrintMore
attribute [local go_sem] max2_int min2_int max_two min_two max_three min_three max_four min_four   -- for this text's walks alone
set_option linter.unusedVariables false
set_option linter.unusedSimpArgs false

/-! ### laws_FnExactReaderText: function 4 -/
def laws_FnExactReaderText.j0 : Nat → Bool → List (S62) → Int → List Int → List (S60) → Int → List Int → Option (Bool)
  | 0, _, _, _, _, _, _, _ => none
  | k + 1, x34, x274000, x274001, x274002, x292000, x292001, x292002 => if x34 = true then (some false) else ((laws_toReader.f k x274000 x274001 x274002).bind fun bt294 => ((laws_eqReader.f k x292000 x292001 x292002 bt294.1 bt294.2.1 bt294.2.2).bind fun t301 => (if t301 = true then (some true) else (some false))))
def laws_FnExactReaderText.f (k : Nat) (l0_0 : List (S62)) (a0_1 : Int) (l0_2 : List Int) : Option (Bool) := (laws_szReader.f l0_0 a0_1 l0_2 1048576).bind fun t274 => (if t274 < 0 then (some true) else ((laws_toReader.f k l0_0 a0_1 l0_2).bind fun bt275 => ((spec_ReaderText.f k bt275.1 bt275.2.1 bt275.2.2).bind fun bt282 => ((laws_toReader.f k l0_0 a0_1 l0_2).bind fun bt284 => ((impl_ReaderText.f k bt284.1 bt284.2.1 bt284.2.2).bind fun bt292 => (if bt292.1.toList = bt282.1.toList then (laws_FnExactReaderText.j0 k (bt292.2 != bt282.2) l0_0 a0_1 l0_2 bt284.1 bt284.2.1 bt284.2.2) else (laws_FnExactReaderText.j0 k true l0_0 a0_1 l0_2 bt284.1 bt284.2.1 bt284.2.2)))))))
theorem laws_FnExactReaderText.mono_l : ∀ k, (∀ y0 y1 y2 y3 y4 y5 y6, LeO (laws_FnExactReaderText.j0 k y0 y1 y2 y3 y4 y5 y6) (laws_FnExactReaderText.j0 (k + 1) y0 y1 y2 y3 y4 y5 y6))
  | 0 => fun _ _ _ _ _ _ _ r h => by simp [laws_FnExactReaderText.j0] at h
  | k + 1 => by
    have ih0 := laws_FnExactReaderText.mono_l k
    · intro y0 y1 y2 y3 y4 y5 y6
      unfold laws_FnExactReaderText.j0
      repeat' first
      | (with_reducible exact ih0 _ _ _ _ _ _ _)
      | (with_reducible exact impl_ReaderText.mono _ _ _ _)
      | (with_reducible exact laws_eqReader.mono _ _ _ _ _ _ _)
      | (with_reducible exact laws_toReader.mono _ _ _ _)
      | (with_reducible exact spec_ReaderText.mono _ _ _ _)
      | (with_reducible exact LeO.refl _)
      | (with_reducible exact LeO.none _)
      | (with_reducible refine LeO.ite ?_ ?_)
      | (with_reducible refine LeO.bind ?_ (fun _ => ?_))
      | exact ih0 _ _ _ _ _ _ _
      | exact impl_ReaderText.mono _ _ _ _
      | exact laws_eqReader.mono _ _ _ _ _ _ _
      | exact laws_toReader.mono _ _ _ _
      | exact spec_ReaderText.mono _ _ _ _
      | exact LeO.none _
      | refine LeO.ite ?_ ?_
      | refine LeO.bind ?_ (fun _ => ?_)
theorem laws_FnExactReaderText.mono : ∀ a0 a1 a2 k, LeO (laws_FnExactReaderText.f k a0 a1 a2) (laws_FnExactReaderText.f (k + 1) a0 a1 a2) := by
  intro a0 a1 a2 k
  have ih0 := laws_FnExactReaderText.mono_l k
  unfold laws_FnExactReaderText.f
  repeat' first
      | (with_reducible exact ih0 _ _ _ _ _ _ _)
      | (with_reducible exact impl_ReaderText.mono _ _ _ _)
      | (with_reducible exact laws_eqReader.mono _ _ _ _ _ _ _)
      | (with_reducible exact laws_toReader.mono _ _ _ _)
      | (with_reducible exact spec_ReaderText.mono _ _ _ _)
      | (with_reducible exact LeO.refl _)
      | (with_reducible exact LeO.none _)
      | (with_reducible refine LeO.ite ?_ ?_)
      | (with_reducible refine LeO.bind ?_ (fun _ => ?_))
      | exact ih0 _ _ _ _ _ _ _
      | exact impl_ReaderText.mono _ _ _ _
      | exact laws_eqReader.mono _ _ _ _ _ _ _
      | exact laws_toReader.mono _ _ _ _
      | exact spec_ReaderText.mono _ _ _ _
      | exact LeO.none _
      | refine LeO.ite ?_ ?_
      | refine LeO.bind ?_ (fun _ => ?_)
theorem laws_FnExactReaderText.j0_t {k : Nat} : ∀ {a1_ a2_ a3_ a4_ a5_ a6_}, laws_FnExactReaderText.j0 k true a1_ a2_ a3_ a4_ a5_ a6_ = some true → False := by
  intros; rename_i h; revert h; cases k <;> simp [laws_FnExactReaderText.j0]
set_option maxHeartbeats 8000000 in
set_option maxRecDepth 100000 in
theorem laws_FnExactReaderText.calls (k : Nat) (A0_0 : Option Addr) (c0_0 : Nat) (l0_0 : List (S62)) (a0_1 : Int) (A0_2 : Option Addr) (c0_2 : Nat) (l0_2 : List Int) (r : Bool) (w : World) (hr0_0 : Kd.C k62 w A0_0 l0_0.length l0_0) (hc0_0 : l0_0.length ≤ c0_0) (hr0_2 : Kd.C (Kd.int .i64) w A0_2 l0_2.length l0_2) (hc0_2 : l0_2.length ≤ c0_2) (h : laws_FnExactReaderText.f k l0_0 a0_1 l0_2 = some r) (hr_ : r = true) (ht : Lib.HTab w := by exact Lib.zt HT0.out zb) :
  Calls Tryd.prog 4 #[.agg #[.slice A0_0 l0_0.length c0_0, .int .i64 a0_1, .slice A0_2 l0_2.length c0_2]] w fun e w' => e = .returned (.bool r) ∧ Below w.heap.size w w' := by
 have HT0 := zm ht
 clear ht
 have hu42 := Tryd.underlying42
 have hu46 := Tryd.underlying46
 have HR0_0 := zm hr0_0
 have HC0_0 := zm hc0_0
 clear hr0_0 hc0_0
 have HR0_2 := zm hr0_2
 have HC0_2 := zm hc0_2
 clear hr0_2 hc0_2
 have HB := zm (Below.refl w.heap.size w)
 have H : ((laws_szReader.f l0_0 a0_1 l0_2 1048576).bind fun t274 => (if t274 < 0 then (some true) else ((laws_toReader.f k l0_0 a0_1 l0_2).bind fun bt275 => ((spec_ReaderText.f k bt275.1 bt275.2.1 bt275.2.2).bind fun bt282 => ((laws_toReader.f k l0_0 a0_1 l0_2).bind fun bt284 => ((impl_ReaderText.f k bt284.1 bt284.2.1 bt284.2.2).bind fun bt292 => (if bt292.1.toList = bt282.1.toList then (laws_FnExactReaderText.j0 k (bt292.2 != bt282.2) l0_0 a0_1 l0_2 bt284.1 bt284.2.1 bt284.2.2) else (laws_FnExactReaderText.j0 k true l0_0 a0_1 l0_2 bt284.1 bt284.2.1 bt284.2.2)))))))) = some r := h
 clear h
 replace H := Option.bind_eq_some_iff.mp H
 obtain ⟨t274, A20, H⟩ := H
 (try dsimp only at H)
 have A2 := zm A20
 clear A20
 by_cases c3 : t274 < 0
 ·
  rw [if_pos c3] at H
  have c3b0 : decide (t274 < 0) = true := decide_eq_true c3
  clear c3
  obtain rfl := Option.some.inj H
  go_enter Tryd.func4, Tryd.ntmps4
  go_wp2_with (first | ((with_reducible refine gate_dst (N := 1) rfl ?_); refine box_event ?hg (N := 1) ?hd (cs := #[.slice A0_0 l0_0.length c0_0, .int .i64 a0_1, .slice A0_2 l0_2.length c0_2]) (t := 42) ?hr ?_; (case hd => rfl); (case hg => rfl); (case hr => first | (go_simp; done) | (go_simp; rfl)); intro gb273 hg w4 hbox hb; have n0_ := zm (below_step zb hb); have BK273 := zm (hbox); have GW273 := zm (zs hg zb : w.heap.size ≤ gb273); have GE273 := zm (zs hg zb : w.heap.size ≤ gb273); replace HB := n0_; clear n0_; clear hb hbox hg; obtain ⟨hcz5_0, hcz5_1, hcz5_2, hfz5_0, hfz5_1, hfz5_2⟩ := zc3 BK273.out) | ((with_reducible refine gate_callee (f := 14) rfl ?_); refine goesA_ (some 11) Tryd.func14 #[.agg #[.slice A0_0 l0_0.length c0_0, .int .i64 a0_1, .slice A0_2 l0_2.length c0_2], .int .i64 1048576] rfl ?_; (with_reducible refine (laws_szReader.calls _ _ l0_0 a0_1 _ _ l0_2 1048576 t274 _ ?side1 ?side2 ?side3 ?side4 A2.out).mono ?_); (case side1 => repeat (first | exact (Kd.C_below HR0_0.out HB.out) | (with_reducible refine Kd.C_alloc ?_ _) | (with_reducible refine Kd.C_drewN ?_ _) | (with_reducible refine Kd.C_drew ?_))); (case side2 => exact HC0_0.out); (case side3 => repeat (first | exact (Kd.C_below HR0_2.out HB.out) | (with_reducible refine Kd.C_alloc ?_ _) | (with_reducible refine Kd.C_drewN ?_ _) | (with_reducible refine Kd.C_drew ?_))); (case side4 => exact HC0_2.out); rintro e w6 ⟨rfl, hb⟩; refine ⟨_, rfl, ?_⟩; replace BK273 := zm (blk_below (g := gb273) (o := .cells #[.slice A0_0 l0_0.length c0_0, .int .i64 a0_1, .slice A0_2 l0_2.length c0_2] 42 (0, 0)) zk hb); replace HB := zm (below_step zb hb); (try clear hb); (try clear hb2); (try clear hk); (try clear hi)))
  go_ret
  exact ⟨zr, zb⟩
 rw [if_neg c3] at H
 have c3b0 : decide (t274 < 0) = false := decide_eq_false c3
 clear c3
 replace H := Option.bind_eq_some_iff.mp H
 obtain ⟨⟨t275, t278, t279⟩, A70, H⟩ := H
 (try dsimp only at H)
 have A7 := zm A70
 clear A70
 replace H := Option.bind_eq_some_iff.mp H
 obtain ⟨⟨t282, t283⟩, A80, H⟩ := H
 (try dsimp only at H)
 have A8 := zm A80
 clear A80
 replace H := Option.bind_eq_some_iff.mp H
 obtain ⟨⟨t284, t287, t288⟩, A90, H⟩ := H
 (try dsimp only at H)
 have A9 := zm A90
 clear A90
 replace H := Option.bind_eq_some_iff.mp H
 obtain ⟨⟨t292, t293⟩, A100, H⟩ := H
 (try dsimp only at H)
 have A10 := zm A100
 clear A100
 have HC11 := zm H
 clear H
 go_enter Tryd.func4, Tryd.ntmps4
 go_upto_region 8 with (first | ((with_reducible refine gate_dst (N := 1) rfl ?_); refine box_event ?hg (N := 1) ?hd (cs := #[.slice A0_0 l0_0.length c0_0, .int .i64 a0_1, .slice A0_2 l0_2.length c0_2]) (t := 42) ?hr ?_; (case hd => rfl); (case hg => rfl); (case hr => first | (go_simp; done) | (go_simp; rfl)); intro gb273 hg w12 hbox hb; have n0_ := zm (below_step zb hb); have BK273 := zm (hbox); have GW273 := zm (zs hg zb : w.heap.size ≤ gb273); have GE273 := zm (zs hg zb : w.heap.size ≤ gb273); replace HB := n0_; clear n0_; clear hb hbox hg; obtain ⟨hcz13_0, hcz13_1, hcz13_2, hfz13_0, hfz13_1, hfz13_2⟩ := zc3 BK273.out) | ((with_reducible refine gate_callee (f := 14) rfl ?_); refine goesA_ (some 11) Tryd.func14 #[.agg #[.slice A0_0 l0_0.length c0_0, .int .i64 a0_1, .slice A0_2 l0_2.length c0_2], .int .i64 1048576] rfl ?_; (with_reducible refine (laws_szReader.calls _ _ l0_0 a0_1 _ _ l0_2 1048576 t274 _ ?side1 ?side2 ?side3 ?side4 A2.out).mono ?_); (case side1 => repeat (first | exact (Kd.C_below HR0_0.out HB.out) | (with_reducible refine Kd.C_alloc ?_ _) | (with_reducible refine Kd.C_drewN ?_ _) | (with_reducible refine Kd.C_drew ?_))); (case side2 => exact HC0_0.out); (case side3 => repeat (first | exact (Kd.C_below HR0_2.out HB.out) | (with_reducible refine Kd.C_alloc ?_ _) | (with_reducible refine Kd.C_drewN ?_ _) | (with_reducible refine Kd.C_drew ?_))); (case side4 => exact HC0_2.out); rintro e w14 ⟨rfl, hb⟩; refine ⟨_, rfl, ?_⟩; replace BK273 := zm (blk_below (g := gb273) (o := .cells #[.slice A0_0 l0_0.length c0_0, .int .i64 a0_1, .slice A0_2 l0_2.length c0_2] 42 (0, 0)) zk hb); replace HB := zm (below_step zb hb); (try clear hb); (try clear hb2); (try clear hk); (try clear hi); obtain ⟨hcz15_0, hcz15_1, hcz15_2, hfz15_0, hfz15_1, hfz15_2⟩ := zc3 BK273.out) | ((with_reducible refine gate_callee (f := 16) rfl ?_); refine goesA_ (some 16) Tryd.func16 #[.agg #[.slice A0_0 l0_0.length c0_0, .int .i64 a0_1, .slice A0_2 l0_2.length c0_2]] rfl ?_; (with_reducible refine (laws_toReader.calls k _ _ l0_0 a0_1 _ _ l0_2 t275 t278 t279 _ ?side1 ?side2 ?side3 ?side4 A7.out).mono ?_); (case side1 => repeat (first | exact (Kd.C_below HR0_0.out HB.out) | (with_reducible refine Kd.C_alloc ?_ _) | (with_reducible refine Kd.C_drewN ?_ _) | (with_reducible refine Kd.C_drew ?_))); (case side2 => exact HC0_0.out); (case side3 => repeat (first | exact (Kd.C_below HR0_2.out HB.out) | (with_reducible refine Kd.C_alloc ?_ _) | (with_reducible refine Kd.C_drewN ?_ _) | (with_reducible refine Kd.C_drew ?_))); (case side4 => exact HC0_2.out); rintro e w16 ⟨v276, v280, rfl, ho0, ho1, hb⟩; refine ⟨_, rfl, ?_⟩; have HO277 := zm (Kd.R_lower ho0 (below_size zb)); have HO281 := zm (Kd.R_lower ho1 (below_size zb)); replace BK273 := zm (blk_below (g := gb273) (o := .cells #[.slice A0_0 l0_0.length c0_0, .int .i64 a0_1, .slice A0_2 l0_2.length c0_2] 42 (0, 0)) zk hb); replace HB := zm (below_step zb hb); (try clear hb); (try clear hb2); (try clear hk); (try clear hi); (try clear ho0); (try clear ho1); obtain ⟨Ao17, co17, eo17⟩ := Kd.R_slice HO277.out; subst eo17; obtain ⟨Ao18, co18, eo18⟩ := Kd.R_slice HO281.out; subst eo18) | ((with_reducible refine gate_callee (f := 15) rfl ?_); refine goesA_ (some 17) Tryd.func15 #[.agg #[.slice Ao17 t275.length co17, .int .i64 t278, .slice Ao18 t279.length co18]] rfl ?_; (with_reducible refine (spec_ReaderText.calls k _ _ t275 t278 _ _ t279 t282 t283 _ ?side1 ?side2 ?side3 ?side4 A8.out).mono ?_); (case side1 => repeat (first | exact (Kd.R_reads' HO277.out).2.2 | (with_reducible refine Kd.C_alloc ?_ _) | (with_reducible refine Kd.C_drewN ?_ _) | (with_reducible refine Kd.C_drew ?_))); (case side2 => exact (Kd.R_reads' HO277.out).2.1); (case side3 => repeat (first | exact (Kd.R_reads' HO281.out).2.2 | (with_reducible refine Kd.C_alloc ?_ _) | (with_reducible refine Kd.C_drewN ?_ _) | (with_reducible refine Kd.C_drew ?_))); (case side4 => exact (Kd.R_reads' HO281.out).2.1); rintro e w19 ⟨rfl, hb⟩; refine ⟨_, rfl, ?_⟩; replace HO277 := zm (Kd.R_below (zP HO277.out) hb); replace HO281 := zm (Kd.R_below (zP HO281.out) hb); replace BK273 := zm (blk_below (g := gb273) (o := .cells #[.slice A0_0 l0_0.length c0_0, .int .i64 a0_1, .slice A0_2 l0_2.length c0_2] 42 (0, 0)) zk hb); replace HB := zm (below_step zb hb); (try clear hb); (try clear hb2); (try clear hk); (try clear hi); obtain ⟨hcz20_0, hcz20_1, hcz20_2, hfz20_0, hfz20_1, hfz20_2⟩ := zc3 BK273.out) | ((with_reducible refine gate_callee (f := 16) rfl ?_); refine goesA_ (some 21) Tryd.func16 #[.agg #[.slice A0_0 l0_0.length c0_0, .int .i64 a0_1, .slice A0_2 l0_2.length c0_2]] rfl ?_; (with_reducible refine (laws_toReader.calls k _ _ l0_0 a0_1 _ _ l0_2 t284 t287 t288 _ ?side1 ?side2 ?side3 ?side4 A9.out).mono ?_); (case side1 => repeat (first | exact (Kd.C_below HR0_0.out HB.out) | (with_reducible refine Kd.C_alloc ?_ _) | (with_reducible refine Kd.C_drewN ?_ _) | (with_reducible refine Kd.C_drew ?_))); (case side2 => exact HC0_0.out); (case side3 => repeat (first | exact (Kd.C_below HR0_2.out HB.out) | (with_reducible refine Kd.C_alloc ?_ _) | (with_reducible refine Kd.C_drewN ?_ _) | (with_reducible refine Kd.C_drew ?_))); (case side4 => exact HC0_2.out); rintro e w21 ⟨v285, v289, rfl, ho0, ho1, hb⟩; refine ⟨_, rfl, ?_⟩; have n0_ := zm (Kd.R_elder' (zP HO277.out) (Kd.R_base ho0) hb); have n1_ := zm (Kd.R_elder' (zP HO281.out) (Kd.R_base ho1) hb); have HO286 := zm (Kd.R_lower (Kd.R_new' ho0 (Kd.R_lt (zP HO277.out))) (below_size zb)); have HO290 := zm (Kd.R_lower (Kd.R_new' ho1 (Kd.R_lt (zP HO281.out))) (below_size zb)); replace BK273 := zm (blk_below (g := gb273) (o := .cells #[.slice A0_0 l0_0.length c0_0, .int .i64 a0_1, .slice A0_2 l0_2.length c0_2] 42 (0, 0)) zk hb); replace HB := zm (below_step zb hb); replace HO277 := n0_; replace HO281 := n1_; clear n0_ n1_; (try clear hb); (try clear hb2); (try clear hk); (try clear hi); (try clear ho0); (try clear ho1)) | ((with_reducible refine gate_dst (N := 6) rfl ?_); refine box_event ?hg (N := 6) ?hd (cs := #[.slice none 0 0, .int .i64 0, .slice none 0 0]) (t := 46) ?hr ?_; (case hd => rfl); (case hg => rfl); (case hr => first | (go_simp; done) | (go_simp; rfl)); intro gb291 hg w22 hbox hb; replace HO277 := zm (Kd.R_below (zP HO277.out) hb); replace HO281 := zm (Kd.R_below (zP HO281.out) hb); replace HO286 := zm (Kd.R_below (zP HO286.out) hb); replace HO290 := zm (Kd.R_below (zP HO290.out) hb); have n4_ := zm (blk_below (g := gb273) (o := .cells #[.slice A0_0 l0_0.length c0_0, .int .i64 a0_1, .slice A0_2 l0_2.length c0_2] 42 (0, 0)) zk hb); have n5_ := zm (below_step zb hb); have BK291 := zm (hbox); have GW291 := zm (zs hg zb : w.heap.size ≤ gb291); have GE291 := zm (zs hg zb : w.heap.size ≤ gb291); have NB273_291 := zm (zl hg zk : gb273 ≠ gb291); have NB291_273 := zm (zg hg zk : gb291 ≠ gb273); replace BK273 := n4_; replace HB := n5_; clear n4_ n5_; clear hb hbox hg; obtain ⟨Ao23, co23, eo23⟩ := Kd.R_slice HO286.out; subst eo23; have hnb24 := NB291_273.out; have hnc24 := NB273_291.out; obtain ⟨hcz25_0, hcz25_1, hcz25_2, hfz25_0, hfz25_1, hfz25_2⟩ := zc3 BK291.out; obtain ⟨Ao26, co26, eo26⟩ := Kd.R_slice HO290.out; subst eo26) | ((with_reducible refine gate_callee (f := 17) rfl ?_); refine goesA_ (some 24) Tryd.func17 #[.agg #[.slice Ao23 t284.length co23, .int .i64 t287, .slice Ao26 t288.length co26]] rfl ?_; (with_reducible refine (impl_ReaderText.calls k _ _ t284 t287 _ _ t288 t292 t293 _ ?side1 ?side2 ?side3 ?side4 A10.out).mono ?_); (case side1 => refine (Kd.R_reads' (e := 60) (base := w.heap.size) (ok := fun k_ => (True ∧ some k_ ≠ (.slice Ao17 t275.length co17 : Value).ownBlock)) (n := t284.length) (c := co23) ?_).2.2; exact (zP ((Kd.R_mono (Kd.R_far (p := ⟨gb291, 2, none⟩) (Kd.R_far (p := ⟨gb291, 1, none⟩) (Kd.R_far (p := ⟨gb291, 0, none⟩) (Kd.R_types HO286.out BK291.out (by decide)) (fun _ hk => hk.2) (.slice Ao23 t284.length co23)) (fun _ hk => hk.2) (.int .i64 t287)) (fun _ hk => hk.2) (.slice Ao26 t288.length co26)) (fun _ h_ => by first | exact h_.1 | simpa only [and_assoc, and_comm, and_left_comm] using h_.1))))); (case side2 => exact (Kd.R_reads' HO286.out).2.1); (case side3 => refine (Kd.R_reads' (e := 3) (base := w.heap.size) (ok := fun k_ => (True ∧ some k_ ≠ (.slice Ao18 t279.length co18 : Value).ownBlock)) (n := t288.length) (c := co26) ?_).2.2; exact (zP ((Kd.R_mono (Kd.R_far (p := ⟨gb291, 2, none⟩) (Kd.R_far (p := ⟨gb291, 1, none⟩) (Kd.R_far (p := ⟨gb291, 0, none⟩) (Kd.R_types HO290.out BK291.out (by decide)) (fun _ hk => hk.2) (.slice Ao23 t284.length co23)) (fun _ hk => hk.2) (.int .i64 t287)) (fun _ hk => hk.2) (.slice Ao26 t288.length co26)) (fun _ h_ => by first | exact h_.1 | simpa only [and_assoc, and_comm, and_left_comm] using h_.1))))); (case side4 => exact (Kd.R_reads' HO290.out).2.1); rintro e w27 ⟨rfl, hb⟩; refine ⟨_, rfl, ?_⟩; replace HO277 := zm (Kd.R_below (zP ((Kd.R_mono (Kd.R_far (p := ⟨gb291, 2, none⟩) (Kd.R_far (p := ⟨gb291, 1, none⟩) (Kd.R_far (p := ⟨gb291, 0, none⟩) (Kd.R_types HO277.out BK291.out (by decide)) (fun _ hk => hk.2) (.slice Ao23 t284.length co23)) (fun _ hk => hk.2) (.int .i64 t287)) (fun _ hk => hk.2) (.slice Ao26 t288.length co26)) (fun _ h_ => by first | exact h_.1 | simpa only [and_assoc, and_comm, and_left_comm] using h_.1)))) hb); replace HO281 := zm (Kd.R_below (zP ((Kd.R_mono (Kd.R_far (p := ⟨gb291, 2, none⟩) (Kd.R_far (p := ⟨gb291, 1, none⟩) (Kd.R_far (p := ⟨gb291, 0, none⟩) (Kd.R_types HO281.out BK291.out (by decide)) (fun _ hk => hk.2) (.slice Ao23 t284.length co23)) (fun _ hk => hk.2) (.int .i64 t287)) (fun _ hk => hk.2) (.slice Ao26 t288.length co26)) (fun _ h_ => by first | exact h_.1 | simpa only [and_assoc, and_comm, and_left_comm] using h_.1)))) hb); replace HO286 := zm (Kd.R_below (zP ((Kd.R_mono (Kd.R_far (p := ⟨gb291, 2, none⟩) (Kd.R_far (p := ⟨gb291, 1, none⟩) (Kd.R_far (p := ⟨gb291, 0, none⟩) (Kd.R_types HO286.out BK291.out (by decide)) (fun _ hk => hk.2) (.slice Ao23 t284.length co23)) (fun _ hk => hk.2) (.int .i64 t287)) (fun _ hk => hk.2) (.slice Ao26 t288.length co26)) (fun _ h_ => by first | exact h_.1 | simpa only [and_assoc, and_comm, and_left_comm] using h_.1)))) hb); replace HO290 := zm (Kd.R_below (zP ((Kd.R_mono (Kd.R_far (p := ⟨gb291, 2, none⟩) (Kd.R_far (p := ⟨gb291, 1, none⟩) (Kd.R_far (p := ⟨gb291, 0, none⟩) (Kd.R_types HO290.out BK291.out (by decide)) (fun _ hk => hk.2) (.slice Ao23 t284.length co23)) (fun _ hk => hk.2) (.int .i64 t287)) (fun _ hk => hk.2) (.slice Ao26 t288.length co26)) (fun _ h_ => by first | exact h_.1 | simpa only [and_assoc, and_comm, and_left_comm] using h_.1)))) hb); replace BK273 := zm (blk_below (g := gb273) (o := .cells #[.slice A0_0 l0_0.length c0_0, .int .i64 a0_1, .slice A0_2 l0_2.length c0_2] 42 (0, 0)) zK hb); replace BK291 := zm (blk_below (g := gb291) (o := .cells #[.slice Ao23 t284.length co23, .int .i64 t287, .slice Ao26 t288.length co26] 46 (0, 0)) (by (with_reducible repeat (first | refine blk_drewN ?_ _ | refine blk_drew ?_ | refine blk_alloc ?_ _)); refine blk_put (cs := #[.slice Ao23 t284.length co23, .int .i64 t287, .slice none 0 0]) ?_ 2 _ rfl; (with_reducible repeat (first | refine blk_drewN ?_ _ | refine blk_drew ?_ | refine blk_alloc ?_ _)); refine blk_put (cs := #[.slice Ao23 t284.length co23, .int .i64 0, .slice none 0 0]) ?_ 1 _ rfl; (with_reducible repeat (first | refine blk_drewN ?_ _ | refine blk_drew ?_ | refine blk_alloc ?_ _)); refine blk_put (cs := #[.slice none 0 0, .int .i64 0, .slice none 0 0]) ?_ 0 _ rfl; (with_reducible repeat (first | refine blk_drewN ?_ _ | refine blk_drew ?_ | refine blk_alloc ?_ _)); exact BK291.out) hb); replace HB := zm (below_step zb hb); (try clear hb); (try clear hb2); (try clear hk); (try clear hi)))
 (try simp only [Act.put, List.setIfInBounds_toArray, List.set_cons_zero, List.set_cons_succ])
 go_cut [34] (fun v34 wc => ∃ (kq : Nat) (x34_10 : Bool), v34 = .bool x34_10 ∧ Aside0 (laws_FnExactReaderText.j0 kq x34_10 l0_0 a0_1 l0_2 t284 t287 t288 = some r) ∧ Aside0 (kq ≤ k) ∧ Aside0 (Kd.R k60 60 wc w.heap.size (fun _ => True) (.slice Ao23 t284.length co23) t284) ∧ Aside0 (Kd.R (Kd.int .i64) 3 wc w.heap.size (fun _ => True) (.slice Ao26 t288.length co26) t288) ∧ Aside0 (wc.heap[gb273]? = some (.cells #[(.slice A0_0 l0_0.length c0_0), .int .i64 a0_1, (.slice A0_2 l0_2.length c0_2)] 42 (0, 0))) ∧ Aside0 (wc.heap[gb291]? = some (.cells #[(.slice Ao23 t284.length co23), .int .i64 t287, (.slice Ao26 t288.length co26)] 46 (0, 0))) ∧ Aside0 (Below w.heap.size w wc))
 case first =>
  have H := HC11.out
  clear HC11
  by_cases c28 : t292.toList = t282.toList
  rotate_left
  ·
   rw [if_neg c28] at H
   have c28b0 : (t292.toList == t282.toList) = false := beq_eq_false_iff_ne.mpr c28
   have c28b1 : (t292.toList != t282.toList) = true := bne_iff_ne.mpr c28
   (first | rw [c28b0] | (simp only [i64_w, i32_w]; rw [c28b0]) | skip)
   exact (laws_FnExactReaderText.j0_t (H.trans (congrArg some hr_))).elim
  rw [if_pos c28] at H
  have c28b0 : (t292.toList == t282.toList) = true := beq_iff_eq.mpr c28
  have c28b1 : (t292.toList != t282.toList) = false := bne_eq_false_iff_eq.mpr c28
  clear c28
  (first | rw [c28b0] | (simp only [i64_w, i32_w]; rw [c28b0]) | skip)
  have H' := zm H
  clear H
  go_wp2
  go_meet
  case rel => exact ⟨_, ((t293 != t283)), (by first | rfl | (simp; done) | (simp [*]; done)), H', ⟨by first | omega | exact Nat.le_refl _⟩, ⟨zP (Kd.R_mono HO286.out (fun _ hk => trivial))⟩, ⟨zP (Kd.R_mono HO290.out (fun _ hk => trivial))⟩, ⟨zk⟩, ⟨zk⟩, ⟨zb⟩⟩
 case rest =>
  clear HC11
  (try clear c1); (try clear c2); (try clear p2); (try clear c3); (try clear c3b0); (try clear c4); (try clear c14); (try clear c15); (try clear c16); (try clear c17); (try clear c24); (try clear c28); (try clear c28b0); (try clear c28b1); (try clear hcz13_0); (try clear hcz13_1); (try clear hcz13_2); (try clear hcz15_0); (try clear hcz15_1); (try clear hcz15_2); (try clear hcz20_0); (try clear hcz20_1); (try clear hcz20_2); (try clear hcz25_0); (try clear hcz25_1); (try clear hcz25_2); (try clear hcz5_0); (try clear hcz5_1); (try clear hcz5_2); (try clear hfz13_0); (try clear hfz13_1); (try clear hfz13_2); (try clear hfz15_0); (try clear hfz15_1); (try clear hfz15_2); (try clear hfz20_0); (try clear hfz20_1); (try clear hfz20_2); (try clear hfz25_0); (try clear hfz25_1); (try clear hfz25_2); (try clear hfz5_0); (try clear hfz5_1); (try clear hfz5_2)
  obtain ⟨kq, x34_10, rfl, HA, HJ10, HO_292000, HO_292002, BK273, BK291, HB⟩ := hcut
  cases kq with
  | zero => exact absurd HA.out (by simp [laws_FnExactReaderText.j0])
  | succ kj10 =>
   have H := HA.out
   clear HA
   simp only [laws_FnExactReaderText.j0] at H
   by_cases c29 : x34_10 = true
   ·
    subst c29
    have H1 : (some false) = some r := by rw [if_pos rfl] at H; exact H
    clear H
    have H := H1
    clear H1
    exact absurd ((Option.some.inj H).trans hr_) (by decide)
   replace c29 := Bool.eq_false_iff.mpr c29
   subst c29
   have H1 : ((laws_toReader.f kj10 l0_0 a0_1 l0_2).bind fun bt294 => ((laws_eqReader.f kj10 t284 t287 t288 bt294.1 bt294.2.1 bt294.2.2).bind fun t301 => (if t301 = true then (some true) else (some false)))) = some r := by rw [if_neg (show ¬ (false = true) by decide)] at H; exact H
   clear H
   have H := H1
   clear H1
   replace H := Option.bind_eq_some_iff.mp H
   obtain ⟨⟨t294, t297, t298⟩, A300, H⟩ := H
   (try dsimp only at H)
   have A30 := zm A300
   clear A300
   replace H := Option.bind_eq_some_iff.mp H
   obtain ⟨t301, A310, H⟩ := H
   (try dsimp only at H)
   have A31 := zm A310
   clear A310
   by_cases c32 : t301 = true
   rotate_left
   ·
    replace c32 := Bool.eq_false_iff.mpr c32
    subst c32
    have H1 : (some false) = some r := by rw [if_neg (show ¬ (false = true) by decide)] at H; exact H
    clear H
    have H := H1
    clear H1
    exact absurd ((Option.some.inj H).trans hr_) (by decide)

   subst c32
   have H1 : (some true) = some r := by rw [if_pos rfl] at H; exact H
   clear H
   have H := H1
   clear H1
   obtain rfl := Option.some.inj H
   try go_wp2
   have n0_ := zm (Kd.R_drew HO_292000.out)
   have n1_ := zm (Kd.R_drew HO_292002.out)
   have n2_ := zm (blk_drew BK273.out)
   have n3_ := zm (blk_drew BK291.out)
   have n4_ := zm (below_drew1 HB.out)
   clear HO_292000
   clear HO_292002
   clear BK273
   clear BK291
   clear HB
   have HO_292000 := n0_
   have HO_292002 := n1_
   have BK273 := n2_
   have BK291 := n3_
   have HB := n4_
   clear n0_ n1_ n2_ n3_ n4_
   refine start_ (n := 5) (S := fun w' => w'.cell? ⟨gb291, 0, none⟩ = some (.slice Ao23 t284.length co23) ∧ w'.cell? ⟨gb291, 1, none⟩ = some (.int .i64 t287) ∧ w'.cell? ⟨gb291, 2, none⟩ = some (.slice Ao26 t288.length co26) ∧ w'.cell? ⟨gb273, 0, none⟩ = some (.slice A0_0 l0_0.length c0_0) ∧ w'.cell? ⟨gb273, 1, none⟩ = some (.int .i64 a0_1) ∧ w'.cell? ⟨gb273, 2, none⟩ = some (.slice A0_2 l0_2.length c0_2)) (ds := []) #[false, false, false, false, false] (by kernel_rfl) rfl rfl ⟨(blk_cell BK291.out 0).trans rfl, (blk_cell BK291.out 1).trans rfl, (blk_cell BK291.out 2).trans rfl, (blk_cell BK273.out 0).trans rfl, (blk_cell BK273.out 1).trans rfl, (blk_cell BK273.out 2).trans rfl⟩ (fun hHeld => ?_)
   generalize wc.drew = w33 at HO_292000 HO_292002 BK273 BK291 HB hHeld ⊢
   refine take_ (i := 0) (N := some 35) (v := ?_) (a' := ?_) #[true, false, false, false, false] rfl rfl (by kernel_rfl) (fun _ _ _ h => h) (Or.inl ⟨by rfl, ?_⟩) hHeld ?_ ?_
   rotate_left
   ·
    rintro w' ⟨s0, s1, s2, s3, s4, s5⟩
    go_simp
    with_reducible rfl
   rotate_left
   ·
    simp only [Act.put, zA, zB, zD, i64_w, i32_w]
    rfl
   refine take_ (i := 1) (N := some 36) (v := ?_) (a' := ?_) #[true, true, false, false, false] rfl rfl (by kernel_rfl) (fun _ _ _ h => h) (Or.inl ⟨by rfl, ?_⟩) hHeld ?_ ?_
   rotate_left
   ·
    rintro w' ⟨s0, s1, s2, s3, s4, s5⟩
    go_simp
    with_reducible rfl
   rotate_left
   ·
    simp only [Act.put, zA, zB, zD, i64_w, i32_w]
    rfl
   refine one_ (i := 2) (N := some 37) #[true, true, true, false, false] rfl rfl (by kernel_rfl) (by decide) (fun K hK => ?_)
   refine goes_ Tryd.func16 (by kernel_rfl) rfl #[.agg #[.slice A0_0 l0_0.length c0_0, .int .i64 a0_1, .slice A0_2 l0_2.length c0_2]] (by rfl) rfl rfl (by (try simp only [List.map_toArray, List.map_cons, List.map_nil]); first | done | rfl | (simp only [List.length_drop, List.length_take]; rfl)) ?_
   with_reducible refine (laws_toReader.calls kj10 _ _ l0_0 a0_1 _ _ l0_2 t294 t297 t298 _ ?side1 ?side2 ?side3 ?side4 A30.out).mono ?_
   (case side1 => repeat (first | exact (Kd.C_below HR0_0.out HB.out) | (with_reducible refine Kd.C_alloc ?_ _) | (with_reducible refine Kd.C_drewN ?_ _) | (with_reducible refine Kd.C_drew ?_)))
   (case side2 => exact HC0_0.out)
   (case side3 => repeat (first | exact (Kd.C_below HR0_2.out HB.out) | (with_reducible refine Kd.C_alloc ?_ _) | (with_reducible refine Kd.C_drewN ?_ _) | (with_reducible refine Kd.C_drew ?_)))
   (case side4 => exact HC0_2.out)
   rintro e w34 ⟨v295, v299, rfl, ho0, ho1, hb⟩
   refine ⟨_, rfl, ?_⟩
   have n0_ := zm (Kd.R_elder' (zP HO_292000.out) (Kd.R_base ho0) hb)
   have n1_ := zm (Kd.R_elder' (zP HO_292002.out) (Kd.R_base ho1) hb)
   have n2_ := zm (Kd.R_lower (Kd.R_new' ho0 (Kd.R_lt (zP HO_292000.out))) (below_size zb))
   have n3_ := zm (Kd.R_lower (Kd.R_new' ho1 (Kd.R_lt (zP HO_292002.out))) (below_size zb))
   have n4_ := zm (blk_below (g := gb273) (o := .cells #[.slice A0_0 l0_0.length c0_0, .int .i64 a0_1, .slice A0_2 l0_2.length c0_2] 42 (0, 0)) zk hb)
   have n5_ := zm (blk_below (g := gb291) (o := .cells #[.slice Ao23 t284.length co23, .int .i64 t287, .slice Ao26 t288.length co26] 46 (0, 0)) zk hb)
   have n6_ := zm (below_step zb hb)
   clear HO_292000
   clear HO_292002
   clear BK273
   clear BK291
   clear HB
   have HO_292000 := n0_
   have HO_292002 := n1_
   have HO296 := n2_
   have HO300 := n3_
   have BK273 := n4_
   have BK291 := n5_
   have HB := n6_
   clear n0_ n1_ n2_ n3_ n4_ n5_ n6_
   (try clear hb)
   (try clear hb2)
   (try clear hk)
   (try clear hi)
   (try clear ho0)
   (try clear ho1)
   obtain ⟨Ao35, co35, eo35⟩ := Kd.R_slice HO296.out
   (first | subst eo35 | (injection eo35 with f1_ f2_ f3_; have f4_ := f1_.symm; have f5_ := f3_.symm; clear f1_ f2_ f3_; subst f4_; subst f5_))
   obtain ⟨Ao36, co36, eo36⟩ := Kd.R_slice HO300.out
   (first | subst eo36 | (injection eo36 with f1_ f2_ f3_; have f4_ := f1_.symm; have f5_ := f3_.symm; clear f1_ f2_ f3_; subst f4_; subst f5_))
   refine hK.out _ _ ⟨(blk_cell BK291.out 0).trans rfl, (blk_cell BK291.out 1).trans rfl, (blk_cell BK291.out 2).trans rfl, (blk_cell BK273.out 0).trans rfl, (blk_cell BK273.out 1).trans rfl, (blk_cell BK273.out 2).trans rfl⟩ (fun hHeld => ?_)
   clear hK K
   refine norm_ (a' := ?_) ?_ ?_
   rotate_left
   ·
    show Act.put _ (some 37) _ = _
    simp only [Act.put, zA, zB, zD, i64_w, i32_w]
    rfl
   refine one_ (i := 3) (N := some 38) #[true, true, true, true, false] rfl rfl (by kernel_rfl) (by decide) (fun K hK => ?_)
   refine goes_ Tryd.func18 (by kernel_rfl) rfl #[.agg #[.slice Ao23 t284.length co23, .int .i64 t287, .slice Ao26 t288.length co26], .agg #[.slice Ao35 t294.length co35, .int .i64 t297, .slice Ao36 t298.length co36]] (by rfl) rfl rfl (by (try simp only [List.map_toArray, List.map_cons, List.map_nil]); first | done | rfl | (simp only [List.length_drop, List.length_take]; rfl)) ?_
   with_reducible refine (laws_eqReader.calls kj10 _ _ t284 t287 _ _ t288 _ _ t294 t297 _ _ t298 true _ ?side1 ?side2 ?side3 ?side4 ?side5 ?side6 ?side7 ?side8 A31.out).mono ?_
   (case side1 => repeat (first | exact (Kd.R_reads' HO_292000.out).2.2 | (with_reducible refine Kd.C_alloc ?_ _) | (with_reducible refine Kd.C_drewN ?_ _) | (with_reducible refine Kd.C_drew ?_)))
   (case side2 => exact (Kd.R_reads' HO_292000.out).2.1)
   (case side3 => repeat (first | exact (Kd.R_reads' HO_292002.out).2.2 | (with_reducible refine Kd.C_alloc ?_ _) | (with_reducible refine Kd.C_drewN ?_ _) | (with_reducible refine Kd.C_drew ?_)))
   (case side4 => exact (Kd.R_reads' HO_292002.out).2.1)
   (case side5 => repeat (first | exact (Kd.R_reads' HO296.out).2.2 | (with_reducible refine Kd.C_alloc ?_ _) | (with_reducible refine Kd.C_drewN ?_ _) | (with_reducible refine Kd.C_drew ?_)))
   (case side6 => exact (Kd.R_reads' HO296.out).2.1)
   (case side7 => repeat (first | exact (Kd.R_reads' HO300.out).2.2 | (with_reducible refine Kd.C_alloc ?_ _) | (with_reducible refine Kd.C_drewN ?_ _) | (with_reducible refine Kd.C_drew ?_)))
   (case side8 => exact (Kd.R_reads' HO300.out).2.1)
   rintro e w37 ⟨rfl, hb⟩
   refine ⟨_, rfl, ?_⟩
   have n0_ := zm (Kd.R_below (zP HO_292000.out) hb)
   have n1_ := zm (Kd.R_below (zP HO_292002.out) hb)
   have n2_ := zm (Kd.R_below (zP HO296.out) hb)
   have n3_ := zm (Kd.R_below (zP HO300.out) hb)
   have n4_ := zm (blk_below (g := gb273) (o := .cells #[.slice A0_0 l0_0.length c0_0, .int .i64 a0_1, .slice A0_2 l0_2.length c0_2] 42 (0, 0)) zk hb)
   have n5_ := zm (blk_below (g := gb291) (o := .cells #[.slice Ao23 t284.length co23, .int .i64 t287, .slice Ao26 t288.length co26] 46 (0, 0)) zk hb)
   have n6_ := zm (below_step zb hb)
   clear HO_292000
   clear HO_292002
   clear HO296
   clear HO300
   clear BK273
   clear BK291
   clear HB
   have HO_292000 := n0_
   have HO_292002 := n1_
   have HO296 := n2_
   have HO300 := n3_
   have BK273 := n4_
   have BK291 := n5_
   have HB := n6_
   clear n0_ n1_ n2_ n3_ n4_ n5_ n6_
   (try clear hb)
   (try clear hb2)
   (try clear hk)
   (try clear hi)
   refine hK.out _ _ ⟨(blk_cell BK291.out 0).trans rfl, (blk_cell BK291.out 1).trans rfl, (blk_cell BK291.out 2).trans rfl, (blk_cell BK273.out 0).trans rfl, (blk_cell BK273.out 1).trans rfl, (blk_cell BK273.out 2).trans rfl⟩ (fun hHeld => ?_)
   clear hK K
   refine norm_ (a' := ?_) ?_ ?_
   rotate_left
   ·
    show Act.put _ (some 38) _ = _
    simp only [Act.put, zA, zB, zD, i64_w, i32_w]
    rfl
   refine pure_ (i := 4) (N := some 39) (v := ?_) (a' := ?_) #[true, true, true, true, true] rfl rfl (by kernel_rfl) (fun _ _ _ h => h) (Or.inl ⟨by rfl, ?_⟩) ?_ ?_
   rotate_left
   ·
    intro w'
    go_simp
    with_reducible rfl
   rotate_left
   ·
    simp only [Act.put, zA, zB, zD, i64_w, i32_w]
    rfl
   refine done_ (by kernel_rfl) ?_
   try go_wp2
   go_ret
   exact ⟨zr, zb⟩
end Go.Proofs.YtjdkdbeenggfaaaDoor.PRt
