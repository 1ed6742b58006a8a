-- Written for this claim by a program of this session (wip/tpl/patchprint.py), not by print.sh.
import Derived.Test.YtjdkdbeenggfaaaDoorPPtx0
import Derived.Test.YtjdkdbeenggfaaaDoorPPtx8
namespace Go.Proofs.YtjdkdbeenggfaaaDoor.PPt
open Go.RowKit Go.Proofs.YtjdkdbeenggfaaaDoorW.PrintWords Go.Proofs.YtjdkdbeenggfaaaDoorW.PrintLast Go.Proofs.YtjdkdbeenggfaaaDoorW.PrintMore
attribute [local go_sem] max2_int min2_int max_two min_two max_three min_three max_four min_four   -- for this text's walks alone
set_option linter.unusedVariables false
set_option linter.unusedSimpArgs false

/-! ### impl_PlayedText: function 11 -/
def impl_PlayedText.l0 : Nat → ByteArray → List (S56) → Int → Int → Option (ByteArray × Bool)
  | 0, _, _, _, _ => none
  | k + 1, x10, x25, x26, x27 => if x27 < x26 then (if 0 ≤ x27 then (if x27 < (x25.length : Int) then ((impl_pitchName.f ((rd_T56 x25 x27).f0)).bind fun t302 => (if t302.size + 1 ≤ 9223372036854775807 then ((impl_words.f k (([(rd_T56 x25 x27).f1, (rd_T56 x25 x27).f2] : List Int))).bind fun t306 => (if (t302 ++ (⟨#[32]⟩ : ByteArray)).size + t306.size ≤ 9223372036854775807 then (if ((t302 ++ (⟨#[32]⟩ : ByteArray)) ++ t306).size + 1 ≤ 9223372036854775807 then (if x10.size + (((t302 ++ (⟨#[32]⟩ : ByteArray)) ++ t306) ++ (⟨#[10]⟩ : ByteArray)).size ≤ 140737488355328 then (impl_PlayedText.l0 k (x10 ++ (((t302 ++ (⟨#[32]⟩ : ByteArray)) ++ t306) ++ (⟨#[10]⟩ : ByteArray))) x25 x26 (wrap64 (x27 + 1))) else (none)) else (none)) else (none))) else (none))) else (none)) else (none)) else (some (x10, true))
def impl_PlayedText.f (k : Nat) (l0_0 : List Int) (a0_1 : Int) (l1 : List (S60)) (a2_0 : Int) (a2_1 : Int) (a2_2 : Int) : Option (ByteArray × Bool) := (impl_canBePlayed.f k l0_0 a0_1 l1 a2_0 a2_1 a2_2).bind fun t293 => (if t293 = true then ((impl_spoken.f k l0_0 a0_1 l1 a2_0 a2_1 a2_2).bind fun bt294 => (impl_PlayedText.l0 k (⟨#[]⟩ : ByteArray) bt294.1 (bt294.1.length : Int) 0)) else (some ((⟨#[]⟩ : ByteArray), false)))
theorem impl_PlayedText.mono_l : ∀ k, (∀ y0 y1 y2 y3, LeO (impl_PlayedText.l0 k y0 y1 y2 y3) (impl_PlayedText.l0 (k + 1) y0 y1 y2 y3))
  | 0 => fun _ _ _ _ r h => by simp [impl_PlayedText.l0] at h
  | k + 1 => by
    have ih0 := impl_PlayedText.mono_l k
    · intro y0 y1 y2 y3
      unfold impl_PlayedText.l0
      repeat' first
      | (with_reducible exact ih0 _ _ _ _)
      | (with_reducible exact impl_canBePlayed.mono _ _ _ _ _ _ _)
      | (with_reducible exact impl_spoken.mono _ _ _ _ _ _ _)
      | (with_reducible exact impl_words.mono _ _)
      | (with_reducible exact LeO.refl _)
      | (with_reducible exact LeO.none _)
      | (with_reducible refine LeO.ite ?_ ?_)
      | (with_reducible refine LeO.bind ?_ (fun _ => ?_))
      | exact ih0 _ _ _ _
      | exact impl_canBePlayed.mono _ _ _ _ _ _ _
      | exact impl_spoken.mono _ _ _ _ _ _ _
      | exact impl_words.mono _ _
      | exact LeO.none _
      | refine LeO.ite ?_ ?_
      | refine LeO.bind ?_ (fun _ => ?_)
theorem impl_PlayedText.mono : ∀ a0 a1 a2 a3 a4 a5 k, LeO (impl_PlayedText.f k a0 a1 a2 a3 a4 a5) (impl_PlayedText.f (k + 1) a0 a1 a2 a3 a4 a5) := by
  intro a0 a1 a2 a3 a4 a5 k
  have ih0 := impl_PlayedText.mono_l k
  unfold impl_PlayedText.f
  repeat' first
      | (with_reducible exact ih0 _ _ _ _)
      | (with_reducible exact impl_canBePlayed.mono _ _ _ _ _ _ _)
      | (with_reducible exact impl_spoken.mono _ _ _ _ _ _ _)
      | (with_reducible exact impl_words.mono _ _)
      | (with_reducible exact LeO.refl _)
      | (with_reducible exact LeO.none _)
      | (with_reducible refine LeO.ite ?_ ?_)
      | (with_reducible refine LeO.bind ?_ (fun _ => ?_))
      | exact ih0 _ _ _ _
      | exact impl_canBePlayed.mono _ _ _ _ _ _ _
      | exact impl_spoken.mono _ _ _ _ _ _ _
      | exact impl_words.mono _ _
      | exact LeO.none _
      | refine LeO.ite ?_ ?_
      | refine LeO.bind ?_ (fun _ => ?_)
def impl_PlayedText.T8 : Bool × List (List Nat × List Nat) := (true, [([], []), ([0], [0]), ([1], [1]), ([2], [2]), ([], []), ([4], [4]), ([], []), ([6], [6]), ([5, 7], [5, 7]), ([8, 2], [8]), ([3, 9], [3, 9]), ([10], [10]), ([11, 9], [11])])
def impl_PlayedText.B8 : List Nat := [0, 1, 3, 7, 0, 16, 0, 64, 240, 503, 1023, 2047, 4095]
theorem impl_PlayedText.tab8 : rtab .any (opsOf Tryd.f11 8) = impl_PlayedText.T8 := by kernel_rfl
theorem impl_PlayedText.bits8 : waitsOk impl_PlayedText.T8.2 impl_PlayedText.B8 = true := by kernel_rfl
set_option maxHeartbeats 8000000 in
set_option maxRecDepth 100000 in
theorem impl_PlayedText.calls (k : Nat) (A0_0 : Option Addr) (c0_0 : Nat) (l0_0 : List Int) (a0_1 : Int) (A1 : Option Addr) (c1 : Nat) (l1 : List (S60)) (a2_0 : Int) (a2_1 : Int) (a2_2 : Int) (r1 : ByteArray) (r2 : Bool) (w : World) (hr0_0 : Kd.C (Kd.int .i64) w A0_0 l0_0.length l0_0) (hc0_0 : l0_0.length ≤ c0_0) (hr1 : Kd.C k60 w A1 l1.length l1) (hc1 : l1.length ≤ c1) (h : impl_PlayedText.f k l0_0 a0_1 l1 a2_0 a2_1 a2_2 = some (r1, r2)) (ht : Lib.HTab w := by exact Lib.zt HT0.out zb) :
  Calls Tryd.prog 11 #[.agg #[.slice A0_0 l0_0.length c0_0, .int .i64 a0_1], .slice A1 l1.length c1, .agg #[.int .i64 a2_0, .int .i64 a2_1, .int .i64 a2_2]] w fun e w' => e = .returned (.tuple #[.string r1, .bool r2]) ∧ Below w.heap.size w w' := by
 have HT0 := zm ht
 clear ht
 have hu32 := Tryd.underlying32
 have hu36 := Tryd.underlying36
 have hu56 := Tryd.underlying56
 have HR0_0 := zm hr0_0
 have HC0_0 := zm hc0_0
 clear hr0_0 hc0_0
 have HR1 := zm hr1
 have HC1 := zm hc1
 clear hr1 hc1
 have HB := zm (Below.refl w.heap.size w)
 have H : ((impl_canBePlayed.f k l0_0 a0_1 l1 a2_0 a2_1 a2_2).bind fun t293 => (if t293 = true then ((impl_spoken.f k l0_0 a0_1 l1 a2_0 a2_1 a2_2).bind fun bt294 => (impl_PlayedText.l0 k (⟨#[]⟩ : ByteArray) bt294.1 (bt294.1.length : Int) 0)) else (some ((⟨#[]⟩ : ByteArray), false)))) = some (r1, r2) := h
 clear h
 replace H := Option.bind_eq_some_iff.mp H
 obtain ⟨t293, A40, H⟩ := H
 (try dsimp only at H)
 have A4 := zm A40
 clear A40
 by_cases c5 : t293 = true
 rotate_left
 ·
  replace c5 := Bool.eq_false_iff.mpr c5
  subst c5
  have H1 : (some ((⟨#[]⟩ : ByteArray), false)) = some (r1, r2) := by rw [if_neg (show ¬ (false = true) by decide)] at H; exact H
  clear H
  have H := H1
  clear H1
  simp only [Option.some.injEq, Prod.mk.injEq] at H
  obtain ⟨rfl, rfl⟩ := H
  go_enter Tryd.func11, Tryd.ntmps11
  go_wp2_with (first | ((with_reducible refine gate_dst (N := 3) rfl ?_); refine box_event ?hg (N := 3) ?hd (cs := #[.slice A0_0 l0_0.length c0_0, .int .i64 a0_1]) (t := 32) ?hr ?_; (case hd => rfl); (case hg => rfl); (case hr => first | (go_simp; done) | (go_simp; rfl)); intro gb291 hg w38 hbox hb; have n0_ := zm (below_step zb hb); have BK291 := zm (hbox); have GW291 := zm (zs hg zb : w.heap.size ≤ gb291); have GE291 := zm (zs hg zb : w.heap.size ≤ gb291); replace HB := n0_; clear n0_; clear hb hbox hg) | ((with_reducible refine gate_dst (N := 5) rfl ?_); refine box_event ?hg (N := 5) ?hd (cs := #[.int .i64 a2_0, .int .i64 a2_1, .int .i64 a2_2]) (t := 36) ?hr ?_; (case hd => rfl); (case hg => rfl); (case hr => first | (go_simp; done) | (go_simp; rfl)); intro gb292 hg w39 hbox hb; have n0_ := zm (blk_below (g := gb291) zk hb); have n1_ := zm (below_step zb hb); have BK292 := zm (hbox); have GW292 := zm (zs hg zb : w.heap.size ≤ gb292); have GE292 := zm (zs hg zb : w.heap.size ≤ gb292); have NB291_292 := zm (zl hg zk : gb291 ≠ gb292); have NB292_291 := zm (zg hg zk : gb292 ≠ gb291); replace BK291 := n0_; replace HB := n1_; clear n0_ n1_; clear hb hbox hg; have hnb40 := NB291_292.out; have hnc40 := NB292_291.out; obtain ⟨hcz41_0, hcz41_1, hfz41_0, hfz41_1⟩ := zc2 BK291.out; obtain ⟨hcz42_0, hcz42_1, hcz42_2, hfz42_0, hfz42_1, hfz42_2⟩ := zc3 BK292.out) | ((with_reducible refine gate_callee (f := 26) rfl ?_); refine goesA_ (some 16) Tryd.func26 #[.agg #[.slice A0_0 l0_0.length c0_0, .int .i64 a0_1], .slice A1 l1.length c1, .agg #[.int .i64 a2_0, .int .i64 a2_1, .int .i64 a2_2]] rfl ?_; (with_reducible refine (impl_canBePlayed.calls k _ _ l0_0 a0_1 _ _ l1 a2_0 a2_1 a2_2 false _ ?side1 ?side2 ?side3 ?side4 A4.out).mono ?_); (case side1 => repeat (first | exact (Kd.C_below HR0_0.out HB.out) | (with_reducible refine Kd.C_alloc ?_ _) | (with_reducible refine Kd.C_drewN ?_ _) | (with_reducible refine Kd.C_drew ?_))); (case side2 => exact HC0_0.out); (case side3 => repeat (first | exact (Kd.C_below HR1.out HB.out) | (with_reducible refine Kd.C_alloc ?_ _) | (with_reducible refine Kd.C_drewN ?_ _) | (with_reducible refine Kd.C_drew ?_))); (case side4 => exact HC1.out); rintro e w43 ⟨rfl, hb⟩; refine ⟨_, rfl, ?_⟩; have n0_ := zm (blk_below (g := gb291) zk hb); replace BK292 := zm (blk_below (g := gb292) zk hb); replace HB := zm (below_step zb hb); replace BK291 := n0_; clear n0_; (try clear hb); (try clear hb2); (try clear hk); (try clear hi)))
  go_ret2
  exact ⟨zr, zb⟩

 subst c5
 have H1 : ((impl_spoken.f k l0_0 a0_1 l1 a2_0 a2_1 a2_2).bind fun bt294 => (impl_PlayedText.l0 k (⟨#[]⟩ : ByteArray) bt294.1 (bt294.1.length : Int) 0)) = some (r1, r2) := by rw [if_pos rfl] at H; exact H
 clear H
 have H := H1
 clear H1
 replace H := Option.bind_eq_some_iff.mp H
 obtain ⟨⟨t294, t297⟩, A60, H⟩ := H
 (try dsimp only at H)
 have A6 := zm A60
 clear A60
 have H' := zm H
 clear H
 go_enter Tryd.func11, Tryd.ntmps11
 go_wp2_with (first | ((with_reducible refine gate_dst (N := 3) rfl ?_); refine box_event ?hg (N := 3) ?hd (cs := #[.slice A0_0 l0_0.length c0_0, .int .i64 a0_1]) (t := 32) ?hr ?_; (case hd => rfl); (case hg => rfl); (case hr => first | (go_simp; done) | (go_simp; rfl)); intro gb291 hg w7 hbox hb; have n0_ := zm (below_step zb hb); have BK291 := zm (hbox); have GW291 := zm (zs hg zb : w.heap.size ≤ gb291); have GE291 := zm (zs hg zb : w.heap.size ≤ gb291); replace HB := n0_; clear n0_; clear hb hbox hg) | ((with_reducible refine gate_dst (N := 5) rfl ?_); refine box_event ?hg (N := 5) ?hd (cs := #[.int .i64 a2_0, .int .i64 a2_1, .int .i64 a2_2]) (t := 36) ?hr ?_; (case hd => rfl); (case hg => rfl); (case hr => first | (go_simp; done) | (go_simp; rfl)); intro gb292 hg w8 hbox hb; have n0_ := zm (blk_below (g := gb291) zk hb); have n1_ := zm (below_step zb hb); have BK292 := zm (hbox); have GW292 := zm (zs hg zb : w.heap.size ≤ gb292); have GE292 := zm (zs hg zb : w.heap.size ≤ gb292); have NB291_292 := zm (zl hg zk : gb291 ≠ gb292); have NB292_291 := zm (zg hg zk : gb292 ≠ gb291); replace BK291 := n0_; replace HB := n1_; clear n0_ n1_; clear hb hbox hg; have hnb9 := NB291_292.out; have hnc9 := NB292_291.out; obtain ⟨hcz10_0, hcz10_1, hfz10_0, hfz10_1⟩ := zc2 BK291.out; obtain ⟨hcz11_0, hcz11_1, hcz11_2, hfz11_0, hfz11_1, hfz11_2⟩ := zc3 BK292.out) | ((with_reducible refine gate_callee (f := 26) rfl ?_); refine goesA_ (some 16) Tryd.func26 #[.agg #[.slice A0_0 l0_0.length c0_0, .int .i64 a0_1], .slice A1 l1.length c1, .agg #[.int .i64 a2_0, .int .i64 a2_1, .int .i64 a2_2]] rfl ?_; (with_reducible refine (impl_canBePlayed.calls k _ _ l0_0 a0_1 _ _ l1 a2_0 a2_1 a2_2 true _ ?side1 ?side2 ?side3 ?side4 A4.out).mono ?_); (case side1 => repeat (first | exact (Kd.C_below HR0_0.out HB.out) | (with_reducible refine Kd.C_alloc ?_ _) | (with_reducible refine Kd.C_drewN ?_ _) | (with_reducible refine Kd.C_drew ?_))); (case side2 => exact HC0_0.out); (case side3 => repeat (first | exact (Kd.C_below HR1.out HB.out) | (with_reducible refine Kd.C_alloc ?_ _) | (with_reducible refine Kd.C_drewN ?_ _) | (with_reducible refine Kd.C_drew ?_))); (case side4 => exact HC1.out); rintro e w12 ⟨rfl, hb⟩; refine ⟨_, rfl, ?_⟩; have n0_ := zm (blk_below (g := gb291) zk hb); replace BK292 := zm (blk_below (g := gb292) zk hb); replace HB := zm (below_step zb hb); replace BK291 := n0_; clear n0_; (try clear hb); (try clear hb2); (try clear hk); (try clear hi); obtain ⟨hcz13_0, hcz13_1, hfz13_0, hfz13_1⟩ := zc2 BK291.out; obtain ⟨hcz14_0, hcz14_1, hcz14_2, hfz14_0, hfz14_1, hfz14_2⟩ := zc3 BK292.out) | ((with_reducible refine gate_callee (f := 27) rfl ?_); refine goesA_ (some 22) Tryd.func27 #[.agg #[.slice A0_0 l0_0.length c0_0, .int .i64 a0_1], .slice A1 l1.length c1, .agg #[.int .i64 a2_0, .int .i64 a2_1, .int .i64 a2_2]] rfl ?_; (with_reducible refine (impl_spoken.calls k _ _ l0_0 a0_1 _ _ l1 a2_0 a2_1 a2_2 t294 t297 _ ?side1 ?side2 ?side3 ?side4 A6.out).mono ?_); (case side1 => repeat (first | exact (Kd.C_below HR0_0.out HB.out) | (with_reducible refine Kd.C_alloc ?_ _) | (with_reducible refine Kd.C_drewN ?_ _) | (with_reducible refine Kd.C_drew ?_))); (case side2 => exact HC0_0.out); (case side3 => repeat (first | exact (Kd.C_below HR1.out HB.out) | (with_reducible refine Kd.C_alloc ?_ _) | (with_reducible refine Kd.C_drewN ?_ _) | (with_reducible refine Kd.C_drew ?_))); (case side4 => exact HC1.out); rintro e w15 ⟨v295, v298, rfl, ho0, ho1, hb⟩; refine ⟨_, rfl, ?_⟩; have HO296 := zm (Kd.R_lower ho0 (below_size zb)); have HO299 := zm (Kd.R_lower ho1 (below_size zb)); have n2_ := zm (blk_below (g := gb291) zk hb); replace BK292 := zm (blk_below (g := gb292) zk hb); replace HB := zm (below_step zb hb); replace BK291 := n2_; clear n2_; (try clear hb); (try clear hb2); (try clear hk); (try clear hi); (try clear ho0); (try clear ho1); obtain ⟨Ao16, co16, eo16⟩ := Kd.R_slice HO296.out; subst eo16) | ((with_reducible refine gate_dst (N := 10) rfl ?_); refine box_event ?hg (N := 10) ?hd (cs := #[.pointer none, .slice none 0 0]) (t := 66) ?hr ?_; (case hd => rfl); (case hg => rfl); (case hr => first | (go_simp; done) | (go_simp; rfl)); intro gB hgB wB hboxB hbB; have HGB := zm (zs hgB zb : w.heap.size ≤ gB); have HBL := zm (Lib.Bd.new hboxB); have HGX := zm (zs hgB (Lib.zX0 (w0 := w15)) : w15.heap.size ≤ gB); have HBX := zm (below_step (Lib.zX0 (w0 := w15)) hbB); replace HB := zm (below_step zb hbB); clear hboxB hbB hgB))
 go_loopg [27] k (fun kq v27 w' => ∃ (x10_1 : ByteArray) (x27_1 : Int), v27 = .int .i64 x27_1 ∧ Aside0 (impl_PlayedText.l0 kq x10_1 t294 (t294.length : Int) x27_1 = some (r1, r2)) ∧ Aside0 (kq ≤ k) ∧ Aside0 (Below w15.heap.size w15 w') ∧ Aside0 (Lib.Bd gB x10_1 w') ∧ Aside0 (Below w.heap.size w w'))
 case atStart => exact ⟨((⟨#[]⟩ : ByteArray)), (0), (by first | rfl | (simp; done) | (simp [*]; done)), H', ⟨Nat.le_refl _⟩, ⟨Lib.zXd⟩, ⟨Lib.zBd HBL.out⟩, ⟨zb⟩⟩
 case round =>
  clear H'
  (try clear c1); (try clear c2); (try clear p2); (try clear c5); (try clear c9); (try clear c11); (try clear hcz10_0); (try clear hcz10_1); (try clear hcz11_0); (try clear hcz11_1); (try clear hcz11_2); (try clear hcz13_0); (try clear hcz13_1); (try clear hcz14_0); (try clear hcz14_1); (try clear hcz14_2); (try clear hfz10_0); (try clear hfz10_1); (try clear hfz11_0); (try clear hfz11_1); (try clear hfz11_2); (try clear hfz13_0); (try clear hfz13_1); (try clear hfz14_0); (try clear hfz14_1); (try clear hfz14_2)
  clear HBL HBX
  obtain ⟨x10_1, x27_1, rfl, HA, HK1, HBX, HBL, HB⟩ := hrel
  have HRd := zm (Below.refl wr.heap.size wr)
  have HO_25 := zm (Kd.R_below HO296.out HBX.out)
  have BX291 := BK291
  have BK291 := zm (blk_below (g := gb291) BK291.out HBX.out)
  have BX292 := BK292
  have BK292 := zm (blk_below (g := gb292) BK292.out HBX.out)
  cases gk with
  | zero => exact absurd HA.out (by simp [impl_PlayedText.l0])
  | succ k1 =>
   have H := HA.out
   clear HA
   simp only [impl_PlayedText.l0] at H
   by_cases c17 : x27_1 < (t294.length : Int)
   rotate_left
   ·
    rw [if_neg c17] at H
    have c17b0 : decide (x27_1 < (t294.length : Int)) = false := decide_eq_false c17
    clear c17
    simp only [Option.some.injEq, Prod.mk.injEq] at H
    obtain ⟨rfl, rfl⟩ := H
    go_wp2_with (first | ((with_reducible refine gate_callee (f := 31) rfl ?_); refine goesA_ (some 45) Tryd.func31 #[.pointer (some ⟨gB, 0, none⟩)] rfl ?_; refine (Lib.Bd.text (Lib.zBd HBL.out)).mono ?_; rintro e wz ⟨rfl, hbz⟩; refine ⟨_, rfl, ?_⟩; replace HB := zm (Lib.zUp zb hbz HGB.out); clear hbz))
    go_ret2
    exact ⟨zr, zb⟩
   rw [if_pos c17] at H
   have c17b0 : decide (x27_1 < (t294.length : Int)) = true := decide_eq_true c17
   clear c17
   by_cases c18 : 0 ≤ x27_1
   rotate_left
   ·
    rw [if_neg c18] at H
    exact absurd H (by simp)
   rw [if_pos c18] at H
   have c18b0 : decide (0 ≤ x27_1) = true := decide_eq_true c18
   clear c18
   by_cases c19 : x27_1 < (t294.length : Int)
   rotate_left
   ·
    rw [if_neg c19] at H
    exact absurd H (by simp)
   rw [if_pos c19] at H
   have c19b0 : decide (x27_1 < (t294.length : Int)) = true := decide_eq_true c19
   clear c19
   replace H := Option.bind_eq_some_iff.mp H
   obtain ⟨t302, A200, H⟩ := H
   (try dsimp only at H)
   have A20 := zm A200
   clear A200
   by_cases c21 : t302.size + 1 ≤ 9223372036854775807
   rotate_left
   ·
    rw [if_neg c21] at H
    exact absurd H (by simp)
   rw [if_pos c21] at H
   have c21b0 := eq_true c21
   have c21b1 : decide (t302.size + 1 ≤ 9223372036854775807) = true := decide_eq_true c21
   try have c21b2 : (9223372036854775807 < t302.size + 1) = False := eq_false (Nat.not_lt.2 c21)
   obtain ⟨y303, hy303⟩ : ∃ y_ : List Int, y_ = (([(rd_T56 t294 x27_1).f1, (rd_T56 t294 x27_1).f2] : List Int)) := ⟨_, rfl⟩
   replace H : ((impl_words.f k1 y303).bind fun t306 => (if (t302 ++ (⟨#[32]⟩ : ByteArray)).size + t306.size ≤ 9223372036854775807 then (if ((t302 ++ (⟨#[32]⟩ : ByteArray)) ++ t306).size + 1 ≤ 9223372036854775807 then (if x10_1.size + (((t302 ++ (⟨#[32]⟩ : ByteArray)) ++ t306) ++ (⟨#[10]⟩ : ByteArray)).size ≤ 140737488355328 then (impl_PlayedText.l0 k1 (x10_1 ++ (((t302 ++ (⟨#[32]⟩ : ByteArray)) ++ t306) ++ (⟨#[10]⟩ : ByteArray))) t294 (t294.length : Int) (wrap64 (x27_1 + 1))) else (none)) else (none)) else (none))) = some (r1, r2) := by first | (rw [hy303]; with_reducible exact H) | (have H2_ := (Option.bind_some _ _).symm.trans H; rw [hy303]; with_reducible exact H2_) | (have H2_ := (Option.bind_some _ _).symm.trans H; with_reducible exact H2_) | with_reducible exact H | (rw [hy303]; exact H) | exact H
   have Ny303 := zm hy303
   clear hy303
   replace H := Option.bind_eq_some_iff.mp H
   obtain ⟨t306, A220, H⟩ := H
   (try dsimp only at H)
   have A22 := zm A220
   clear A220
   by_cases c23 : (t302 ++ (⟨#[32]⟩ : ByteArray)).size + t306.size ≤ 9223372036854775807
   rotate_left
   ·
    rw [if_neg c23] at H
    exact absurd H (by simp)
   rw [if_pos c23] at H
   have c23b0 := eq_true c23
   have c23b1 : decide ((t302 ++ (⟨#[32]⟩ : ByteArray)).size + t306.size ≤ 9223372036854775807) = true := decide_eq_true c23
   try have c23b2 : (9223372036854775807 < (t302 ++ (⟨#[32]⟩ : ByteArray)).size + t306.size) = False := eq_false (Nat.not_lt.2 c23)
   try have c23b3 : (9223372036854775807 < t302.size + 1 + t306.size) = False := eq_false (Nat.not_lt.2 (by have z_ := c23; simp only [ByteArray.size_append] at z_; exact z_))
   by_cases c24 : ((t302 ++ (⟨#[32]⟩ : ByteArray)) ++ t306).size + 1 ≤ 9223372036854775807
   rotate_left
   ·
    rw [if_neg c24] at H
    exact absurd H (by simp)
   rw [if_pos c24] at H
   have c24b0 := eq_true c24
   have c24b1 : decide (((t302 ++ (⟨#[32]⟩ : ByteArray)) ++ t306).size + 1 ≤ 9223372036854775807) = true := decide_eq_true c24
   try have c24b2 : (9223372036854775807 < ((t302 ++ (⟨#[32]⟩ : ByteArray)) ++ t306).size + 1) = False := eq_false (Nat.not_lt.2 c24)
   try have c24b3 : (9223372036854775807 < t302.size + 1 + t306.size + 1) = False := eq_false (Nat.not_lt.2 (by have z_ := c24; simp only [ByteArray.size_append] at z_; exact z_))
   by_cases c25 : x10_1.size + (((t302 ++ (⟨#[32]⟩ : ByteArray)) ++ t306) ++ (⟨#[10]⟩ : ByteArray)).size ≤ 140737488355328
   rotate_left
   ·
    rw [if_neg c25] at H
    exact absurd H (by simp)
   rw [if_pos c25] at H
   have c25b0 := eq_true c25
   have LMw := zm c25
   have c25b1 : decide (x10_1.size + (((t302 ++ (⟨#[32]⟩ : ByteArray)) ++ t306) ++ (⟨#[10]⟩ : ByteArray)).size ≤ 140737488355328) = true := decide_eq_true c25
   try have c25b2 : (140737488355328 < x10_1.size + (((t302 ++ (⟨#[32]⟩ : ByteArray)) ++ t306) ++ (⟨#[10]⟩ : ByteArray)).size) = False := eq_false (Nat.not_lt.2 c25)
   try have c25b3 : (140737488355328 < x10_1.size + (t302.size + 1 + t306.size + 1)) = False := eq_false (Nat.not_lt.2 (by have z_ := c25; simp only [ByteArray.size_append] at z_; exact z_))
   have H' := zm H
   clear H
   have p300 : 0 ≤ (x27_1 : Int) := zd
   have q300 : x27_1 < (t294.length : Int) := zd
   obtain ⟨ad300, e300, hx300_0, hx300_1, hx300_2⟩ := at_T56 (Kd.R_reads' HO_25.out).2.2 x27_1 p300 q300
   cases e300
   replace p300 := eq_true p300
   replace q300 := eq_true q300
   try go_wp2_with (first | ((with_reducible refine gate_dst (N := 12) rfl ?_); refine box_event ?hg (N := 12) ?hd (cs := #[.int .i64 0, .int .i64 0, .int .i64 0]) (t := 56) ?hr ?_; (case hd => rfl); (case hg => rfl); (case hr => first | (go_simp; done) | (go_simp; rfl)); intro gb301 hg w26 hbox hb; replace HO_25 := zm (Kd.R_below (Kd.R_elderB (zP HO_25.out) gb301 (Nat.le_of_eq hg.symm)) hb); have n1_ := zm (blk_below (g := gb291) zk hb); have n2_ := zm (blk_below (g := gb292) zk hb); have n3_ := zm (below_step zb hb); have nR_ := zm (below_step (Lib.zRd (w0 := wr)) hb); have BK301 := zm (hbox); have GW301 := zm (zs hg zb : w.heap.size ≤ gb301); have GR301 := zm (zs hg Lib.zRd : wr.heap.size ≤ gb301); have GE301 := zm (zs hg zb : w.heap.size ≤ gb301); have NB291_301 := zm (zl hg zk : gb291 ≠ gb301); have NB301_291 := zm (zg hg zk : gb301 ≠ gb291); have NB292_301 := zm (zl hg zk : gb292 ≠ gb301); have NB301_292 := zm (zg hg zk : gb301 ≠ gb292); replace BK291 := n1_; replace BK292 := n2_; replace HB := n3_; replace HRd := nR_; clear nR_; clear n1_ n2_ n3_; clear hb hbox hg; have hnb27 := NB301_291.out; have hnc27 := NB291_301.out; have hnb28 := NB301_292.out; have hnc28 := NB292_301.out; obtain ⟨hcz29_0, hcz29_1, hcz29_2, hfz29_0, hfz29_1, hfz29_2⟩ := zc3 BK301.out))
   have n0_ : Aside0 (Kd.R k56 56 (((w26.setCell ⟨gb301, 0, none⟩ (.int .i64 ((rd_T56 t294 x27_1).f0))).setCell ⟨gb301, 1, none⟩ (.int .i64 ((rd_T56 t294 x27_1).f1))).setCell ⟨gb301, 2, none⟩ (.int .i64 ((rd_T56 t294 x27_1).f2))) w.heap.size (fun k_ => k_ ≠ gb301) (.slice (some ad300) t294.length co16) t294) := ⟨zP (Kd.R_mono (Kd.R_far (p := ⟨gb301, 2, none⟩) (Kd.R_far (p := ⟨gb301, 1, none⟩) (Kd.R_far (p := ⟨gb301, 0, none⟩) (Kd.R_mono HO_25.out (fun k_ hk => (⟨hk, hk.2⟩ : _ ∧ k_ ≠ gb301))) (fun _ hk => hk.2) (.int .i64 ((rd_T56 t294 x27_1).f0))) (fun _ hk => hk.2) (.int .i64 ((rd_T56 t294 x27_1).f1))) (fun _ hk => hk.2) (.int .i64 ((rd_T56 t294 x27_1).f2))) (fun _ hk => hk.1.2))⟩
   have n1_ : Aside0 ((((w26.setCell ⟨gb301, 0, none⟩ (.int .i64 ((rd_T56 t294 x27_1).f0))).setCell ⟨gb301, 1, none⟩ (.int .i64 ((rd_T56 t294 x27_1).f1))).setCell ⟨gb301, 2, none⟩ (.int .i64 ((rd_T56 t294 x27_1).f2))).heap[gb291]? = some (.cells #[.slice A0_0 l0_0.length c0_0, .int .i64 a0_1] 32 (0, 0))) := ⟨zK⟩
   have n2_ : Aside0 ((((w26.setCell ⟨gb301, 0, none⟩ (.int .i64 ((rd_T56 t294 x27_1).f0))).setCell ⟨gb301, 1, none⟩ (.int .i64 ((rd_T56 t294 x27_1).f1))).setCell ⟨gb301, 2, none⟩ (.int .i64 ((rd_T56 t294 x27_1).f2))).heap[gb292]? = some (.cells #[.int .i64 a2_0, .int .i64 a2_1, .int .i64 a2_2] 36 (0, 0))) := ⟨zK⟩
   have n3_ : Aside0 ((((w26.setCell ⟨gb301, 0, none⟩ (.int .i64 ((rd_T56 t294 x27_1).f0))).setCell ⟨gb301, 1, none⟩ (.int .i64 ((rd_T56 t294 x27_1).f1))).setCell ⟨gb301, 2, none⟩ (.int .i64 ((rd_T56 t294 x27_1).f2))).heap[gb301]? = some (.cells #[.int .i64 ((rd_T56 t294 x27_1).f0), .int .i64 ((rd_T56 t294 x27_1).f1), .int .i64 ((rd_T56 t294 x27_1).f2)] 56 (0, 0))) := ⟨by (with_reducible repeat (first | refine blk_drewN ?_ _ | refine blk_drew ?_ | refine blk_alloc ?_ _)); refine blk_put (cs := #[.int .i64 ((rd_T56 t294 x27_1).f0), .int .i64 ((rd_T56 t294 x27_1).f1), .int .i64 0]) ?_ 2 _ rfl; (with_reducible repeat (first | refine blk_drewN ?_ _ | refine blk_drew ?_ | refine blk_alloc ?_ _)); refine blk_put (cs := #[.int .i64 ((rd_T56 t294 x27_1).f0), .int .i64 0, .int .i64 0]) ?_ 1 _ rfl; (with_reducible repeat (first | refine blk_drewN ?_ _ | refine blk_drew ?_ | refine blk_alloc ?_ _)); refine blk_put (cs := #[.int .i64 0, .int .i64 0, .int .i64 0]) ?_ 0 _ rfl; (with_reducible repeat (first | refine blk_drewN ?_ _ | refine blk_drew ?_ | refine blk_alloc ?_ _)); exact BK301.out⟩
   have n4_ : Aside0 (Below w.heap.size w (((w26.setCell ⟨gb301, 0, none⟩ (.int .i64 ((rd_T56 t294 x27_1).f0))).setCell ⟨gb301, 1, none⟩ (.int .i64 ((rd_T56 t294 x27_1).f1))).setCell ⟨gb301, 2, none⟩ (.int .i64 ((rd_T56 t294 x27_1).f2)))) := ⟨zb⟩
   have nR_ : Aside0 (Below wr.heap.size wr (((w26.setCell ⟨gb301, 0, none⟩ (.int .i64 ((rd_T56 t294 x27_1).f0))).setCell ⟨gb301, 1, none⟩ (.int .i64 ((rd_T56 t294 x27_1).f1))).setCell ⟨gb301, 2, none⟩ (.int .i64 ((rd_T56 t294 x27_1).f2)))) := ⟨Lib.zRd⟩
   (try clear HO_25)
   (try clear BK291)
   (try clear BK292)
   (try clear BK301)
   (try clear HB)
   generalize (((w26.setCell ⟨gb301, 0, none⟩ (.int .i64 ((rd_T56 t294 x27_1).f0))).setCell ⟨gb301, 1, none⟩ (.int .i64 ((rd_T56 t294 x27_1).f1))).setCell ⟨gb301, 2, none⟩ (.int .i64 ((rd_T56 t294 x27_1).f2))) = w30 at n0_ n1_ n2_ n3_ n4_ nR_ ⊢
   have HO_25 := n0_
   have BK291 := n1_
   have BK292 := n2_
   have BK301 := n3_
   have HB := n4_
   replace HRd := nR_
   clear nR_
   clear n0_ n1_ n2_ n3_ n4_
   have n0_ := zm (Kd.R_drew HO_25.out)
   have n1_ := zm (blk_drew BK291.out)
   have n2_ := zm (blk_drew BK292.out)
   have n3_ := zm (blk_drew BK301.out)
   have n4_ := zm (below_drew1 HB.out)
   have nR_ := zm (below_drew1 HRd.out)
   clear HO_25
   clear BK291
   clear BK292
   clear BK301
   clear HB
   have HO_25 := n0_
   have BK291 := n1_
   have BK292 := n2_
   have BK301 := n3_
   have HB := n4_
   replace HRd := nR_
   clear nR_
   clear n0_ n1_ n2_ n3_ n4_
   refine start_ (n := 13) (S := fun w' => True) (ds := []) #[false, false, false, false, false, false, false, false, false, false, false, false, false] (by kernel_rfl) rfl rfl trivial (fun hHeld => ?_); refine with_tabW impl_PlayedText.tab8 impl_PlayedText.bits8 (fun HT_ HW_ => ?_)
   generalize w30.drew = w31 at HO_25 BK291 BK292 BK301 HB HRd hHeld ⊢
   refine pure_ (i := 0) (N := some 31) (v := ?_) (a' := ?_) #[true, false, false, false, false, false, false, false, false, false, false, false, false] rfl rfl (any_of HT_.out (by kernel_rfl)) (fun _ _ _ h => h) (Or.inl ⟨by rfl, ?_⟩) ?_ ?_
   rotate_left
   ·
    intro w'
    go_simp
    with_reducible rfl
   rotate_left
   ·
    simp only [Act.put, zA, zB, zD, i64_w, i32_w]
    rfl
   refine pure_ (i := 4) (N := some 35) (v := ?_) (a' := ?_) #[true, false, false, false, true, false, false, false, false, false, false, false, false] rfl rfl (any_of HT_.out (by kernel_rfl)) (fun _ _ _ h => h) (Or.inl ⟨by rfl, ?_⟩) ?_ ?_
   rotate_left
   ·
    intro w'
    go_simp
    with_reducible rfl
   rotate_left
   ·
    simp only [Act.put, zA, zB, zD, i64_w, i32_w]
    rfl
   refine pure_ (i := 6) (N := some 37) (v := ?_) (a' := ?_) #[true, false, false, false, true, false, true, false, false, false, false, false, false] rfl rfl (any_of HT_.out (by kernel_rfl)) (fun _ _ _ h => h) (Or.inl ⟨by rfl, ?_⟩) ?_ ?_
   rotate_left
   ·
    intro w'
    go_simp
    with_reducible rfl
   rotate_left
   ·
    simp only [Act.put, zA, zB, zD, i64_w, i32_w]
    rfl
   refine inv_at [1, 2, 3, 5, 7, 8, 9, 10, 11, 12] (fun a0_ b a w' => ∃ (v304 : Value), a = putSel a0_ b [(1, 32, .int .i64 ((rd_T56 t294 x27_1).f0)), (2, 33, .string t302), (3, 34, .string (t302 ++ (⟨#[32]⟩ : ByteArray))), (5, 36, .int .i64 ((rd_T56 t294 x27_1).f1)), (7, 38, .int .i64 ((rd_T56 t294 x27_1).f2)), (8, 39, v304), (9, 40, .string t306), (10, 41, .string ((t302 ++ (⟨#[32]⟩ : ByteArray)) ++ t306)), (11, 42, .string (((t302 ++ (⟨#[32]⟩ : ByteArray)) ++ t306) ++ (⟨#[10]⟩ : ByteArray))), (12, 43, .tuple #[.int .i64 ((((((t302 ++ (⟨#[32]⟩ : ByteArray)) ++ t306) ++ (⟨#[10]⟩ : ByteArray))).size : Nat) : Int), .nilIface])] ∧ (Kd.R k56 56 w' w.heap.size (fun k_ => k_ ≠ gb301) (.slice (some ad300) t294.length co16) t294) ∧ (w'.heap[gb291]? = some (.cells #[.slice A0_0 l0_0.length c0_0, .int .i64 a0_1] 32 (0, 0))) ∧ (w'.heap[gb292]? = some (.cells #[.int .i64 a2_0, .int .i64 a2_1, .int .i64 a2_2] 36 (0, 0))) ∧ (b 12 = false → w'.heap[gb301]? = some (.cells #[.int .i64 ((rd_T56 t294 x27_1).f0), .int .i64 ((rd_T56 t294 x27_1).f1), .int .i64 ((rd_T56 t294 x27_1).f2)] 56 (0, 0))) ∧ (Below w.heap.size w w') ∧ (b 8 = true → b 12 = false → Kd.R (Kd.int .i64) 3 w' w.heap.size (fun _ => True) v304 y303) ∧ (b 12 = false → Below wr.heap.size wr w') ∧ (b 12 = true → Lib.Bd gB (x10_1 ++ (((t302 ++ (⟨#[32]⟩ : ByteArray)) ++ t306) ++ (⟨#[10]⟩ : ByteArray))) w' ∧ Below w15.heap.size w15 w')) HT_.out HW_.out (by kernel_rfl) (by kernel_rfl) ?_ ?_ ?_
   ·
    exact ⟨.bool false, by simp only [putSel, Bool.false_eq_true, if_false], HO_25.out, BK291.out, BK292.out, (fun _ => BK301.out), HB.out, fun h_ => absurd h_ (by decide), (fun _ => HRd.out), fun h_ => absurd h_ (by decide)⟩
   ·
    skip
    clear BK291 BK292 BK301 HB HRd HO_25
    refine steps_cons ?_ ?_
    ·
     rintro b a w' ⟨v304, ha, Q_HO_25, Q_BK291, Q_BK292, Q_BK301, Q_HB, Q_HO305, Q_HRd, Q_W⟩ hb_ hon hoff
     have h12_ := hoff 12 (by kernel_rfl)
     refine ⟨_, rfl, fun K hK => ?_⟩
     have e31 : a.tmps[31]? = some (.pointer (some ⟨gb301, 0, none⟩)) := by rw [ha]; exact (putSel_off rfl).trans rfl
     replace ha := zm ha
     have HO_25 := zm Q_HO_25
     have BK291 := zm Q_BK291
     have BK292 := zm Q_BK292
     have BK301 := zm (Q_BK301 h12_)
     have HRd := zm (Q_HRd h12_)
     have HB := zm Q_HB
     have hc0_ : w'.cell? ⟨gb301, 0, none⟩ = some (.int .i64 ((rd_T56 t294 x27_1).f0)) := (blk_cell BK301.out 0).trans rfl
     have hc1_ : w'.cell? ⟨gb301, 1, none⟩ = some (.int .i64 ((rd_T56 t294 x27_1).f1)) := (blk_cell BK301.out 1).trans rfl
     have hc2_ : w'.cell? ⟨gb301, 2, none⟩ = some (.int .i64 ((rd_T56 t294 x27_1).f2)) := (blk_cell BK301.out 2).trans rfl
     refine value_ (w1 := w') (v := .int .i64 ((rd_T56 t294 x27_1).f0)) (by rfl) rfl ?_ ?_
     ·
      go_simp
      (try simp only [i64_w])
      try rfl
     refine hK.out _ _ ⟨v304, (by rw [ha.out]; exact putSel_upk 0 hb_ rfl rfl rfl), Q_HO_25, Q_BK291, Q_BK292, Q_BK301, Q_HB, Q_HO305, Q_HRd, Q_W⟩
    refine steps_cons ?_ ?_
    ·
     rintro b a w' ⟨v304, ha, Q_HO_25, Q_BK291, Q_BK292, Q_BK301, Q_HB, Q_HO305, Q_HRd, Q_W⟩ hb_ hon hoff
     have h12_ := hoff 12 (by kernel_rfl)
     refine ⟨_, rfl, fun K hK => ?_⟩
     have e32 : a.tmps[32]? = some (.int .i64 ((rd_T56 t294 x27_1).f0)) := by rw [ha]; exact putSel_on (e := (1, 32, .int .i64 ((rd_T56 t294 x27_1).f0))) 0 rfl rfl (hon 1 (by kernel_rfl)) rfl
     replace ha := zm ha
     have HO_25 := zm Q_HO_25
     have BK291 := zm Q_BK291
     have BK292 := zm Q_BK292
     have BK301 := zm (Q_BK301 h12_)
     have HRd := zm (Q_HRd h12_)
     have HB := zm Q_HB
     refine goes_ Tryd.func29 (by kernel_rfl) rfl #[.int .i64 ((rd_T56 t294 x27_1).f0)] (by rfl) rfl rfl (by first | (simp only [List.map_toArray, List.map_cons, List.map_nil, Act.eval, Array.getD_eq_getD_getElem?, Option.getD_some, e32]; done) | (simp only [List.map_toArray, List.map_cons, List.map_nil, Act.eval, Array.getD_eq_getD_getElem?, Option.getD_some, e32]; rfl)) ?_
     with_reducible refine (impl_pitchName.calls ((rd_T56 t294 x27_1).f0) t302 _ A20.out).mono ?_
     rintro e w32 ⟨rfl, hb⟩
     refine ⟨_, rfl, ?_⟩
     have n0_ := zm (Kd.R_below (zP HO_25.out) hb)
     have n1_ := zm (blk_below (g := gb291) zk hb)
     have n2_ := zm (blk_below (g := gb292) zk hb)
     have n3_ := zm (blk_below (g := gb301) zk hb)
     have n4_ := zm (below_step zb hb)
     have nR_ := zm (below_step (Lib.zRd (w0 := wr)) hb)
     have z_HO305 := fun (h0_ : b 8 = true) (_ : b 12 = false) => (show Kd.R (Kd.int .i64) 3 w32 w.heap.size (fun _ => True) v304 y303 from by first | exact (Kd.R_below (zP ((Q_HO305 h0_ h12_))) hb) | exact Kd.R_mono (Kd.R_below (zP ((Q_HO305 h0_ h12_))) hb) (fun _ h_ => by first | trivial | exact h_ | exact h_.1))
     clear HO_25
     clear BK291
     clear BK292
     clear BK301
     clear HB
     have HO_25 := n0_
     have BK291 := n1_
     have BK292 := n2_
     have BK301 := n3_
     have HB := n4_
     replace HRd := nR_
     clear nR_
     clear n0_ n1_ n2_ n3_ n4_
     (try clear hb)
     (try clear hb2)
     (try clear hk)
     (try clear hi)
     refine hK.out _ _ ⟨v304, (by rw [ha.out]; exact putSel_upk 1 hb_ rfl rfl rfl), (by (with_reducible repeat (first | apply Kd.R_alloc | apply Kd.R_drewN | apply Kd.R_drew)); first | exact HO_25.out | exact Kd.R_mono HO_25.out (fun _ _ => trivial)), zk, zk, (fun _ => zk), zb, z_HO305, (fun _ => Lib.zRd (w0 := wr)), (fun h_ => absurd (h12_.symm.trans h_) (by decide))⟩
    refine steps_cons ?_ ?_
    ·
     rintro b a w' ⟨v304, ha, Q_HO_25, Q_BK291, Q_BK292, Q_BK301, Q_HB, Q_HO305, Q_HRd, Q_W⟩ hb_ hon hoff
     have h12_ := hoff 12 (by kernel_rfl)
     refine ⟨_, rfl, fun K hK => ?_⟩
     have e33 : a.tmps[33]? = some (.string t302) := by rw [ha]; exact putSel_on (e := (2, 33, .string t302)) 1 rfl rfl (hon 2 (by kernel_rfl)) rfl
     replace ha := zm ha
     have HO_25 := zm Q_HO_25
     have BK291 := zm Q_BK291
     have BK292 := zm Q_BK292
     have BK301 := zm (Q_BK301 h12_)
     have HRd := zm (Q_HRd h12_)
     have HB := zm Q_HB
     refine value_ (w1 := w') (v := .string (t302 ++ (⟨#[32]⟩ : ByteArray))) (by rfl) rfl ?_ ?_
     ·
      go_simp
      (try simp only [i64_w])
      try rfl
     refine hK.out _ _ ⟨v304, (by rw [ha.out]; exact putSel_upk 2 hb_ rfl rfl rfl), Q_HO_25, Q_BK291, Q_BK292, Q_BK301, Q_HB, Q_HO305, Q_HRd, Q_W⟩
    refine steps_cons ?_ ?_
    ·
     rintro b a w' ⟨v304, ha, Q_HO_25, Q_BK291, Q_BK292, Q_BK301, Q_HB, Q_HO305, Q_HRd, Q_W⟩ hb_ hon hoff
     have h12_ := hoff 12 (by kernel_rfl)
     refine ⟨_, rfl, fun K hK => ?_⟩
     have e35 : a.tmps[35]? = some (.pointer (some ⟨gb301, 1, none⟩)) := by rw [ha]; exact (putSel_off rfl).trans rfl
     replace ha := zm ha
     have HO_25 := zm Q_HO_25
     have BK291 := zm Q_BK291
     have BK292 := zm Q_BK292
     have BK301 := zm (Q_BK301 h12_)
     have HRd := zm (Q_HRd h12_)
     have HB := zm Q_HB
     have hc0_ : w'.cell? ⟨gb301, 0, none⟩ = some (.int .i64 ((rd_T56 t294 x27_1).f0)) := (blk_cell BK301.out 0).trans rfl
     have hc1_ : w'.cell? ⟨gb301, 1, none⟩ = some (.int .i64 ((rd_T56 t294 x27_1).f1)) := (blk_cell BK301.out 1).trans rfl
     have hc2_ : w'.cell? ⟨gb301, 2, none⟩ = some (.int .i64 ((rd_T56 t294 x27_1).f2)) := (blk_cell BK301.out 2).trans rfl
     refine value_ (w1 := w') (v := .int .i64 ((rd_T56 t294 x27_1).f1)) (by rfl) rfl ?_ ?_
     ·
      go_simp
      (try simp only [i64_w])
      try rfl
     refine hK.out _ _ ⟨v304, (by rw [ha.out]; exact putSel_upk 3 hb_ rfl rfl rfl), Q_HO_25, Q_BK291, Q_BK292, Q_BK301, Q_HB, fun h0_ _ => absurd ((hoff 8 (by kernel_rfl)).symm.trans h0_) (by decide), Q_HRd, Q_W⟩
    refine steps_cons ?_ ?_
    ·
     rintro b a w' ⟨v304, ha, Q_HO_25, Q_BK291, Q_BK292, Q_BK301, Q_HB, Q_HO305, Q_HRd, Q_W⟩ hb_ hon hoff
     have h12_ := hoff 12 (by kernel_rfl)
     refine ⟨_, rfl, fun K hK => ?_⟩
     have e37 : a.tmps[37]? = some (.pointer (some ⟨gb301, 2, none⟩)) := by rw [ha]; exact (putSel_off rfl).trans rfl
     replace ha := zm ha
     have HO_25 := zm Q_HO_25
     have BK291 := zm Q_BK291
     have BK292 := zm Q_BK292
     have BK301 := zm (Q_BK301 h12_)
     have HRd := zm (Q_HRd h12_)
     have HB := zm Q_HB
     have hc0_ : w'.cell? ⟨gb301, 0, none⟩ = some (.int .i64 ((rd_T56 t294 x27_1).f0)) := (blk_cell BK301.out 0).trans rfl
     have hc1_ : w'.cell? ⟨gb301, 1, none⟩ = some (.int .i64 ((rd_T56 t294 x27_1).f1)) := (blk_cell BK301.out 1).trans rfl
     have hc2_ : w'.cell? ⟨gb301, 2, none⟩ = some (.int .i64 ((rd_T56 t294 x27_1).f2)) := (blk_cell BK301.out 2).trans rfl
     refine value_ (w1 := w') (v := .int .i64 ((rd_T56 t294 x27_1).f2)) (by rfl) rfl ?_ ?_
     ·
      go_simp
      (try simp only [i64_w])
      try rfl
     refine hK.out _ _ ⟨v304, (by rw [ha.out]; exact putSel_upk 4 hb_ rfl rfl rfl), Q_HO_25, Q_BK291, Q_BK292, Q_BK301, Q_HB, fun h0_ _ => absurd ((hoff 8 (by kernel_rfl)).symm.trans h0_) (by decide), Q_HRd, Q_W⟩
    refine steps_cons ?_ ?_
    ·
     rintro b a w' ⟨v304, ha, Q_HO_25, Q_BK291, Q_BK292, Q_BK301, Q_HB, Q_HO305, Q_HRd, Q_W⟩ hb_ hon hoff
     have h12_ := hoff 12 (by kernel_rfl)
     refine ⟨_, rfl, fun K hK => ?_⟩
     have e36 : a.tmps[36]? = some (.int .i64 ((rd_T56 t294 x27_1).f1)) := by rw [ha]; exact putSel_on (e := (5, 36, .int .i64 ((rd_T56 t294 x27_1).f1))) 3 rfl rfl (hon 5 (by kernel_rfl)) rfl
     have e38 : a.tmps[38]? = some (.int .i64 ((rd_T56 t294 x27_1).f2)) := by rw [ha]; exact putSel_on (e := (7, 38, .int .i64 ((rd_T56 t294 x27_1).f2))) 4 rfl rfl (hon 7 (by kernel_rfl)) rfl
     replace ha := zm ha
     have HO_25 := zm Q_HO_25
     have BK291 := zm Q_BK291
     have BK292 := zm Q_BK292
     have BK301 := zm (Q_BK301 h12_)
     have HRd := zm (Q_HRd h12_)
     have HB := zm Q_HB
     refine Kd.R_lit_step (Kd.int .i64) _ 3 ?hg (N := 39) ?hd (xs := ([(rd_T56 t294 x27_1).f1, (rd_T56 t294 x27_1).f2] : List Int)) (inner := [.int .i64 ((rd_T56 t294 x27_1).f1), .int .i64 ((rd_T56 t294 x27_1).f2)]) (ok := fun _ => True) (okp := fun _ => True) ?hr ?hp (fun _ hk => hk) trivial (Below.refl _ _) (Nat.le_refl _) (by simp) ?_; (case hd => rfl); (case hg => rfl); (case hr => first | (go_simp; done) | (go_simp; rfl)); (case hp => exact (Reps.one (show Kd.M (Kd.int .i64) _ _ _ ((rd_T56 t294 x27_1).f1) [.int .i64 ((rd_T56 t294 x27_1).f1)] from rfl) (Reps.one (show Kd.M (Kd.int .i64) _ _ _ ((rd_T56 t294 x27_1).f2) [.int .i64 ((rd_T56 t294 x27_1).f2)] from rfl) (Reps.none _ _))))
     intro v304 w32 ho33 hb hg_ hnew_
     clear hg_ hnew_
     (first | rw [← Ny303.out] at ho33 | (simp only [Int.reduceToNat] at ho33; rw [← Ny303.out] at ho33))
     have n0_ := zm (Kd.R_below (zP HO_25.out) hb)
     have n1_ := zm (Kd.R_lower ho33 (below_size zb))
     have n2_ := zm (blk_below (g := gb291) zk hb)
     have n3_ := zm (blk_below (g := gb292) zk hb)
     have n4_ := zm (blk_below (g := gb301) zk hb)
     have n5_ := zm (below_step zb hb)
     have nR_ := zm (below_step (Lib.zRd (w0 := wr)) hb)
     clear HO_25
     clear BK291
     clear BK292
     clear BK301
     clear HB
     have HO_25 := n0_
     have HO305 := n1_
     have BK291 := n2_
     have BK292 := n3_
     have BK301 := n4_
     have HB := n5_
     replace HRd := nR_
     clear nR_
     clear n0_ n1_ n2_ n3_ n4_ n5_
     clear hb ho33
     refine hK.out _ _ ⟨v304, (by rw [ha.out]; exact putSel_upk 5 hb_ rfl rfl rfl), (by (with_reducible repeat (first | apply Kd.R_alloc | apply Kd.R_drewN | apply Kd.R_drew)); first | exact HO_25.out | exact Kd.R_mono HO_25.out (fun _ _ => trivial)), zk, zk, (fun _ => zk), zb, fun _ _ => (by (with_reducible repeat (first | apply Kd.R_alloc | apply Kd.R_drewN | apply Kd.R_drew)); first | exact HO305.out | exact Kd.R_mono HO305.out (fun _ _ => trivial)), (fun _ => Lib.zRd (w0 := wr)), (fun h_ => absurd (h12_.symm.trans h_) (by decide))⟩
    refine steps_cons ?_ ?_
    ·
     rintro b a w' ⟨v304, ha, Q_HO_25, Q_BK291, Q_BK292, Q_BK301, Q_HB, Q_HO305, Q_HRd, Q_W⟩ hb_ hon hoff
     have h12_ := hoff 12 (by kernel_rfl)
     refine ⟨_, rfl, fun K hK => ?_⟩
     have e39 : a.tmps[39]? = some (v304) := by rw [ha]; exact putSel_on (e := (8, 39, v304)) 5 rfl rfl (hon 8 (by kernel_rfl)) rfl
     replace ha := zm ha
     have HO_25 := zm Q_HO_25
     have BK291 := zm Q_BK291
     have BK292 := zm Q_BK292
     have BK301 := zm (Q_BK301 h12_)
     have HRd := zm (Q_HRd h12_)
     have HB := zm Q_HB
     have HO305 := zm (Q_HO305 (hon 8 (by kernel_rfl)) h12_)
     obtain ⟨Ao36, co36, eo36⟩ := Kd.R_slice HO305.out
     (first | subst eo36 | (injection eo36 with f1_ f2_ f3_; have f4_ := f1_.symm; have f5_ := f3_.symm; clear f1_ f2_ f3_; subst f4_; subst f5_))
     refine goes_ Tryd.func30 (by kernel_rfl) rfl #[.slice Ao36 y303.length co36] (by rfl) rfl rfl (by first | (simp only [List.map_toArray, List.map_cons, List.map_nil, Act.eval, Array.getD_eq_getD_getElem?, Option.getD_some, e39]; done) | (simp only [List.map_toArray, List.map_cons, List.map_nil, Act.eval, Array.getD_eq_getD_getElem?, Option.getD_some, e39]; rfl)) ?_
     with_reducible refine (impl_words.calls k1 _ _ y303 t306 _ ?side1 ?side2 A22.out).mono ?_
     (case side1 => repeat (first | exact (Kd.R_reads' HO305.out).2.2 | (with_reducible refine Kd.C_alloc ?_ _) | (with_reducible refine Kd.C_drewN ?_ _) | (with_reducible refine Kd.C_drew ?_)))
     (case side2 => exact (Kd.R_reads' HO305.out).2.1)
     rintro e w37 ⟨rfl, hb⟩
     refine ⟨_, rfl, ?_⟩
     have n0_ := zm (Kd.R_below (zP HO_25.out) hb)
     have n1_ := zm (Kd.R_below (zP HO305.out) hb)
     have n2_ := zm (blk_below (g := gb291) zk hb)
     have n3_ := zm (blk_below (g := gb292) zk hb)
     have n4_ := zm (blk_below (g := gb301) zk hb)
     have n5_ := zm (below_step zb hb)
     have nR_ := zm (below_step (Lib.zRd (w0 := wr)) hb)
     clear HO_25
     clear HO305
     clear BK291
     clear BK292
     clear BK301
     clear HB
     have HO_25 := n0_
     have HO305 := n1_
     have BK291 := n2_
     have BK292 := n3_
     have BK301 := n4_
     have HB := n5_
     replace HRd := nR_
     clear nR_
     clear n0_ n1_ n2_ n3_ n4_ n5_
     (try clear hb)
     (try clear hb2)
     (try clear hk)
     (try clear hi)
     refine hK.out _ _ ⟨.slice Ao36 y303.length co36, (by rw [ha.out]; exact putSel_upk 6 hb_ rfl rfl rfl), (by (with_reducible repeat (first | apply Kd.R_alloc | apply Kd.R_drewN | apply Kd.R_drew)); first | exact HO_25.out | exact Kd.R_mono HO_25.out (fun _ _ => trivial)), zk, zk, (fun _ => zk), zb, fun _ _ => (by (with_reducible repeat (first | apply Kd.R_alloc | apply Kd.R_drewN | apply Kd.R_drew)); first | exact HO305.out | exact Kd.R_mono HO305.out (fun _ _ => trivial)), (fun _ => Lib.zRd (w0 := wr)), (fun h_ => absurd (h12_.symm.trans h_) (by decide))⟩
    refine steps_cons ?_ ?_
    ·
     rintro b a w' ⟨v304, ha, Q_HO_25, Q_BK291, Q_BK292, Q_BK301, Q_HB, Q_HO305, Q_HRd, Q_W⟩ hb_ hon hoff
     have h12_ := hoff 12 (by kernel_rfl)
     refine ⟨_, rfl, fun K hK => ?_⟩
     have e34 : a.tmps[34]? = some (.string (t302 ++ (⟨#[32]⟩ : ByteArray))) := by rw [ha]; exact putSel_on (e := (3, 34, .string (t302 ++ (⟨#[32]⟩ : ByteArray)))) 2 rfl rfl (hon 3 (by kernel_rfl)) rfl
     have e40 : a.tmps[40]? = some (.string t306) := by rw [ha]; exact putSel_on (e := (9, 40, .string t306)) 6 rfl rfl (hon 9 (by kernel_rfl)) rfl
     replace ha := zm ha
     have HO_25 := zm Q_HO_25
     have BK291 := zm Q_BK291
     have BK292 := zm Q_BK292
     have BK301 := zm (Q_BK301 h12_)
     have HRd := zm (Q_HRd h12_)
     have HB := zm Q_HB
     have HO305 := zm (Q_HO305 (hon 8 (by kernel_rfl)) h12_)
     refine value_ (w1 := w') (v := .string ((t302 ++ (⟨#[32]⟩ : ByteArray)) ++ t306)) (by rfl) rfl ?_ ?_
     ·
      go_simp
      (try simp only [i64_w])
      try rfl
     refine hK.out _ _ ⟨v304, (by rw [ha.out]; exact putSel_upk 7 hb_ rfl rfl rfl), Q_HO_25, Q_BK291, Q_BK292, Q_BK301, Q_HB, Q_HO305, Q_HRd, Q_W⟩
    refine steps_cons ?_ ?_
    ·
     rintro b a w' ⟨v304, ha, Q_HO_25, Q_BK291, Q_BK292, Q_BK301, Q_HB, Q_HO305, Q_HRd, Q_W⟩ hb_ hon hoff
     have h12_ := hoff 12 (by kernel_rfl)
     refine ⟨_, rfl, fun K hK => ?_⟩
     have e41 : a.tmps[41]? = some (.string ((t302 ++ (⟨#[32]⟩ : ByteArray)) ++ t306)) := by rw [ha]; exact putSel_on (e := (10, 41, .string ((t302 ++ (⟨#[32]⟩ : ByteArray)) ++ t306))) 7 rfl rfl (hon 10 (by kernel_rfl)) rfl
     replace ha := zm ha
     have HO_25 := zm Q_HO_25
     have BK291 := zm Q_BK291
     have BK292 := zm Q_BK292
     have BK301 := zm (Q_BK301 h12_)
     have HRd := zm (Q_HRd h12_)
     have HB := zm Q_HB
     have HO305 := zm (Q_HO305 (hon 8 (by kernel_rfl)) h12_)
     refine value_ (w1 := w') (v := .string (((t302 ++ (⟨#[32]⟩ : ByteArray)) ++ t306) ++ (⟨#[10]⟩ : ByteArray))) (by rfl) rfl ?_ ?_
     ·
      go_simp
      (try simp only [i64_w])
      try rfl
     refine hK.out _ _ ⟨v304, (by rw [ha.out]; exact putSel_upk 8 hb_ rfl rfl rfl), Q_HO_25, Q_BK291, Q_BK292, Q_BK301, Q_HB, Q_HO305, Q_HRd, Q_W⟩
    refine steps_cons ?_ ?_
    ·
     rintro b a w' ⟨v304, ha, Q_HO_25, Q_BK291, Q_BK292, Q_BK301, Q_HB, Q_HO305, Q_HRd, Q_W⟩ hb_ hon hoff
     refine ⟨_, rfl, fun K hK => ?_⟩
     have e10 : a.tmps[10]? = some (.pointer (some ⟨gB, 0, none⟩)) := by rw [ha]; exact (putSel_off rfl).trans rfl
     have e42 : a.tmps[42]? = some (.string (((t302 ++ (⟨#[32]⟩ : ByteArray)) ++ t306) ++ (⟨#[10]⟩ : ByteArray))) := by rw [ha]; exact putSel_on (e := (11, 42, .string (((t302 ++ (⟨#[32]⟩ : ByteArray)) ++ t306) ++ (⟨#[10]⟩ : ByteArray)))) 8 rfl rfl (hon 11 (by kernel_rfl)) rfl
     replace ha := zm ha
     have HB := zm Q_HB
     have HRd := zm (Q_HRd hb_)
     refine goes_ Tryd.func28 (by kernel_rfl) rfl #[.pointer (some ⟨gB, 0, none⟩), .string ((((t302 ++ (⟨#[32]⟩ : ByteArray)) ++ t306) ++ (⟨#[10]⟩ : ByteArray)))] (by rfl) rfl rfl (by first | (simp only [List.map_toArray, List.map_cons, List.map_nil, Act.eval, Array.getD_eq_getD_getElem?, Option.getD_some, e10, e42]; done) | (simp only [List.map_toArray, List.map_cons, List.map_nil, Act.eval, Array.getD_eq_getD_getElem?, Option.getD_some, e10, e42]; rfl)) ?_
     refine (Lib.Bd.write (Lib.Bd.below HBL.out (Lib.zRd (w0 := wr))) LMw.out).mono ?_
     rintro e wz ⟨rfl, hbd, hbz⟩
     refine ⟨_, rfl, ?_⟩
     have HBXz := Lib.zUp (Lib.zUp HBX.out (Lib.zRd (w0 := wr)) HBX.out.size) hbz HGX.out
     refine hK.out _ _ ⟨v304, (by rw [ha.out]; exact putSel_upk 9 hb_ rfl rfl rfl), Kd.R_mono (Kd.R_below (Kd.R_elderB HO296.out gb301 (Nat.le_trans HBX.out.size GR301.out)) HBXz) (fun _ hk => hk.2), blk_below (g := gb291) BX291.out HBXz, blk_below (g := gb292) BX292.out HBXz, (fun h_ => absurd h_ (by rw [up_self]; decide)), Lib.zUp zb hbz HGB.out, (fun _ h_ => absurd h_ (by rw [up_self]; decide)), (fun h_ => absurd h_ (by rw [up_self]; decide)), fun _ => ⟨hbd, HBXz⟩⟩
    exact steps_nil
   rintro b a w37 hall ⟨v304, ha, Q_HO_25, Q_BK291, Q_BK292, Q_BK301, Q_HB, Q_HO305, Q_HRd, Q_W⟩
   try clear HRd
   clear BK291 BK292 BK301 HB HO_25
   have hb1_ := hall 1 (by kernel_rfl)
   have hb2_ := hall 2 (by kernel_rfl)
   have hb3_ := hall 3 (by kernel_rfl)
   have hb5_ := hall 5 (by kernel_rfl)
   have hb7_ := hall 7 (by kernel_rfl)
   have hb8_ := hall 8 (by kernel_rfl)
   have hb9_ := hall 9 (by kernel_rfl)
   have hb10_ := hall 10 (by kernel_rfl)
   have hb11_ := hall 11 (by kernel_rfl)
   have hb12_ := hall 12 (by kernel_rfl)
   subst ha
   simp only [putSel, hb1_, hb2_, hb3_, hb5_, hb7_, hb8_, hb9_, hb10_, hb11_, hb12_, if_true, Act.put, List.setIfInBounds_toArray, List.set_cons_zero, List.set_cons_succ]
   have HO_25 := zm Q_HO_25
   clear Q_HO_25
   have BK291 := zm Q_BK291
   clear Q_BK291
   have BK292 := zm Q_BK292
   clear Q_BK292
   clear Q_BK301
   have HB := zm Q_HB
   clear Q_HB
   have HBN := zm (Q_W hb12_).1
   replace HBX := zm (Q_W hb12_).2
   clear Q_W Q_HRd
   clear Q_HO305
   clear hall hb1_ hb2_ hb3_ hb5_ hb7_ hb8_ hb9_ hb10_ hb11_ hb12_
   try go_wp2
   go_roundg k1
   case measure => have := HK1.out; omega
   case rel => exact ⟨(x10_1 ++ (((t302 ++ (⟨#[32]⟩ : ByteArray)) ++ t306) ++ (⟨#[10]⟩ : ByteArray))), (wrap64 (x27_1 + 1)), (by first | rfl | (simp; done) | (simp [*]; done)), H', ⟨by have := HK1.out; omega⟩, ⟨Lib.zXd⟩, ⟨Lib.zBd HBN.out⟩, ⟨zb⟩⟩

/-! ### laws_eqIntS: function 32 -/
def laws_eqIntS.l0 : Nat → List Int → List Int → Int → Option (Bool)
  | 0, _, _, _ => none
  | k + 1, x0, x1, x5 => if x5 < (x0.length : Int) then (if 0 ≤ x5 then (if x5 < (x1.length : Int) then (if (rd x0 x5) = (rd x1 x5) then (laws_eqIntS.l0 k x0 x1 (wrap64 (x5 + 1))) else (some false)) else (none)) else (none)) else (some true)
def laws_eqIntS.f (k : Nat) (l0 : List Int) (l1 : List Int) : Option (Bool) := if (l0.length : Int) = (l1.length : Int) then (laws_eqIntS.l0 k l0 l1 0) else (some false)
theorem laws_eqIntS.mono_l : ∀ k, (∀ y0 y1 y2, LeO (laws_eqIntS.l0 k y0 y1 y2) (laws_eqIntS.l0 (k + 1) y0 y1 y2))
  | 0 => fun _ _ _ r h => by simp [laws_eqIntS.l0] at h
  | k + 1 => by
    have ih0 := laws_eqIntS.mono_l k
    · intro y0 y1 y2
      unfold laws_eqIntS.l0
      repeat' first
      | (with_reducible exact ih0 _ _ _)
      | (with_reducible exact LeO.refl _)
      | (with_reducible exact LeO.none _)
      | (with_reducible refine LeO.ite ?_ ?_)
      | (with_reducible refine LeO.bind ?_ (fun _ => ?_))
      | exact ih0 _ _ _
      | exact LeO.none _
      | refine LeO.ite ?_ ?_
      | refine LeO.bind ?_ (fun _ => ?_)
theorem laws_eqIntS.mono : ∀ a0 a1 k, LeO (laws_eqIntS.f k a0 a1) (laws_eqIntS.f (k + 1) a0 a1) := by
  intro a0 a1 k
  have ih0 := laws_eqIntS.mono_l k
  unfold laws_eqIntS.f
  repeat' first
      | (with_reducible exact ih0 _ _ _)
      | (with_reducible exact LeO.refl _)
      | (with_reducible exact LeO.none _)
      | (with_reducible refine LeO.ite ?_ ?_)
      | (with_reducible refine LeO.bind ?_ (fun _ => ?_))
      | exact ih0 _ _ _
      | exact LeO.none _
      | refine LeO.ite ?_ ?_
      | refine LeO.bind ?_ (fun _ => ?_)
set_option maxHeartbeats 8000000 in
set_option maxRecDepth 100000 in
theorem laws_eqIntS.calls (k : Nat) (A0 : Option Addr) (c0 : Nat) (l0 : List Int) (A1 : Option Addr) (c1 : Nat) (l1 : List Int) (r : Bool) (w : World) (hr0 : Kd.C (Kd.int .i64) w A0 l0.length l0) (hc0 : l0.length ≤ c0) (hr1 : Kd.C (Kd.int .i64) w A1 l1.length l1) (hc1 : l1.length ≤ c1) (h : laws_eqIntS.f k l0 l1 = some r) :
  Calls Tryd.prog 32 #[.slice A0 l0.length c0, .slice A1 l1.length c1] w fun e w' => e = .returned (.bool r) ∧ Drawn0 w w' := by
 have HR0 := zm hr0
 have HC0 := zm hc0
 clear hr0 hc0
 have HR1 := zm hr1
 have HC1 := zm hc1
 clear hr1 hc1
 have H : (if (l0.length : Int) = (l1.length : Int) then (laws_eqIntS.l0 k l0 l1 0) else (some false)) = some r := h
 clear h
 by_cases c3 : (l0.length : Int) = (l1.length : Int)
 rotate_left
 ·
  rw [if_neg c3] at H
  have c3b0 : ((l0.length : Int) == (l1.length : Int)) = false := beq_eq_false_iff_ne.mpr c3
  have c3b1 : ((l0.length : Int) != (l1.length : Int)) = true := bne_iff_ne.mpr c3
  have c3b2 : (l0.length == l1.length) = false := by first | simpa using c3 | (simp at c3 ⊢; omega)
  obtain rfl := Option.some.inj H
  go_enter Tryd.func32, Tryd.ntmps32
  go_wp2
  repeat (go_quiet (fail); try go_wp2)
  go_ret
  exact ⟨by first | rfl | (simp; done) | (simp [*]; done), by repeat (first | exact Drawn0.refl _ | apply Drawn0.step)⟩

 rw [if_pos c3] at H
 have c3b0 : ((l0.length : Int) == (l1.length : Int)) = true := beq_iff_eq.mpr c3
 have c3b1 : ((l0.length : Int) != (l1.length : Int)) = false := bne_eq_false_iff_eq.mpr c3
 have c3b2 : (l0.length == l1.length) = true := by first | simpa using c3 | (simp at c3 ⊢; omega)
 clear c3
 have H' := zm H
 clear H
 go_enter Tryd.func32, Tryd.ntmps32
 go_wp2
 repeat (go_quiet (fail); try go_wp2)
 go_loopg [5] k (fun kq v5 w' => ∃ (x5_1 : Int), v5 = .int .i64 x5_1 ∧ Aside0 (laws_eqIntS.l0 kq l0 l1 x5_1 = some r) ∧ Aside0 (kq ≤ k) ∧ Drawn0 w w')
 case atStart => exact ⟨(0), (by first | rfl | (simp; done) | (simp [*]; done)), H', ⟨Nat.le_refl _⟩, by repeat (first | exact Drawn0.refl _ | apply Drawn0.step)⟩
 case round =>
  clear H'
  (try clear c1); (try clear p2); (try clear c3); (try clear c3b0); (try clear c3b1); (try clear c3b2)
  obtain ⟨x5_1, rfl, HA, HK1, ⟨m1, rfl⟩⟩ := hrel
  cases gk with
  | zero => exact absurd HA.out (by simp [laws_eqIntS.l0])
  | succ k1 =>
   have H := HA.out
   clear HA
   simp only [laws_eqIntS.l0] at H
   by_cases c4 : x5_1 < (l0.length : Int)
   rotate_left
   ·
    rw [if_neg c4] at H
    have c4b0 : decide (x5_1 < (l0.length : Int)) = false := decide_eq_false c4
    clear c4
    obtain rfl := Option.some.inj H
    go_wp2
    repeat (go_quiet (fail); try go_wp2)
    go_ret
    exact ⟨by first | rfl | (simp; done) | (simp [*]; done), by repeat (first | exact Drawn0.refl _ | apply Drawn0.step)⟩
   rw [if_pos c4] at H
   have c4b0 : decide (x5_1 < (l0.length : Int)) = true := decide_eq_true c4
   clear c4
   by_cases c5 : 0 ≤ x5_1
   rotate_left
   ·
    rw [if_neg c5] at H
    exact absurd H (by simp)
   rw [if_pos c5] at H
   have c5b0 : decide (0 ≤ x5_1) = true := decide_eq_true c5
   clear c5
   by_cases c6 : x5_1 < (l1.length : Int)
   rotate_left
   ·
    rw [if_neg c6] at H
    exact absurd H (by simp)
   rw [if_pos c6] at H
   have c6b0 : decide (x5_1 < (l1.length : Int)) = true := decide_eq_true c6
   clear c6
   by_cases c7 : (rd l0 x5_1) = (rd l1 x5_1)
   rotate_left
   ·
    rw [if_neg c7] at H
    have c7b0 : ((rd l0 x5_1) == (rd l1 x5_1)) = false := beq_eq_false_iff_ne.mpr c7
    have c7b1 : ((rd l0 x5_1) != (rd l1 x5_1)) = true := bne_iff_ne.mpr c7
    obtain rfl := Option.some.inj H
    have p291 : 0 ≤ (x5_1 : Int) := zd
    have q291 : x5_1 < (l0.length : Int) := zd
    obtain ⟨ad291, e291, hx291_0⟩ := Kd.at_int HR0.out x5_1 p291 q291
    cases e291
    replace p291 := eq_true p291
    replace q291 := eq_true q291
    have p292 : 0 ≤ (x5_1 : Int) := zd
    have q292 : x5_1 < (l1.length : Int) := zd
    obtain ⟨ad292, e292, hx292_0⟩ := Kd.at_int HR1.out x5_1 p292 q292
    cases e292
    replace p292 := eq_true p292
    replace q292 := eq_true q292
    go_wp2
    repeat (go_quiet (fail); try go_wp2)
    go_ret
    exact ⟨by first | rfl | (simp; done) | (simp [*]; done), by repeat (first | exact Drawn0.refl _ | apply Drawn0.step)⟩
   rw [if_pos c7] at H
   have c7b0 : ((rd l0 x5_1) == (rd l1 x5_1)) = true := beq_iff_eq.mpr c7
   have c7b1 : ((rd l0 x5_1) != (rd l1 x5_1)) = false := bne_eq_false_iff_eq.mpr c7
   clear c7
   have H' := zm H
   clear H
   have p291 : 0 ≤ (x5_1 : Int) := zd
   have q291 : x5_1 < (l0.length : Int) := zd
   obtain ⟨ad291, e291, hx291_0⟩ := Kd.at_int HR0.out x5_1 p291 q291
   cases e291
   replace p291 := eq_true p291
   replace q291 := eq_true q291
   have p292 : 0 ≤ (x5_1 : Int) := zd
   have q292 : x5_1 < (l1.length : Int) := zd
   obtain ⟨ad292, e292, hx292_0⟩ := Kd.at_int HR1.out x5_1 p292 q292
   cases e292
   replace p292 := eq_true p292
   replace q292 := eq_true q292
   go_wp2
   repeat (go_quiet (fail); try go_wp2)
   go_roundg k1
   case measure => have := HK1.out; omega
   case rel => exact ⟨(wrap64 (x5_1 + 1)), (by first | rfl | (simp; done) | (simp [*]; done)), H', ⟨by have := HK1.out; omega⟩, by repeat (first | exact Drawn0.refl _ | apply Drawn0.step)⟩
/-! ### laws_eqInstrument: function 12 -/
def laws_eqInstrument.f (k : Nat) (l0_0 : List Int) (a0_1 : Int) (l1_0 : List Int) (a1_1 : Int) : Option (Bool) := (laws_eqIntS.f k l0_0 l1_0).bind fun t295 => (if t295 = true then (if a0_1 = a1_1 then (some true) else (some false)) else (some false))
theorem laws_eqInstrument.mono : ∀ a0 a1 a2 a3 k, LeO (laws_eqInstrument.f k a0 a1 a2 a3) (laws_eqInstrument.f (k + 1) a0 a1 a2 a3) := by
  intro a0 a1 a2 a3 k
  unfold laws_eqInstrument.f
  repeat' first
      | (with_reducible exact laws_eqIntS.mono _ _ _)
      | (with_reducible exact LeO.refl _)
      | (with_reducible exact LeO.none _)
      | (with_reducible refine LeO.ite ?_ ?_)
      | (with_reducible refine LeO.bind ?_ (fun _ => ?_))
      | exact laws_eqIntS.mono _ _ _
      | exact LeO.none _
      | refine LeO.ite ?_ ?_
      | refine LeO.bind ?_ (fun _ => ?_)
set_option maxHeartbeats 8000000 in
set_option maxRecDepth 100000 in
theorem laws_eqInstrument.calls (k : Nat) (A0_0 : Option Addr) (c0_0 : Nat) (l0_0 : List Int) (a0_1 : Int) (A1_0 : Option Addr) (c1_0 : Nat) (l1_0 : List Int) (a1_1 : Int) (r : Bool) (w : World) (hr0_0 : Kd.C (Kd.int .i64) w A0_0 l0_0.length l0_0) (hc0_0 : l0_0.length ≤ c0_0) (hr1_0 : Kd.C (Kd.int .i64) w A1_0 l1_0.length l1_0) (hc1_0 : l1_0.length ≤ c1_0) (h : laws_eqInstrument.f k l0_0 a0_1 l1_0 a1_1 = some r) :
  Calls Tryd.prog 12 #[.agg #[.slice A0_0 l0_0.length c0_0, .int .i64 a0_1], .agg #[.slice A1_0 l1_0.length c1_0, .int .i64 a1_1]] w fun e w' => e = .returned (.bool r) ∧ Below w.heap.size w w' := by
 have hu32 := Tryd.underlying32
 have HR0_0 := zm hr0_0
 have HC0_0 := zm hc0_0
 clear hr0_0 hc0_0
 have HR1_0 := zm hr1_0
 have HC1_0 := zm hc1_0
 clear hr1_0 hc1_0
 have HB := zm (Below.refl w.heap.size w)
 have H : ((laws_eqIntS.f k l0_0 l1_0).bind fun t295 => (if t295 = true then (if a0_1 = a1_1 then (some true) else (some false)) else (some false))) = some r := h
 clear h
 replace H := Option.bind_eq_some_iff.mp H
 obtain ⟨t295, A30, H⟩ := H
 (try dsimp only at H)
 have A3 := zm A30
 clear A30
 by_cases c4 : t295 = true
 rotate_left
 ·
  replace c4 := Bool.eq_false_iff.mpr c4
  subst c4
  have H1 : (some false) = some r := by rw [if_neg (show ¬ (false = true) by decide)] at H; exact H
  clear H
  have H := H1
  clear H1
  obtain rfl := Option.some.inj H
  go_enter Tryd.func12, Tryd.ntmps12
  go_wp2_with (first | ((with_reducible refine gate_dst (N := 2) rfl ?_); refine box_event ?hg (N := 2) ?hd (cs := #[.slice A0_0 l0_0.length c0_0, .int .i64 a0_1]) (t := 32) ?hr ?_; (case hd => rfl); (case hg => rfl); (case hr => first | (go_simp; done) | (go_simp; rfl)); intro gb293 hg w16 hbox hb; have n0_ := zm (below_step zb hb); have BK293 := zm (hbox); have GW293 := zm (zs hg zb : w.heap.size ≤ gb293); have GE293 := zm (zs hg zb : w.heap.size ≤ gb293); replace HB := n0_; clear n0_; clear hb hbox hg) | ((with_reducible refine gate_dst (N := 3) rfl ?_); refine box_event ?hg (N := 3) ?hd (cs := #[.slice A1_0 l1_0.length c1_0, .int .i64 a1_1]) (t := 32) ?hr ?_; (case hd => rfl); (case hg => rfl); (case hr => first | (go_simp; done) | (go_simp; rfl)); intro gb294 hg w17 hbox hb; have n0_ := zm (blk_below (g := gb293) zk hb); have n1_ := zm (below_step zb hb); have BK294 := zm (hbox); have GW294 := zm (zs hg zb : w.heap.size ≤ gb294); have GE294 := zm (zs hg zb : w.heap.size ≤ gb294); have NB293_294 := zm (zl hg zk : gb293 ≠ gb294); have NB294_293 := zm (zg hg zk : gb294 ≠ gb293); replace BK293 := n0_; replace HB := n1_; clear n0_ n1_; clear hb hbox hg; have hnb18 := NB293_294.out; have hnc18 := NB294_293.out; obtain ⟨hcz19_0, hcz19_1, hfz19_0, hfz19_1⟩ := zc2 BK293.out; obtain ⟨hcz20_0, hcz20_1, hfz20_0, hfz20_1⟩ := zc2 BK294.out) | ((with_reducible refine gate_callee (f := 32) rfl ?_); refine goesA_ (some 9) Tryd.func32 #[.slice A0_0 l0_0.length c0_0, .slice A1_0 l1_0.length c1_0] rfl ?_; (with_reducible refine (laws_eqIntS.calls k _ _ l0_0 _ _ l1_0 false _ ?side1 ?side2 ?side3 ?side4 A3.out).mono ?_); (case side1 => repeat (first | exact (Kd.C_below HR0_0.out HB.out) | (with_reducible refine Kd.C_alloc ?_ _) | (with_reducible refine Kd.C_drewN ?_ _) | (with_reducible refine Kd.C_drew ?_))); (case side2 => exact HC0_0.out); (case side3 => repeat (first | exact (Kd.C_below HR1_0.out HB.out) | (with_reducible refine Kd.C_alloc ?_ _) | (with_reducible refine Kd.C_drewN ?_ _) | (with_reducible refine Kd.C_drew ?_))); (case side4 => exact HC1_0.out); rintro e w' ⟨rfl, ⟨nd, rfl⟩⟩; refine ⟨_, rfl, ?_⟩))
  go_ret
  exact ⟨zr, zb⟩

 subst c4
 have H1 : (if a0_1 = a1_1 then (some true) else (some false)) = some r := by rw [if_pos rfl] at H; exact H
 clear H
 have H := H1
 clear H1
 by_cases c5 : a0_1 = a1_1
 rotate_left
 ·
  rw [if_neg c5] at H
  have c5b0 : (a0_1 == a1_1) = false := beq_eq_false_iff_ne.mpr c5
  have c5b1 : (a0_1 != a1_1) = true := bne_iff_ne.mpr c5
  obtain rfl := Option.some.inj H
  go_enter Tryd.func12, Tryd.ntmps12
  go_wp2_with (first | ((with_reducible refine gate_dst (N := 2) rfl ?_); refine box_event ?hg (N := 2) ?hd (cs := #[.slice A0_0 l0_0.length c0_0, .int .i64 a0_1]) (t := 32) ?hr ?_; (case hd => rfl); (case hg => rfl); (case hr => first | (go_simp; done) | (go_simp; rfl)); intro gb293 hg w11 hbox hb; have n0_ := zm (below_step zb hb); have BK293 := zm (hbox); have GW293 := zm (zs hg zb : w.heap.size ≤ gb293); have GE293 := zm (zs hg zb : w.heap.size ≤ gb293); replace HB := n0_; clear n0_; clear hb hbox hg) | ((with_reducible refine gate_dst (N := 3) rfl ?_); refine box_event ?hg (N := 3) ?hd (cs := #[.slice A1_0 l1_0.length c1_0, .int .i64 a1_1]) (t := 32) ?hr ?_; (case hd => rfl); (case hg => rfl); (case hr => first | (go_simp; done) | (go_simp; rfl)); intro gb294 hg w12 hbox hb; have n0_ := zm (blk_below (g := gb293) zk hb); have n1_ := zm (below_step zb hb); have BK294 := zm (hbox); have GW294 := zm (zs hg zb : w.heap.size ≤ gb294); have GE294 := zm (zs hg zb : w.heap.size ≤ gb294); have NB293_294 := zm (zl hg zk : gb293 ≠ gb294); have NB294_293 := zm (zg hg zk : gb294 ≠ gb293); replace BK293 := n0_; replace HB := n1_; clear n0_ n1_; clear hb hbox hg; have hnb13 := NB293_294.out; have hnc13 := NB294_293.out; obtain ⟨hcz14_0, hcz14_1, hfz14_0, hfz14_1⟩ := zc2 BK293.out; obtain ⟨hcz15_0, hcz15_1, hfz15_0, hfz15_1⟩ := zc2 BK294.out) | ((with_reducible refine gate_callee (f := 32) rfl ?_); refine goesA_ (some 9) Tryd.func32 #[.slice A0_0 l0_0.length c0_0, .slice A1_0 l1_0.length c1_0] rfl ?_; (with_reducible refine (laws_eqIntS.calls k _ _ l0_0 _ _ l1_0 true _ ?side1 ?side2 ?side3 ?side4 A3.out).mono ?_); (case side1 => repeat (first | exact (Kd.C_below HR0_0.out HB.out) | (with_reducible refine Kd.C_alloc ?_ _) | (with_reducible refine Kd.C_drewN ?_ _) | (with_reducible refine Kd.C_drew ?_))); (case side2 => exact HC0_0.out); (case side3 => repeat (first | exact (Kd.C_below HR1_0.out HB.out) | (with_reducible refine Kd.C_alloc ?_ _) | (with_reducible refine Kd.C_drewN ?_ _) | (with_reducible refine Kd.C_drew ?_))); (case side4 => exact HC1_0.out); rintro e w' ⟨rfl, ⟨nd, rfl⟩⟩; refine ⟨_, rfl, ?_⟩))
  go_ret
  exact ⟨zr, zb⟩
 rw [if_pos c5] at H
 have c5b0 : (a0_1 == a1_1) = true := beq_iff_eq.mpr c5
 have c5b1 : (a0_1 != a1_1) = false := bne_eq_false_iff_eq.mpr c5
 clear c5
 obtain rfl := Option.some.inj H
 go_enter Tryd.func12, Tryd.ntmps12
 go_wp2_with (first | ((with_reducible refine gate_dst (N := 2) rfl ?_); refine box_event ?hg (N := 2) ?hd (cs := #[.slice A0_0 l0_0.length c0_0, .int .i64 a0_1]) (t := 32) ?hr ?_; (case hd => rfl); (case hg => rfl); (case hr => first | (go_simp; done) | (go_simp; rfl)); intro gb293 hg w6 hbox hb; have n0_ := zm (below_step zb hb); have BK293 := zm (hbox); have GW293 := zm (zs hg zb : w.heap.size ≤ gb293); have GE293 := zm (zs hg zb : w.heap.size ≤ gb293); replace HB := n0_; clear n0_; clear hb hbox hg) | ((with_reducible refine gate_dst (N := 3) rfl ?_); refine box_event ?hg (N := 3) ?hd (cs := #[.slice A1_0 l1_0.length c1_0, .int .i64 a1_1]) (t := 32) ?hr ?_; (case hd => rfl); (case hg => rfl); (case hr => first | (go_simp; done) | (go_simp; rfl)); intro gb294 hg w7 hbox hb; have n0_ := zm (blk_below (g := gb293) zk hb); have n1_ := zm (below_step zb hb); have BK294 := zm (hbox); have GW294 := zm (zs hg zb : w.heap.size ≤ gb294); have GE294 := zm (zs hg zb : w.heap.size ≤ gb294); have NB293_294 := zm (zl hg zk : gb293 ≠ gb294); have NB294_293 := zm (zg hg zk : gb294 ≠ gb293); replace BK293 := n0_; replace HB := n1_; clear n0_ n1_; clear hb hbox hg; have hnb8 := NB293_294.out; have hnc8 := NB294_293.out; obtain ⟨hcz9_0, hcz9_1, hfz9_0, hfz9_1⟩ := zc2 BK293.out; obtain ⟨hcz10_0, hcz10_1, hfz10_0, hfz10_1⟩ := zc2 BK294.out) | ((with_reducible refine gate_callee (f := 32) rfl ?_); refine goesA_ (some 9) Tryd.func32 #[.slice A0_0 l0_0.length c0_0, .slice A1_0 l1_0.length c1_0] rfl ?_; (with_reducible refine (laws_eqIntS.calls k _ _ l0_0 _ _ l1_0 true _ ?side1 ?side2 ?side3 ?side4 A3.out).mono ?_); (case side1 => repeat (first | exact (Kd.C_below HR0_0.out HB.out) | (with_reducible refine Kd.C_alloc ?_ _) | (with_reducible refine Kd.C_drewN ?_ _) | (with_reducible refine Kd.C_drew ?_))); (case side2 => exact HC0_0.out); (case side3 => repeat (first | exact (Kd.C_below HR1_0.out HB.out) | (with_reducible refine Kd.C_alloc ?_ _) | (with_reducible refine Kd.C_drewN ?_ _) | (with_reducible refine Kd.C_drew ?_))); (case side4 => exact HC1_0.out); rintro e w' ⟨rfl, ⟨nd, rfl⟩⟩; refine ⟨_, rfl, ?_⟩))
 go_ret
 exact ⟨zr, zb⟩
/-! ### laws_eqHole: function 33 -/
def laws_eqHole.f (a0_0 : Int) (a0_1 : Int) (a0_2 : Int) (a1_0 : Int) (a1_1 : Int) (a1_2 : Int) : Option (Bool) := if a0_0 = a1_0 then (if a0_1 = a1_1 then (if a0_2 = a1_2 then (some true) else (some false)) else (some false)) else (some false)
set_option maxHeartbeats 8000000 in
set_option maxRecDepth 100000 in
theorem laws_eqHole.calls (a0_0 : Int) (a0_1 : Int) (a0_2 : Int) (a1_0 : Int) (a1_1 : Int) (a1_2 : Int) (r : Bool) (w : World) (h : laws_eqHole.f a0_0 a0_1 a0_2 a1_0 a1_1 a1_2 = some r) :
  Calls Tryd.prog 33 #[.agg #[.int .i64 a0_0, .int .i64 a0_1, .int .i64 a0_2], .agg #[.int .i64 a1_0, .int .i64 a1_1, .int .i64 a1_2]] w fun e w' => e = .returned (.bool r) ∧ Below w.heap.size w w' := by
 have hu60 := Tryd.underlying60
 have HB := zm (Below.refl w.heap.size w)
 have H : (if a0_0 = a1_0 then (if a0_1 = a1_1 then (if a0_2 = a1_2 then (some true) else (some false)) else (some false)) else (some false)) = some r := h
 clear h
 by_cases c3 : a0_0 = a1_0
 rotate_left
 ·
  rw [if_neg c3] at H
  have c3b0 : (a0_0 == a1_0) = false := beq_eq_false_iff_ne.mpr c3
  have c3b1 : (a0_0 != a1_0) = true := bne_iff_ne.mpr c3
  obtain rfl := Option.some.inj H
  go_enter Tryd.func33, Tryd.ntmps33
  go_wp2_with (first | ((with_reducible refine gate_dst (N := 2) rfl ?_); refine box_event ?hg (N := 2) ?hd (cs := #[.int .i64 a0_0, .int .i64 a0_1, .int .i64 a0_2]) (t := 60) ?hr ?_; (case hd => rfl); (case hg => rfl); (case hr => first | (go_simp; done) | (go_simp; rfl)); intro gb296 hg w21 hbox hb; have n0_ := zm (below_step zb hb); have BK296 := zm (hbox); have GW296 := zm (zs hg zb : w.heap.size ≤ gb296); have GE296 := zm (zs hg zb : w.heap.size ≤ gb296); replace HB := n0_; clear n0_; clear hb hbox hg) | ((with_reducible refine gate_dst (N := 3) rfl ?_); refine box_event ?hg (N := 3) ?hd (cs := #[.int .i64 a1_0, .int .i64 a1_1, .int .i64 a1_2]) (t := 60) ?hr ?_; (case hd => rfl); (case hg => rfl); (case hr => first | (go_simp; done) | (go_simp; rfl)); intro gb297 hg w22 hbox hb; have n0_ := zm (blk_below (g := gb296) zk hb); have n1_ := zm (below_step zb hb); have BK297 := zm (hbox); have GW297 := zm (zs hg zb : w.heap.size ≤ gb297); have GE297 := zm (zs hg zb : w.heap.size ≤ gb297); have NB296_297 := zm (zl hg zk : gb296 ≠ gb297); have NB297_296 := zm (zg hg zk : gb297 ≠ gb296); replace BK296 := n0_; replace HB := n1_; clear n0_ n1_; clear hb hbox hg; have hnb23 := NB296_297.out; have hnc23 := NB297_296.out; obtain ⟨hcz24_0, hcz24_1, hcz24_2, hfz24_0, hfz24_1, hfz24_2⟩ := zc3 BK296.out; obtain ⟨hcz25_0, hcz25_1, hcz25_2, hfz25_0, hfz25_1, hfz25_2⟩ := zc3 BK297.out))
  go_ret
  exact ⟨zr, zb⟩

 rw [if_pos c3] at H
 have c3b0 : (a0_0 == a1_0) = true := beq_iff_eq.mpr c3
 have c3b1 : (a0_0 != a1_0) = false := bne_eq_false_iff_eq.mpr c3
 clear c3
 by_cases c4 : a0_1 = a1_1
 rotate_left
 ·
  rw [if_neg c4] at H
  have c4b0 : (a0_1 == a1_1) = false := beq_eq_false_iff_ne.mpr c4
  have c4b1 : (a0_1 != a1_1) = true := bne_iff_ne.mpr c4
  obtain rfl := Option.some.inj H
  go_enter Tryd.func33, Tryd.ntmps33
  go_wp2_with (first | ((with_reducible refine gate_dst (N := 2) rfl ?_); refine box_event ?hg (N := 2) ?hd (cs := #[.int .i64 a0_0, .int .i64 a0_1, .int .i64 a0_2]) (t := 60) ?hr ?_; (case hd => rfl); (case hg => rfl); (case hr => first | (go_simp; done) | (go_simp; rfl)); intro gb296 hg w16 hbox hb; have n0_ := zm (below_step zb hb); have BK296 := zm (hbox); have GW296 := zm (zs hg zb : w.heap.size ≤ gb296); have GE296 := zm (zs hg zb : w.heap.size ≤ gb296); replace HB := n0_; clear n0_; clear hb hbox hg) | ((with_reducible refine gate_dst (N := 3) rfl ?_); refine box_event ?hg (N := 3) ?hd (cs := #[.int .i64 a1_0, .int .i64 a1_1, .int .i64 a1_2]) (t := 60) ?hr ?_; (case hd => rfl); (case hg => rfl); (case hr => first | (go_simp; done) | (go_simp; rfl)); intro gb297 hg w17 hbox hb; have n0_ := zm (blk_below (g := gb296) zk hb); have n1_ := zm (below_step zb hb); have BK297 := zm (hbox); have GW297 := zm (zs hg zb : w.heap.size ≤ gb297); have GE297 := zm (zs hg zb : w.heap.size ≤ gb297); have NB296_297 := zm (zl hg zk : gb296 ≠ gb297); have NB297_296 := zm (zg hg zk : gb297 ≠ gb296); replace BK296 := n0_; replace HB := n1_; clear n0_ n1_; clear hb hbox hg; have hnb18 := NB296_297.out; have hnc18 := NB297_296.out; obtain ⟨hcz19_0, hcz19_1, hcz19_2, hfz19_0, hfz19_1, hfz19_2⟩ := zc3 BK296.out; obtain ⟨hcz20_0, hcz20_1, hcz20_2, hfz20_0, hfz20_1, hfz20_2⟩ := zc3 BK297.out))
  go_ret
  exact ⟨zr, zb⟩
 rw [if_pos c4] at H
 have c4b0 : (a0_1 == a1_1) = true := beq_iff_eq.mpr c4
 have c4b1 : (a0_1 != a1_1) = false := bne_eq_false_iff_eq.mpr c4
 clear c4
 by_cases c5 : a0_2 = a1_2
 rotate_left
 ·
  rw [if_neg c5] at H
  have c5b0 : (a0_2 == a1_2) = false := beq_eq_false_iff_ne.mpr c5
  have c5b1 : (a0_2 != a1_2) = true := bne_iff_ne.mpr c5
  obtain rfl := Option.some.inj H
  go_enter Tryd.func33, Tryd.ntmps33
  go_wp2_with (first | ((with_reducible refine gate_dst (N := 2) rfl ?_); refine box_event ?hg (N := 2) ?hd (cs := #[.int .i64 a0_0, .int .i64 a0_1, .int .i64 a0_2]) (t := 60) ?hr ?_; (case hd => rfl); (case hg => rfl); (case hr => first | (go_simp; done) | (go_simp; rfl)); intro gb296 hg w11 hbox hb; have n0_ := zm (below_step zb hb); have BK296 := zm (hbox); have GW296 := zm (zs hg zb : w.heap.size ≤ gb296); have GE296 := zm (zs hg zb : w.heap.size ≤ gb296); replace HB := n0_; clear n0_; clear hb hbox hg) | ((with_reducible refine gate_dst (N := 3) rfl ?_); refine box_event ?hg (N := 3) ?hd (cs := #[.int .i64 a1_0, .int .i64 a1_1, .int .i64 a1_2]) (t := 60) ?hr ?_; (case hd => rfl); (case hg => rfl); (case hr => first | (go_simp; done) | (go_simp; rfl)); intro gb297 hg w12 hbox hb; have n0_ := zm (blk_below (g := gb296) zk hb); have n1_ := zm (below_step zb hb); have BK297 := zm (hbox); have GW297 := zm (zs hg zb : w.heap.size ≤ gb297); have GE297 := zm (zs hg zb : w.heap.size ≤ gb297); have NB296_297 := zm (zl hg zk : gb296 ≠ gb297); have NB297_296 := zm (zg hg zk : gb297 ≠ gb296); replace BK296 := n0_; replace HB := n1_; clear n0_ n1_; clear hb hbox hg; have hnb13 := NB296_297.out; have hnc13 := NB297_296.out; obtain ⟨hcz14_0, hcz14_1, hcz14_2, hfz14_0, hfz14_1, hfz14_2⟩ := zc3 BK296.out; obtain ⟨hcz15_0, hcz15_1, hcz15_2, hfz15_0, hfz15_1, hfz15_2⟩ := zc3 BK297.out))
  go_ret
  exact ⟨zr, zb⟩
 rw [if_pos c5] at H
 have c5b0 : (a0_2 == a1_2) = true := beq_iff_eq.mpr c5
 have c5b1 : (a0_2 != a1_2) = false := bne_eq_false_iff_eq.mpr c5
 clear c5
 obtain rfl := Option.some.inj H
 go_enter Tryd.func33, Tryd.ntmps33
 go_wp2_with (first | ((with_reducible refine gate_dst (N := 2) rfl ?_); refine box_event ?hg (N := 2) ?hd (cs := #[.int .i64 a0_0, .int .i64 a0_1, .int .i64 a0_2]) (t := 60) ?hr ?_; (case hd => rfl); (case hg => rfl); (case hr => first | (go_simp; done) | (go_simp; rfl)); intro gb296 hg w6 hbox hb; have n0_ := zm (below_step zb hb); have BK296 := zm (hbox); have GW296 := zm (zs hg zb : w.heap.size ≤ gb296); have GE296 := zm (zs hg zb : w.heap.size ≤ gb296); replace HB := n0_; clear n0_; clear hb hbox hg) | ((with_reducible refine gate_dst (N := 3) rfl ?_); refine box_event ?hg (N := 3) ?hd (cs := #[.int .i64 a1_0, .int .i64 a1_1, .int .i64 a1_2]) (t := 60) ?hr ?_; (case hd => rfl); (case hg => rfl); (case hr => first | (go_simp; done) | (go_simp; rfl)); intro gb297 hg w7 hbox hb; have n0_ := zm (blk_below (g := gb296) zk hb); have n1_ := zm (below_step zb hb); have BK297 := zm (hbox); have GW297 := zm (zs hg zb : w.heap.size ≤ gb297); have GE297 := zm (zs hg zb : w.heap.size ≤ gb297); have NB296_297 := zm (zl hg zk : gb296 ≠ gb297); have NB297_296 := zm (zg hg zk : gb297 ≠ gb296); replace BK296 := n0_; replace HB := n1_; clear n0_ n1_; clear hb hbox hg; have hnb8 := NB296_297.out; have hnc8 := NB297_296.out; obtain ⟨hcz9_0, hcz9_1, hcz9_2, hfz9_0, hfz9_1, hfz9_2⟩ := zc3 BK296.out; obtain ⟨hcz10_0, hcz10_1, hcz10_2, hfz10_0, hfz10_1, hfz10_2⟩ := zc3 BK297.out))
 go_ret
 exact ⟨zr, zb⟩
end Go.Proofs.YtjdkdbeenggfaaaDoor.PPt
