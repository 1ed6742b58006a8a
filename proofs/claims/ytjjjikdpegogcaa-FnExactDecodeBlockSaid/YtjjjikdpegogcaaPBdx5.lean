-- Written for this claim by a program of this session (wip/tpl/patchprint.py), not by print.sh.
import Derived.Test.YtjjjikdpegogcaaPBdx0
import Derived.Test.YtjjjikdpegogcaaPBdx3
import Derived.Test.YtjjjikdpegogcaaPBdx4
namespace Go.Proofs.Ytjjjikdpegogcaa.PBd
open Go.RowKit Go.Proofs.YtjjjikdpegogcaaW.PrintWords Go.Proofs.YtjjjikdpegogcaaW.PrintLast Go.Proofs.YtjjjikdpegogcaaW.PrintMore
attribute [local go_sem] max2_int min2_int max_two min_two max_three min_three max_four min_four   -- for this text's walks alone
set_option linter.unusedVariables false
set_option linter.unusedSimpArgs false

/-! ### spec_deGroups: function 130 -/
theorem spec_deGroups.info_i : (Try.prog.info? 3).map (fun i => (i.zero, i.size, i.bytes)) = some (some (.int .i64 0), 1, 8) := by kernel_rfl
mutual
def spec_deGroups.l0 : Nat → List ByteArray → List Int → Int → Option (List Int)
  | 0, _, _, _ => none
  | k + 1, x0, x3, x4 => (spec_deLines.f x0).bind fun t153 => (if x4 < t153 then (if x3.length < 17592186044416 then (spec_deGroups.l0 k x0 (x3 ++ [x4]) (wrap64 (x4 + 1))) else (none)) else (spec_deGroups.l1 k x0 x3 x0 (x0.length : Int) 0))
def spec_deGroups.l1 : Nat → List ByteArray → List Int → List ByteArray → Int → Int → Option (List Int)
  | 0, _, _, _, _, _ => none
  | k + 1, x0, x3, x22, x23, x24 => if x24 < x23 then (if 0 ≤ x24 then (if x24 < (x22.length : Int) then (spec_deGroups.l2 k x0 x3 x24 (rdOf ByteArray.empty x22 x24) 0 x22 x23 x24) else (none)) else (none)) else (some x3)
def spec_deGroups.l2 : Nat → List ByteArray → List Int → Int → ByteArray → Int → List ByteArray → Int → Int → Option (List Int)
  | 0, _, _, _, _, _, _, _, _ => none
  | k + 1, x0, x3, x5, x6, x7, x22, x23, x24 => if x7 < (x6.size : Int) then (if 0 ≤ x7 then (if (bt x6 x7) = 63 then (if 0 ≤ x5 then (if x5 < (x3.length : Int) then (if 0 ≤ (wrap64 ((x0.length : Int) + x7)) then (if (wrap64 ((x0.length : Int) + x7)) < (x3.length : Int) then (spec_deGroups.l3 k x0 x3 x5 x6 x7 (rd x3 x5) (rd x3 (wrap64 ((x0.length : Int) + x7))) x22 x23 x24 (x3.length : Int) 0) else (none)) else (none)) else (none)) else (none)) else (spec_deGroups.l2 k x0 x3 x5 x6 (wrap64 (x7 + 1)) x22 x23 x24)) else (none)) else (spec_deGroups.l1 k x0 x3 x22 x23 (wrap64 (x24 + 1)))
def spec_deGroups.l3 : Nat → List ByteArray → List Int → Int → ByteArray → Int → Int → Int → List ByteArray → Int → Int → Int → Int → Option (List Int)
  | 0, _, _, _, _, _, _, _, _, _, _, _, _ => none
  | k + 1, x0, x3, x5, x6, x7, x8, x9, x22, x23, x24, x51, x52 => if x52 < x51 then (if 0 ≤ x52 then (if x52 < (x3.length : Int) then (if (rd x3 x52) = x8 then ((spec_l1Least.f x8 x9).bind fun t161 => (spec_deGroups.l3 k x0 (x3.set (x52 : Int).toNat t161) x5 x6 x7 x8 x9 x22 x23 x24 x51 (wrap64 (x52 + 1)))) else (if (rd x3 x52) = x9 then ((spec_l1Least.f x8 x9).bind fun t163 => (spec_deGroups.l3 k x0 (x3.set (x52 : Int).toNat t163) x5 x6 x7 x8 x9 x22 x23 x24 x51 (wrap64 (x52 + 1)))) else (spec_deGroups.l3 k x0 x3 x5 x6 x7 x8 x9 x22 x23 x24 x51 (wrap64 (x52 + 1))))) else (none)) else (none)) else (spec_deGroups.l2 k x0 x3 x5 x6 (wrap64 (x7 + 1)) x22 x23 x24)
end
def spec_deGroups.f (k : Nat) (l0 : List ByteArray) : Option (List Int) := spec_deGroups.l0 k l0 ([] : List Int) 0
theorem spec_deGroups.mono_l : ∀ k, (∀ y0 y1 y2, LeO (spec_deGroups.l0 k y0 y1 y2) (spec_deGroups.l0 (k + 1) y0 y1 y2)) ∧ (∀ y0 y1 y2 y3 y4, LeO (spec_deGroups.l1 k y0 y1 y2 y3 y4) (spec_deGroups.l1 (k + 1) y0 y1 y2 y3 y4)) ∧ (∀ y0 y1 y2 y3 y4 y5 y6 y7, LeO (spec_deGroups.l2 k y0 y1 y2 y3 y4 y5 y6 y7) (spec_deGroups.l2 (k + 1) y0 y1 y2 y3 y4 y5 y6 y7)) ∧ (∀ y0 y1 y2 y3 y4 y5 y6 y7 y8 y9 y10 y11, LeO (spec_deGroups.l3 k y0 y1 y2 y3 y4 y5 y6 y7 y8 y9 y10 y11) (spec_deGroups.l3 (k + 1) y0 y1 y2 y3 y4 y5 y6 y7 y8 y9 y10 y11))
  | 0 => ⟨fun _ _ _ r h => by simp [spec_deGroups.l0] at h, fun _ _ _ _ _ r h => by simp [spec_deGroups.l1] at h, fun _ _ _ _ _ _ _ _ r h => by simp [spec_deGroups.l2] at h, fun _ _ _ _ _ _ _ _ _ _ _ _ r h => by simp [spec_deGroups.l3] at h⟩
  | k + 1 => by
    obtain ⟨ih0, ih1, ih2, ih3⟩ := spec_deGroups.mono_l k
    refine ⟨?_, ?_, ?_, ?_⟩
    · intro y0 y1 y2
      unfold spec_deGroups.l0
      repeat' first
      | (with_reducible exact ih0 _ _ _)
      | (with_reducible exact ih1 _ _ _ _ _)
      | (with_reducible exact ih2 _ _ _ _ _ _ _ _)
      | (with_reducible exact ih3 _ _ _ _ _ _ _ _ _ _ _ _)
      | (with_reducible exact LeO.refl _)
      | (with_reducible exact LeO.none _)
      | (with_reducible refine LeO.ite ?_ ?_)
      | (with_reducible refine LeO.bind ?_ (fun _ => ?_))
      | exact ih0 _ _ _
      | exact ih1 _ _ _ _ _
      | exact ih2 _ _ _ _ _ _ _ _
      | exact ih3 _ _ _ _ _ _ _ _ _ _ _ _
      | exact LeO.none _
      | refine LeO.ite ?_ ?_
      | refine LeO.bind ?_ (fun _ => ?_)
    · intro y0 y1 y2 y3 y4
      unfold spec_deGroups.l1
      repeat' first
      | (with_reducible exact ih0 _ _ _)
      | (with_reducible exact ih1 _ _ _ _ _)
      | (with_reducible exact ih2 _ _ _ _ _ _ _ _)
      | (with_reducible exact ih3 _ _ _ _ _ _ _ _ _ _ _ _)
      | (with_reducible exact LeO.refl _)
      | (with_reducible exact LeO.none _)
      | (with_reducible refine LeO.ite ?_ ?_)
      | (with_reducible refine LeO.bind ?_ (fun _ => ?_))
      | exact ih0 _ _ _
      | exact ih1 _ _ _ _ _
      | exact ih2 _ _ _ _ _ _ _ _
      | exact ih3 _ _ _ _ _ _ _ _ _ _ _ _
      | exact LeO.none _
      | refine LeO.ite ?_ ?_
      | refine LeO.bind ?_ (fun _ => ?_)
    · intro y0 y1 y2 y3 y4 y5 y6 y7
      unfold spec_deGroups.l2
      repeat' first
      | (with_reducible exact ih0 _ _ _)
      | (with_reducible exact ih1 _ _ _ _ _)
      | (with_reducible exact ih2 _ _ _ _ _ _ _ _)
      | (with_reducible exact ih3 _ _ _ _ _ _ _ _ _ _ _ _)
      | (with_reducible exact LeO.refl _)
      | (with_reducible exact LeO.none _)
      | (with_reducible refine LeO.ite ?_ ?_)
      | (with_reducible refine LeO.bind ?_ (fun _ => ?_))
      | exact ih0 _ _ _
      | exact ih1 _ _ _ _ _
      | exact ih2 _ _ _ _ _ _ _ _
      | exact ih3 _ _ _ _ _ _ _ _ _ _ _ _
      | exact LeO.none _
      | refine LeO.ite ?_ ?_
      | refine LeO.bind ?_ (fun _ => ?_)
    · intro y0 y1 y2 y3 y4 y5 y6 y7 y8 y9 y10 y11
      unfold spec_deGroups.l3
      repeat' first
      | (with_reducible exact ih0 _ _ _)
      | (with_reducible exact ih1 _ _ _ _ _)
      | (with_reducible exact ih2 _ _ _ _ _ _ _ _)
      | (with_reducible exact ih3 _ _ _ _ _ _ _ _ _ _ _ _)
      | (with_reducible exact LeO.refl _)
      | (with_reducible exact LeO.none _)
      | (with_reducible refine LeO.ite ?_ ?_)
      | (with_reducible refine LeO.bind ?_ (fun _ => ?_))
      | exact ih0 _ _ _
      | exact ih1 _ _ _ _ _
      | exact ih2 _ _ _ _ _ _ _ _
      | exact ih3 _ _ _ _ _ _ _ _ _ _ _ _
      | exact LeO.none _
      | refine LeO.ite ?_ ?_
      | refine LeO.bind ?_ (fun _ => ?_)
theorem spec_deGroups.mono : ∀ a0 k, LeO (spec_deGroups.f k a0) (spec_deGroups.f (k + 1) a0) := by
  intro a0 k
  obtain ⟨ih0, ih1, ih2, ih3⟩ := spec_deGroups.mono_l k
  unfold spec_deGroups.f
  repeat' first
      | (with_reducible exact ih0 _ _ _)
      | (with_reducible exact ih1 _ _ _ _ _)
      | (with_reducible exact ih2 _ _ _ _ _ _ _ _)
      | (with_reducible exact ih3 _ _ _ _ _ _ _ _ _ _ _ _)
      | (with_reducible exact LeO.refl _)
      | (with_reducible exact LeO.none _)
      | (with_reducible refine LeO.ite ?_ ?_)
      | (with_reducible refine LeO.bind ?_ (fun _ => ?_))
      | exact ih0 _ _ _
      | exact ih1 _ _ _ _ _
      | exact ih2 _ _ _ _ _ _ _ _
      | exact ih3 _ _ _ _ _ _ _ _ _ _ _ _
      | exact LeO.none _
      | refine LeO.ite ?_ ?_
      | refine LeO.bind ?_ (fun _ => ?_)
theorem spec_deGroups.gq {P : Program} {i : Nat} {ops : Array Oper} {Q : Exit → Act → World → Prop} {a : Act} {W : World} (h : (Code.region i ops true).wp P Q a W) : (Code.region i ops true).wp P Q a W := h
set_option maxHeartbeats 8000000 in
set_option maxRecDepth 100000 in
theorem spec_deGroups.calls (k : Nat) (A0 : Option Addr) (c0 : Nat) (l0 : List ByteArray) (r : List Int) (w : World) (hr0 : Kd.C Kd.string w A0 l0.length l0) (hc0 : l0.length ≤ c0) (h : spec_deGroups.f k l0 = some r) :
  Calls Try.prog 130 #[.slice A0 l0.length c0] w fun e w' => ∃ v0_ : Value, e = .returned (v0_) ∧ Kd.R (Kd.int .i64) 3 w' w.heap.size (fun _ => True) v0_ r ∧ Below w.heap.size w w' := by
 have HR0 := zm hr0
 have HC0 := zm hc0
 clear hr0 hc0
 have HB := zm (Below.refl w.heap.size w)
 have H : (spec_deGroups.l0 k l0 ([] : List Int) 0) = some r := h
 clear h
 have H' := zm H
 clear H
 go_enter Try.func130, Try.ntmps130
 go_wp2
 repeat (go_quiet (fail); try go_wp2)
 go_loopg [3, 4] k (fun kq v3 v4 w' => ∃ (x3_1 : List Int) (x4_1 : Int), v4 = .int .i64 x4_1 ∧ Aside0 (spec_deGroups.l0 kq l0 x3_1 x4_1 = some r) ∧ Aside0 (kq ≤ k) ∧ Aside0 (Kd.R (Kd.int .i64) 3 w' w.heap.size (fun _ => True) v3 x3_1) ∧ Aside0 (Below w.heap.size w w'))
 case atStart => exact ⟨(([] : List Int)), (0), (by first | rfl | (simp; done) | (simp [*]; done)), H', ⟨Nat.le_refl _⟩, ⟨by first | exact Kd.R_nil _ _ _ _ _ | exact Kd.N_nil _ _ _ _ _ | exact Kd.V_nil _ _ _ _ _ | exact Kd.Q_nil _ _ _ _ _ | exact Kd.S_nil _ _ _ _ _⟩, ⟨zb⟩⟩
 case round =>
  clear H'
  try clear c1
  obtain ⟨x3_1, x4_1, rfl, HA, HK1, HO_3, HB⟩ := hrel
  cases gk with
  | zero => exact absurd HA.out (by simp [spec_deGroups.l0])
  | succ k1 =>
   have H := HA.out
   clear HA
   simp only [spec_deGroups.l0] at H
   replace H := Option.bind_eq_some_iff.mp H
   obtain ⟨t153, A20, H⟩ := H
   (try dsimp only at H)
   have A2 := zm A20
   clear A20
   by_cases c3 : x4_1 < t153
   ·
    rw [if_pos c3] at H
    have c3b0 : decide (x4_1 < t153) = true := decide_eq_true c3
    clear c3
    by_cases c4 : x3_1.length < 17592186044416
    ·
     rw [if_pos c4] at H
     have LMc4 := zm c4
     clear c4
     obtain ⟨y154, hy154⟩ : ∃ y_ : List Int, y_ = (x3_1 ++ [x4_1]) := ⟨_, rfl⟩
     replace H : (spec_deGroups.l0 k1 l0 y154 (wrap64 (x4_1 + 1))) = some r := by first | (rw [hy154]; with_reducible exact H) | (have H2_ := (Option.bind_some _ _).symm.trans H; rw [hy154]; with_reducible exact H2_) | (have H2_ := (Option.bind_some _ _).symm.trans H; with_reducible exact H2_) | with_reducible exact H | (rw [hy154]; exact H) | exact H
     have Ny154 := zm hy154
     clear hy154
     have H' := zm H
     clear H
     go_wp2_with (first | (go_at_call 120; (with_reducible refine (spec_deLines.calls _ _ l0 t153 _ ?side1 ?side2 A2.out).mono ?_); (case side1 => repeat (first | exact (Kd.C_below HR0.out HB.out) | (with_reducible refine Kd.C_alloc ?_ _) | (with_reducible refine Kd.C_drewN ?_ _) | (with_reducible refine Kd.C_drew ?_))); (case side2 => exact HC0.out); rintro e w' ⟨rfl, ⟨nd, rfl⟩⟩; (try first | exact ⟨rfl, _, World.drewN_drewN _ _ _⟩ | exact ⟨rfl, _, Eq.trans (World.drewN_drewN _ _ _) (congrArg (World.drewN _) (Nat.add_assoc _ _ _))⟩)) | ((with_reducible refine gate_builtin (b := .append) (xs := #[.tmp 18, .tmp 20]) rfl ?_); at_builtin; refine Kd.R_append (Kd.int .i64) (w0 := w) w.heap.size rfl (.tmp 18) (.tmp 20) 38 3 (.int .i64 0) 8 rfl Try.underlying38 spec_deGroups.info_i rfl (by decide) (by omega) u3 x3_1 x4_1 [.int .i64 x4_1] (fun _ => True) (fun _ => False) rfl rfl ?aP (fun _ hk => hk.elim) ?aF ?aO ?aB ?aS ?aL ?_; (case aP => exact rfl); (case aB => exact zb); (case aF => exact (fun _ _ => trivial)); (case aO => exact (by (with_reducible repeat (first | apply Kd.R_alloc | apply Kd.R_drewN | apply Kd.R_drew)); exact HO_3.out)); (case aS => exact (below_size zb)); (case aL => have := LMc4.out; omega); intro v155 w5 ho hb hg hat; rw [← Ny154.out] at ho; have n0_ := zm (hb); have n1_ := zm (ho); clear HB; clear HO_3; have HB := n0_; have HO156 := n1_; clear n0_ n1_; clear ho hb hg hat) | ((with_reducible refine spec_deGroups.gq ?_); go_quiet (first | (go_at_call 120; (with_reducible refine (spec_deLines.calls _ _ l0 t153 _ ?side1 ?side2 A2.out).mono ?_); (case side1 => repeat (first | exact (Kd.C_below HR0.out HB.out) | (with_reducible refine Kd.C_alloc ?_ _) | (with_reducible refine Kd.C_drewN ?_ _) | (with_reducible refine Kd.C_drew ?_))); (case side2 => exact HC0.out); rintro e w' ⟨rfl, ⟨nd, rfl⟩⟩; (try first | exact ⟨rfl, _, World.drewN_drewN _ _ _⟩ | exact ⟨rfl, _, Eq.trans (World.drewN_drewN _ _ _) (congrArg (World.drewN _) (Nat.add_assoc _ _ _))⟩)))))
     go_roundg k1
     case measure => have := HK1.out; omega
     case rel => exact ⟨(y154), (wrap64 (x4_1 + 1)), (by first | rfl | (simp; done) | (simp [*]; done)), H', ⟨by have := HK1.out; omega⟩, ⟨by (with_reducible repeat (first | apply Kd.R_alloc | apply Kd.R_drewN | apply Kd.R_drew)); exact HO156.out⟩, ⟨zb⟩⟩
    ·
     rw [if_neg c4] at H
     exact absurd H (by simp)
   ·
    rw [if_neg c3] at H
    have c3b0 : decide (x4_1 < t153) = false := decide_eq_false c3
    clear c3
    have H' := zm H
    clear H
    go_wp2_with (first | (go_at_call 120; (with_reducible refine (spec_deLines.calls _ _ l0 t153 _ ?side1 ?side2 A2.out).mono ?_); (case side1 => repeat (first | exact (Kd.C_below HR0.out HB.out) | (with_reducible refine Kd.C_alloc ?_ _) | (with_reducible refine Kd.C_drewN ?_ _) | (with_reducible refine Kd.C_drew ?_))); (case side2 => exact HC0.out); rintro e w' ⟨rfl, ⟨nd, rfl⟩⟩; (try first | exact ⟨rfl, _, World.drewN_drewN _ _ _⟩ | exact ⟨rfl, _, Eq.trans (World.drewN_drewN _ _ _) (congrArg (World.drewN _) (Nat.add_assoc _ _ _))⟩)) | ((with_reducible refine spec_deGroups.gq ?_); go_quiet (first | (go_at_call 120; (with_reducible refine (spec_deLines.calls _ _ l0 t153 _ ?side1 ?side2 A2.out).mono ?_); (case side1 => repeat (first | exact (Kd.C_below HR0.out HB.out) | (with_reducible refine Kd.C_alloc ?_ _) | (with_reducible refine Kd.C_drewN ?_ _) | (with_reducible refine Kd.C_drew ?_))); (case side2 => exact HC0.out); rintro e w' ⟨rfl, ⟨nd, rfl⟩⟩; (try first | exact ⟨rfl, _, World.drewN_drewN _ _ _⟩ | exact ⟨rfl, _, Eq.trans (World.drewN_drewN _ _ _) (congrArg (World.drewN _) (Nat.add_assoc _ _ _))⟩)))))
    go_loopg [24] k1 (fun kq v24 w' => ∃ (x3_2 : List Int) (x24_2 : Int), v24 = .int .i64 x24_2 ∧ Aside0 (spec_deGroups.l1 kq l0 x3_2 l0 (l0.length : Int) x24_2 = some r) ∧ Aside0 (kq ≤ k1) ∧ Aside0 (Kd.R (Kd.int .i64) 3 w' w.heap.size (fun _ => True) u3 x3_2) ∧ Aside0 (Below w.heap.size w w'))
    case atStart => exact ⟨(x3_1), (0), (by first | rfl | (simp; done) | (simp [*]; done)), H', ⟨Nat.le_refl _⟩, ⟨by (with_reducible repeat (first | apply Kd.R_alloc | apply Kd.R_drewN | apply Kd.R_drew)); exact HO_3.out⟩, ⟨zb⟩⟩
    case round =>
     clear H'
     (try clear c1); (try clear p2); (try clear c3); (try clear c3b0); (try clear c4)
     obtain ⟨x3_2, x24_2, rfl, HA, HK2, HO_3, HB⟩ := hrel
     cases gk with
     | zero => exact absurd HA.out (by simp [spec_deGroups.l1])
     | succ k2 =>
      have H := HA.out
      clear HA
      simp only [spec_deGroups.l1] at H
      by_cases c6 : x24_2 < (l0.length : Int)
      ·
       rw [if_pos c6] at H
       have c6b0 : decide (x24_2 < (l0.length : Int)) = true := decide_eq_true c6
       clear c6
       by_cases c7 : 0 ≤ x24_2
       ·
        rw [if_pos c7] at H
        have c7b0 : decide (0 ≤ x24_2) = true := decide_eq_true c7
        clear c7
        by_cases c8 : x24_2 < (l0.length : Int)
        ·
         rw [if_pos c8] at H
         have c8b0 : decide (x24_2 < (l0.length : Int)) = true := decide_eq_true c8
         clear c8
         have H' := zm H
         clear H
         have p157 : 0 ≤ (x24_2 : Int) := zd
         have q157 : x24_2 < (l0.length : Int) := zd
         obtain ⟨ad157, e157, hx157_0⟩ := Kd.at_string HR0.out x24_2 p157 q157
         cases e157
         replace hx157_0 := zx HB.out hx157_0
         replace p157 := eq_true p157
         replace q157 := eq_true q157
         go_wp2
         repeat (go_quiet (fail); try go_wp2)
         go_loopg [7] k2 (fun kq v7 w' => ∃ (x3_3 : List Int) (x7_3 : Int), v7 = .int .i64 x7_3 ∧ Aside0 (spec_deGroups.l2 kq l0 x3_3 x24_2 (rdOf ByteArray.empty l0 x24_2) x7_3 l0 (l0.length : Int) x24_2 = some r) ∧ Aside0 (kq ≤ k2) ∧ Aside0 (Kd.R (Kd.int .i64) 3 w' w.heap.size (fun _ => True) u3 x3_3) ∧ Aside0 (Below w.heap.size w w'))
         case atStart => exact ⟨(x3_2), (0), (by first | rfl | (simp; done) | (simp [*]; done)), H', ⟨Nat.le_refl _⟩, ⟨by (with_reducible repeat (first | apply Kd.R_alloc | apply Kd.R_drewN | apply Kd.R_drew)); exact HO_3.out⟩, ⟨zb⟩⟩
         case round =>
          clear H'
          (try clear c1); (try clear p1); (try clear q1); (try clear hx1); (try clear p2); (try clear c3); (try clear c3b0); (try clear c4); (try clear c6); (try clear c6b0); (try clear p6); (try clear c7); (try clear c7b0); (try clear c8); (try clear c8b0); (try clear hx157_0); (try clear p157); (try clear p2); (try clear q157)
          obtain ⟨x3_3, x7_3, rfl, HA, HK3, HO_3, HB⟩ := hrel
          cases gk with
          | zero => exact absurd HA.out (by simp [spec_deGroups.l2])
          | succ k3 =>
           have H := HA.out
           clear HA
           simp only [spec_deGroups.l2] at H
           by_cases c9 : x7_3 < ((rdOf ByteArray.empty l0 x24_2).size : Int)
           ·
            rw [if_pos c9] at H
            have c9b0 : decide (x7_3 < ((rdOf ByteArray.empty l0 x24_2).size : Int)) = true := decide_eq_true c9
            clear c9
            by_cases c10 : 0 ≤ x7_3
            ·
             rw [if_pos c10] at H
             have c10b0 : decide (0 ≤ x7_3) = true := decide_eq_true c10
             clear c10
             by_cases c12 : (bt (rdOf ByteArray.empty l0 x24_2) x7_3) = 63
             ·
              rw [if_pos c12] at H
              have c12b0 : ((bt (rdOf ByteArray.empty l0 x24_2) x7_3) == 63) = true := beq_iff_eq.mpr c12
              have c12b1 : ((bt (rdOf ByteArray.empty l0 x24_2) x7_3) != 63) = false := bne_eq_false_iff_eq.mpr c12
              clear c12
              by_cases c13 : 0 ≤ x24_2
              ·
               rw [if_pos c13] at H
               have c13b0 : decide (0 ≤ x24_2) = true := decide_eq_true c13
               clear c13
               by_cases c14 : x24_2 < (x3_3.length : Int)
               ·
                rw [if_pos c14] at H
                have c14b0 : decide (x24_2 < (x3_3.length : Int)) = true := decide_eq_true c14
                clear c14
                obtain ⟨ji15, hji15⟩ : ∃ j_ : Int, (wrap64 ((l0.length : Int) + x7_3)) = j_ := ⟨_, rfl⟩
                replace H : (if 0 ≤ (ji15) then (if (ji15) < (x3_3.length : Int) then (spec_deGroups.l3 k3 l0 x3_3 x24_2 (rdOf ByteArray.empty l0 x24_2) x7_3 (rd x3_3 x24_2) (rd x3_3 (ji15)) l0 (l0.length : Int) x24_2 (x3_3.length : Int) 0) else (none)) else (none)) = some r := by first | (rw [hji15] at H; exact H) | (simp only [hji15] at H ⊢; exact H)
                have hji15w : (IntKind.i64.wrap ((l0.length : Int) + x7_3)) = ji15 := (i64_w _).trans hji15
                by_cases c16 : 0 ≤ (ji15)
                ·
                 rw [if_pos c16] at H
                 have c16b0 : decide (0 ≤ (ji15)) = true := decide_eq_true c16
                 clear c16
                 by_cases c17 : (ji15) < (x3_3.length : Int)
                 ·
                  rw [if_pos c17] at H
                  have c17b0 : decide ((ji15) < (x3_3.length : Int)) = true := decide_eq_true c17
                  clear c17
                  have H' := zm H
                  clear H
                  have p11 : 0 ≤ (x7_3 : Int) := zd
                  have q11 : x7_3 < ((rdOf ByteArray.empty l0 x24_2).size : Int) := zd
                  have hx11 := bt_at (rdOf ByteArray.empty l0 x24_2) x7_3
                  replace p11 := eq_true p11
                  replace q11 := eq_true q11
                  obtain ⟨Ao18, co18, eo18⟩ := Kd.R_slice HO_3.out
                  subst eo18
                  have p158 : 0 ≤ (x24_2 : Int) := zd
                  have q158 : x24_2 < (x3_3.length : Int) := zd
                  obtain ⟨ad158, e158, hx158_0⟩ := Kd.at_int (Kd.R_reads' HO_3.out).2.2 x24_2 p158 q158
                  cases e158
                  replace p158 := eq_true p158
                  replace q158 := eq_true q158
                  have p159 : 0 ≤ ((ji15) : Int) := zd
                  have q159 : (ji15) < (x3_3.length : Int) := zd
                  obtain ⟨ad159, e159, hx159_0⟩ := Kd.at_int (Kd.R_reads' HO_3.out).2.2 (ji15) p159 q159
                  obtain rfl : ad158 = ad159 := (by injection e159)
                  obtain ⟨gh158, hh158⟩ := Kd.R_head HO_3.out
                  subst hh158
                  (try simp only [add_plain] at hx158_0)
                  (try simp only [add_plain] at hx159_0)
                  skip
                  replace p159 := eq_true p159
                  replace q159 := eq_true q159
                  go_wp2
                  repeat (go_quiet (fail); try go_wp2)
                  go_loopg [52] k3 (fun kq v52 w' => ∃ (x3_4 : List Int) (x52_4 : Int), v52 = .int .i64 x52_4 ∧ Aside0 (spec_deGroups.l3 kq l0 x3_4 x24_2 (rdOf ByteArray.empty l0 x24_2) x7_3 (rd x3_3 x24_2) (rd x3_3 (ji15)) l0 (l0.length : Int) x24_2 (x3_3.length : Int) x52_4 = some r) ∧ Aside0 (kq ≤ k3) ∧ Aside0 (Kd.R (Kd.int .i64) 3 w' w.heap.size (fun _ => True) (.slice (some ⟨gh158, 0, none⟩) x3_3.length co18) x3_4) ∧ Aside0 (Below w.heap.size w w'))
                  case atStart => exact ⟨(x3_3), (0), (by first | rfl | (simp; done) | (simp [*]; done)), H', ⟨Nat.le_refl _⟩, ⟨by (with_reducible repeat (first | apply Kd.R_alloc | apply Kd.R_drewN | apply Kd.R_drew)); exact HO_3.out⟩, ⟨zb⟩⟩
                  case round =>
                   clear H'
                   (try clear c1); (try clear p1); (try clear q1); (try clear hx1); (try clear p2); (try clear c3); (try clear c3b0); (try clear c4); (try clear c6); (try clear c6b0); (try clear p6); (try clear c7); (try clear c7b0); (try clear c8); (try clear c8b0); (try clear c9); (try clear c9b0); (try clear c10); (try clear c10b0); (try clear p11); (try clear q11); (try clear hx11); (try clear c12); (try clear c12b0); (try clear c12b1); (try clear c13); (try clear c13b0); (try clear c14); (try clear c14b0); (try clear p15); (try clear q15); (try clear hx15); (try clear c16); (try clear c16b0); (try clear c17); (try clear c17b0); (try clear hx157_0); (try clear hx158_0); (try clear hx159_0); (try clear p1); (try clear p11); (try clear p157); (try clear p158); (try clear p159); (try clear p2); (try clear p6); (try clear q1); (try clear q11); (try clear q157); (try clear q158); (try clear q159)
                   obtain ⟨x3_4, x52_4, rfl, HA, HK4, HO_3, HB⟩ := hrel
                   have hl3_4 := (Kd.R_reads' HO_3.out).1
                   rw [hl3_4] at HO_3
                   (try simp only [hl3_4])
                   cases gk with
                   | zero => exact absurd HA.out (by simp [spec_deGroups.l3])
                   | succ k4 =>
                    have H := HA.out
                    clear HA
                    simp only [spec_deGroups.l3] at H
                    by_cases c19 : x52_4 < (x3_3.length : Int)
                    ·
                     rw [if_pos c19] at H
                     have c19b0 : decide (x52_4 < (x3_3.length : Int)) = true := decide_eq_true c19
                     clear c19
                     by_cases c20 : 0 ≤ x52_4
                     ·
                      rw [if_pos c20] at H
                      have c20b0 : decide (0 ≤ x52_4) = true := decide_eq_true c20
                      clear c20
                      by_cases c21 : x52_4 < (x3_4.length : Int)
                      ·
                       rw [if_pos c21] at H
                       have c21b0 : decide (x52_4 < (x3_4.length : Int)) = true := decide_eq_true c21
                       clear c21
                       by_cases c22 : (rd x3_4 x52_4) = (rd x3_3 x24_2)
                       ·
                        rw [if_pos c22] at H
                        have c22b0 : ((rd x3_4 x52_4) == (rd x3_3 x24_2)) = true := beq_iff_eq.mpr c22
                        have c22b1 : ((rd x3_4 x52_4) != (rd x3_3 x24_2)) = false := bne_eq_false_iff_eq.mpr c22
                        clear c22
                        replace H := Option.bind_eq_some_iff.mp H
                        obtain ⟨t161, A230, H⟩ := H
                        (try dsimp only at H)
                        have A23 := zm A230
                        clear A230
                        obtain ⟨y162, hy162⟩ : ∃ y_ : List Int, y_ = (x3_4.set (x52_4 : Int).toNat t161) := ⟨_, rfl⟩
                        replace H : (spec_deGroups.l3 k4 l0 y162 x24_2 (rdOf ByteArray.empty l0 x24_2) x7_3 (rd x3_3 x24_2) (rd x3_3 (ji15)) l0 (l0.length : Int) x24_2 (x3_3.length : Int) (wrap64 (x52_4 + 1))) = some r := by first | (rw [hy162]; with_reducible exact H) | (have H2_ := (Option.bind_some _ _).symm.trans H; rw [hy162]; with_reducible exact H2_) | (have H2_ := (Option.bind_some _ _).symm.trans H; with_reducible exact H2_) | with_reducible exact H | (rw [hy162]; exact H) | exact H
                        have Ny162 := zm hy162
                        clear hy162
                        have H' := zm H
                        clear H
                        have p160 : 0 ≤ (x52_4 : Int) := zd
                        have q160 : x52_4 < (x3_4.length : Int) := zd
                        obtain ⟨ad160, e160, hx160_0⟩ := Kd.at_int (Kd.R_reads' HO_3.out).2.2 x52_4 p160 q160
                        have hq_ : ad160 = ⟨gh158, 0, none⟩ := (by injection e160 with z_; exact z_.symm)
                        subst hq_; (try simp only [add_plain] at hx160_0)
                        replace p160 := eq_true p160
                        replace q160 := eq_true q160
                        go_wp2_with (first | (go_at_call 148; (with_reducible refine (spec_l1Least.calls (rd x3_3 x24_2) (rd x3_3 (ji15)) t161 _ A23.out).mono ?_); rintro e w' ⟨rfl, ⟨nd, rfl⟩⟩; (try first | exact ⟨rfl, _, World.drewN_drewN _ _ _⟩ | exact ⟨rfl, _, Eq.trans (World.drewN_drewN _ _ _) (congrArg (World.drewN _) (Nat.add_assoc _ _ _))⟩); have p24 : 0 ≤ (x52_4 : Int) := zd; have q24 : (x52_4 : Int) < ((x3_4.length : Int) : Int) := zd; obtain ⟨go24, co24, eo24, gb24, gl24, cl24, HG24⟩ := Kd.R_form HO_3.out (by omega); (first | cases eo24 | (injection eo24 with ea_ en_ ec_; (first | subst ea_ | (injection ea_ with ea_; subst ea_)); subst ec_; clear en_)); have GB24 := zm gb24; have GG24 := zm HG24; clear gb24 gl24 HG24; (first | simp only [add_plain] at hx158_0 | skip); (first | simp only [add_plain] at hx159_0 | skip); (first | simp only [add_plain] at hx160_0 | skip); obtain ⟨hx24_0, hf24_0⟩ := Kd.R_celln 0 HO_3.out (x52_4 : Int) p24 q24; replace p24 := eq_true p24; replace q24 := eq_true q24; obtain ⟨hy25_, hz25_⟩ := Kd.R_celln 0 HO_3.out (x52_4 : Int) (of_decide_eq_true (by first | (with_reducible assumption) | assumption)) (of_decide_eq_true (by first | (with_reducible assumption) | assumption)); have HP25 := Kd.R_putg HO_3.out (x52_4 : Int) t161) | ((with_reducible refine gate_store (t := 3) (p := 70) rfl ?_); (try (rw [drewN_self wr]; generalize hq_ : World.drewN wr _ = wr; have n0_ := zm (Kd.R_at hq_ HO_3.out); have n1_ := zm (below_at hq_ HB.out); clear hq_ HO_3 HB; have HO_3 := n0_; have HB := n1_; clear n0_ n1_; (try (obtain ⟨hy25_, hz25_⟩ := Kd.R_celln 0 HO_3.out (x52_4 : Int) (of_decide_eq_true (by first | (with_reducible assumption) | assumption)) (of_decide_eq_true (by first | (with_reducible assumption) | assumption)))); (try (have HP25 := Kd.R_putg HO_3.out (x52_4 : Int) t161)))); refine store_event (t := 3) (p := 70) (v := ?vo_w26) (w1 := (wr.setCell ⟨gh158, (x52_4 : Int).toNat, none⟩ (.int .i64 t161))) ?hg ?ho ?hn ?hr ?_; (case ho => rfl); (case hg => rfl); (case hn => rfl); (case hr => first | (go_simp; done) | (go_simp; rfl)); intro w26 hw; have hg : wr.grownBy w26 (some gh158) := (by rw [hw]; exact HP25.2); have hp_ : Kd.R (Kd.int .i64) 3 w26 w.heap.size (fun _ => True) (.slice (some ⟨gh158, 0, none⟩) x3_4.length co18) y162 := (by rw [hw, Ny162.out]; exact HP25.1); clear HP25; have n0_ := zm (hp_); have n1_ := zm ((by rw [hw]; exact below_set (HB.out) GB24.out : Below w.heap.size w w26)); clear HO_3; clear HB; have HO_3 := n0_; have HB := n1_; clear n0_ n1_; clear hg hw hp_) | ((with_reducible refine spec_deGroups.gq ?_); go_quiet (first | (go_at_call 148; (with_reducible refine (spec_l1Least.calls (rd x3_3 x24_2) (rd x3_3 (ji15)) t161 _ A23.out).mono ?_); rintro e w' ⟨rfl, ⟨nd, rfl⟩⟩; (try first | exact ⟨rfl, _, World.drewN_drewN _ _ _⟩ | exact ⟨rfl, _, Eq.trans (World.drewN_drewN _ _ _) (congrArg (World.drewN _) (Nat.add_assoc _ _ _))⟩); have p24 : 0 ≤ (x52_4 : Int) := zd; have q24 : (x52_4 : Int) < ((x3_4.length : Int) : Int) := zd; obtain ⟨go24, co24, eo24, gb24, gl24, cl24, HG24⟩ := Kd.R_form HO_3.out (by omega); (first | cases eo24 | (injection eo24 with ea_ en_ ec_; (first | subst ea_ | (injection ea_ with ea_; subst ea_)); subst ec_; clear en_)); have GB24 := zm gb24; have GG24 := zm HG24; clear gb24 gl24 HG24; (first | simp only [add_plain] at hx158_0 | skip); (first | simp only [add_plain] at hx159_0 | skip); (first | simp only [add_plain] at hx160_0 | skip); obtain ⟨hx24_0, hf24_0⟩ := Kd.R_celln 0 HO_3.out (x52_4 : Int) p24 q24; replace p24 := eq_true p24; replace q24 := eq_true q24; obtain ⟨hy25_, hz25_⟩ := Kd.R_celln 0 HO_3.out (x52_4 : Int) (of_decide_eq_true (by first | (with_reducible assumption) | assumption)) (of_decide_eq_true (by first | (with_reducible assumption) | assumption)); have HP25 := Kd.R_putg HO_3.out (x52_4 : Int) t161))))
                        (try simp only [← hl3_4])
                        go_roundg k4
                        case measure => have := HK1.out; have := HK2.out; have := HK3.out; have := HK4.out; omega
                        case rel => exact ⟨(y162), (wrap64 (x52_4 + 1)), (by first | rfl | (simp; done) | (simp [*]; done)), H', ⟨by have := HK1.out; have := HK2.out; have := HK3.out; have := HK4.out; omega⟩, ⟨by (try simp only [hl3_4]); (with_reducible repeat (first | apply Kd.R_alloc | apply Kd.R_drewN | apply Kd.R_drew)); exact HO_3.out⟩, ⟨zb⟩⟩
                       ·
                        rw [if_neg c22] at H
                        have c22b0 : ((rd x3_4 x52_4) == (rd x3_3 x24_2)) = false := beq_eq_false_iff_ne.mpr c22
                        have c22b1 : ((rd x3_4 x52_4) != (rd x3_3 x24_2)) = true := bne_iff_ne.mpr c22
                        by_cases c27 : (rd x3_4 x52_4) = (rd x3_3 (ji15))
                        ·
                         rw [if_pos c27] at H
                         have c27b0 : ((rd x3_4 x52_4) == (rd x3_3 (ji15))) = true := beq_iff_eq.mpr c27
                         have c27b1 : ((rd x3_4 x52_4) != (rd x3_3 (ji15))) = false := bne_eq_false_iff_eq.mpr c27
                         clear c27
                         replace H := Option.bind_eq_some_iff.mp H
                         obtain ⟨t163, A280, H⟩ := H
                         (try dsimp only at H)
                         have A28 := zm A280
                         clear A280
                         obtain ⟨y164, hy164⟩ : ∃ y_ : List Int, y_ = (x3_4.set (x52_4 : Int).toNat t163) := ⟨_, rfl⟩
                         replace H : (spec_deGroups.l3 k4 l0 y164 x24_2 (rdOf ByteArray.empty l0 x24_2) x7_3 (rd x3_3 x24_2) (rd x3_3 (ji15)) l0 (l0.length : Int) x24_2 (x3_3.length : Int) (wrap64 (x52_4 + 1))) = some r := by first | (rw [hy164]; with_reducible exact H) | (have H2_ := (Option.bind_some _ _).symm.trans H; rw [hy164]; with_reducible exact H2_) | (have H2_ := (Option.bind_some _ _).symm.trans H; with_reducible exact H2_) | with_reducible exact H | (rw [hy164]; exact H) | exact H
                         have Ny164 := zm hy164
                         clear hy164
                         have H' := zm H
                         clear H
                         have p160 : 0 ≤ (x52_4 : Int) := zd
                         have q160 : x52_4 < (x3_4.length : Int) := zd
                         obtain ⟨ad160, e160, hx160_0⟩ := Kd.at_int (Kd.R_reads' HO_3.out).2.2 x52_4 p160 q160
                         have hq_ : ad160 = ⟨gh158, 0, none⟩ := (by injection e160 with z_; exact z_.symm)
                         subst hq_; (try simp only [add_plain] at hx160_0)
                         replace p160 := eq_true p160
                         replace q160 := eq_true q160
                         go_wp2_with (first | (go_at_call 148; (with_reducible refine (spec_l1Least.calls (rd x3_3 x24_2) (rd x3_3 (ji15)) t163 _ A28.out).mono ?_); rintro e w' ⟨rfl, ⟨nd, rfl⟩⟩; (try first | exact ⟨rfl, _, World.drewN_drewN _ _ _⟩ | exact ⟨rfl, _, Eq.trans (World.drewN_drewN _ _ _) (congrArg (World.drewN _) (Nat.add_assoc _ _ _))⟩); have p29 : 0 ≤ (x52_4 : Int) := zd; have q29 : (x52_4 : Int) < ((x3_4.length : Int) : Int) := zd; obtain ⟨go29, co29, eo29, gb29, gl29, cl29, HG29⟩ := Kd.R_form HO_3.out (by omega); (first | cases eo29 | (injection eo29 with ea_ en_ ec_; (first | subst ea_ | (injection ea_ with ea_; subst ea_)); subst ec_; clear en_)); have GB29 := zm gb29; have GG29 := zm HG29; clear gb29 gl29 HG29; (first | simp only [add_plain] at hx160_0 | skip); obtain ⟨hx29_0, hf29_0⟩ := Kd.R_celln 0 HO_3.out (x52_4 : Int) p29 q29; replace p29 := eq_true p29; replace q29 := eq_true q29; obtain ⟨hy30_, hz30_⟩ := Kd.R_celln 0 HO_3.out (x52_4 : Int) (of_decide_eq_true (by first | (with_reducible assumption) | assumption)) (of_decide_eq_true (by first | (with_reducible assumption) | assumption)); have HP30 := Kd.R_putg HO_3.out (x52_4 : Int) t163) | ((with_reducible refine gate_store (t := 3) (p := 70) rfl ?_); (try (rw [drewN_self wr]; generalize hq_ : World.drewN wr _ = wr; have n0_ := zm (Kd.R_at hq_ HO_3.out); have n1_ := zm (below_at hq_ HB.out); clear hq_ HO_3 HB; have HO_3 := n0_; have HB := n1_; clear n0_ n1_; (try (obtain ⟨hy30_, hz30_⟩ := Kd.R_celln 0 HO_3.out (x52_4 : Int) (of_decide_eq_true (by first | (with_reducible assumption) | assumption)) (of_decide_eq_true (by first | (with_reducible assumption) | assumption)))); (try (have HP30 := Kd.R_putg HO_3.out (x52_4 : Int) t163)))); refine store_event (t := 3) (p := 70) (v := ?vo_w31) (w1 := (wr.setCell ⟨gh158, (x52_4 : Int).toNat, none⟩ (.int .i64 t163))) ?hg ?ho ?hn ?hr ?_; (case ho => rfl); (case hg => rfl); (case hn => rfl); (case hr => first | (go_simp; done) | (go_simp; rfl)); intro w31 hw; have hg : wr.grownBy w31 (some gh158) := (by rw [hw]; exact HP30.2); have hp_ : Kd.R (Kd.int .i64) 3 w31 w.heap.size (fun _ => True) (.slice (some ⟨gh158, 0, none⟩) x3_4.length co18) y164 := (by rw [hw, Ny164.out]; exact HP30.1); clear HP30; have n0_ := zm (hp_); have n1_ := zm ((by rw [hw]; exact below_set (HB.out) GB29.out : Below w.heap.size w w31)); clear HO_3; clear HB; have HO_3 := n0_; have HB := n1_; clear n0_ n1_; clear hg hw hp_) | ((with_reducible refine spec_deGroups.gq ?_); go_quiet (first | (go_at_call 148; (with_reducible refine (spec_l1Least.calls (rd x3_3 x24_2) (rd x3_3 (ji15)) t163 _ A28.out).mono ?_); rintro e w' ⟨rfl, ⟨nd, rfl⟩⟩; (try first | exact ⟨rfl, _, World.drewN_drewN _ _ _⟩ | exact ⟨rfl, _, Eq.trans (World.drewN_drewN _ _ _) (congrArg (World.drewN _) (Nat.add_assoc _ _ _))⟩); have p29 : 0 ≤ (x52_4 : Int) := zd; have q29 : (x52_4 : Int) < ((x3_4.length : Int) : Int) := zd; obtain ⟨go29, co29, eo29, gb29, gl29, cl29, HG29⟩ := Kd.R_form HO_3.out (by omega); (first | cases eo29 | (injection eo29 with ea_ en_ ec_; (first | subst ea_ | (injection ea_ with ea_; subst ea_)); subst ec_; clear en_)); have GB29 := zm gb29; have GG29 := zm HG29; clear gb29 gl29 HG29; (first | simp only [add_plain] at hx160_0 | skip); obtain ⟨hx29_0, hf29_0⟩ := Kd.R_celln 0 HO_3.out (x52_4 : Int) p29 q29; replace p29 := eq_true p29; replace q29 := eq_true q29; obtain ⟨hy30_, hz30_⟩ := Kd.R_celln 0 HO_3.out (x52_4 : Int) (of_decide_eq_true (by first | (with_reducible assumption) | assumption)) (of_decide_eq_true (by first | (with_reducible assumption) | assumption)); have HP30 := Kd.R_putg HO_3.out (x52_4 : Int) t163))))
                         (try simp only [← hl3_4])
                         go_roundg k4
                         case measure => have := HK1.out; have := HK2.out; have := HK3.out; have := HK4.out; omega
                         case rel => exact ⟨(y164), (wrap64 (x52_4 + 1)), (by first | rfl | (simp; done) | (simp [*]; done)), H', ⟨by have := HK1.out; have := HK2.out; have := HK3.out; have := HK4.out; omega⟩, ⟨by (try simp only [hl3_4]); (with_reducible repeat (first | apply Kd.R_alloc | apply Kd.R_drewN | apply Kd.R_drew)); exact HO_3.out⟩, ⟨zb⟩⟩
                        ·
                         rw [if_neg c27] at H
                         have c27b0 : ((rd x3_4 x52_4) == (rd x3_3 (ji15))) = false := beq_eq_false_iff_ne.mpr c27
                         have c27b1 : ((rd x3_4 x52_4) != (rd x3_3 (ji15))) = true := bne_iff_ne.mpr c27
                         have H' := zm H
                         clear H
                         have p160 : 0 ≤ (x52_4 : Int) := zd
                         have q160 : x52_4 < (x3_4.length : Int) := zd
                         obtain ⟨ad160, e160, hx160_0⟩ := Kd.at_int (Kd.R_reads' HO_3.out).2.2 x52_4 p160 q160
                         obtain rfl : ad160 = ⟨gh158, 0, none⟩ := (by injection e160 with z_; exact z_.symm); (try simp only [add_plain] at hx160_0)
                         skip
                         replace p160 := eq_true p160
                         replace q160 := eq_true q160
                         go_wp2
                         repeat (go_quiet (fail); try go_wp2)
                         (try simp only [← hl3_4])
                         go_roundg k4
                         case measure => have := HK1.out; have := HK2.out; have := HK3.out; have := HK4.out; omega
                         case rel => exact ⟨(x3_4), (wrap64 (x52_4 + 1)), (by first | rfl | (simp; done) | (simp [*]; done)), H', ⟨by have := HK1.out; have := HK2.out; have := HK3.out; have := HK4.out; omega⟩, ⟨by (try simp only [hl3_4]); (with_reducible repeat (first | apply Kd.R_alloc | apply Kd.R_drewN | apply Kd.R_drew)); exact HO_3.out⟩, ⟨zb⟩⟩
                      ·
                       rw [if_neg c21] at H
                       exact absurd H (by simp)
                     ·
                      rw [if_neg c20] at H
                      exact absurd H (by simp)
                    ·
                     rw [if_neg c19] at H
                     have c19b0 : decide (x52_4 < (x3_3.length : Int)) = false := decide_eq_false c19
                     (try (have c19z0 := c19b0; simp only [hl3_4] at c19z0))
                     (try (have c19z0 := c19b0; simp only [hl3_4] at c19z0))
                     clear c19
                     have H' := zm H
                     clear H
                     go_wp2
                     repeat (go_quiet (fail); try go_wp2)
                     (try simp only [← hl3_4])
                     go_roundg k4
                     case measure => have := HK1.out; have := HK2.out; have := HK3.out; have := HK4.out; omega
                     case rel => exact ⟨(x3_4), (wrap64 (x7_3 + 1)), (by first | rfl | (simp; done) | (simp [*]; done)), H', ⟨by have := HK1.out; have := HK2.out; have := HK3.out; have := HK4.out; omega⟩, ⟨by (try simp only [hl3_4]); (with_reducible repeat (first | apply Kd.R_alloc | apply Kd.R_drewN | apply Kd.R_drew)); exact HO_3.out⟩, ⟨zb⟩⟩
                 ·
                  rw [if_neg c17] at H
                  exact absurd H (by simp)
                ·
                 rw [if_neg c16] at H
                 exact absurd H (by simp)
               ·
                rw [if_neg c14] at H
                exact absurd H (by simp)
              ·
               rw [if_neg c13] at H
               exact absurd H (by simp)
             ·
              rw [if_neg c12] at H
              have c12b0 : ((bt (rdOf ByteArray.empty l0 x24_2) x7_3) == 63) = false := beq_eq_false_iff_ne.mpr c12
              have c12b1 : ((bt (rdOf ByteArray.empty l0 x24_2) x7_3) != 63) = true := bne_iff_ne.mpr c12
              have H' := zm H
              clear H
              have p11 : 0 ≤ (x7_3 : Int) := zd
              have q11 : x7_3 < ((rdOf ByteArray.empty l0 x24_2).size : Int) := zd
              have hx11 := bt_at (rdOf ByteArray.empty l0 x24_2) x7_3
              replace p11 := eq_true p11
              replace q11 := eq_true q11
              go_wp2
              repeat (go_quiet (fail); try go_wp2)
              go_roundg k3
              case measure => have := HK1.out; have := HK2.out; have := HK3.out; omega
              case rel => exact ⟨(x3_3), (wrap64 (x7_3 + 1)), (by first | rfl | (simp; done) | (simp [*]; done)), H', ⟨by have := HK1.out; have := HK2.out; have := HK3.out; omega⟩, ⟨by (with_reducible repeat (first | apply Kd.R_alloc | apply Kd.R_drewN | apply Kd.R_drew)); exact HO_3.out⟩, ⟨zb⟩⟩
            ·
             rw [if_neg c10] at H
             exact absurd H (by simp)
           ·
            rw [if_neg c9] at H
            have c9b0 : decide (x7_3 < ((rdOf ByteArray.empty l0 x24_2).size : Int)) = false := decide_eq_false c9
            clear c9
            have H' := zm H
            clear H
            go_wp2
            repeat (go_quiet (fail); try go_wp2)
            go_roundg k3
            case measure => have := HK1.out; have := HK2.out; have := HK3.out; omega
            case rel => exact ⟨(x3_3), (wrap64 (x24_2 + 1)), (by first | rfl | (simp; done) | (simp [*]; done)), H', ⟨by have := HK1.out; have := HK2.out; have := HK3.out; omega⟩, ⟨by (with_reducible repeat (first | apply Kd.R_alloc | apply Kd.R_drewN | apply Kd.R_drew)); exact HO_3.out⟩, ⟨zb⟩⟩
        ·
         rw [if_neg c8] at H
         exact absurd H (by simp)
       ·
        rw [if_neg c7] at H
        exact absurd H (by simp)
      ·
       rw [if_neg c6] at H
       have c6b0 : decide (x24_2 < (l0.length : Int)) = false := decide_eq_false c6
       (try (have c6z0 := c6b0; simp only [hl3_4] at c6z0))
       (try (have c6z0 := c6b0; simp only [hl3_4] at c6z0))
       clear c6
       obtain rfl := Option.some.inj H
       go_wp2
       repeat (go_quiet (fail); try go_wp2)
       go_ret
       exact ⟨_, zr, by (with_reducible repeat (first | apply Kd.R_alloc | apply Kd.R_drewN | apply Kd.R_drew)); exact HO_3.out, zb⟩

end Go.Proofs.Ytjjjikdpegogcaa.PBd
