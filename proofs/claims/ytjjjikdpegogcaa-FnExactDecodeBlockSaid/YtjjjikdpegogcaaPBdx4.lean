-- Written for this claim by a program of this session (wip/tpl/patchprint.py), not by print.sh.
import Derived.Test.YtjjjikdpegogcaaPBdx0
import Derived.Test.YtjjjikdpegogcaaPBdx2
import Derived.Test.YtjjjikdpegogcaaPBdx3
namespace Go.Proofs.Ytjjjikdpegogcaa.PBd
open Go.RowKit Go.Proofs.YtjjjikdpegogcaaW.PrintWords Go.Proofs.YtjjjikdpegogcaaW.PrintLast Go.Proofs.YtjjjikdpegogcaaW.PrintMore
attribute [local go_sem] max2_int min2_int max_two min_two max_three min_three max_four min_four   -- for this text's walks alone
set_option linter.unusedVariables false
set_option linter.unusedSimpArgs false

/-! ### spec_dePeel: function 82 -/
mutual
def spec_dePeel.l0 : Nat → List ByteArray → Bool → Option (List ByteArray)
  | 0, _, _ => none
  | k + 1, x3, x4 => if x4 = true then (spec_dePeel.l1 k x3 false 0) else (some x3)
def spec_dePeel.l1 : Nat → List ByteArray → Bool → Int → Option (List ByteArray)
  | 0, _, _, _ => none
  | k + 1, x3, x4, x5 => (spec_deLines.f x3).bind fun t140 => (if x5 < t140 then (spec_dePeel.j2 k x3 x4 x5 (!x4)) else (spec_dePeel.j2 k x3 x4 x5 false))
def spec_dePeel.j2 : Nat → List ByteArray → Bool → Int → Bool → Option (List ByteArray)
  | 0, _, _, _, _ => none
  | k + 1, x3, x4, x5, x19 => if x19 = true then ((spec_deLine.f k x3 x5).bind fun t141 => ((spec_deCount.f k t141 63).bind fun t142 => (if t142 = 1 then (spec_dePeel.l2 k x3 x5 t141 0) else (spec_dePeel.l1 k x3 x4 (wrap64 (x5 + 1)))))) else (spec_dePeel.l0 k x3 x4)
def spec_dePeel.l2 : Nat → List ByteArray → Int → ByteArray → Int → Option (List ByteArray)
  | 0, _, _, _, _ => none
  | k + 1, x3, x5, x6, x7 => if 0 ≤ x7 then (if x7 < (x6.size : Int) then (if (bt x6 x7) = 63 then ((spec_deCount.f k x6 111).bind fun t143 => ((spec_deMark.f t143).bind fun t144 => (if x5 < (x3.length : Int) then ((spec_deWith.f x3 x5 x7 t144).bind fun t145 => (spec_dePeel.l1 k t145 true (wrap64 (x5 + 1)))) else ((spec_deWith.f x3 x7 (wrap64 (x5 - (x3.length : Int))) t144).bind fun t148 => (spec_dePeel.l1 k t148 true (wrap64 (x5 + 1))))))) else (spec_dePeel.l2 k x3 x5 x6 (wrap64 (x7 + 1)))) else (none)) else (none)
end
def spec_dePeel.f (k : Nat) (l0 : List ByteArray) : Option (List ByteArray) := (spec_l1OwnS.f l0).bind fun t137 => (spec_dePeel.l0 k t137 true)
theorem spec_dePeel.mono_l : ∀ k, (∀ y0 y1, LeO (spec_dePeel.l0 k y0 y1) (spec_dePeel.l0 (k + 1) y0 y1)) ∧ (∀ y0 y1 y2, LeO (spec_dePeel.l1 k y0 y1 y2) (spec_dePeel.l1 (k + 1) y0 y1 y2)) ∧ (∀ y0 y1 y2 y3, LeO (spec_dePeel.j2 k y0 y1 y2 y3) (spec_dePeel.j2 (k + 1) y0 y1 y2 y3)) ∧ (∀ y0 y1 y2 y3, LeO (spec_dePeel.l2 k y0 y1 y2 y3) (spec_dePeel.l2 (k + 1) y0 y1 y2 y3))
  | 0 => ⟨fun _ _ r h => by simp [spec_dePeel.l0] at h, fun _ _ _ r h => by simp [spec_dePeel.l1] at h, fun _ _ _ _ r h => by simp [spec_dePeel.j2] at h, fun _ _ _ _ r h => by simp [spec_dePeel.l2] at h⟩
  | k + 1 => by
    obtain ⟨ih0, ih1, ih2, ih3⟩ := spec_dePeel.mono_l k
    refine ⟨?_, ?_, ?_, ?_⟩
    · intro y0 y1
      unfold spec_dePeel.l0
      repeat' first
      | (with_reducible exact ih0 _ _)
      | (with_reducible exact ih1 _ _ _)
      | (with_reducible exact ih2 _ _ _ _)
      | (with_reducible exact ih3 _ _ _ _)
      | (with_reducible exact spec_deCount.mono _ _ _)
      | (with_reducible exact spec_deLine.mono _ _ _)
      | (with_reducible exact LeO.refl _)
      | (with_reducible exact LeO.none _)
      | (with_reducible refine LeO.ite ?_ ?_)
      | (with_reducible refine LeO.bind ?_ (fun _ => ?_))
      | exact ih0 _ _
      | exact ih1 _ _ _
      | exact ih2 _ _ _ _
      | exact ih3 _ _ _ _
      | exact spec_deCount.mono _ _ _
      | exact spec_deLine.mono _ _ _
      | exact LeO.none _
      | refine LeO.ite ?_ ?_
      | refine LeO.bind ?_ (fun _ => ?_)
    · intro y0 y1 y2
      unfold spec_dePeel.l1
      repeat' first
      | (with_reducible exact ih0 _ _)
      | (with_reducible exact ih1 _ _ _)
      | (with_reducible exact ih2 _ _ _ _)
      | (with_reducible exact ih3 _ _ _ _)
      | (with_reducible exact spec_deCount.mono _ _ _)
      | (with_reducible exact spec_deLine.mono _ _ _)
      | (with_reducible exact LeO.refl _)
      | (with_reducible exact LeO.none _)
      | (with_reducible refine LeO.ite ?_ ?_)
      | (with_reducible refine LeO.bind ?_ (fun _ => ?_))
      | exact ih0 _ _
      | exact ih1 _ _ _
      | exact ih2 _ _ _ _
      | exact ih3 _ _ _ _
      | exact spec_deCount.mono _ _ _
      | exact spec_deLine.mono _ _ _
      | exact LeO.none _
      | refine LeO.ite ?_ ?_
      | refine LeO.bind ?_ (fun _ => ?_)
    · intro y0 y1 y2 y3
      unfold spec_dePeel.j2
      repeat' first
      | (with_reducible exact ih0 _ _)
      | (with_reducible exact ih1 _ _ _)
      | (with_reducible exact ih2 _ _ _ _)
      | (with_reducible exact ih3 _ _ _ _)
      | (with_reducible exact spec_deCount.mono _ _ _)
      | (with_reducible exact spec_deLine.mono _ _ _)
      | (with_reducible exact LeO.refl _)
      | (with_reducible exact LeO.none _)
      | (with_reducible refine LeO.ite ?_ ?_)
      | (with_reducible refine LeO.bind ?_ (fun _ => ?_))
      | exact ih0 _ _
      | exact ih1 _ _ _
      | exact ih2 _ _ _ _
      | exact ih3 _ _ _ _
      | exact spec_deCount.mono _ _ _
      | exact spec_deLine.mono _ _ _
      | exact LeO.none _
      | refine LeO.ite ?_ ?_
      | refine LeO.bind ?_ (fun _ => ?_)
    · intro y0 y1 y2 y3
      unfold spec_dePeel.l2
      repeat' first
      | (with_reducible exact ih0 _ _)
      | (with_reducible exact ih1 _ _ _)
      | (with_reducible exact ih2 _ _ _ _)
      | (with_reducible exact ih3 _ _ _ _)
      | (with_reducible exact spec_deCount.mono _ _ _)
      | (with_reducible exact spec_deLine.mono _ _ _)
      | (with_reducible exact LeO.refl _)
      | (with_reducible exact LeO.none _)
      | (with_reducible refine LeO.ite ?_ ?_)
      | (with_reducible refine LeO.bind ?_ (fun _ => ?_))
      | exact ih0 _ _
      | exact ih1 _ _ _
      | exact ih2 _ _ _ _
      | exact ih3 _ _ _ _
      | exact spec_deCount.mono _ _ _
      | exact spec_deLine.mono _ _ _
      | exact LeO.none _
      | refine LeO.ite ?_ ?_
      | refine LeO.bind ?_ (fun _ => ?_)
theorem spec_dePeel.mono : ∀ a0 k, LeO (spec_dePeel.f k a0) (spec_dePeel.f (k + 1) a0) := by
  intro a0 k
  obtain ⟨ih0, ih1, ih2, ih3⟩ := spec_dePeel.mono_l k
  unfold spec_dePeel.f
  repeat' first
      | (with_reducible exact ih0 _ _)
      | (with_reducible exact ih1 _ _ _)
      | (with_reducible exact ih2 _ _ _ _)
      | (with_reducible exact ih3 _ _ _ _)
      | (with_reducible exact spec_deCount.mono _ _ _)
      | (with_reducible exact spec_deLine.mono _ _ _)
      | (with_reducible exact LeO.refl _)
      | (with_reducible exact LeO.none _)
      | (with_reducible refine LeO.ite ?_ ?_)
      | (with_reducible refine LeO.bind ?_ (fun _ => ?_))
      | exact ih0 _ _
      | exact ih1 _ _ _
      | exact ih2 _ _ _ _
      | exact ih3 _ _ _ _
      | exact spec_deCount.mono _ _ _
      | exact spec_deLine.mono _ _ _
      | exact LeO.none _
      | refine LeO.ite ?_ ?_
      | refine LeO.bind ?_ (fun _ => ?_)
set_option maxHeartbeats 8000000 in
set_option maxRecDepth 100000 in
theorem spec_dePeel.calls (k : Nat) (A0 : Option Addr) (c0 : Nat) (l0 : List ByteArray) (r : List ByteArray) (w : World) (hr0 : Kd.C Kd.string w A0 l0.length l0) (hc0 : l0.length ≤ c0) (h : spec_dePeel.f k l0 = some r) :
  Calls Try.prog 82 #[.slice A0 l0.length c0] w fun e w' => ∃ v0_ : Value, e = .returned (v0_) ∧ Kd.R Kd.string 9 w' w.heap.size (fun _ => True) v0_ r ∧ Below w.heap.size w w' := by
 have HR0 := zm hr0
 have HC0 := zm hc0
 clear hr0 hc0
 have HB := zm (Below.refl w.heap.size w)
 have H : ((spec_l1OwnS.f l0).bind fun t137 => (spec_dePeel.l0 k t137 true)) = some r := h
 clear h
 replace H := Option.bind_eq_some_iff.mp H
 obtain ⟨t137, A20, H⟩ := H
 (try dsimp only at H)
 have A2 := zm A20
 clear A20
 have H' := zm H
 clear H
 go_enter Try.func82, Try.ntmps82
 go_wp2_with (first | ((with_reducible refine gate_callee (f := 87) rfl ?_); refine goesA_ (some 10) Try.func87 #[.slice A0 l0.length c0] rfl ?_; (with_reducible refine (spec_l1OwnS.calls _ _ l0 t137 _ ?side1 ?side2 A2.out).mono ?_); (case side1 => repeat (first | exact HR0.out | (with_reducible refine Kd.C_alloc ?_ _) | (with_reducible refine Kd.C_drewN ?_ _) | (with_reducible refine Kd.C_drew ?_))); (case side2 => exact HC0.out); rintro e w3 ⟨v138, rfl, ho0, hb⟩; refine ⟨_, rfl, ?_⟩; have n0_ := zm (Kd.R_lower ho0 (below_size zb)); have n1_ := zm (below_step zb hb); clear HB; have HO139 := n0_; have HB := n1_; clear n0_ n1_; (try clear hb); (try clear hb2); (try clear hk); (try clear hi); (try clear ho0)))
 go_loopg [3, 4] k (fun kq v3 v4 w' => ∃ (x3_1 : List ByteArray) (x4_1 : Bool), v4 = .bool x4_1 ∧ Aside0 (spec_dePeel.l0 kq x3_1 x4_1 = some r) ∧ Aside0 (kq ≤ k) ∧ Aside0 (Kd.R Kd.string 9 w' w.heap.size (fun _ => True) v3 x3_1) ∧ Aside0 (Below w.heap.size w w'))
 case atStart => exact ⟨(t137), (true), (by first | rfl | (simp; done) | (simp [*]; done)), H', ⟨Nat.le_refl _⟩, ⟨by (with_reducible repeat (first | apply Kd.R_alloc | apply Kd.R_drewN | apply Kd.R_drew)); exact HO139.out⟩, ⟨zb⟩⟩
 case round =>
  clear H'
  try clear p2
  obtain ⟨x3_1, x4_1, rfl, HA, HK1, HO_3, HB⟩ := hrel
  cases gk with
  | zero => exact absurd HA.out (by simp [spec_dePeel.l0])
  | succ k1 =>
   have H := HA.out
   clear HA
   simp only [spec_dePeel.l0] at H
   by_cases c4 : x4_1 = true
   ·
    subst c4
    have H1 : (spec_dePeel.l1 k1 x3_1 false 0) = some r := by rw [if_pos rfl] at H; exact H
    clear H
    have H := H1
    clear H1
    have H' := zm H
    clear H
    go_wp2
    go_loopg [3, 4, 5] k1 (fun kq v3 v4 v5 w' => ∃ (x3_2 : List ByteArray) (x4_2 : Bool) (x5_2 : Int), v4 = .bool x4_2 ∧ v5 = .int .i64 x5_2 ∧ Aside0 (spec_dePeel.l1 kq x3_2 x4_2 x5_2 = some r) ∧ Aside0 (kq ≤ k1) ∧ Aside0 (Kd.R Kd.string 9 w' w.heap.size (fun _ => True) v3 x3_2) ∧ Aside0 (Below w.heap.size w w'))
    case atStart => exact ⟨(x3_1), (false), (0), (by first | rfl | (simp; done) | (simp [*]; done)), (by first | rfl | (simp; done) | (simp [*]; done)), H', ⟨Nat.le_refl _⟩, ⟨by (with_reducible repeat (first | apply Kd.R_alloc | apply Kd.R_drewN | apply Kd.R_drew)); exact HO_3.out⟩, ⟨zb⟩⟩
    case round =>
     clear H'
     (try clear p2); (try clear c4); (try clear p2)
     obtain ⟨x3_2, x4_2, x5_2, rfl, rfl, HA, HK2, HO_3, HB⟩ := hrel
     cases gk with
     | zero => exact absurd HA.out (by simp [spec_dePeel.l1])
     | succ k2 =>
      have H := HA.out
      clear HA
      simp only [spec_dePeel.l1] at H
      have HC5 := zm H
      clear H
      go_upto_region 6 with (fail)
      go_cut [19] (fun v19 wc => ∃ (kq : Nat) (x19_4 : Bool), v19 = .bool x19_4 ∧ Aside0 (spec_dePeel.j2 kq x3_2 x4_2 x5_2 x19_4 = some r) ∧ Aside0 (kq ≤ k2) ∧ Aside0 (Kd.R Kd.string 9 wc w.heap.size (fun _ => True) u3 x3_2) ∧ Aside0 (Below w.heap.size w wc))
      case first =>
       have H := HC5.out
       clear HC5
       replace H := Option.bind_eq_some_iff.mp H
       obtain ⟨t140, A60, H⟩ := H
       (try dsimp only at H)
       have A6 := zm A60
       clear A60
       by_cases c7 : x5_2 < t140
       ·
        rw [if_pos c7] at H
        have c7b0 : decide (x5_2 < t140) = true := decide_eq_true c7
        clear c7
        (first | rw [c7b0] | (simp only [i64_w, i32_w]; rw [c7b0]) | skip)
        have H' := zm H
        clear H
        obtain ⟨Ao8, co8, eo8⟩ := Kd.R_slice HO_3.out
        subst eo8
        go_wp2_with (first | ((with_reducible refine gate_callee (f := 120) rfl ?_); refine goesA_ (some 14) Try.func120 #[.slice Ao8 x3_2.length co8] rfl ?_; (with_reducible refine (spec_deLines.calls _ _ x3_2 t140 _ ?side1 ?side2 A6.out).mono ?_); (case side1 => repeat (first | exact (Kd.R_reads' HO_3.out).2.2 | (with_reducible refine Kd.C_alloc ?_ _) | (with_reducible refine Kd.C_drewN ?_ _) | (with_reducible refine Kd.C_drew ?_))); (case side2 => exact (Kd.R_reads' HO_3.out).2.1); rintro e w' ⟨rfl, ⟨nd, rfl⟩⟩; refine ⟨_, rfl, ?_⟩))
        go_meet
        case rel => exact ⟨_, (!x4_2), (by first | rfl | (simp; done) | (simp [*]; done)), H', ⟨by have := HK1.out; have := HK2.out; first | omega | exact Nat.le_refl _⟩, ⟨by (with_reducible repeat (first | apply Kd.R_alloc | apply Kd.R_drewN | apply Kd.R_drew)); exact HO_3.out⟩, ⟨zb⟩⟩
       ·
        rw [if_neg c7] at H
        have c7b0 : decide (x5_2 < t140) = false := decide_eq_false c7
        clear c7
        (first | rw [c7b0] | (simp only [i64_w, i32_w]; rw [c7b0]) | skip)
        have H' := zm H
        clear H
        obtain ⟨Ao9, co9, eo9⟩ := Kd.R_slice HO_3.out
        subst eo9
        go_wp2_with (first | ((with_reducible refine gate_callee (f := 120) rfl ?_); refine goesA_ (some 14) Try.func120 #[.slice Ao9 x3_2.length co9] rfl ?_; (with_reducible refine (spec_deLines.calls _ _ x3_2 t140 _ ?side1 ?side2 A6.out).mono ?_); (case side1 => repeat (first | exact (Kd.R_reads' HO_3.out).2.2 | (with_reducible refine Kd.C_alloc ?_ _) | (with_reducible refine Kd.C_drewN ?_ _) | (with_reducible refine Kd.C_drew ?_))); (case side2 => exact (Kd.R_reads' HO_3.out).2.1); rintro e w' ⟨rfl, ⟨nd, rfl⟩⟩; refine ⟨_, rfl, ?_⟩))
        go_meet
        case rel => exact ⟨_, (false), (by first | rfl | (simp; done) | (simp [*]; done)), H', ⟨by have := HK1.out; have := HK2.out; first | omega | exact Nat.le_refl _⟩, ⟨by (with_reducible repeat (first | apply Kd.R_alloc | apply Kd.R_drewN | apply Kd.R_drew)); exact HO_3.out⟩, ⟨zb⟩⟩
      case rest =>
       clear HC5
       (try clear c1); (try clear p2); (try clear c4); (try clear c7); (try clear c7b0); (try clear c8); (try clear p2)
       obtain ⟨kq, x19_4, rfl, HA, HJ4, HO_3, HB⟩ := hcut
       cases kq with
       | zero => exact absurd HA.out (by simp [spec_dePeel.j2])
       | succ kj4 =>
        have H := HA.out
        clear HA
        simp only [spec_dePeel.j2] at H
        by_cases c10 : x19_4 = true
        ·
         subst c10
         have H1 : ((spec_deLine.f kj4 x3_2 x5_2).bind fun t141 => ((spec_deCount.f kj4 t141 63).bind fun t142 => (if t142 = 1 then (spec_dePeel.l2 kj4 x3_2 x5_2 t141 0) else (spec_dePeel.l1 kj4 x3_2 x4_2 (wrap64 (x5_2 + 1)))))) = some r := by rw [if_pos rfl] at H; exact H
         clear H
         have H := H1
         clear H1
         replace H := Option.bind_eq_some_iff.mp H
         obtain ⟨t141, A110, H⟩ := H
         (try dsimp only at H)
         have A11 := zm A110
         clear A110
         replace H := Option.bind_eq_some_iff.mp H
         obtain ⟨t142, A120, H⟩ := H
         (try dsimp only at H)
         have A12 := zm A120
         clear A120
         by_cases c13 : t142 = 1
         ·
          rw [if_pos c13] at H
          have c13b0 : (t142 == 1) = true := beq_iff_eq.mpr c13
          have c13b1 : (t142 != 1) = false := bne_eq_false_iff_eq.mpr c13
          clear c13
          have H' := zm H
          clear H
          obtain ⟨Ao14, co14, eo14⟩ := Kd.R_slice HO_3.out
          subst eo14
          go_wp2_with (first | ((with_reducible refine gate_callee (f := 121) rfl ?_); refine goesA_ (some 24) Try.func121 #[.slice Ao14 x3_2.length co14, .int .i64 x5_2] rfl ?_; (with_reducible refine (spec_deLine.calls kj4 _ _ x3_2 x5_2 t141 _ ?side1 ?side2 A11.out).mono ?_); (case side1 => repeat (first | exact (Kd.R_reads' HO_3.out).2.2 | (with_reducible refine Kd.C_alloc ?_ _) | (with_reducible refine Kd.C_drewN ?_ _) | (with_reducible refine Kd.C_drew ?_))); (case side2 => exact (Kd.R_reads' HO_3.out).2.1); rintro e w' ⟨rfl, ⟨nd, rfl⟩⟩; refine ⟨_, rfl, ?_⟩) | ((with_reducible refine gate_callee (f := 122) rfl ?_); refine goesA_ (some 26) Try.func122 #[.string t141, .int .u8 63] rfl ?_; (with_reducible refine (spec_deCount.calls kj4 t141 63 t142 _ A12.out).mono ?_); rintro e w' ⟨rfl, ⟨nd, rfl⟩⟩; refine ⟨_, rfl, ?_⟩))
          go_loopg [7] kj4 (fun kq v7 w' => ∃ (x7_4 : Int), v7 = .int .i64 x7_4 ∧ Aside0 (spec_dePeel.l2 kq x3_2 x5_2 t141 x7_4 = some r) ∧ Aside0 (kq ≤ kj4) ∧ Aside0 (Kd.R Kd.string 9 w' w.heap.size (fun _ => True) (.slice Ao14 x3_2.length co14) x3_2) ∧ Aside0 (Below w.heap.size w w'))
          case atStart => exact ⟨(0), (by first | rfl | (simp; done) | (simp [*]; done)), H', ⟨Nat.le_refl _⟩, ⟨by (with_reducible repeat (first | apply Kd.R_alloc | apply Kd.R_drewN | apply Kd.R_drew)); exact HO_3.out⟩, ⟨zb⟩⟩
          case round =>
           clear H'
           (try clear c1); (try clear p2); (try clear c4); (try clear p6); (try clear c7); (try clear c7b0); (try clear c8); (try clear c10); (try clear c12); (try clear c13); (try clear c13b0); (try clear c13b1); (try clear p2)
           obtain ⟨x7_4, rfl, HA, HK4, HO_3, HB⟩ := hrel
           cases gk with
           | zero => exact absurd HA.out (by simp [spec_dePeel.l2])
           | succ k4 =>
            have H := HA.out
            clear HA
            simp only [spec_dePeel.l2] at H
            by_cases c15 : 0 ≤ x7_4
            ·
             rw [if_pos c15] at H
             have c15b0 : decide (0 ≤ x7_4) = true := decide_eq_true c15
             clear c15
             by_cases c16 : x7_4 < (t141.size : Int)
             ·
              rw [if_pos c16] at H
              have c16b0 : decide (x7_4 < (t141.size : Int)) = true := decide_eq_true c16
              clear c16
              by_cases c18 : (bt t141 x7_4) = 63
              ·
               rw [if_pos c18] at H
               have c18b0 : ((bt t141 x7_4) == 63) = true := beq_iff_eq.mpr c18
               have c18b1 : ((bt t141 x7_4) != 63) = false := bne_eq_false_iff_eq.mpr c18
               clear c18
               replace H := Option.bind_eq_some_iff.mp H
               obtain ⟨t143, A190, H⟩ := H
               (try dsimp only at H)
               have A19 := zm A190
               clear A190
               replace H := Option.bind_eq_some_iff.mp H
               obtain ⟨t144, A200, H⟩ := H
               (try dsimp only at H)
               have A20 := zm A200
               clear A200
               by_cases c21 : x5_2 < (x3_2.length : Int)
               ·
                rw [if_pos c21] at H
                have c21b0 : decide (x5_2 < (x3_2.length : Int)) = true := decide_eq_true c21
                clear c21
                replace H := Option.bind_eq_some_iff.mp H
                obtain ⟨t145, A220, H⟩ := H
                (try dsimp only at H)
                have A22 := zm A220
                clear A220
                have H' := zm H
                clear H
                have p17 : 0 ≤ (x7_4 : Int) := zd
                have q17 : x7_4 < (t141.size : Int) := zd
                have hx17 := bt_at t141 x7_4
                replace p17 := eq_true p17
                replace q17 := eq_true q17
                go_wp2_with (first | ((with_reducible refine gate_callee (f := 122) rfl ?_); refine goesA_ (some 35) Try.func122 #[.string t141, .int .u8 111] rfl ?_; (with_reducible refine (spec_deCount.calls k4 t141 111 t143 _ A19.out).mono ?_); rintro e w' ⟨rfl, ⟨nd, rfl⟩⟩; refine ⟨_, rfl, ?_⟩) | ((with_reducible refine gate_callee (f := 123) rfl ?_); refine goesA_ (some 36) Try.func123 #[.int .i64 t143] rfl ?_; (with_reducible refine (spec_deMark.calls t143 t144 _ A20.out).mono ?_); rintro e w' ⟨rfl, ⟨nd, rfl⟩⟩; refine ⟨_, rfl, ?_⟩) | ((with_reducible refine gate_callee (f := 89) rfl ?_); refine goesA_ (some 45) Try.func89 #[.slice Ao14 x3_2.length co14, .int .i64 x5_2, .int .i64 x7_4, .string t144] rfl ?_; (with_reducible refine (spec_deWith.calls _ _ x3_2 x5_2 x7_4 t144 t145 _ ?side1 ?side2 A22.out).mono ?_); (case side1 => repeat (first | exact (Kd.R_reads' HO_3.out).2.2 | (with_reducible refine Kd.C_alloc ?_ _) | (with_reducible refine Kd.C_drewN ?_ _) | (with_reducible refine Kd.C_drew ?_))); (case side2 => exact (Kd.R_reads' HO_3.out).2.1); rintro e w23 ⟨v146, rfl, ho0, hb⟩; refine ⟨_, rfl, ?_⟩; have n0_ := zm (Kd.R_elder' (by (with_reducible repeat (first | apply Kd.R_alloc | apply Kd.R_drewN | apply Kd.R_drew)); exact HO_3.out) (Kd.R_base ho0) hb); have n1_ := zm (Kd.R_lower (Kd.R_new' ho0 (Kd.R_lt (by (with_reducible repeat (first | apply Kd.R_alloc | apply Kd.R_drewN | apply Kd.R_drew)); exact HO_3.out))) (below_size zb)); have n2_ := zm (below_step zb hb); clear HO_3; clear HB; have HO_3 := n0_; have HO147 := n1_; have HB := n2_; clear n0_ n1_ n2_; (try clear hb); (try clear hb2); (try clear hk); (try clear hi); (try clear ho0)))
                go_roundg k4
                case measure => have := HK1.out; have := HK2.out; have := HJ4.out; have := HK4.out; omega
                case rel => exact ⟨(t145), (true), (wrap64 (x5_2 + 1)), (by first | rfl | (simp; done) | (simp [*]; done)), (by first | rfl | (simp; done) | (simp [*]; done)), H', ⟨by have := HK1.out; have := HK2.out; have := HJ4.out; have := HK4.out; omega⟩, ⟨by (with_reducible repeat (first | apply Kd.R_alloc | apply Kd.R_drewN | apply Kd.R_drew)); exact Kd.R_mono HO147.out (fun _ hk => trivial)⟩, ⟨zb⟩⟩
               ·
                rw [if_neg c21] at H
                have c21b0 : decide (x5_2 < (x3_2.length : Int)) = false := decide_eq_false c21
                clear c21
                replace H := Option.bind_eq_some_iff.mp H
                obtain ⟨t148, A240, H⟩ := H
                (try dsimp only at H)
                have A24 := zm A240
                clear A240
                have H' := zm H
                clear H
                have p17 : 0 ≤ (x7_4 : Int) := zd
                have q17 : x7_4 < (t141.size : Int) := zd
                have hx17 := bt_at t141 x7_4
                replace p17 := eq_true p17
                replace q17 := eq_true q17
                go_wp2_with (first | ((with_reducible refine gate_callee (f := 122) rfl ?_); refine goesA_ (some 35) Try.func122 #[.string t141, .int .u8 111] rfl ?_; (with_reducible refine (spec_deCount.calls k4 t141 111 t143 _ A19.out).mono ?_); rintro e w' ⟨rfl, ⟨nd, rfl⟩⟩; refine ⟨_, rfl, ?_⟩) | ((with_reducible refine gate_callee (f := 123) rfl ?_); refine goesA_ (some 36) Try.func123 #[.int .i64 t143] rfl ?_; (with_reducible refine (spec_deMark.calls t143 t144 _ A20.out).mono ?_); rintro e w' ⟨rfl, ⟨nd, rfl⟩⟩; refine ⟨_, rfl, ?_⟩) | ((with_reducible refine gate_callee (f := 89) rfl ?_); refine goesA_ (some 53) Try.func89 #[.slice Ao14 x3_2.length co14, .int .i64 x7_4, .int .i64 (wrap64 (x5_2 - (x3_2.length : Int))), .string t144] rfl ?_; (with_reducible refine (spec_deWith.calls _ _ x3_2 x7_4 (wrap64 (x5_2 - (x3_2.length : Int))) t144 t148 _ ?side1 ?side2 A24.out).mono ?_); (case side1 => repeat (first | exact (Kd.R_reads' HO_3.out).2.2 | (with_reducible refine Kd.C_alloc ?_ _) | (with_reducible refine Kd.C_drewN ?_ _) | (with_reducible refine Kd.C_drew ?_))); (case side2 => exact (Kd.R_reads' HO_3.out).2.1); rintro e w25 ⟨v149, rfl, ho0, hb⟩; refine ⟨_, rfl, ?_⟩; have n0_ := zm (Kd.R_elder' (by (with_reducible repeat (first | apply Kd.R_alloc | apply Kd.R_drewN | apply Kd.R_drew)); exact HO_3.out) (Kd.R_base ho0) hb); have n1_ := zm (Kd.R_lower (Kd.R_new' ho0 (Kd.R_lt (by (with_reducible repeat (first | apply Kd.R_alloc | apply Kd.R_drewN | apply Kd.R_drew)); exact HO_3.out))) (below_size zb)); have n2_ := zm (below_step zb hb); clear HO_3; clear HB; have HO_3 := n0_; have HO150 := n1_; have HB := n2_; clear n0_ n1_ n2_; (try clear hb); (try clear hb2); (try clear hk); (try clear hi); (try clear ho0)))
                go_roundg k4
                case measure => have := HK1.out; have := HK2.out; have := HJ4.out; have := HK4.out; omega
                case rel => exact ⟨(t148), (true), (wrap64 (x5_2 + 1)), (by first | rfl | (simp; done) | (simp [*]; done)), (by first | rfl | (simp; done) | (simp [*]; done)), H', ⟨by have := HK1.out; have := HK2.out; have := HJ4.out; have := HK4.out; omega⟩, ⟨by (with_reducible repeat (first | apply Kd.R_alloc | apply Kd.R_drewN | apply Kd.R_drew)); exact Kd.R_mono HO150.out (fun _ hk => trivial)⟩, ⟨zb⟩⟩
              ·
               rw [if_neg c18] at H
               have c18b0 : ((bt t141 x7_4) == 63) = false := beq_eq_false_iff_ne.mpr c18
               have c18b1 : ((bt t141 x7_4) != 63) = true := bne_iff_ne.mpr c18
               have H' := zm H
               clear H
               have p17 : 0 ≤ (x7_4 : Int) := zd
               have q17 : x7_4 < (t141.size : Int) := zd
               have hx17 := bt_at t141 x7_4
               replace p17 := eq_true p17
               replace q17 := eq_true q17
               go_wp2
               go_roundg k4
               case measure => have := HK1.out; have := HK2.out; have := HJ4.out; have := HK4.out; omega
               case rel => exact ⟨(wrap64 (x7_4 + 1)), (by first | rfl | (simp; done) | (simp [*]; done)), H', ⟨by have := HK1.out; have := HK2.out; have := HJ4.out; have := HK4.out; omega⟩, ⟨by (with_reducible repeat (first | apply Kd.R_alloc | apply Kd.R_drewN | apply Kd.R_drew)); exact HO_3.out⟩, ⟨zb⟩⟩
             ·
              rw [if_neg c16] at H
              exact absurd H (by simp)
            ·
             rw [if_neg c15] at H
             exact absurd H (by simp)
         ·
          rw [if_neg c13] at H
          have c13b0 : (t142 == 1) = false := beq_eq_false_iff_ne.mpr c13
          have c13b1 : (t142 != 1) = true := bne_iff_ne.mpr c13
          have H' := zm H
          clear H
          obtain ⟨Ao26, co26, eo26⟩ := Kd.R_slice HO_3.out
          subst eo26
          go_wp2_with (first | ((with_reducible refine gate_callee (f := 121) rfl ?_); refine goesA_ (some 24) Try.func121 #[.slice Ao26 x3_2.length co26, .int .i64 x5_2] rfl ?_; (with_reducible refine (spec_deLine.calls kj4 _ _ x3_2 x5_2 t141 _ ?side1 ?side2 A11.out).mono ?_); (case side1 => repeat (first | exact (Kd.R_reads' HO_3.out).2.2 | (with_reducible refine Kd.C_alloc ?_ _) | (with_reducible refine Kd.C_drewN ?_ _) | (with_reducible refine Kd.C_drew ?_))); (case side2 => exact (Kd.R_reads' HO_3.out).2.1); rintro e w' ⟨rfl, ⟨nd, rfl⟩⟩; refine ⟨_, rfl, ?_⟩) | ((with_reducible refine gate_callee (f := 122) rfl ?_); refine goesA_ (some 26) Try.func122 #[.string t141, .int .u8 63] rfl ?_; (with_reducible refine (spec_deCount.calls kj4 t141 63 t142 _ A12.out).mono ?_); rintro e w' ⟨rfl, ⟨nd, rfl⟩⟩; refine ⟨_, rfl, ?_⟩))
          go_roundg kj4
          case measure => have := HK1.out; have := HK2.out; have := HJ4.out; omega
          case rel => exact ⟨(x3_2), (x4_2), (wrap64 (x5_2 + 1)), (by first | rfl | (simp; done) | (simp [*]; done)), (by first | rfl | (simp; done) | (simp [*]; done)), H', ⟨by have := HK1.out; have := HK2.out; have := HJ4.out; omega⟩, ⟨by (with_reducible repeat (first | apply Kd.R_alloc | apply Kd.R_drewN | apply Kd.R_drew)); exact HO_3.out⟩, ⟨zb⟩⟩
        ·
         replace c10 := Bool.eq_false_iff.mpr c10
         subst c10
         have H1 : (spec_dePeel.l0 kj4 x3_2 x4_2) = some r := by rw [if_neg (show ¬ (false = true) by decide)] at H; exact H
         clear H
         have H := H1
         clear H1
         have H' := zm H
         clear H
         go_wp2
         go_roundg kj4
         case measure => have := HK1.out; have := HK2.out; have := HJ4.out; omega
         case rel => exact ⟨(x3_2), (x4_2), (by first | rfl | (simp; done) | (simp [*]; done)), H', ⟨by have := HK1.out; have := HK2.out; have := HJ4.out; omega⟩, ⟨by (with_reducible repeat (first | apply Kd.R_alloc | apply Kd.R_drewN | apply Kd.R_drew)); exact HO_3.out⟩, ⟨zb⟩⟩
   ·
    replace c4 := Bool.eq_false_iff.mpr c4
    subst c4
    have H1 : (some x3_1) = some r := by rw [if_neg (show ¬ (false = true) by decide)] at H; exact H
    clear H
    have H := H1
    clear H1
    obtain rfl := Option.some.inj H
    go_wp2
    go_ret
    exact ⟨_, zr, by (with_reducible repeat (first | apply Kd.R_alloc | apply Kd.R_drewN | apply Kd.R_drew)); exact HO_3.out, zb⟩

/-! ### spec_deErased: function 126 -/
def spec_deErased.l0 : Nat → Int → List ByteArray → Int → Int → Option (Int)
  | 0, _, _, _, _ => none
  | k + 1, x3, x6, x7, x8 => if x8 < x7 then (if 0 ≤ x8 then (if x8 < (x6.length : Int) then ((spec_deCount.f k (rdOf ByteArray.empty x6 x8) 63).bind fun t152 => (spec_deErased.l0 k (wrap64 (x3 + t152)) x6 x7 (wrap64 (x8 + 1)))) else (none)) else (none)) else (some x3)
def spec_deErased.f (k : Nat) (l0 : List ByteArray) : Option (Int) := spec_deErased.l0 k 0 l0 (l0.length : Int) 0
theorem spec_deErased.mono_l : ∀ k, (∀ y0 y1 y2 y3, LeO (spec_deErased.l0 k y0 y1 y2 y3) (spec_deErased.l0 (k + 1) y0 y1 y2 y3))
  | 0 => fun _ _ _ _ r h => by simp [spec_deErased.l0] at h
  | k + 1 => by
    have ih0 := spec_deErased.mono_l k
    · intro y0 y1 y2 y3
      unfold spec_deErased.l0
      repeat' first
      | (with_reducible exact ih0 _ _ _ _)
      | (with_reducible exact spec_deCount.mono _ _ _)
      | (with_reducible exact LeO.refl _)
      | (with_reducible exact LeO.none _)
      | (with_reducible refine LeO.ite ?_ ?_)
      | (with_reducible refine LeO.bind ?_ (fun _ => ?_))
      | exact ih0 _ _ _ _
      | exact spec_deCount.mono _ _ _
      | exact LeO.none _
      | refine LeO.ite ?_ ?_
      | refine LeO.bind ?_ (fun _ => ?_)
theorem spec_deErased.mono : ∀ a0 k, LeO (spec_deErased.f k a0) (spec_deErased.f (k + 1) a0) := by
  intro a0 k
  have ih0 := spec_deErased.mono_l k
  unfold spec_deErased.f
  repeat' first
      | (with_reducible exact ih0 _ _ _ _)
      | (with_reducible exact spec_deCount.mono _ _ _)
      | (with_reducible exact LeO.refl _)
      | (with_reducible exact LeO.none _)
      | (with_reducible refine LeO.ite ?_ ?_)
      | (with_reducible refine LeO.bind ?_ (fun _ => ?_))
      | exact ih0 _ _ _ _
      | exact spec_deCount.mono _ _ _
      | exact LeO.none _
      | refine LeO.ite ?_ ?_
      | refine LeO.bind ?_ (fun _ => ?_)
set_option maxHeartbeats 8000000 in
set_option maxRecDepth 100000 in
theorem spec_deErased.calls (k : Nat) (A0 : Option Addr) (c0 : Nat) (l0 : List ByteArray) (r : Int) (w : World) (hr0 : Kd.C Kd.string w A0 l0.length l0) (hc0 : l0.length ≤ c0) (h : spec_deErased.f k l0 = some r) :
  Calls Try.prog 126 #[.slice A0 l0.length c0] w fun e w' => e = .returned (.int .i64 r) ∧ Drawn0 w w' := by
 have HR0 := zm hr0
 have HC0 := zm hc0
 clear hr0 hc0
 have H : (spec_deErased.l0 k 0 l0 (l0.length : Int) 0) = some r := h
 clear h
 have H' := zm H
 clear H
 go_enter Try.func126, Try.ntmps126
 go_wp2
 go_loopg [3, 8] k (fun kq v3 v8 w' => ∃ (x3_1 : Int) (x8_1 : Int), v3 = .int .i64 x3_1 ∧ v8 = .int .i64 x8_1 ∧ Aside0 (spec_deErased.l0 kq x3_1 l0 (l0.length : Int) x8_1 = some r) ∧ Aside0 (kq ≤ k) ∧ Drawn0 w w')
 case atStart => exact ⟨(0), (0), (by first | rfl | (simp; done) | (simp [*]; done)), (by first | rfl | (simp; done) | (simp [*]; done)), H', ⟨Nat.le_refl _⟩, by repeat (first | exact Drawn0.refl _ | apply Drawn0.step)⟩
 case round =>
  clear H'
  try clear c1
  obtain ⟨x3_1, x8_1, rfl, rfl, HA, HK1, ⟨m1, rfl⟩⟩ := hrel
  cases gk with
  | zero => exact absurd HA.out (by simp [spec_deErased.l0])
  | succ k1 =>
   have H := HA.out
   clear HA
   simp only [spec_deErased.l0] at H
   by_cases c2 : x8_1 < (l0.length : Int)
   ·
    rw [if_pos c2] at H
    have c2b0 : decide (x8_1 < (l0.length : Int)) = true := decide_eq_true c2
    clear c2
    by_cases c3 : 0 ≤ x8_1
    ·
     rw [if_pos c3] at H
     have c3b0 : decide (0 ≤ x8_1) = true := decide_eq_true c3
     clear c3
     by_cases c4 : x8_1 < (l0.length : Int)
     ·
      rw [if_pos c4] at H
      have c4b0 : decide (x8_1 < (l0.length : Int)) = true := decide_eq_true c4
      clear c4
      replace H := Option.bind_eq_some_iff.mp H
      obtain ⟨t152, A50, H⟩ := H
      (try dsimp only at H)
      have A5 := zm A50
      clear A50
      have H' := zm H
      clear H
      have p151 : 0 ≤ (x8_1 : Int) := zd
      have q151 : x8_1 < (l0.length : Int) := zd
      obtain ⟨ad151, e151, hx151_0⟩ := Kd.at_string HR0.out x8_1 p151 q151
      cases e151
      replace p151 := eq_true p151
      replace q151 := eq_true q151
      go_wp2_with (first | ((with_reducible refine gate_callee (f := 122) rfl ?_); refine goesA_ (some 14) Try.func122 #[.string (rdOf ByteArray.empty l0 x8_1), .int .u8 63] rfl ?_; (with_reducible refine (spec_deCount.calls k1 (rdOf ByteArray.empty l0 x8_1) 63 t152 _ A5.out).mono ?_); rintro e w' ⟨rfl, ⟨nd, rfl⟩⟩; refine ⟨_, rfl, ?_⟩))
      go_roundg k1
      case measure => have := HK1.out; omega
      case rel => exact ⟨(wrap64 (x3_1 + t152)), (wrap64 (x8_1 + 1)), (by first | rfl | (simp; done) | (simp [*]; done)), (by first | rfl | (simp; done) | (simp [*]; done)), H', ⟨by have := HK1.out; omega⟩, by repeat (first | exact Drawn0.refl _ | apply Drawn0.step)⟩
     ·
      rw [if_neg c4] at H
      exact absurd H (by simp)
    ·
     rw [if_neg c3] at H
     exact absurd H (by simp)
   ·
    rw [if_neg c2] at H
    have c2b0 : decide (x8_1 < (l0.length : Int)) = false := decide_eq_false c2
    clear c2
    obtain rfl := Option.some.inj H
    go_wp2
    go_ret
    exact ⟨by first | rfl | (simp; done) | (simp [*]; done), by repeat (first | exact Drawn0.refl _ | apply Drawn0.step)⟩

/-! ### spec_l1Least: function 148 -/
def spec_l1Least.f (a0 : Int) (a1 : Int) : Option (Int) := if a0 < a1 then (some a0) else (some a1)
set_option maxHeartbeats 8000000 in
set_option maxRecDepth 100000 in
theorem spec_l1Least.calls (a0 : Int) (a1 : Int) (r : Int) (w : World) (h : spec_l1Least.f a0 a1 = some r) :
  Calls Try.prog 148 #[.int .i64 a0, .int .i64 a1] w fun e w' => e = .returned (.int .i64 r) ∧ Drawn0 w w' := by
 have H : (if a0 < a1 then (some a0) else (some a1)) = some r := h
 clear h
 by_cases c3 : a0 < a1
 ·
  rw [if_pos c3] at H
  have c3b0 : decide (a0 < a1) = true := decide_eq_true c3
  clear c3
  obtain rfl := Option.some.inj H
  go_enter Try.func148, Try.ntmps148
  go_wp2
  go_ret
  exact ⟨by first | rfl | (simp; done) | (simp [*]; done), by repeat (first | exact Drawn0.refl _ | apply Drawn0.step)⟩
 ·
  rw [if_neg c3] at H
  have c3b0 : decide (a0 < a1) = false := decide_eq_false c3
  clear c3
  obtain rfl := Option.some.inj H
  go_enter Try.func148, Try.ntmps148
  go_wp2
  go_ret
  exact ⟨by first | rfl | (simp; done) | (simp [*]; done), by repeat (first | exact Drawn0.refl _ | apply Drawn0.step)⟩

end Go.Proofs.Ytjjjikdpegogcaa.PBd
