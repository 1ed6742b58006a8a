-- Written for this claim by a program of this session (wip/tpl/patchprint.py), not by print.sh.
import Derived.Test.YtjjjikdpegogcaaPBdx0
import Derived.Test.YtjjjikdpegogcaaPBdx8
namespace Go.Proofs.Ytjjjikdpegogcaa.PBd
open Go.RowKit Go.Proofs.YtjjjikdpegogcaaW.PrintWords Go.Proofs.YtjjjikdpegogcaaW.PrintLast Go.Proofs.YtjjjikdpegogcaaW.PrintMore
attribute [local go_sem] max2_int min2_int max_two min_two max_three min_three max_four min_four   -- for this text's walks alone
set_option linter.unusedVariables false
set_option linter.unusedSimpArgs false

/-! ### impl_lineCounts: function 127 -/
def impl_lineCounts.l0 : Nat → Int → Int → List Int → Int → Int → Option (Int × Int)
  | 0, _, _, _, _, _ => none
  | k + 1, x6, x7, x12, x13, x14 => if x14 < x13 then (if 0 ≤ x14 then (if x14 < (x12.length : Int) then (if (rd x12 x14) = 111 then (impl_lineCounts.l0 k (wrap64 (x6 + 1)) x7 x12 x13 (wrap64 (x14 + 1))) else (if (rd x12 x14) = 63 then (impl_lineCounts.l0 k x6 (wrap64 (x7 + 1)) x12 x13 (wrap64 (x14 + 1))) else (impl_lineCounts.l0 k x6 x7 x12 x13 (wrap64 (x14 + 1))))) else (none)) else (none)) else (some (x6, x7))
def impl_lineCounts.f (k : Nat) (l0 : List ByteArray) (a1 : Int) : Option (Int × Int) := (impl_blockLine.f k l0 a1).bind fun t180 => (impl_lineCounts.l0 k 0 0 t180 (t180.length : Int) 0)
theorem impl_lineCounts.mono_l : ∀ k, (∀ y0 y1 y2 y3 y4, LeO (impl_lineCounts.l0 k y0 y1 y2 y3 y4) (impl_lineCounts.l0 (k + 1) y0 y1 y2 y3 y4))
  | 0 => fun _ _ _ _ _ r h => by simp [impl_lineCounts.l0] at h
  | k + 1 => by
    have ih0 := impl_lineCounts.mono_l k
    · intro y0 y1 y2 y3 y4
      unfold impl_lineCounts.l0
      repeat' first
      | (with_reducible exact ih0 _ _ _ _ _)
      | (with_reducible exact impl_blockLine.mono _ _ _)
      | (with_reducible exact LeO.refl _)
      | (with_reducible exact LeO.none _)
      | (with_reducible refine LeO.ite ?_ ?_)
      | (with_reducible refine LeO.bind ?_ (fun _ => ?_))
      | exact ih0 _ _ _ _ _
      | exact impl_blockLine.mono _ _ _
      | exact LeO.none _
      | refine LeO.ite ?_ ?_
      | refine LeO.bind ?_ (fun _ => ?_)
theorem impl_lineCounts.mono : ∀ a0 a1 k, LeO (impl_lineCounts.f k a0 a1) (impl_lineCounts.f (k + 1) a0 a1) := by
  intro a0 a1 k
  have ih0 := impl_lineCounts.mono_l k
  unfold impl_lineCounts.f
  repeat' first
      | (with_reducible exact ih0 _ _ _ _ _)
      | (with_reducible exact impl_blockLine.mono _ _ _)
      | (with_reducible exact LeO.refl _)
      | (with_reducible exact LeO.none _)
      | (with_reducible refine LeO.ite ?_ ?_)
      | (with_reducible refine LeO.bind ?_ (fun _ => ?_))
      | exact ih0 _ _ _ _ _
      | exact impl_blockLine.mono _ _ _
      | exact LeO.none _
      | refine LeO.ite ?_ ?_
      | refine LeO.bind ?_ (fun _ => ?_)
set_option maxHeartbeats 8000000 in
set_option maxRecDepth 100000 in
theorem impl_lineCounts.calls (k : Nat) (A0 : Option Addr) (c0 : Nat) (l0 : List ByteArray) (a1 : Int) (r1 : Int) (r2 : Int) (w : World) (hr0 : Kd.C Kd.string w A0 l0.length l0) (hc0 : l0.length ≤ c0) (h : impl_lineCounts.f k l0 a1 = some (r1, r2)) :
  Calls Try.prog 127 #[.slice A0 l0.length c0, .int .i64 a1] w fun e w' => e = .returned (.tuple #[.int .i64 r1, .int .i64 r2]) ∧ Below w.heap.size w w' := by
 have HR0 := zm hr0
 have HC0 := zm hc0
 clear hr0 hc0
 have HB := zm (Below.refl w.heap.size w)
 have H : ((impl_blockLine.f k l0 a1).bind fun t180 => (impl_lineCounts.l0 k 0 0 t180 (t180.length : Int) 0)) = some (r1, r2) := h
 clear h
 replace H := Option.bind_eq_some_iff.mp H
 obtain ⟨t180, A30, H⟩ := H
 (try dsimp only at H)
 have A3 := zm A30
 clear A30
 have H' := zm H
 clear H
 go_enter Try.func127, Try.ntmps127
 go_wp2_with (first | ((with_reducible refine gate_callee (f := 146) rfl ?_); refine goesA_ (some 12) Try.func146 #[.slice A0 l0.length c0, .int .i64 a1] rfl ?_; (with_reducible refine (impl_blockLine.calls k _ _ l0 a1 t180 _ ?side1 ?side2 A3.out).mono ?_); (case side1 => repeat (first | exact HR0.out | (with_reducible refine Kd.C_alloc ?_ _) | (with_reducible refine Kd.C_drewN ?_ _) | (with_reducible refine Kd.C_drew ?_))); (case side2 => exact HC0.out); rintro e w4 ⟨v181, rfl, ho0, hb⟩; refine ⟨_, rfl, ?_⟩; have n0_ := zm (Fz.R_lower ho0 (below_size zb)); have n1_ := zm (below_step zb hb); clear HB; have HO182 := n0_; have HB := n1_; clear n0_ n1_; (try clear hb); (try clear hb2); (try clear hk); (try clear hi); (try clear ho0); obtain ⟨Ao5, co5, eo5⟩ := Fz.R_slice HO182.out; subst eo5))
 go_loopg [6, 7, 14] k (fun kq v6 v7 v14 w' => ∃ (x6_1 : Int) (x7_1 : Int) (x14_1 : Int), v6 = .int .i64 x6_1 ∧ v7 = .int .i64 x7_1 ∧ v14 = .int .i64 x14_1 ∧ Aside0 (impl_lineCounts.l0 kq x6_1 x7_1 t180 (t180.length : Int) x14_1 = some (r1, r2)) ∧ Aside0 (kq ≤ k) ∧ Aside0 (Fz w' w.heap.size (.slice Ao5 t180.length co5) t180) ∧ Aside0 (Below w.heap.size w w'))
 case atStart => exact ⟨(0), (0), (0), (by first | rfl | (simp; done) | (simp [*]; done)), (by first | rfl | (simp; done) | (simp [*]; done)), (by first | rfl | (simp; done) | (simp [*]; done)), H', ⟨Nat.le_refl _⟩, ⟨by (with_reducible repeat (first | apply Fz.R_alloc | apply Fz.R_drewN | apply Fz.R_drew)); exact HO182.out⟩, ⟨zb⟩⟩
 case round =>
  clear H'
  (try clear c1); (try clear p2)
  obtain ⟨x6_1, x7_1, x14_1, rfl, rfl, rfl, HA, HK1, HO_12, HB⟩ := hrel
  cases gk with
  | zero => exact absurd HA.out (by simp [impl_lineCounts.l0])
  | succ k1 =>
   have H := HA.out
   clear HA
   simp only [impl_lineCounts.l0] at H
   by_cases c6 : x14_1 < (t180.length : Int)
   ·
    rw [if_pos c6] at H
    have c6b0 : decide (x14_1 < (t180.length : Int)) = true := decide_eq_true c6
    clear c6
    by_cases c7 : 0 ≤ x14_1
    ·
     rw [if_pos c7] at H
     have c7b0 : decide (0 ≤ x14_1) = true := decide_eq_true c7
     clear c7
     by_cases c8 : x14_1 < (t180.length : Int)
     ·
      rw [if_pos c8] at H
      have c8b0 : decide (x14_1 < (t180.length : Int)) = true := decide_eq_true c8
      clear c8
      by_cases c9 : (rd t180 x14_1) = 111
      ·
       rw [if_pos c9] at H
       have c9b0 : ((rd t180 x14_1) == 111) = true := beq_iff_eq.mpr c9
       have c9b1 : ((rd t180 x14_1) != 111) = false := bne_eq_false_iff_eq.mpr c9
       clear c9
       have H' := zm H
       clear H
       have p183 : 0 ≤ (x14_1 : Int) := zd
       have q183 : x14_1 < (t180.length : Int) := zd
       obtain ⟨ad183, e183, hx183_0⟩ := Kd.at_int (Fz.R_reads' HO_12.out).2.2 x14_1 p183 q183
       cases e183
       replace p183 := eq_true p183
       replace q183 := eq_true q183
       go_wp2
       go_roundg k1
       case measure => have := HK1.out; omega
       case rel => exact ⟨(wrap64 (x6_1 + 1)), (x7_1), (wrap64 (x14_1 + 1)), (by first | rfl | (simp; done) | (simp [*]; done)), (by first | rfl | (simp; done) | (simp [*]; done)), (by first | rfl | (simp; done) | (simp [*]; done)), H', ⟨by have := HK1.out; omega⟩, ⟨by (with_reducible repeat (first | apply Fz.R_alloc | apply Fz.R_drewN | apply Fz.R_drew)); exact HO_12.out⟩, ⟨zb⟩⟩
      ·
       rw [if_neg c9] at H
       have c9b0 : ((rd t180 x14_1) == 111) = false := beq_eq_false_iff_ne.mpr c9
       have c9b1 : ((rd t180 x14_1) != 111) = true := bne_iff_ne.mpr c9
       by_cases c10 : (rd t180 x14_1) = 63
       ·
        rw [if_pos c10] at H
        have c10b0 : ((rd t180 x14_1) == 63) = true := beq_iff_eq.mpr c10
        have c10b1 : ((rd t180 x14_1) != 63) = false := bne_eq_false_iff_eq.mpr c10
        clear c10
        have H' := zm H
        clear H
        have p183 : 0 ≤ (x14_1 : Int) := zd
        have q183 : x14_1 < (t180.length : Int) := zd
        obtain ⟨ad183, e183, hx183_0⟩ := Kd.at_int (Fz.R_reads' HO_12.out).2.2 x14_1 p183 q183
        cases e183
        replace p183 := eq_true p183
        replace q183 := eq_true q183
        go_wp2
        go_roundg k1
        case measure => have := HK1.out; omega
        case rel => exact ⟨(x6_1), (wrap64 (x7_1 + 1)), (wrap64 (x14_1 + 1)), (by first | rfl | (simp; done) | (simp [*]; done)), (by first | rfl | (simp; done) | (simp [*]; done)), (by first | rfl | (simp; done) | (simp [*]; done)), H', ⟨by have := HK1.out; omega⟩, ⟨by (with_reducible repeat (first | apply Fz.R_alloc | apply Fz.R_drewN | apply Fz.R_drew)); exact HO_12.out⟩, ⟨zb⟩⟩
       ·
        rw [if_neg c10] at H
        have c10b0 : ((rd t180 x14_1) == 63) = false := beq_eq_false_iff_ne.mpr c10
        have c10b1 : ((rd t180 x14_1) != 63) = true := bne_iff_ne.mpr c10
        have H' := zm H
        clear H
        have p183 : 0 ≤ (x14_1 : Int) := zd
        have q183 : x14_1 < (t180.length : Int) := zd
        obtain ⟨ad183, e183, hx183_0⟩ := Kd.at_int (Fz.R_reads' HO_12.out).2.2 x14_1 p183 q183
        cases e183
        replace p183 := eq_true p183
        replace q183 := eq_true q183
        go_wp2
        go_roundg k1
        case measure => have := HK1.out; omega
        case rel => exact ⟨(x6_1), (x7_1), (wrap64 (x14_1 + 1)), (by first | rfl | (simp; done) | (simp [*]; done)), (by first | rfl | (simp; done) | (simp [*]; done)), (by first | rfl | (simp; done) | (simp [*]; done)), H', ⟨by have := HK1.out; omega⟩, ⟨by (with_reducible repeat (first | apply Fz.R_alloc | apply Fz.R_drewN | apply Fz.R_drew)); exact HO_12.out⟩, ⟨zb⟩⟩
     ·
      rw [if_neg c8] at H
      exact absurd H (by simp)
    ·
     rw [if_neg c7] at H
     exact absurd H (by simp)
   ·
    rw [if_neg c6] at H
    have c6b0 : decide (x14_1 < (t180.length : Int)) = false := decide_eq_false c6
    clear c6
    simp only [Option.some.injEq, Prod.mk.injEq] at H
    obtain ⟨rfl, rfl⟩ := H
    go_wp2
    go_ret2
    exact ⟨zr, zb⟩


/-! ### impl_evenChar: function 147 -/
def impl_evenChar.f (a0 : Int) : Option (Int) := if (Int.tmod a0 2) = 1 then (some 111) else (some 46)
set_option maxHeartbeats 8000000 in
set_option maxRecDepth 100000 in
theorem impl_evenChar.calls (a0 : Int) (r : Int) (w : World) (h : impl_evenChar.f a0 = some r) :
  Calls Try.prog 147 #[.int .i64 a0] w fun e w' => e = .returned (.int .u8 r) ∧ Drawn0 w w' := by
 have H : (if (Int.tmod a0 2) = 1 then (some 111) else (some 46)) = some r := h
 clear h
 by_cases c2 : (Int.tmod a0 2) = 1
 ·
  rw [if_pos c2] at H
  have c2b0 : ((Int.tmod a0 2) == 1) = true := beq_iff_eq.mpr c2
  have c2b1 : ((Int.tmod a0 2) != 1) = false := bne_eq_false_iff_eq.mpr c2
  clear c2
  obtain rfl := Option.some.inj H
  go_enter Try.func147, Try.ntmps147
  go_wp2
  go_ret
  exact ⟨by first | rfl | (simp; done) | (simp [*]; done), by repeat (first | exact Drawn0.refl _ | apply Drawn0.step)⟩
 ·
  rw [if_neg c2] at H
  have c2b0 : ((Int.tmod a0 2) == 1) = false := beq_eq_false_iff_ne.mpr c2
  have c2b1 : ((Int.tmod a0 2) != 1) = true := bne_iff_ne.mpr c2
  obtain rfl := Option.some.inj H
  go_enter Try.func147, Try.ntmps147
  go_wp2
  go_ret
  exact ⟨by first | rfl | (simp; done) | (simp [*]; done), by repeat (first | exact Drawn0.refl _ | apply Drawn0.step)⟩

/-! ### impl_peelOnce: function 125 -/
mutual
def impl_peelOnce.l0 : Nat → List ByteArray → Int → Int → Option (List ByteArray × Bool)
  | 0, _, _, _ => none
  | k + 1, x0, x15, x16 => if x16 < x15 then ((impl_lineCounts.f k x0 x16).bind fun bt185 => (if bt185.2 = 1 then ((impl_blockLine.f k x0 x16).bind fun t187 => (impl_peelOnce.l1 k x0 x16 bt185.1 x15 x16 t187 (t187.length : Int) 0)) else (impl_peelOnce.l0 k x0 x15 (wrap64 (x16 + 1))))) else (some (x0, false))
def impl_peelOnce.l1 : Nat → List ByteArray → Int → Int → Int → Int → List Int → Int → Int → Option (List ByteArray × Bool)
  | 0, _, _, _, _, _, _, _, _ => none
  | k + 1, x0, x4, x5, x15, x16, x29, x30, x31 => if x31 < x30 then (if 0 ≤ x31 then (if x31 < (x29.length : Int) then (if (rd x29 x31) = 63 then (if x4 < (x0.length : Int) then ((impl_evenChar.f x5).bind fun t191 => ((impl_withChar.f k x0 x4 x31 t191).bind fun t192 => (some (t192, true)))) else ((impl_evenChar.f x5).bind fun t195 => ((impl_withChar.f k x0 x31 (wrap64 (x4 - (x0.length : Int))) t195).bind fun t196 => (some (t196, true))))) else (impl_peelOnce.l1 k x0 x4 x5 x15 x16 x29 x30 (wrap64 (x31 + 1)))) else (none)) else (none)) else (impl_peelOnce.l0 k x0 x15 (wrap64 (x16 + 1)))
end
def impl_peelOnce.f (k : Nat) (l0 : List ByteArray) : Option (List ByteArray × Bool) := if 0 < (l0.length : Int) then (impl_peelOnce.l0 k l0 (wrap64 ((l0.length : Int) + ((rdOf ByteArray.empty l0 0).size : Int))) 0) else (none)
theorem impl_peelOnce.mono_l : ∀ k, (∀ y0 y1 y2, LeO (impl_peelOnce.l0 k y0 y1 y2) (impl_peelOnce.l0 (k + 1) y0 y1 y2)) ∧ (∀ y0 y1 y2 y3 y4 y5 y6 y7, LeO (impl_peelOnce.l1 k y0 y1 y2 y3 y4 y5 y6 y7) (impl_peelOnce.l1 (k + 1) y0 y1 y2 y3 y4 y5 y6 y7))
  | 0 => ⟨fun _ _ _ r h => by simp [impl_peelOnce.l0] at h, fun _ _ _ _ _ _ _ _ r h => by simp [impl_peelOnce.l1] at h⟩
  | k + 1 => by
    obtain ⟨ih0, ih1⟩ := impl_peelOnce.mono_l k
    refine ⟨?_, ?_⟩
    · intro y0 y1 y2
      unfold impl_peelOnce.l0
      repeat' first
      | (with_reducible exact ih0 _ _ _)
      | (with_reducible exact ih1 _ _ _ _ _ _ _ _)
      | (with_reducible exact impl_blockLine.mono _ _ _)
      | (with_reducible exact impl_lineCounts.mono _ _ _)
      | (with_reducible exact impl_withChar.mono _ _ _ _ _)
      | (with_reducible exact LeO.refl _)
      | (with_reducible exact LeO.none _)
      | (with_reducible refine LeO.ite ?_ ?_)
      | (with_reducible refine LeO.bind ?_ (fun _ => ?_))
      | exact ih0 _ _ _
      | exact ih1 _ _ _ _ _ _ _ _
      | exact impl_blockLine.mono _ _ _
      | exact impl_lineCounts.mono _ _ _
      | exact impl_withChar.mono _ _ _ _ _
      | exact LeO.none _
      | refine LeO.ite ?_ ?_
      | refine LeO.bind ?_ (fun _ => ?_)
    · intro y0 y1 y2 y3 y4 y5 y6 y7
      unfold impl_peelOnce.l1
      repeat' first
      | (with_reducible exact ih0 _ _ _)
      | (with_reducible exact ih1 _ _ _ _ _ _ _ _)
      | (with_reducible exact impl_blockLine.mono _ _ _)
      | (with_reducible exact impl_lineCounts.mono _ _ _)
      | (with_reducible exact impl_withChar.mono _ _ _ _ _)
      | (with_reducible exact LeO.refl _)
      | (with_reducible exact LeO.none _)
      | (with_reducible refine LeO.ite ?_ ?_)
      | (with_reducible refine LeO.bind ?_ (fun _ => ?_))
      | exact ih0 _ _ _
      | exact ih1 _ _ _ _ _ _ _ _
      | exact impl_blockLine.mono _ _ _
      | exact impl_lineCounts.mono _ _ _
      | exact impl_withChar.mono _ _ _ _ _
      | exact LeO.none _
      | refine LeO.ite ?_ ?_
      | refine LeO.bind ?_ (fun _ => ?_)
theorem impl_peelOnce.mono : ∀ a0 k, LeO (impl_peelOnce.f k a0) (impl_peelOnce.f (k + 1) a0) := by
  intro a0 k
  obtain ⟨ih0, ih1⟩ := impl_peelOnce.mono_l k
  unfold impl_peelOnce.f
  repeat' first
      | (with_reducible exact ih0 _ _ _)
      | (with_reducible exact ih1 _ _ _ _ _ _ _ _)
      | (with_reducible exact impl_blockLine.mono _ _ _)
      | (with_reducible exact impl_lineCounts.mono _ _ _)
      | (with_reducible exact impl_withChar.mono _ _ _ _ _)
      | (with_reducible exact LeO.refl _)
      | (with_reducible exact LeO.none _)
      | (with_reducible refine LeO.ite ?_ ?_)
      | (with_reducible refine LeO.bind ?_ (fun _ => ?_))
      | exact ih0 _ _ _
      | exact ih1 _ _ _ _ _ _ _ _
      | exact impl_blockLine.mono _ _ _
      | exact impl_lineCounts.mono _ _ _
      | exact impl_withChar.mono _ _ _ _ _
      | exact LeO.none _
      | refine LeO.ite ?_ ?_
      | refine LeO.bind ?_ (fun _ => ?_)
set_option maxHeartbeats 8000000 in
set_option maxRecDepth 100000 in
theorem impl_peelOnce.calls (k : Nat) (P0_ : Nat → Prop) (u9000_ : Value) (l0 : List ByteArray) (r1 : List ByteArray) (r2 : Bool) (w0 w : World) (hB : Below w0.heap.size w0 w) (ho0 : Kd.R Kd.string 9 w w0.heap.size P0_ u9000_ l0) (h : impl_peelOnce.f k l0 = some (r1, r2)) :
  Calls Try.prog 125 #[u9000_] w fun e w' => ∃ v0_ : Value, e = .returned (.tuple #[v0_, .bool r2]) ∧ Kd.R Kd.string 9 w' w0.heap.size (fun k_ => (P0_ k_ ∨ w.heap.size ≤ k_)) v0_ r1 ∧ Below w0.heap.size w0 w' ∧ Kept w w' (fun k_ => P0_ k_) := by
 have HO0 := zm (show Kd.R Kd.string 9 w w0.heap.size (fun k_ => (P0_ k_ ∨ w.heap.size ≤ k_)) u9000_ l0 from Kd.R_mono ho0 (fun k_ hk => (.inl hk)))
 have HK := zm (Kept.refl w (fun k_ => P0_ k_))
 have HW0 := zm hB.size
 have HB := zm hB
 clear hB
 have H : (if 0 < (l0.length : Int) then (impl_peelOnce.l0 k l0 (wrap64 ((l0.length : Int) + ((rdOf ByteArray.empty l0 0).size : Int))) 0) else (none)) = some (r1, r2) := h
 clear h
 by_cases c2 : 0 < (l0.length : Int)
 ·
  rw [if_pos c2] at H
  have c2b0 : decide (0 < (l0.length : Int)) = true := decide_eq_true c2
  have c2b1 : decide (0 < l0.length) = true := decide_eq_true (by omega)
  clear c2
  have H' := zm H
  clear H
  obtain ⟨Ao3, co3, eo3⟩ := Kd.R_slice HO0.out
  subst eo3
  have p184 : 0 ≤ (0 : Int) := (by omega)
  have q184 : 0 < (l0.length : Int) := zd
  obtain ⟨ad184, e184, hx184_0⟩ := Kd.at_string (Kd.R_reads' HO0.out).2.2 0 p184 q184
  cases e184
  have qi184 : (0 < l0.length) = True := eq_true (by omega)
  (try rw [show ((0 : Int)).toNat = 0 from rfl] at hx184_0)
  (try rw [Addr.add_zero'] at hx184_0)
  replace p184 := eq_true p184
  replace q184 := eq_true q184
  go_enter Try.func125, Try.ntmps125
  go_wp2
  go_loopg [16] k (fun kq v16 w' => ∃ (x16_1 : Int), v16 = .int .i64 x16_1 ∧ Aside0 (impl_peelOnce.l0 kq l0 (wrap64 ((l0.length : Int) + ((rdOf ByteArray.empty l0 0).size : Int))) x16_1 = some (r1, r2)) ∧ Aside0 (kq ≤ k) ∧ Aside0 (Kd.R Kd.string 9 w' w0.heap.size (fun k_ => (P0_ k_ ∨ w.heap.size ≤ k_)) (.slice (some ad184) l0.length co3) l0) ∧ Aside0 (Kept w w' (fun k_ => P0_ k_)) ∧ Aside0 (Below w0.heap.size w0 w'))
  case atStart => exact ⟨(0), (by first | rfl | (simp; done) | (simp [*]; done)), H', ⟨Nat.le_refl _⟩, ⟨by (with_reducible repeat (first | apply Kd.R_alloc | apply Kd.R_drewN | apply Kd.R_drew)); exact HO0.out⟩, ⟨zH⟩, ⟨zb⟩⟩
  case round =>
   clear H'
   (try clear c1); (try clear p1); (try clear q1); (try clear hx1); (try clear qi1); (try clear c2); (try clear c2b0); (try clear c2b1); (try clear p2); (try clear hx184_0); (try clear p184); (try clear q184)
   obtain ⟨x16_1, rfl, HA, HK1, HO_0, HK, HB⟩ := hrel
   cases gk with
   | zero => exact absurd HA.out (by simp [impl_peelOnce.l0])
   | succ k1 =>
    have H := HA.out
    clear HA
    simp only [impl_peelOnce.l0] at H
    by_cases c4 : x16_1 < (wrap64 ((l0.length : Int) + ((rdOf ByteArray.empty l0 0).size : Int)))
    ·
     rw [if_pos c4] at H
     have c4b0 : decide (x16_1 < (wrap64 ((l0.length : Int) + ((rdOf ByteArray.empty l0 0).size : Int)))) = true := decide_eq_true c4
     clear c4
     replace H := Option.bind_eq_some_iff.mp H
     obtain ⟨⟨t185, t186⟩, A50, H⟩ := H
     (try dsimp only at H)
     have A5 := zm A50
     clear A50
     by_cases c6 : t186 = 1
     ·
      rw [if_pos c6] at H
      have c6b0 : (t186 == 1) = true := beq_iff_eq.mpr c6
      have c6b1 : (t186 != 1) = false := bne_eq_false_iff_eq.mpr c6
      clear c6
      replace H := Option.bind_eq_some_iff.mp H
      obtain ⟨t187, A70, H⟩ := H
      (try dsimp only at H)
      have A7 := zm A70
      clear A70
      have H' := zm H
      clear H
      go_wp2_with (first | ((with_reducible refine gate_callee (f := 127) rfl ?_); refine goesA_ (some 22) Try.func127 #[.slice (some ad184) l0.length co3, .int .i64 x16_1] rfl ?_; (with_reducible refine (impl_lineCounts.calls k1 _ _ l0 x16_1 t185 t186 _ ?side1 ?side2 A5.out).mono ?_); (case side1 => repeat (first | exact (Kd.R_reads' HO_0.out).2.2 | (with_reducible refine Kd.C_alloc ?_ _) | (with_reducible refine Kd.C_drewN ?_ _) | (with_reducible refine Kd.C_drew ?_))); (case side2 => exact (Kd.R_reads' HO_0.out).2.1); rintro e w8 ⟨rfl, hb⟩; refine ⟨_, rfl, ?_⟩; have n0_ := zm (Kd.R_below (by (with_reducible repeat (first | apply Kd.R_alloc | apply Kd.R_drewN | apply Kd.R_drew)); exact HO_0.out) hb); have n1_ := zm (Kept.below (S := (fun k_ => P0_ k_)) zH hb); have n2_ := zm (below_step zb hb); clear HO_0; clear HK; clear HB; have HO_0 := n0_; have HK := n1_; have HB := n2_; clear n0_ n1_ n2_; (try clear hb); (try clear hb2); (try clear hk); (try clear hi)) | ((with_reducible refine gate_callee (f := 146) rfl ?_); refine goesA_ (some 29) Try.func146 #[.slice (some ad184) l0.length co3, .int .i64 x16_1] rfl ?_; (with_reducible refine (impl_blockLine.calls k1 _ _ l0 x16_1 t187 _ ?side1 ?side2 A7.out).mono ?_); (case side1 => repeat (first | exact (Kd.R_reads' HO_0.out).2.2 | (with_reducible refine Kd.C_alloc ?_ _) | (with_reducible refine Kd.C_drewN ?_ _) | (with_reducible refine Kd.C_drew ?_))); (case side2 => exact (Kd.R_reads' HO_0.out).2.1); rintro e w9 ⟨v188, rfl, ho0, hb⟩; refine ⟨_, rfl, ?_⟩; have n0_ := zm (Kd.R_below (by (with_reducible repeat (first | apply Kd.R_alloc | apply Kd.R_drewN | apply Kd.R_drew)); exact HO_0.out) hb); have n1_ := zm (Fz.R_lower ho0 (below_size zb)); have n2_ := zm (Kept.below (S := (fun k_ => P0_ k_)) zH hb); have n3_ := zm (below_step zb hb); clear HO_0; clear HK; clear HB; have HO_0 := n0_; have HO189 := n1_; have HK := n2_; have HB := n3_; clear n0_ n1_ n2_ n3_; (try clear hb); (try clear hb2); (try clear hk); (try clear hi); (try clear ho0); obtain ⟨Ao10, co10, eo10⟩ := Fz.R_slice HO189.out; subst eo10))
      go_loopg [31] k1 (fun kq v31 w' => ∃ (x31_2 : Int), v31 = .int .i64 x31_2 ∧ Aside0 (impl_peelOnce.l1 kq l0 x16_1 t185 (wrap64 ((l0.length : Int) + ((rdOf ByteArray.empty l0 0).size : Int))) x16_1 t187 (t187.length : Int) x31_2 = some (r1, r2)) ∧ Aside0 (kq ≤ k1) ∧ Aside0 (Kd.R Kd.string 9 w' w0.heap.size (fun k_ => (P0_ k_ ∨ w.heap.size ≤ k_)) (.slice (some ad184) l0.length co3) l0) ∧ Aside0 (Fz w' w0.heap.size (.slice Ao10 t187.length co10) t187) ∧ Aside0 (Kept w w' (fun k_ => P0_ k_)) ∧ Aside0 (Below w0.heap.size w0 w'))
      case atStart => exact ⟨(0), (by first | rfl | (simp; done) | (simp [*]; done)), H', ⟨Nat.le_refl _⟩, ⟨by (with_reducible repeat (first | apply Kd.R_alloc | apply Kd.R_drewN | apply Kd.R_drew)); exact HO_0.out⟩, ⟨by (with_reducible repeat (first | apply Fz.R_alloc | apply Fz.R_drewN | apply Fz.R_drew)); exact HO189.out⟩, ⟨zH⟩, ⟨zb⟩⟩
      case round =>
       clear H'
       (try clear c1); (try clear p1); (try clear q1); (try clear hx1); (try clear qi1); (try clear c2); (try clear c2b0); (try clear c2b1); (try clear p2); (try clear c4); (try clear c4b0); (try clear c6); (try clear c6b0); (try clear c6b1); (try clear p6); (try clear hx184_0); (try clear p1); (try clear p184); (try clear p2); (try clear q1); (try clear q184)
       obtain ⟨x31_2, rfl, HA, HK2, HO_0, HO_29, HK, HB⟩ := hrel
       cases gk with
       | zero => exact absurd HA.out (by simp [impl_peelOnce.l1])
       | succ k2 =>
        have H := HA.out
        clear HA
        simp only [impl_peelOnce.l1] at H
        by_cases c11 : x31_2 < (t187.length : Int)
        ·
         rw [if_pos c11] at H
         have c11b0 : decide (x31_2 < (t187.length : Int)) = true := decide_eq_true c11
         clear c11
         by_cases c12 : 0 ≤ x31_2
         ·
          rw [if_pos c12] at H
          have c12b0 : decide (0 ≤ x31_2) = true := decide_eq_true c12
          clear c12
          by_cases c13 : x31_2 < (t187.length : Int)
          ·
           rw [if_pos c13] at H
           have c13b0 : decide (x31_2 < (t187.length : Int)) = true := decide_eq_true c13
           clear c13
           by_cases c14 : (rd t187 x31_2) = 63
           ·
            rw [if_pos c14] at H
            have c14b0 : ((rd t187 x31_2) == 63) = true := beq_iff_eq.mpr c14
            have c14b1 : ((rd t187 x31_2) != 63) = false := bne_eq_false_iff_eq.mpr c14
            clear c14
            by_cases c15 : x16_1 < (l0.length : Int)
            ·
             rw [if_pos c15] at H
             have c15b0 : decide (x16_1 < (l0.length : Int)) = true := decide_eq_true c15
             clear c15
             replace H := Option.bind_eq_some_iff.mp H
             obtain ⟨t191, A160, H⟩ := H
             (try dsimp only at H)
             have A16 := zm A160
             clear A160
             replace H := Option.bind_eq_some_iff.mp H
             obtain ⟨t192, A170, H⟩ := H
             (try dsimp only at H)
             have A17 := zm A170
             clear A170
             simp only [Option.some.injEq, Prod.mk.injEq] at H
             obtain ⟨rfl, rfl⟩ := H
             have p190 : 0 ≤ (x31_2 : Int) := zd
             have q190 : x31_2 < (t187.length : Int) := zd
             obtain ⟨ad190, e190, hx190_0⟩ := Kd.at_int (Fz.R_reads' HO_29.out).2.2 x31_2 p190 q190
             cases e190
             replace p190 := eq_true p190
             replace q190 := eq_true q190
             go_wp2_with (first | ((with_reducible refine gate_callee (f := 147) rfl ?_); refine goesA_ (some 46) Try.func147 #[.int .i64 t185] rfl ?_; (with_reducible refine (impl_evenChar.calls t185 t191 _ A16.out).mono ?_); rintro e w' ⟨rfl, ⟨nd, rfl⟩⟩; refine ⟨_, rfl, ?_⟩) | ((with_reducible refine gate_callee (f := 92) rfl ?_); refine goesA_ (some 47) Try.func92 #[.slice (some ad184) l0.length co3, .int .i64 x16_1, .int .i64 x31_2, .int .u8 t191] rfl ?_; (with_reducible refine (impl_withChar.calls k2 _ _ l0 x16_1 x31_2 t191 t192 _ ?side1 ?side2 A17.out).mono ?_); (case side1 => repeat (first | exact (Kd.R_reads' HO_0.out).2.2 | (with_reducible refine Kd.C_alloc ?_ _) | (with_reducible refine Kd.C_drewN ?_ _) | (with_reducible refine Kd.C_drew ?_))); (case side2 => exact (Kd.R_reads' HO_0.out).2.1); rintro e w18 ⟨v193, rfl, ho0, hb⟩; refine ⟨_, rfl, ?_⟩; have n0_ := zm (Kd.R_elder' (by (with_reducible repeat (first | apply Kd.R_alloc | apply Kd.R_drewN | apply Kd.R_drew)); exact HO_0.out) (Kd.R_base ho0) hb); have n1_ := zm (Fz.R_below (by (with_reducible repeat (first | apply Fz.R_alloc | apply Fz.R_drewN | apply Fz.R_drew)); exact HO_29.out) hb); have n2_ := zm (Kd.R_lower (Kd.R_new' (Kd.R_newM (M := fun k_ => (P0_ k_ ∨ w.heap.size ≤ k_)) ho0 (by first | exact HK.out.1 | exact (show Kept w _ (fun k_ => P0_ k_) from zH).1) (fun k_ h_ => .inr h_)) (Kd.R_lt (by (with_reducible repeat (first | apply Kd.R_alloc | apply Kd.R_drewN | apply Kd.R_drew)); exact HO_0.out))) (below_size zb)); have n3_ := zm (Kept.below (S := (fun k_ => P0_ k_)) zH hb); have n4_ := zm (below_step zb hb); clear HO_0; clear HO_29; clear HK; clear HB; have HO_0 := n0_; have HO_29 := n1_; have HO194 := n2_; have HK := n3_; have HB := n4_; clear n0_ n1_ n2_ n3_ n4_; (try clear hb); (try clear hb2); (try clear hk); (try clear hi); (try clear ho0)))
             go_ret2
             exact ⟨_, zr, by (with_reducible repeat (first | apply Kd.R_alloc | apply Kd.R_drewN | apply Kd.R_drew)); exact Kd.R_mono HO194.out (fun _ hk => hk.1.1), zb, zH⟩
            ·
             rw [if_neg c15] at H
             have c15b0 : decide (x16_1 < (l0.length : Int)) = false := decide_eq_false c15
             clear c15
             replace H := Option.bind_eq_some_iff.mp H
             obtain ⟨t195, A190, H⟩ := H
             (try dsimp only at H)
             have A19 := zm A190
             clear A190
             replace H := Option.bind_eq_some_iff.mp H
             obtain ⟨t196, A200, H⟩ := H
             (try dsimp only at H)
             have A20 := zm A200
             clear A200
             simp only [Option.some.injEq, Prod.mk.injEq] at H
             obtain ⟨rfl, rfl⟩ := H
             have p190 : 0 ≤ (x31_2 : Int) := zd
             have q190 : x31_2 < (t187.length : Int) := zd
             obtain ⟨ad190, e190, hx190_0⟩ := Kd.at_int (Fz.R_reads' HO_29.out).2.2 x31_2 p190 q190
             cases e190
             replace p190 := eq_true p190
             replace q190 := eq_true q190
             go_wp2_with (first | ((with_reducible refine gate_callee (f := 147) rfl ?_); refine goesA_ (some 55) Try.func147 #[.int .i64 t185] rfl ?_; (with_reducible refine (impl_evenChar.calls t185 t195 _ A19.out).mono ?_); rintro e w' ⟨rfl, ⟨nd, rfl⟩⟩; refine ⟨_, rfl, ?_⟩) | ((with_reducible refine gate_callee (f := 92) rfl ?_); refine goesA_ (some 56) Try.func92 #[.slice (some ad184) l0.length co3, .int .i64 x31_2, .int .i64 (wrap64 (x16_1 - (l0.length : Int))), .int .u8 t195] rfl ?_; (with_reducible refine (impl_withChar.calls k2 _ _ l0 x31_2 (wrap64 (x16_1 - (l0.length : Int))) t195 t196 _ ?side1 ?side2 A20.out).mono ?_); (case side1 => repeat (first | exact (Kd.R_reads' HO_0.out).2.2 | (with_reducible refine Kd.C_alloc ?_ _) | (with_reducible refine Kd.C_drewN ?_ _) | (with_reducible refine Kd.C_drew ?_))); (case side2 => exact (Kd.R_reads' HO_0.out).2.1); rintro e w21 ⟨v197, rfl, ho0, hb⟩; refine ⟨_, rfl, ?_⟩; have n0_ := zm (Kd.R_elder' (by (with_reducible repeat (first | apply Kd.R_alloc | apply Kd.R_drewN | apply Kd.R_drew)); exact HO_0.out) (Kd.R_base ho0) hb); have n1_ := zm (Fz.R_below (by (with_reducible repeat (first | apply Fz.R_alloc | apply Fz.R_drewN | apply Fz.R_drew)); exact HO_29.out) hb); have n2_ := zm (Kd.R_lower (Kd.R_new' (Kd.R_newM (M := fun k_ => (P0_ k_ ∨ w.heap.size ≤ k_)) ho0 (by first | exact HK.out.1 | exact (show Kept w _ (fun k_ => P0_ k_) from zH).1) (fun k_ h_ => .inr h_)) (Kd.R_lt (by (with_reducible repeat (first | apply Kd.R_alloc | apply Kd.R_drewN | apply Kd.R_drew)); exact HO_0.out))) (below_size zb)); have n3_ := zm (Kept.below (S := (fun k_ => P0_ k_)) zH hb); have n4_ := zm (below_step zb hb); clear HO_0; clear HO_29; clear HK; clear HB; have HO_0 := n0_; have HO_29 := n1_; have HO198 := n2_; have HK := n3_; have HB := n4_; clear n0_ n1_ n2_ n3_ n4_; (try clear hb); (try clear hb2); (try clear hk); (try clear hi); (try clear ho0)))
             go_ret2
             exact ⟨_, zr, by (with_reducible repeat (first | apply Kd.R_alloc | apply Kd.R_drewN | apply Kd.R_drew)); exact Kd.R_mono HO198.out (fun _ hk => hk.1.1), zb, zH⟩
           ·
            rw [if_neg c14] at H
            have c14b0 : ((rd t187 x31_2) == 63) = false := beq_eq_false_iff_ne.mpr c14
            have c14b1 : ((rd t187 x31_2) != 63) = true := bne_iff_ne.mpr c14
            have H' := zm H
            clear H
            have p190 : 0 ≤ (x31_2 : Int) := zd
            have q190 : x31_2 < (t187.length : Int) := zd
            obtain ⟨ad190, e190, hx190_0⟩ := Kd.at_int (Fz.R_reads' HO_29.out).2.2 x31_2 p190 q190
            cases e190
            replace p190 := eq_true p190
            replace q190 := eq_true q190
            go_wp2
            go_roundg k2
            case measure => have := HK1.out; have := HK2.out; omega
            case rel => exact ⟨(wrap64 (x31_2 + 1)), (by first | rfl | (simp; done) | (simp [*]; done)), H', ⟨by have := HK1.out; have := HK2.out; omega⟩, ⟨by (with_reducible repeat (first | apply Kd.R_alloc | apply Kd.R_drewN | apply Kd.R_drew)); exact HO_0.out⟩, ⟨by (with_reducible repeat (first | apply Fz.R_alloc | apply Fz.R_drewN | apply Fz.R_drew)); exact HO_29.out⟩, ⟨zH⟩, ⟨zb⟩⟩
          ·
           rw [if_neg c13] at H
           exact absurd H (by simp)
         ·
          rw [if_neg c12] at H
          exact absurd H (by simp)
        ·
         rw [if_neg c11] at H
         have c11b0 : decide (x31_2 < (t187.length : Int)) = false := decide_eq_false c11
         clear c11
         have H' := zm H
         clear H
         go_wp2
         go_roundg k2
         case measure => have := HK1.out; have := HK2.out; omega
         case rel => exact ⟨(wrap64 (x16_1 + 1)), (by first | rfl | (simp; done) | (simp [*]; done)), H', ⟨by have := HK1.out; have := HK2.out; omega⟩, ⟨by (with_reducible repeat (first | apply Kd.R_alloc | apply Kd.R_drewN | apply Kd.R_drew)); exact HO_0.out⟩, ⟨zH⟩, ⟨zb⟩⟩
     ·
      rw [if_neg c6] at H
      have c6b0 : (t186 == 1) = false := beq_eq_false_iff_ne.mpr c6
      have c6b1 : (t186 != 1) = true := bne_iff_ne.mpr c6
      have H' := zm H
      clear H
      go_wp2_with (first | ((with_reducible refine gate_callee (f := 127) rfl ?_); refine goesA_ (some 22) Try.func127 #[.slice (some ad184) l0.length co3, .int .i64 x16_1] rfl ?_; (with_reducible refine (impl_lineCounts.calls k1 _ _ l0 x16_1 t185 t186 _ ?side1 ?side2 A5.out).mono ?_); (case side1 => repeat (first | exact (Kd.R_reads' HO_0.out).2.2 | (with_reducible refine Kd.C_alloc ?_ _) | (with_reducible refine Kd.C_drewN ?_ _) | (with_reducible refine Kd.C_drew ?_))); (case side2 => exact (Kd.R_reads' HO_0.out).2.1); rintro e w22 ⟨rfl, hb⟩; refine ⟨_, rfl, ?_⟩; have n0_ := zm (Kd.R_below (by (with_reducible repeat (first | apply Kd.R_alloc | apply Kd.R_drewN | apply Kd.R_drew)); exact HO_0.out) hb); have n1_ := zm (Kept.below (S := (fun k_ => P0_ k_)) zH hb); have n2_ := zm (below_step zb hb); clear HO_0; clear HK; clear HB; have HO_0 := n0_; have HK := n1_; have HB := n2_; clear n0_ n1_ n2_; (try clear hb); (try clear hb2); (try clear hk); (try clear hi)))
      go_roundg k1
      case measure => have := HK1.out; omega
      case rel => exact ⟨(wrap64 (x16_1 + 1)), (by first | rfl | (simp; done) | (simp [*]; done)), H', ⟨by have := HK1.out; omega⟩, ⟨by (with_reducible repeat (first | apply Kd.R_alloc | apply Kd.R_drewN | apply Kd.R_drew)); exact HO_0.out⟩, ⟨zH⟩, ⟨zb⟩⟩
    ·
     rw [if_neg c4] at H
     have c4b0 : decide (x16_1 < (wrap64 ((l0.length : Int) + ((rdOf ByteArray.empty l0 0).size : Int)))) = false := decide_eq_false c4
     clear c4
     simp only [Option.some.injEq, Prod.mk.injEq] at H
     obtain ⟨rfl, rfl⟩ := H
     go_wp2
     go_ret2
     exact ⟨_, zr, by (with_reducible repeat (first | apply Kd.R_alloc | apply Kd.R_drewN | apply Kd.R_drew)); exact HO_0.out, zb, zH⟩
 ·
  rw [if_neg c2] at H
  exact absurd H (by simp)

/-! ### impl_peelBlock: function 84 -/
def impl_peelBlock.l0 : Nat → List ByteArray → Bool → Option (List ByteArray)
  | 0, _, _ => none
  | k + 1, x3, x4 => if x4 = true then ((impl_peelOnce.f k x3).bind fun bt183 => (impl_peelBlock.l0 k bt183.1 bt183.2)) else (some x3)
def impl_peelBlock.f (k : Nat) (l0 : List ByteArray) : Option (List ByteArray) := (some (([] : List ByteArray) : List ByteArray)).bind fun y177 => (if y177.length + l0.length < 8796093022208 then (impl_peelBlock.l0 k (y177 ++ l0) true) else (none))
theorem impl_peelBlock.mono_l : ∀ k, (∀ y0 y1, LeO (impl_peelBlock.l0 k y0 y1) (impl_peelBlock.l0 (k + 1) y0 y1))
  | 0 => fun _ _ r h => by simp [impl_peelBlock.l0] at h
  | k + 1 => by
    have ih0 := impl_peelBlock.mono_l k
    · intro y0 y1
      unfold impl_peelBlock.l0
      repeat' first
      | (with_reducible exact ih0 _ _)
      | (with_reducible exact impl_peelOnce.mono _ _)
      | (with_reducible exact LeO.refl _)
      | (with_reducible exact LeO.none _)
      | (with_reducible refine LeO.ite ?_ ?_)
      | (with_reducible refine LeO.bind ?_ (fun _ => ?_))
      | exact ih0 _ _
      | exact impl_peelOnce.mono _ _
      | exact LeO.none _
      | refine LeO.ite ?_ ?_
      | refine LeO.bind ?_ (fun _ => ?_)
theorem impl_peelBlock.mono : ∀ a0 k, LeO (impl_peelBlock.f k a0) (impl_peelBlock.f (k + 1) a0) := by
  intro a0 k
  have ih0 := impl_peelBlock.mono_l k
  unfold impl_peelBlock.f
  repeat' first
      | (with_reducible exact ih0 _ _)
      | (with_reducible exact impl_peelOnce.mono _ _)
      | (with_reducible exact LeO.refl _)
      | (with_reducible exact LeO.none _)
      | (with_reducible refine LeO.ite ?_ ?_)
      | (with_reducible refine LeO.bind ?_ (fun _ => ?_))
      | exact ih0 _ _
      | exact impl_peelOnce.mono _ _
      | exact LeO.none _
      | refine LeO.ite ?_ ?_
      | refine LeO.bind ?_ (fun _ => ?_)
set_option maxHeartbeats 8000000 in
set_option maxRecDepth 100000 in
theorem impl_peelBlock.calls (k : Nat) (A0 : Option Addr) (c0 : Nat) (l0 : List ByteArray) (r : List ByteArray) (w : World) (hr0 : Kd.C Kd.string w A0 l0.length l0) (hc0 : l0.length ≤ c0) (h : impl_peelBlock.f k l0 = some r) :
  Calls Try.prog 84 #[.slice A0 l0.length c0] w fun e w' => ∃ v0_ : Value, e = .returned (v0_) ∧ Kd.R Kd.string 9 w' w.heap.size (fun _ => True) v0_ r ∧ Below w.heap.size w w' := by
 have HR0 := zm hr0
 have HC0 := zm hc0
 clear hr0 hc0
 have HB := zm (Below.refl w.heap.size w)
 have H : ((some (([] : List ByteArray) : List ByteArray)).bind fun y177 => (if y177.length + l0.length < 8796093022208 then (impl_peelBlock.l0 k (y177 ++ l0) true) else (none))) = some r := h
 clear h
 obtain ⟨y177, hy177⟩ : ∃ y_ : List ByteArray, y_ = (([] : List ByteArray)) := ⟨_, rfl⟩
 replace H : (if y177.length + l0.length < 8796093022208 then (impl_peelBlock.l0 k (y177 ++ l0) true) else (none)) = some r := by first | (rw [hy177]; with_reducible exact H) | (have H2_ := (Option.bind_some _ _).symm.trans H; rw [hy177]; with_reducible exact H2_) | (have H2_ := (Option.bind_some _ _).symm.trans H; with_reducible exact H2_) | with_reducible exact H | (rw [hy177]; exact H) | exact H
 have Ny177 := zm hy177
 clear hy177
 by_cases c2 : y177.length + l0.length < 8796093022208
 ·
  rw [if_pos c2] at H
  have LMc2 := zm c2
  clear c2
  obtain ⟨y180, hy180⟩ : ∃ y_ : List ByteArray, y_ = (y177 ++ l0) := ⟨_, rfl⟩
  replace H : (impl_peelBlock.l0 k y180 true) = some r := by first | (rw [hy180]; with_reducible exact H) | (have H2_ := (Option.bind_some _ _).symm.trans H; rw [hy180]; with_reducible exact H2_) | (have H2_ := (Option.bind_some _ _).symm.trans H; with_reducible exact H2_) | with_reducible exact H | (rw [hy180]; exact H) | exact H
  have Ny180 := zm hy180
  clear hy180
  have H' := zm H
  clear H
  go_enter Try.func84, Try.ntmps84
  go_wp2_with (first | ((with_reducible refine gate_dst (N := 5) rfl ?_); refine Kd.R_lit Kd.string _ 9 ?hg (N := 5) ?hd (xs := ([] : List ByteArray)) (inner := []) (ok := fun _ => True) (okp := fun _ => True) ?hr ?hp (fun _ hk => hk) trivial (Below.refl _ _) (Nat.le_refl _) (by simp) ?_; (case hd => rfl); (case hg => rfl); (case hr => first | (go_simp; done) | (go_simp; rfl)); (case hp => exact (Reps.none _ _)); intro v178 w3 ho4 hb hg_ hnew_; clear hg_ hnew_; (first | rw [← Ny177.out] at ho4 | (simp only [Int.reduceToNat] at ho4; rw [← Ny177.out] at ho4)); have n0_ := zm (Kd.R_lower ho4 (below_size zb)); have n1_ := zm (below_step zb hb); clear HB; have HO179 := n0_; have HB := n1_; clear n0_ n1_; clear hb ho4) | ((with_reducible refine gate_builtin (b := .append) (xs := #[.tmp 5, .tmp 6]) rfl ?_); at_builtin; refine Kd.R_append_rows Kd.string (w0 := w) w.heap.size rfl (.tmp 5) (.tmp 6) 66 9 (.string ⟨#[]⟩) 16 rfl Try.underlying66 info9 rfl (by decide) (by omega) v178 y177 l0 _ _ _ (fun _ => True) (fun _ => False) rfl rfl ?aO ?aR (fun _ _ h => h) (fun _ h => h.elim) ?aF ?aB ?aS ?aL ?_; (case aR => repeat (first | exact (Kd.C_below HR0.out HB.out) | (with_reducible refine Kd.C_alloc ?_ _) | (with_reducible refine Kd.C_drewN ?_ _) | (with_reducible refine Kd.C_drew ?_))); (case aB => exact zb); (case aF => exact (fun _ _ => trivial)); (case aO => exact (by (with_reducible repeat (first | apply Kd.R_alloc | apply Kd.R_drewN | apply Kd.R_drew)); exact HO179.out)); (case aS => exact (below_size zb)); (case aL => have := LMc2.out; omega); intro v181 w5 ho hb hg hat; rw [← Ny180.out] at ho; have n0_ := zm (hb); have n1_ := zm (ho); clear HB; clear HO179; have HB := n0_; have HO182 := n1_; clear n0_ n1_; clear ho hb hg hat))
  go_loopg [3, 4] k (fun kq v3 v4 w' => ∃ (x3_1 : List ByteArray) (x4_1 : Bool), v4 = .bool x4_1 ∧ Aside0 (impl_peelBlock.l0 kq x3_1 x4_1 = some r) ∧ Aside0 (kq ≤ k) ∧ Aside0 (Kd.R Kd.string 9 w' w.heap.size (fun _ => True) v3 x3_1) ∧ Aside0 (Below w.heap.size w w'))
  case atStart => exact ⟨(y180), (true), (by first | rfl | (simp; done) | (simp [*]; done)), H', ⟨Nat.le_refl _⟩, ⟨by (with_reducible repeat (first | apply Kd.R_alloc | apply Kd.R_drewN | apply Kd.R_drew)); exact HO182.out⟩, ⟨zb⟩⟩
  case round =>
   clear H'
   (try clear c2); (try clear p2)
   obtain ⟨x3_1, x4_1, rfl, HA, HK1, HO_3, HB⟩ := hrel
   cases gk with
   | zero => exact absurd HA.out (by simp [impl_peelBlock.l0])
   | succ k1 =>
    have H := HA.out
    clear HA
    simp only [impl_peelBlock.l0] at H
    by_cases c6 : x4_1 = true
    ·
     subst c6
     have H1 : ((impl_peelOnce.f k1 x3_1).bind fun bt183 => (impl_peelBlock.l0 k1 bt183.1 bt183.2)) = some r := by rw [if_pos rfl] at H; exact H
     clear H
     have H := H1
     clear H1
     replace H := Option.bind_eq_some_iff.mp H
     obtain ⟨⟨t183, t186⟩, A70, H⟩ := H
     (try dsimp only at H)
     have A7 := zm A70
     clear A70
     have H' := zm H
     clear H
     obtain ⟨Ao8, co8, eo8⟩ := Kd.R_slice HO_3.out
     subst eo8
     go_wp2_with (first | ((with_reducible refine gate_callee (f := 125) rfl ?_); refine goesA_ (some 11) Try.func125 #[.slice Ao8 x3_1.length co8] rfl ?_; (with_reducible refine (impl_peelOnce.calls k1 (fun k_ => some k_ = (.slice Ao8 x3_1.length co8 : Value).ownBlock) (.slice Ao8 x3_1.length co8) x3_1 t183 t186 w _ ?side1 ?side2 A7.out).mono ?_); (case side1 => repeat (first | (with_reducible first | exact HB.out | apply below_alloc | apply pw_below_drewN | apply below_drew1) | exact HB.out)); (case side2 => exact Kd.R_tight rfl HO_3.out); rintro e w9 ⟨v184, rfl, ho0, hb, hkp⟩; refine ⟨_, rfl, ?_⟩; have n0_ := zm (Kd.R_mono (ok' := fun k_ => True) ho0 (fun k_ hk_ => trivial)); have n1_ := zm (hb); clear HB; clear HO_3; have HO185 := n0_; have HB := n1_; clear n0_ n1_; (try clear hb); (try clear hkp); (try clear ho0)))
     go_roundg k1
     case measure => have := HK1.out; omega
     case rel => exact ⟨(t183), (t186), (by first | rfl | (simp; done) | (simp [*]; done)), H', ⟨by have := HK1.out; omega⟩, ⟨by (with_reducible repeat (first | apply Kd.R_alloc | apply Kd.R_drewN | apply Kd.R_drew)); exact HO185.out⟩, ⟨zb⟩⟩
    ·
     replace c6 := Bool.eq_false_iff.mpr c6
     subst c6
     have H1 : (some x3_1) = some r := by rw [if_neg (show ¬ (false = true) by decide)] at H; exact H
     clear H
     have H := H1
     clear H1
     obtain rfl := Option.some.inj H
     go_wp2
     go_ret
     exact ⟨_, zr, by (with_reducible repeat (first | apply Kd.R_alloc | apply Kd.R_drewN | apply Kd.R_drew)); exact HO_3.out, zb⟩
 ·
  rw [if_neg c2] at H
  exact absurd H (by simp)

end Go.Proofs.Ytjjjikdpegogcaa.PBd
