-- Written for this claim by a program of this session (wip/tpl/patchprint.py), not by print.sh.
import Derived.Test.YtjjjikdpegogcaaPBdx0
import Derived.Test.YtjjjikdpegogcaaPBdx9
namespace Go.Proofs.Ytjjjikdpegogcaa.PBd
open Go.RowKit Go.Proofs.YtjjjikdpegogcaaW.PrintWords Go.Proofs.YtjjjikdpegogcaaW.PrintLast Go.Proofs.YtjjjikdpegogcaaW.PrintMore
attribute [local go_sem] max2_int min2_int max_two min_two max_three min_three max_four min_four   -- for this text's walks alone
set_option linter.unusedVariables false
set_option linter.unusedSimpArgs false

/-! ### impl_decodingBits: function 94 -/
mutual
def impl_decodingBits.l0 : Nat → List ByteArray → Int → List Int → Int → Int → Option (Int)
  | 0, _, _, _, _, _ => none
  | k + 1, x0, x3, x4, x28, x29 => if x29 < x28 then (if 0 ≤ x29 then (if x29 < (x4.length : Int) then (impl_decodingBits.l0 k x0 x3 (x4.set (x29 : Int).toNat x29) x28 (wrap64 (x29 + 1))) else (none)) else (none)) else (impl_decodingBits.l1 k x0 x3 x4 (wrap64 (-x3)) (x0.length : Int) 0)
def impl_decodingBits.l1 : Nat → List ByteArray → Int → List Int → Int → Int → Int → Option (Int)
  | 0, _, _, _, _, _, _ => none
  | k + 1, x0, x3, x4, x6, x40, x41 => if x41 < x40 then (if 0 ≤ x41 then (if x41 < (x0.length : Int) then (impl_decodingBits.l2 k x0 x3 x4 x6 x41 x40 x41 ((rdOf ByteArray.empty x0 x41).size : Int) 0) else (none)) else (none)) else (if 0 ≤ x3 then (if (x3 : Int).toNat ≤ 35184372088832 then (if (x3 : Int).toNat ≤ 281474976710656 then (impl_decodingBits.l4 k x0 x3 x4 x6 (List.replicate (x3 : Int).toNat 0) (List.replicate (x3 : Int).toNat false) x3 0) else (none)) else (none)) else (none))
def impl_decodingBits.l2 : Nat → List ByteArray → Int → List Int → Int → Int → Int → Int → Int → Int → Option (Int)
  | 0, _, _, _, _, _, _, _, _, _ => none
  | k + 1, x0, x3, x4, x6, x7, x40, x41, x48, x49 => if x49 < x48 then (if 0 ≤ x7 then (if x7 < (x0.length : Int) then (if 0 ≤ x49 then (if x49 < ((rdOf ByteArray.empty x0 x7).size : Int) then (if (bt (rdOf ByteArray.empty x0 x7) x49) = 63 then (if x7 < (x4.length : Int) then (if 0 ≤ (wrap64 ((x0.length : Int) + x49)) then (if (wrap64 ((x0.length : Int) + x49)) < (x4.length : Int) then (impl_decodingBits.l3 k x0 x3 x4 (wrap64 (x6 + 1)) x7 (rd x4 x7) (rd x4 (wrap64 ((x0.length : Int) + x49))) x40 x41 x48 x49 (x4.length : Int) 0) else (none)) else (none)) else (none)) else (impl_decodingBits.l2 k x0 x3 x4 x6 x7 x40 x41 x48 (wrap64 (x49 + 1)))) else (none)) else (none)) else (none)) else (none)) else (impl_decodingBits.l1 k x0 x3 x4 x6 x40 (wrap64 (x41 + 1)))
def impl_decodingBits.l3 : Nat → List ByteArray → Int → List Int → Int → Int → Int → Int → Int → Int → Int → Int → Int → Int → Option (Int)
  | 0, _, _, _, _, _, _, _, _, _, _, _, _, _ => none
  | k + 1, x0, x3, x4, x6, x7, x9, x10, x40, x41, x48, x49, x73, x74 => if x74 < x73 then (if 0 ≤ x74 then (if x74 < (x4.length : Int) then (if (rd x4 x74) = x9 then (impl_decodingBits.l3 k x0 x3 (x4.set (x74 : Int).toNat x10) x6 x7 x9 x10 x40 x41 x48 x49 x73 (wrap64 (x74 + 1))) else (impl_decodingBits.l3 k x0 x3 x4 x6 x7 x9 x10 x40 x41 x48 x49 x73 (wrap64 (x74 + 1)))) else (none)) else (none)) else (impl_decodingBits.l2 k x0 x3 x4 x6 x7 x40 x41 x48 (wrap64 (x49 + 1)))
def impl_decodingBits.l4 : Nat → List ByteArray → Int → List Int → Int → List Int → List Bool → Int → Int → Option (Int)
  | 0, _, _, _, _, _, _, _, _ => none
  | k + 1, x0, x3, x4, x6, x12, x13, x94, x95 => if x95 < x94 then ((impl_lineCounts.f k x0 x95).bind fun bt204 => (if 0 ≤ x95 then (if x95 < (x4.length : Int) then (if 0 ≤ (rd x4 x95) then (if (rd x4 x95) < (x12.length : Int) then (if (rd x4 x95) < (x13.length : Int) then (impl_decodingBits.l4 k x0 x3 x4 x6 (x12.set ((rd x4 x95) : Int).toNat (wrap64 ((rd x12 (rd x4 x95)) + bt204.1))) (x13.set ((rd x4 x95) : Int).toNat true) x94 (wrap64 (x95 + 1))) else (none)) else (none)) else (none)) else (none)) else (none))) else (impl_decodingBits.l5 k x6 x12 x13 x3 0)
def impl_decodingBits.l5 : Nat → Int → List Int → List Bool → Int → Int → Option (Int)
  | 0, _, _, _, _, _ => none
  | k + 1, x6, x12, x13, x121, x122 => if x122 < x121 then (if 0 ≤ x122 then (if x122 < (x13.length : Int) then (if rdOf false x13 x122 = true then (if x122 < (x12.length : Int) then (if (Int.tmod (rd x12 x122) 2) = 0 then (impl_decodingBits.l5 k (wrap64 (x6 + 1)) x12 x13 x121 (wrap64 (x122 + 1))) else (some (-1))) else (none)) else (impl_decodingBits.l5 k x6 x12 x13 x121 (wrap64 (x122 + 1)))) else (none)) else (none)) else (some x6)
end
def impl_decodingBits.f (k : Nat) (l0 : List ByteArray) : Option (Int) := if 0 < (l0.length : Int) then (if 0 ≤ (wrap64 ((l0.length : Int) + ((rdOf ByteArray.empty l0 0).size : Int))) then (if (wrap64 ((l0.length : Int) + ((rdOf ByteArray.empty l0 0).size : Int)) : Int).toNat ≤ 35184372088832 then ((some (List.replicate (wrap64 ((l0.length : Int) + ((rdOf ByteArray.empty l0 0).size : Int)) : Int).toNat 0 : List Int)).bind fun y188 => (impl_decodingBits.l0 k l0 (wrap64 ((l0.length : Int) + ((rdOf ByteArray.empty l0 0).size : Int))) y188 (y188.length : Int) 0)) else (none)) else (none)) else (none)
theorem impl_decodingBits.mono_l : ∀ k, (∀ y0 y1 y2 y3 y4, LeO (impl_decodingBits.l0 k y0 y1 y2 y3 y4) (impl_decodingBits.l0 (k + 1) y0 y1 y2 y3 y4)) ∧ (∀ y0 y1 y2 y3 y4 y5, LeO (impl_decodingBits.l1 k y0 y1 y2 y3 y4 y5) (impl_decodingBits.l1 (k + 1) y0 y1 y2 y3 y4 y5)) ∧ (∀ y0 y1 y2 y3 y4 y5 y6 y7 y8, LeO (impl_decodingBits.l2 k y0 y1 y2 y3 y4 y5 y6 y7 y8) (impl_decodingBits.l2 (k + 1) y0 y1 y2 y3 y4 y5 y6 y7 y8)) ∧ (∀ y0 y1 y2 y3 y4 y5 y6 y7 y8 y9 y10 y11 y12, LeO (impl_decodingBits.l3 k y0 y1 y2 y3 y4 y5 y6 y7 y8 y9 y10 y11 y12) (impl_decodingBits.l3 (k + 1) y0 y1 y2 y3 y4 y5 y6 y7 y8 y9 y10 y11 y12)) ∧ (∀ y0 y1 y2 y3 y4 y5 y6 y7, LeO (impl_decodingBits.l4 k y0 y1 y2 y3 y4 y5 y6 y7) (impl_decodingBits.l4 (k + 1) y0 y1 y2 y3 y4 y5 y6 y7)) ∧ (∀ y0 y1 y2 y3 y4, LeO (impl_decodingBits.l5 k y0 y1 y2 y3 y4) (impl_decodingBits.l5 (k + 1) y0 y1 y2 y3 y4))
  | 0 => ⟨fun _ _ _ _ _ r h => by simp [impl_decodingBits.l0] at h, fun _ _ _ _ _ _ r h => by simp [impl_decodingBits.l1] at h, fun _ _ _ _ _ _ _ _ _ r h => by simp [impl_decodingBits.l2] at h, fun _ _ _ _ _ _ _ _ _ _ _ _ _ r h => by simp [impl_decodingBits.l3] at h, fun _ _ _ _ _ _ _ _ r h => by simp [impl_decodingBits.l4] at h, fun _ _ _ _ _ r h => by simp [impl_decodingBits.l5] at h⟩
  | k + 1 => by
    obtain ⟨ih0, ih1, ih2, ih3, ih4, ih5⟩ := impl_decodingBits.mono_l k
    refine ⟨?_, ?_, ?_, ?_, ?_, ?_⟩
    · intro y0 y1 y2 y3 y4
      unfold impl_decodingBits.l0
      repeat' first
      | (with_reducible exact ih0 _ _ _ _ _)
      | (with_reducible exact ih1 _ _ _ _ _ _)
      | (with_reducible exact ih2 _ _ _ _ _ _ _ _ _)
      | (with_reducible exact ih3 _ _ _ _ _ _ _ _ _ _ _ _ _)
      | (with_reducible exact ih4 _ _ _ _ _ _ _ _)
      | (with_reducible exact ih5 _ _ _ _ _)
      | (with_reducible exact impl_lineCounts.mono _ _ _)
      | (with_reducible exact LeO.refl _)
      | (with_reducible exact LeO.none _)
      | (with_reducible refine LeO.ite ?_ ?_)
      | (with_reducible refine LeO.bind ?_ (fun _ => ?_))
      | exact ih0 _ _ _ _ _
      | exact ih1 _ _ _ _ _ _
      | exact ih2 _ _ _ _ _ _ _ _ _
      | exact ih3 _ _ _ _ _ _ _ _ _ _ _ _ _
      | exact ih4 _ _ _ _ _ _ _ _
      | exact ih5 _ _ _ _ _
      | exact impl_lineCounts.mono _ _ _
      | exact LeO.none _
      | refine LeO.ite ?_ ?_
      | refine LeO.bind ?_ (fun _ => ?_)
    · intro y0 y1 y2 y3 y4 y5
      unfold impl_decodingBits.l1
      repeat' first
      | (with_reducible exact ih0 _ _ _ _ _)
      | (with_reducible exact ih1 _ _ _ _ _ _)
      | (with_reducible exact ih2 _ _ _ _ _ _ _ _ _)
      | (with_reducible exact ih3 _ _ _ _ _ _ _ _ _ _ _ _ _)
      | (with_reducible exact ih4 _ _ _ _ _ _ _ _)
      | (with_reducible exact ih5 _ _ _ _ _)
      | (with_reducible exact impl_lineCounts.mono _ _ _)
      | (with_reducible exact LeO.refl _)
      | (with_reducible exact LeO.none _)
      | (with_reducible refine LeO.ite ?_ ?_)
      | (with_reducible refine LeO.bind ?_ (fun _ => ?_))
      | exact ih0 _ _ _ _ _
      | exact ih1 _ _ _ _ _ _
      | exact ih2 _ _ _ _ _ _ _ _ _
      | exact ih3 _ _ _ _ _ _ _ _ _ _ _ _ _
      | exact ih4 _ _ _ _ _ _ _ _
      | exact ih5 _ _ _ _ _
      | exact impl_lineCounts.mono _ _ _
      | exact LeO.none _
      | refine LeO.ite ?_ ?_
      | refine LeO.bind ?_ (fun _ => ?_)
    · intro y0 y1 y2 y3 y4 y5 y6 y7 y8
      unfold impl_decodingBits.l2
      repeat' first
      | (with_reducible exact ih0 _ _ _ _ _)
      | (with_reducible exact ih1 _ _ _ _ _ _)
      | (with_reducible exact ih2 _ _ _ _ _ _ _ _ _)
      | (with_reducible exact ih3 _ _ _ _ _ _ _ _ _ _ _ _ _)
      | (with_reducible exact ih4 _ _ _ _ _ _ _ _)
      | (with_reducible exact ih5 _ _ _ _ _)
      | (with_reducible exact impl_lineCounts.mono _ _ _)
      | (with_reducible exact LeO.refl _)
      | (with_reducible exact LeO.none _)
      | (with_reducible refine LeO.ite ?_ ?_)
      | (with_reducible refine LeO.bind ?_ (fun _ => ?_))
      | exact ih0 _ _ _ _ _
      | exact ih1 _ _ _ _ _ _
      | exact ih2 _ _ _ _ _ _ _ _ _
      | exact ih3 _ _ _ _ _ _ _ _ _ _ _ _ _
      | exact ih4 _ _ _ _ _ _ _ _
      | exact ih5 _ _ _ _ _
      | exact impl_lineCounts.mono _ _ _
      | exact LeO.none _
      | refine LeO.ite ?_ ?_
      | refine LeO.bind ?_ (fun _ => ?_)
    · intro y0 y1 y2 y3 y4 y5 y6 y7 y8 y9 y10 y11 y12
      unfold impl_decodingBits.l3
      repeat' first
      | (with_reducible exact ih0 _ _ _ _ _)
      | (with_reducible exact ih1 _ _ _ _ _ _)
      | (with_reducible exact ih2 _ _ _ _ _ _ _ _ _)
      | (with_reducible exact ih3 _ _ _ _ _ _ _ _ _ _ _ _ _)
      | (with_reducible exact ih4 _ _ _ _ _ _ _ _)
      | (with_reducible exact ih5 _ _ _ _ _)
      | (with_reducible exact impl_lineCounts.mono _ _ _)
      | (with_reducible exact LeO.refl _)
      | (with_reducible exact LeO.none _)
      | (with_reducible refine LeO.ite ?_ ?_)
      | (with_reducible refine LeO.bind ?_ (fun _ => ?_))
      | exact ih0 _ _ _ _ _
      | exact ih1 _ _ _ _ _ _
      | exact ih2 _ _ _ _ _ _ _ _ _
      | exact ih3 _ _ _ _ _ _ _ _ _ _ _ _ _
      | exact ih4 _ _ _ _ _ _ _ _
      | exact ih5 _ _ _ _ _
      | exact impl_lineCounts.mono _ _ _
      | exact LeO.none _
      | refine LeO.ite ?_ ?_
      | refine LeO.bind ?_ (fun _ => ?_)
    · intro y0 y1 y2 y3 y4 y5 y6 y7
      unfold impl_decodingBits.l4
      repeat' first
      | (with_reducible exact ih0 _ _ _ _ _)
      | (with_reducible exact ih1 _ _ _ _ _ _)
      | (with_reducible exact ih2 _ _ _ _ _ _ _ _ _)
      | (with_reducible exact ih3 _ _ _ _ _ _ _ _ _ _ _ _ _)
      | (with_reducible exact ih4 _ _ _ _ _ _ _ _)
      | (with_reducible exact ih5 _ _ _ _ _)
      | (with_reducible exact impl_lineCounts.mono _ _ _)
      | (with_reducible exact LeO.refl _)
      | (with_reducible exact LeO.none _)
      | (with_reducible refine LeO.ite ?_ ?_)
      | (with_reducible refine LeO.bind ?_ (fun _ => ?_))
      | exact ih0 _ _ _ _ _
      | exact ih1 _ _ _ _ _ _
      | exact ih2 _ _ _ _ _ _ _ _ _
      | exact ih3 _ _ _ _ _ _ _ _ _ _ _ _ _
      | exact ih4 _ _ _ _ _ _ _ _
      | exact ih5 _ _ _ _ _
      | exact impl_lineCounts.mono _ _ _
      | exact LeO.none _
      | refine LeO.ite ?_ ?_
      | refine LeO.bind ?_ (fun _ => ?_)
    · intro y0 y1 y2 y3 y4
      unfold impl_decodingBits.l5
      repeat' first
      | (with_reducible exact ih0 _ _ _ _ _)
      | (with_reducible exact ih1 _ _ _ _ _ _)
      | (with_reducible exact ih2 _ _ _ _ _ _ _ _ _)
      | (with_reducible exact ih3 _ _ _ _ _ _ _ _ _ _ _ _ _)
      | (with_reducible exact ih4 _ _ _ _ _ _ _ _)
      | (with_reducible exact ih5 _ _ _ _ _)
      | (with_reducible exact impl_lineCounts.mono _ _ _)
      | (with_reducible exact LeO.refl _)
      | (with_reducible exact LeO.none _)
      | (with_reducible refine LeO.ite ?_ ?_)
      | (with_reducible refine LeO.bind ?_ (fun _ => ?_))
      | exact ih0 _ _ _ _ _
      | exact ih1 _ _ _ _ _ _
      | exact ih2 _ _ _ _ _ _ _ _ _
      | exact ih3 _ _ _ _ _ _ _ _ _ _ _ _ _
      | exact ih4 _ _ _ _ _ _ _ _
      | exact ih5 _ _ _ _ _
      | exact impl_lineCounts.mono _ _ _
      | exact LeO.none _
      | refine LeO.ite ?_ ?_
      | refine LeO.bind ?_ (fun _ => ?_)
theorem impl_decodingBits.mono : ∀ a0 k, LeO (impl_decodingBits.f k a0) (impl_decodingBits.f (k + 1) a0) := by
  intro a0 k
  obtain ⟨ih0, ih1, ih2, ih3, ih4, ih5⟩ := impl_decodingBits.mono_l k
  unfold impl_decodingBits.f
  repeat' first
      | (with_reducible exact ih0 _ _ _ _ _)
      | (with_reducible exact ih1 _ _ _ _ _ _)
      | (with_reducible exact ih2 _ _ _ _ _ _ _ _ _)
      | (with_reducible exact ih3 _ _ _ _ _ _ _ _ _ _ _ _ _)
      | (with_reducible exact ih4 _ _ _ _ _ _ _ _)
      | (with_reducible exact ih5 _ _ _ _ _)
      | (with_reducible exact impl_lineCounts.mono _ _ _)
      | (with_reducible exact LeO.refl _)
      | (with_reducible exact LeO.none _)
      | (with_reducible refine LeO.ite ?_ ?_)
      | (with_reducible refine LeO.bind ?_ (fun _ => ?_))
      | exact ih0 _ _ _ _ _
      | exact ih1 _ _ _ _ _ _
      | exact ih2 _ _ _ _ _ _ _ _ _
      | exact ih3 _ _ _ _ _ _ _ _ _ _ _ _ _
      | exact ih4 _ _ _ _ _ _ _ _
      | exact ih5 _ _ _ _ _
      | exact impl_lineCounts.mono _ _ _
      | exact LeO.none _
      | refine LeO.ite ?_ ?_
      | refine LeO.bind ?_ (fun _ => ?_)
theorem impl_decodingBits.gq {P : Program} {i : Nat} {ops : Array Oper} {Q : Exit → Act → World → Prop} {a : Act} {W : World} (h : (Code.region i ops true).wp P Q a W) : (Code.region i ops true).wp P Q a W := h
set_option maxHeartbeats 8000000 in
set_option maxRecDepth 100000 in
theorem impl_decodingBits.calls (k : Nat) (A0 : Option Addr) (c0 : Nat) (l0 : List ByteArray) (r : Int) (w : World) (hr0 : Kd.C Kd.string w A0 l0.length l0) (hc0 : l0.length ≤ c0) (h : impl_decodingBits.f k l0 = some r) :
  Calls Try.prog 94 #[.slice A0 l0.length c0] w fun e w' => e = .returned (.int .i64 r) ∧ Below w.heap.size w w' := by
 have HR0 := zm hr0
 have HC0 := zm hc0
 clear hr0 hc0
 have HB := zm (Below.refl w.heap.size w)
 have H : (if 0 < (l0.length : Int) then (if 0 ≤ (wrap64 ((l0.length : Int) + ((rdOf ByteArray.empty l0 0).size : Int))) then (if (wrap64 ((l0.length : Int) + ((rdOf ByteArray.empty l0 0).size : Int)) : Int).toNat ≤ 35184372088832 then ((some (List.replicate (wrap64 ((l0.length : Int) + ((rdOf ByteArray.empty l0 0).size : Int)) : Int).toNat 0 : List Int)).bind fun y188 => (impl_decodingBits.l0 k l0 (wrap64 ((l0.length : Int) + ((rdOf ByteArray.empty l0 0).size : Int))) y188 (y188.length : Int) 0)) else (none)) else (none)) else (none)) = some r := h
 clear h
 by_cases c2 : 0 < (l0.length : Int)
 ·
  rw [if_pos c2] at H
  have c2b0 : decide (0 < (l0.length : Int)) = true := decide_eq_true c2
  have c2b1 : decide (0 < l0.length) = true := decide_eq_true (by omega)
  clear c2
  obtain ⟨ji3, hji3⟩ : ∃ j_ : Int, (wrap64 ((l0.length : Int) + ((rdOf ByteArray.empty l0 0).size : Int))) = j_ := ⟨_, rfl⟩
  replace H : (if 0 ≤ (ji3) then (if (ji3 : Int).toNat ≤ 35184372088832 then ((some (List.replicate (ji3 : Int).toNat 0 : List Int)).bind fun y188 => (impl_decodingBits.l0 k l0 ji3 y188 (y188.length : Int) 0)) else (none)) else (none)) = some r := by first | (rw [hji3] at H; exact H) | (simp only [hji3] at H ⊢; exact H)
  have hji3w : (IntKind.i64.wrap ((l0.length : Int) + ((rdOf ByteArray.empty l0 0).size : Int))) = ji3 := (i64_w _).trans hji3
  by_cases c4 : 0 ≤ (ji3)
  ·
   rw [if_pos c4] at H
   have c4b0 := eq_true c4
   have c4b1 : decide (0 ≤ (ji3)) = true := decide_eq_true c4
   clear c4
   by_cases c5 : (ji3 : Int).toNat ≤ 35184372088832
   ·
    rw [if_pos c5] at H
    have c5b0 := eq_true c5
    have c5b1 : decide ((ji3 : Int).toNat ≤ 35184372088832) = true := decide_eq_true c5
    clear c5
    obtain ⟨y188, hy188⟩ : ∃ y_ : List Int, y_ = (List.replicate (ji3 : Int).toNat 0) := ⟨_, rfl⟩
    replace H : (impl_decodingBits.l0 k l0 ji3 y188 (y188.length : Int) 0) = some r := by first | (rw [hy188]; with_reducible exact H) | (have H2_ := (Option.bind_some _ _).symm.trans H; rw [hy188]; with_reducible exact H2_) | (have H2_ := (Option.bind_some _ _).symm.trans H; with_reducible exact H2_) | with_reducible exact H | (rw [hy188]; exact H) | exact H
    have Ny188 := zm hy188
    clear hy188
    have H' := zm H
    clear H
    have p187 : 0 ≤ (0 : Int) := (by omega)
    have q187 : 0 < (l0.length : Int) := zd
    obtain ⟨ad187, e187, hx187_0⟩ := Kd.at_string HR0.out 0 p187 q187
    cases e187
    have qi187 : (0 < l0.length) = True := eq_true (by omega)
    (try rw [show ((0 : Int)).toNat = 0 from rfl] at hx187_0)
    (try rw [Addr.add_zero'] at hx187_0)
    replace p187 := eq_true p187
    replace q187 := eq_true q187
    go_enter Try.func94, Try.ntmps94
    go_wp2_with (first | ((with_reducible refine gate_dst (N := 26) rfl ?_); refine Kd.R_make (Kd.int .i64) _ 3 rfl (N := 26) rfl 38 _ _ rfl ji3 rfl rfl Try.underlying38 (.int .i64 0) 8 info3 rfl (by decide) (by omega) 0 (ok := fun _ => True) (okp := fun _ => True) rfl (fun _ hk => hk) trivial (of_decide_eq_true (by first | (with_reducible assumption) | assumption)) (Nat.le_trans (Nat.mul_le_mul_right _ (of_decide_eq_true (by first | (with_reducible assumption) | assumption) : ji3.toNat ≤ 35184372088832)) (by omega)) (Below.refl _ _) (Nat.le_refl _) ?_; intro v189 w6 ho7 hb hg_ hnew_; clear hg_ hnew_; (first | rw [← Ny188.out] at ho7 | (simp only [Int.reduceToNat] at ho7; rw [← Ny188.out] at ho7)); have n0_ := zm (Kd.R_lower ho7 (below_size zb)); have n1_ := zm (below_step zb hb); clear HB; have HO190 := n0_; have HB := n1_; clear n0_ n1_; clear hb ho7; obtain ⟨Ao8, co8, eo8⟩ := Kd.R_slice HO190.out; subst eo8) | ((with_reducible refine impl_decodingBits.gq ?_); go_quiet (fail)))
    go_loopg [29] k (fun kq v29 w' => ∃ (x4_1 : List Int) (x29_1 : Int), v29 = .int .i64 x29_1 ∧ Aside0 (impl_decodingBits.l0 kq l0 ji3 x4_1 (y188.length : Int) x29_1 = some r) ∧ Aside0 (kq ≤ k) ∧ Aside0 (Kd.R (Kd.int .i64) 3 w' w.heap.size (fun _ => True) (.slice Ao8 y188.length co8) x4_1) ∧ Aside0 (Below w.heap.size w w'))
    case atStart => exact ⟨(y188), (0), (by first | rfl | (simp; done) | (simp [*]; done)), H', ⟨Nat.le_refl _⟩, ⟨by (with_reducible repeat (first | apply Kd.R_alloc | apply Kd.R_drewN | apply Kd.R_drew)); exact HO190.out⟩, ⟨zb⟩⟩
    case round =>
     clear H'
     (try clear p1); (try clear q1); (try clear hx1); (try clear qi1); (try clear c2); (try clear c2b0); (try clear c2b1); (try clear p2); (try clear c4); (try clear c4b0); (try clear c4b1); (try clear c5); (try clear c5b0); (try clear c5b1); (try clear p6); (try clear hx187_0); (try clear p187); (try clear q187)
     obtain ⟨x4_1, x29_1, rfl, HA, HK1, HO_4, HB⟩ := hrel
     have hl4_1 := (Kd.R_reads' HO_4.out).1
     rw [hl4_1] at HO_4
     (try simp only [hl4_1])
     cases gk with
     | zero => exact absurd HA.out (by simp [impl_decodingBits.l0])
     | succ k1 =>
      have H := HA.out
      clear HA
      simp only [impl_decodingBits.l0] at H
      by_cases c9 : x29_1 < (y188.length : Int)
      ·
       rw [if_pos c9] at H
       have c9b0 : decide (x29_1 < (y188.length : Int)) = true := decide_eq_true c9
       clear c9
       by_cases c10 : 0 ≤ x29_1
       ·
        rw [if_pos c10] at H
        have c10b0 : decide (0 ≤ x29_1) = true := decide_eq_true c10
        clear c10
        by_cases c11 : x29_1 < (x4_1.length : Int)
        ·
         rw [if_pos c11] at H
         have c11b0 : decide (x29_1 < (x4_1.length : Int)) = true := decide_eq_true c11
         clear c11
         obtain ⟨y191, hy191⟩ : ∃ y_ : List Int, y_ = (x4_1.set (x29_1 : Int).toNat x29_1) := ⟨_, rfl⟩
         replace H : (impl_decodingBits.l0 k1 l0 ji3 y191 (y188.length : Int) (wrap64 (x29_1 + 1))) = some r := by first | (rw [hy191]; with_reducible exact H) | (have H2_ := (Option.bind_some _ _).symm.trans H; rw [hy191]; with_reducible exact H2_) | (have H2_ := (Option.bind_some _ _).symm.trans H; with_reducible exact H2_) | with_reducible exact H | (rw [hy191]; exact H) | exact H
         have Ny191 := zm hy191
         clear hy191
         have H' := zm H
         clear H
         have p12 : 0 ≤ (x29_1 : Int) := zd
         have q12 : (x29_1 : Int) < ((x4_1.length : Int) : Int) := zd
         obtain ⟨go12, co12, eo12, gb12, gl12, cl12, HG12⟩ := Kd.R_form HO_4.out (by omega)
         (first | cases eo12 | (injection eo12 with ea_ en_ ec_; (first | subst ea_ | (injection ea_ with ea_; subst ea_)); subst ec_; clear en_))
         have GB12 := zm gb12
         have GG12 := zm HG12
         clear gb12 gl12 HG12
         obtain ⟨hx12_0, hf12_0⟩ := Kd.R_celln 0 HO_4.out (x29_1 : Int) p12 q12
         replace p12 := eq_true p12
         replace q12 := eq_true q12
         have HP13 := Kd.R_putg HO_4.out (x29_1 : Int) x29_1
         go_wp2_with (first | ((with_reducible refine gate_store (t := 3) (p := 35) rfl ?_); (try (rw [drewN_self wr]; generalize hq_ : World.drewN wr _ = wr; have n0_ := zm (Kd.R_at hq_ HO_4.out); have n1_ := zm (below_at hq_ HB.out); clear hq_ HO_4 HB; have HO_4 := n0_; have HB := n1_; clear n0_ n1_; (try (have HP13 := Kd.R_putg HO_4.out (x29_1 : Int) x29_1)))); refine store_event (t := 3) (p := 35) (v := ?vo_w14) (w1 := (wr.setCell ⟨go12, (x29_1 : Int).toNat, none⟩ (.int .i64 x29_1))) ?hg ?ho ?hn ?hr ?_; (case ho => rfl); (case hg => rfl); (case hn => rfl); (case hr => first | (go_simp; done) | (go_simp; rfl)); intro w14 hw; have hg : wr.grownBy w14 (some go12) := (by rw [hw]; exact HP13.2); have hp_ : Kd.R (Kd.int .i64) 3 w14 w.heap.size (fun _ => True) (.slice (some ⟨go12, 0, none⟩) x4_1.length co8) y191 := (by rw [hw, Ny191.out]; exact HP13.1); clear HP13; have n0_ := zm (hp_); have n1_ := zm ((by rw [hw]; exact below_set (HB.out) GB12.out : Below w.heap.size w w14)); clear HO_4; clear HB; have HO_4 := n0_; have HB := n1_; clear n0_ n1_; clear hg hw hp_) | ((with_reducible refine impl_decodingBits.gq ?_); go_quiet (fail)))
         (try simp only [← hl4_1])
         go_roundg k1
         case measure => have := HK1.out; omega
         case rel => exact ⟨(y191), (wrap64 (x29_1 + 1)), (by first | rfl | (simp; done) | (simp [*]; done)), H', ⟨by have := HK1.out; omega⟩, ⟨by (try simp only [hl4_1]); (with_reducible repeat (first | apply Kd.R_alloc | apply Kd.R_drewN | apply Kd.R_drew)); exact HO_4.out⟩, ⟨zb⟩⟩
        ·
         rw [if_neg c11] at H
         exact absurd H (by simp)
       ·
        rw [if_neg c10] at H
        exact absurd H (by simp)
      ·
       rw [if_neg c9] at H
       have c9b0 : decide (x29_1 < (y188.length : Int)) = false := decide_eq_false c9
       (try (have c9z0 := c9b0; simp only [hl4_1] at c9z0))
       clear c9
       have H' := zm H
       clear H
       go_wp2
       repeat (go_quiet (fail); try go_wp2)
       go_loopg [6, 41] k1 (fun kq v6 v41 w' => ∃ (x4_2 : List Int) (x6_2 : Int) (x41_2 : Int), v6 = .int .i64 x6_2 ∧ v41 = .int .i64 x41_2 ∧ Aside0 (impl_decodingBits.l1 kq l0 ji3 x4_2 x6_2 (l0.length : Int) x41_2 = some r) ∧ Aside0 (kq ≤ k1) ∧ Aside0 (Kd.R (Kd.int .i64) 3 w' w.heap.size (fun _ => True) (.slice Ao8 x4_1.length co8) x4_2) ∧ Aside0 (Below w.heap.size w w'))
       case atStart => exact ⟨(x4_1), (wrap64 (-ji3)), (0), (by first | rfl | (simp; done) | (simp only [← hji3] <;> (first | rfl | simp)) | (simp [*]; done)), (by first | rfl | (simp; done) | (simp [*]; done)), H', ⟨Nat.le_refl _⟩, ⟨by (try simp only [hl4_1]); (with_reducible repeat (first | apply Kd.R_alloc | apply Kd.R_drewN | apply Kd.R_drew)); exact HO_4.out⟩, ⟨zb⟩⟩
       case round =>
        clear H'
        (try clear c1); (try clear p1); (try clear q1); (try clear hx1); (try clear qi1); (try clear hf1); (try clear c2); (try clear c2b0); (try clear c2b1); (try clear p2); (try clear c4); (try clear c4b0); (try clear c4b1); (try clear c5); (try clear c5b0); (try clear c5b1); (try clear p6); (try clear c9); (try clear c9b0); (try clear c10); (try clear c10b0); (try clear c11); (try clear c11b0); (try clear p12); (try clear q12); (try clear hx12); (try clear hf12); (try clear hx12_0); (try clear hx187_0); (try clear p1); (try clear p12); (try clear p187); (try clear p2); (try clear p6); (try clear q1); (try clear q12); (try clear q187)
        obtain ⟨x4_2, x6_2, x41_2, rfl, rfl, HA, HK2, HO_4, HB⟩ := hrel
        have hl4_2 := (Kd.R_reads' HO_4.out).1
        rw [hl4_2] at HO_4
        (try simp only [hl4_2])
        cases gk with
        | zero => exact absurd HA.out (by simp [impl_decodingBits.l1])
        | succ k2 =>
         have H := HA.out
         clear HA
         simp only [impl_decodingBits.l1] at H
         by_cases c15 : x41_2 < (l0.length : Int)
         ·
          rw [if_pos c15] at H
          have c15b0 : decide (x41_2 < (l0.length : Int)) = true := decide_eq_true c15
          clear c15
          by_cases c16 : 0 ≤ x41_2
          ·
           rw [if_pos c16] at H
           have c16b0 : decide (0 ≤ x41_2) = true := decide_eq_true c16
           clear c16
           by_cases c17 : x41_2 < (l0.length : Int)
           ·
            rw [if_pos c17] at H
            have c17b0 : decide (x41_2 < (l0.length : Int)) = true := decide_eq_true c17
            clear c17
            have H' := zm H
            clear H
            have p192 : 0 ≤ (x41_2 : Int) := zd
            have q192 : x41_2 < (l0.length : Int) := zd
            obtain ⟨ad192, e192, hx192_0⟩ := Kd.at_string HR0.out x41_2 p192 q192
            obtain rfl : ad187 = ad192 := (by injection e192)
            skip
            replace hx192_0 := zx HB.out hx192_0
            replace p192 := eq_true p192
            replace q192 := eq_true q192
            go_wp2
            repeat (go_quiet (fail); try go_wp2)
            go_loopg [6, 49] k2 (fun kq v6 v49 w' => ∃ (x4_3 : List Int) (x6_3 : Int) (x49_3 : Int), v6 = .int .i64 x6_3 ∧ v49 = .int .i64 x49_3 ∧ Aside0 (impl_decodingBits.l2 kq l0 ji3 x4_3 x6_3 x41_2 (l0.length : Int) x41_2 ((rdOf ByteArray.empty l0 x41_2).size : Int) x49_3 = some r) ∧ Aside0 (kq ≤ k2) ∧ Aside0 (Kd.R (Kd.int .i64) 3 w' w.heap.size (fun _ => True) (.slice Ao8 x4_2.length co8) x4_3) ∧ Aside0 (Below w.heap.size w w'))
            case atStart => exact ⟨(x4_2), (x6_2), (0), (by first | rfl | (simp; done) | (simp [*]; done)), (by first | rfl | (simp; done) | (simp [*]; done)), H', ⟨Nat.le_refl _⟩, ⟨by (try simp only [hl4_1]); (try simp only [hl4_2]); (with_reducible repeat (first | apply Kd.R_alloc | apply Kd.R_drewN | apply Kd.R_drew)); exact HO_4.out⟩, ⟨zb⟩⟩
            case round =>
             clear H'
             (try clear c1); (try clear p1); (try clear q1); (try clear hx1); (try clear qi1); (try clear hf1); (try clear c2); (try clear c2b0); (try clear c2b1); (try clear p2); (try clear c4); (try clear c4b0); (try clear c4b1); (try clear c5); (try clear c5b0); (try clear c5b1); (try clear p6); (try clear c9); (try clear c9b0); (try clear c10); (try clear c10b0); (try clear c11); (try clear c11b0); (try clear p12); (try clear q12); (try clear hx12); (try clear hf12); (try clear c15); (try clear c15b0); (try clear c16); (try clear c16b0); (try clear c17); (try clear c17b0); (try clear hx12_0); (try clear hx187_0); (try clear hx192_0); (try clear p1); (try clear p12); (try clear p187); (try clear p192); (try clear p2); (try clear p6); (try clear q1); (try clear q12); (try clear q187); (try clear q192)
             obtain ⟨x4_3, x6_3, x49_3, rfl, rfl, HA, HK3, HO_4, HB⟩ := hrel
             have hl4_3 := (Kd.R_reads' HO_4.out).1
             rw [hl4_3] at HO_4
             (try simp only [hl4_3])
             cases gk with
             | zero => exact absurd HA.out (by simp [impl_decodingBits.l2])
             | succ k3 =>
              have H := HA.out
              clear HA
              simp only [impl_decodingBits.l2] at H
              by_cases c18 : x49_3 < ((rdOf ByteArray.empty l0 x41_2).size : Int)
              ·
               rw [if_pos c18] at H
               have c18b0 : decide (x49_3 < ((rdOf ByteArray.empty l0 x41_2).size : Int)) = true := decide_eq_true c18
               clear c18
               by_cases c19 : 0 ≤ x41_2
               ·
                rw [if_pos c19] at H
                have c19b0 : decide (0 ≤ x41_2) = true := decide_eq_true c19
                clear c19
                by_cases c20 : x41_2 < (l0.length : Int)
                ·
                 rw [if_pos c20] at H
                 have c20b0 : decide (x41_2 < (l0.length : Int)) = true := decide_eq_true c20
                 clear c20
                 by_cases c21 : 0 ≤ x49_3
                 ·
                  rw [if_pos c21] at H
                  have c21b0 : decide (0 ≤ x49_3) = true := decide_eq_true c21
                  clear c21
                  by_cases c22 : x49_3 < ((rdOf ByteArray.empty l0 x41_2).size : Int)
                  ·
                   rw [if_pos c22] at H
                   have c22b0 : decide (x49_3 < ((rdOf ByteArray.empty l0 x41_2).size : Int)) = true := decide_eq_true c22
                   clear c22
                   by_cases c24 : (bt (rdOf ByteArray.empty l0 x41_2) x49_3) = 63
                   ·
                    rw [if_pos c24] at H
                    have c24b0 : ((bt (rdOf ByteArray.empty l0 x41_2) x49_3) == 63) = true := beq_iff_eq.mpr c24
                    have c24b1 : ((bt (rdOf ByteArray.empty l0 x41_2) x49_3) != 63) = false := bne_eq_false_iff_eq.mpr c24
                    clear c24
                    by_cases c25 : x41_2 < (x4_3.length : Int)
                    ·
                     rw [if_pos c25] at H
                     have c25b0 : decide (x41_2 < (x4_3.length : Int)) = true := decide_eq_true c25
                     clear c25
                     obtain ⟨ji26, hji26⟩ : ∃ j_ : Int, (wrap64 ((l0.length : Int) + x49_3)) = j_ := ⟨_, rfl⟩
                     replace H : (if 0 ≤ (ji26) then (if (ji26) < (x4_3.length : Int) then (impl_decodingBits.l3 k3 l0 ji3 x4_3 (wrap64 (x6_3 + 1)) x41_2 (rd x4_3 x41_2) (rd x4_3 (ji26)) (l0.length : Int) x41_2 ((rdOf ByteArray.empty l0 x41_2).size : Int) x49_3 (x4_3.length : Int) 0) else (none)) else (none)) = some r := by first | (rw [hji26] at H; exact H) | (simp only [hji26] at H ⊢; exact H)
                     have hji26w : (IntKind.i64.wrap ((l0.length : Int) + x49_3)) = ji26 := (i64_w _).trans hji26
                     by_cases c27 : 0 ≤ (ji26)
                     ·
                      rw [if_pos c27] at H
                      have c27b0 : decide (0 ≤ (ji26)) = true := decide_eq_true c27
                      clear c27
                      by_cases c28 : (ji26) < (x4_3.length : Int)
                      ·
                       rw [if_pos c28] at H
                       have c28b0 : decide ((ji26) < (x4_3.length : Int)) = true := decide_eq_true c28
                       clear c28
                       have H' := zm H
                       clear H
                       have p193 : 0 ≤ (x41_2 : Int) := zd
                       have q193 : x41_2 < (l0.length : Int) := zd
                       obtain ⟨ad193, e193, hx193_0⟩ := Kd.at_string HR0.out x41_2 p193 q193
                       obtain rfl : ad187 = ad193 := (by injection e193)
                       skip
                       replace hx193_0 := zx HB.out hx193_0
                       replace p193 := eq_true p193
                       replace q193 := eq_true q193
                       have p23 : 0 ≤ (x49_3 : Int) := zd
                       have q23 : x49_3 < ((rdOf ByteArray.empty l0 x41_2).size : Int) := zd
                       have hx23 := bt_at (rdOf ByteArray.empty l0 x41_2) x49_3
                       replace p23 := eq_true p23
                       replace q23 := eq_true q23
                       have p194 : 0 ≤ (x41_2 : Int) := zd
                       have q194 : x41_2 < (x4_3.length : Int) := zd
                       obtain ⟨ad194, e194, hx194_0⟩ := Kd.at_int (Kd.R_reads' HO_4.out).2.2 x41_2 p194 q194
                       cases e194
                       replace p194 := eq_true p194
                       replace q194 := eq_true q194
                       have p195 : 0 ≤ ((ji26) : Int) := zd
                       have q195 : (ji26) < (x4_3.length : Int) := zd
                       obtain ⟨ad195, e195, hx195_0⟩ := Kd.at_int (Kd.R_reads' HO_4.out).2.2 (ji26) p195 q195
                       obtain rfl : ad194 = ad195 := (by injection e195)
                       obtain ⟨gh194, hh194⟩ := Kd.R_head HO_4.out
                       subst hh194
                       (try simp only [add_plain] at hx194_0)
                       (try simp only [add_plain] at hx195_0)
                       skip
                       replace p195 := eq_true p195
                       replace q195 := eq_true q195
                       go_wp2
                       repeat (go_quiet (fail); try go_wp2)
                       go_loopg [74] k3 (fun kq v74 w' => ∃ (x4_4 : List Int) (x74_4 : Int), v74 = .int .i64 x74_4 ∧ Aside0 (impl_decodingBits.l3 kq l0 ji3 x4_4 (wrap64 (x6_3 + 1)) x41_2 (rd x4_3 x41_2) (rd x4_3 (ji26)) (l0.length : Int) x41_2 ((rdOf ByteArray.empty l0 x41_2).size : Int) x49_3 (x4_3.length : Int) x74_4 = some r) ∧ Aside0 (kq ≤ k3) ∧ Aside0 (Kd.R (Kd.int .i64) 3 w' w.heap.size (fun _ => True) (.slice (some ⟨gh194, 0, none⟩) x4_3.length co8) x4_4) ∧ Aside0 (Below w.heap.size w w'))
                       case atStart => exact ⟨(x4_3), (0), (by first | rfl | (simp; done) | (simp [*]; done)), H', ⟨Nat.le_refl _⟩, ⟨by (try simp only [hl4_1]); (try simp only [hl4_2]); (try simp only [hl4_3]); (with_reducible repeat (first | apply Kd.R_alloc | apply Kd.R_drewN | apply Kd.R_drew)); exact HO_4.out⟩, ⟨zb⟩⟩
                       case round =>
                        clear H'
                        (try clear c1); (try clear p1); (try clear q1); (try clear hx1); (try clear qi1); (try clear hf1); (try clear c2); (try clear c2b0); (try clear c2b1); (try clear p2); (try clear q2); (try clear hx2); (try clear c4); (try clear c4b0); (try clear c4b1); (try clear c5); (try clear c5b0); (try clear c5b1); (try clear p6); (try clear c9); (try clear c9b0); (try clear c10); (try clear c10b0); (try clear c11); (try clear c11b0); (try clear p12); (try clear q12); (try clear hx12); (try clear hf12); (try clear c15); (try clear c15b0); (try clear c16); (try clear c16b0); (try clear c17); (try clear c17b0); (try clear c18); (try clear c18b0); (try clear p18); (try clear q18); (try clear hx18); (try clear qi18); (try clear c19); (try clear c19b0); (try clear p19); (try clear q19); (try clear hx19); (try clear c20); (try clear c20b0); (try clear c21); (try clear c21b0); (try clear c22); (try clear c22b0); (try clear p23); (try clear q23); (try clear hx23); (try clear c24); (try clear c24b0); (try clear c24b1); (try clear c25); (try clear c25b0); (try clear c27); (try clear c27b0); (try clear c28); (try clear c28b0); (try clear hx12_0); (try clear hx187_0); (try clear hx192_0); (try clear hx193_0); (try clear hx194_0); (try clear hx195_0); (try clear p1); (try clear p12); (try clear p187); (try clear p192); (try clear p193); (try clear p194); (try clear p195); (try clear p2); (try clear p23); (try clear p6); (try clear q1); (try clear q12); (try clear q187); (try clear q192); (try clear q193); (try clear q194); (try clear q195); (try clear q23)
                        obtain ⟨x4_4, x74_4, rfl, HA, HK4, HO_4, HB⟩ := hrel
                        have hl4_4 := (Kd.R_reads' HO_4.out).1
                        rw [hl4_4] at HO_4
                        (try simp only [hl4_4])
                        cases gk with
                        | zero => exact absurd HA.out (by simp [impl_decodingBits.l3])
                        | succ k4 =>
                         have H := HA.out
                         clear HA
                         simp only [impl_decodingBits.l3] at H
                         by_cases c29 : x74_4 < (x4_3.length : Int)
                         ·
                          rw [if_pos c29] at H
                          have c29b0 : decide (x74_4 < (x4_3.length : Int)) = true := decide_eq_true c29
                          clear c29
                          by_cases c30 : 0 ≤ x74_4
                          ·
                           rw [if_pos c30] at H
                           have c30b0 : decide (0 ≤ x74_4) = true := decide_eq_true c30
                           clear c30
                           by_cases c31 : x74_4 < (x4_4.length : Int)
                           ·
                            rw [if_pos c31] at H
                            have c31b0 : decide (x74_4 < (x4_4.length : Int)) = true := decide_eq_true c31
                            clear c31
                            by_cases c32 : (rd x4_4 x74_4) = (rd x4_3 x41_2)
                            ·
                             rw [if_pos c32] at H
                             have c32b0 : ((rd x4_4 x74_4) == (rd x4_3 x41_2)) = true := beq_iff_eq.mpr c32
                             have c32b1 : ((rd x4_4 x74_4) != (rd x4_3 x41_2)) = false := bne_eq_false_iff_eq.mpr c32
                             clear c32
                             obtain ⟨y197, hy197⟩ : ∃ y_ : List Int, y_ = (x4_4.set (x74_4 : Int).toNat (rd x4_3 (ji26))) := ⟨_, rfl⟩
                             replace H : (impl_decodingBits.l3 k4 l0 ji3 y197 (wrap64 (x6_3 + 1)) x41_2 (rd x4_3 x41_2) (rd x4_3 (ji26)) (l0.length : Int) x41_2 ((rdOf ByteArray.empty l0 x41_2).size : Int) x49_3 (x4_3.length : Int) (wrap64 (x74_4 + 1))) = some r := by first | (rw [hy197]; with_reducible exact H) | (have H2_ := (Option.bind_some _ _).symm.trans H; rw [hy197]; with_reducible exact H2_) | (have H2_ := (Option.bind_some _ _).symm.trans H; with_reducible exact H2_) | with_reducible exact H | (rw [hy197]; exact H) | exact H
                             have Ny197 := zm hy197
                             clear hy197
                             have H' := zm H
                             clear H
                             have p196 : 0 ≤ (x74_4 : Int) := zd
                             have q196 : x74_4 < (x4_4.length : Int) := zd
                             obtain ⟨ad196, e196, hx196_0⟩ := Kd.at_int (Kd.R_reads' HO_4.out).2.2 x74_4 p196 q196
                             have hq_ : ad196 = ⟨gh194, 0, none⟩ := (by injection e196 with z_; exact z_.symm)
                             subst hq_; (try simp only [add_plain] at hx196_0)
                             replace p196 := eq_true p196
                             replace q196 := eq_true q196
                             have p33 : 0 ≤ (x74_4 : Int) := zd
                             have q33 : (x74_4 : Int) < ((x4_4.length : Int) : Int) := zd
                             obtain ⟨go33, co33, eo33, gb33, gl33, cl33, HG33⟩ := Kd.R_form HO_4.out (by omega)
                             (first | cases eo33 | (injection eo33 with ea_ en_ ec_; (first | subst ea_ | (injection ea_ with ea_; subst ea_)); subst ec_; clear en_))
                             have GB33 := zm gb33
                             have GG33 := zm HG33
                             clear gb33 gl33 HG33
                             (first | simp only [add_plain] at hx194_0 | skip)
                             (first | simp only [add_plain] at hx195_0 | skip)
                             (first | simp only [add_plain] at hx196_0 | skip)
                             obtain ⟨hx33_0, hf33_0⟩ := Kd.R_celln 0 HO_4.out (x74_4 : Int) p33 q33
                             replace p33 := eq_true p33
                             replace q33 := eq_true q33
                             have HP34 := Kd.R_putg HO_4.out (x74_4 : Int) (rd x4_3 (ji26))
                             go_wp2_with (first | ((with_reducible refine gate_store (t := 3) (p := 86) rfl ?_); (try (rw [drewN_self wr]; generalize hq_ : World.drewN wr _ = wr; have n0_ := zm (Kd.R_at hq_ HO_4.out); have n1_ := zm (below_at hq_ HB.out); clear hq_ HO_4 HB; have HO_4 := n0_; have HB := n1_; clear n0_ n1_; (try (have HP34 := Kd.R_putg HO_4.out (x74_4 : Int) (rd x4_3 (ji26)))))); refine store_event (t := 3) (p := 86) (v := ?vo_w35) (w1 := (wr.setCell ⟨gh194, (x74_4 : Int).toNat, none⟩ (.int .i64 (rd x4_3 (ji26))))) ?hg ?ho ?hn ?hr ?_; (case ho => rfl); (case hg => rfl); (case hn => rfl); (case hr => first | (go_simp; done) | (go_simp; rfl)); intro w35 hw; have hg : wr.grownBy w35 (some gh194) := (by rw [hw]; exact HP34.2); have hp_ : Kd.R (Kd.int .i64) 3 w35 w.heap.size (fun _ => True) (.slice (some ⟨gh194, 0, none⟩) x4_4.length co8) y197 := (by rw [hw, Ny197.out]; exact HP34.1); clear HP34; have n0_ := zm (hp_); have n1_ := zm ((by rw [hw]; exact below_set (HB.out) GB33.out : Below w.heap.size w w35)); clear HO_4; clear HB; have HO_4 := n0_; have HB := n1_; clear n0_ n1_; clear hg hw hp_) | ((with_reducible refine impl_decodingBits.gq ?_); go_quiet (fail)))
                             (try simp only [← hl4_4])
                             go_roundg k4
                             case measure => have := HK1.out; have := HK2.out; have := HK3.out; have := HK4.out; omega
                             case rel => exact ⟨(y197), (wrap64 (x74_4 + 1)), (by first | rfl | (simp; done) | (simp [*]; done)), H', ⟨by have := HK1.out; have := HK2.out; have := HK3.out; have := HK4.out; omega⟩, ⟨by (try simp only [hl4_1]); (try simp only [hl4_2]); (try simp only [hl4_3]); (try simp only [hl4_4]); (with_reducible repeat (first | apply Kd.R_alloc | apply Kd.R_drewN | apply Kd.R_drew)); exact HO_4.out⟩, ⟨zb⟩⟩
                            ·
                             rw [if_neg c32] at H
                             have c32b0 : ((rd x4_4 x74_4) == (rd x4_3 x41_2)) = false := beq_eq_false_iff_ne.mpr c32
                             have c32b1 : ((rd x4_4 x74_4) != (rd x4_3 x41_2)) = true := bne_iff_ne.mpr c32
                             have H' := zm H
                             clear H
                             have p196 : 0 ≤ (x74_4 : Int) := zd
                             have q196 : x74_4 < (x4_4.length : Int) := zd
                             obtain ⟨ad196, e196, hx196_0⟩ := Kd.at_int (Kd.R_reads' HO_4.out).2.2 x74_4 p196 q196
                             obtain rfl : ad196 = ⟨gh194, 0, none⟩ := (by injection e196 with z_; exact z_.symm); (try simp only [add_plain] at hx196_0)
                             skip
                             replace p196 := eq_true p196
                             replace q196 := eq_true q196
                             go_wp2
                             repeat (go_quiet (fail); try go_wp2)
                             (try simp only [← hl4_4])
                             go_roundg k4
                             case measure => have := HK1.out; have := HK2.out; have := HK3.out; have := HK4.out; omega
                             case rel => exact ⟨(x4_4), (wrap64 (x74_4 + 1)), (by first | rfl | (simp; done) | (simp [*]; done)), H', ⟨by have := HK1.out; have := HK2.out; have := HK3.out; have := HK4.out; omega⟩, ⟨by (try simp only [hl4_1]); (try simp only [hl4_2]); (try simp only [hl4_3]); (try simp only [hl4_4]); (with_reducible repeat (first | apply Kd.R_alloc | apply Kd.R_drewN | apply Kd.R_drew)); exact HO_4.out⟩, ⟨zb⟩⟩
                           ·
                            rw [if_neg c31] at H
                            exact absurd H (by simp)
                          ·
                           rw [if_neg c30] at H
                           exact absurd H (by simp)
                         ·
                          rw [if_neg c29] at H
                          have c29b0 : decide (x74_4 < (x4_3.length : Int)) = false := decide_eq_false c29
                          (try (have c29z0 := c29b0; simp only [hl4_1] at c29z0))
                          (try (have c29z0 := c29b0; simp only [hl4_2] at c29z0))
                          (try (have c29z0 := c29b0; simp only [hl4_3] at c29z0))
                          (try (have c29z0 := c29b0; simp only [hl4_4] at c29z0))
                          clear c29
                          have H' := zm H
                          clear H
                          go_wp2
                          repeat (go_quiet (fail); try go_wp2)
                          (try simp only [← hl4_3, ← hl4_4])
                          go_roundg k4
                          case measure => have := HK1.out; have := HK2.out; have := HK3.out; have := HK4.out; omega
                          case rel => exact ⟨(x4_4), ((wrap64 (x6_3 + 1))), (wrap64 (x49_3 + 1)), (by first | rfl | (simp; done) | (simp [*]; done)), (by first | rfl | (simp; done) | (simp [*]; done)), H', ⟨by have := HK1.out; have := HK2.out; have := HK3.out; have := HK4.out; omega⟩, ⟨by (try simp only [hl4_1]); (try simp only [hl4_2]); (try simp only [hl4_3]); (try simp only [hl4_4]); (with_reducible repeat (first | apply Kd.R_alloc | apply Kd.R_drewN | apply Kd.R_drew)); exact HO_4.out⟩, ⟨zb⟩⟩
                      ·
                       rw [if_neg c28] at H
                       exact absurd H (by simp)
                     ·
                      rw [if_neg c27] at H
                      exact absurd H (by simp)
                    ·
                     rw [if_neg c25] at H
                     exact absurd H (by simp)
                   ·
                    rw [if_neg c24] at H
                    have c24b0 : ((bt (rdOf ByteArray.empty l0 x41_2) x49_3) == 63) = false := beq_eq_false_iff_ne.mpr c24
                    have c24b1 : ((bt (rdOf ByteArray.empty l0 x41_2) x49_3) != 63) = true := bne_iff_ne.mpr c24
                    have H' := zm H
                    clear H
                    have p193 : 0 ≤ (x41_2 : Int) := zd
                    have q193 : x41_2 < (l0.length : Int) := zd
                    obtain ⟨ad193, e193, hx193_0⟩ := Kd.at_string HR0.out x41_2 p193 q193
                    obtain rfl : ad187 = ad193 := (by injection e193)
                    skip
                    replace hx193_0 := zx HB.out hx193_0
                    replace p193 := eq_true p193
                    replace q193 := eq_true q193
                    have p23 : 0 ≤ (x49_3 : Int) := zd
                    have q23 : x49_3 < ((rdOf ByteArray.empty l0 x41_2).size : Int) := zd
                    have hx23 := bt_at (rdOf ByteArray.empty l0 x41_2) x49_3
                    replace p23 := eq_true p23
                    replace q23 := eq_true q23
                    go_wp2
                    repeat (go_quiet (fail); try go_wp2)
                    (try simp only [← hl4_3])
                    go_roundg k3
                    case measure => have := HK1.out; have := HK2.out; have := HK3.out; omega
                    case rel => exact ⟨(x4_3), (x6_3), (wrap64 (x49_3 + 1)), (by first | rfl | (simp; done) | (simp [*]; done)), (by first | rfl | (simp; done) | (simp [*]; done)), H', ⟨by have := HK1.out; have := HK2.out; have := HK3.out; omega⟩, ⟨by (try simp only [hl4_1]); (try simp only [hl4_2]); (try simp only [hl4_3]); (with_reducible repeat (first | apply Kd.R_alloc | apply Kd.R_drewN | apply Kd.R_drew)); exact HO_4.out⟩, ⟨zb⟩⟩
                  ·
                   rw [if_neg c22] at H
                   exact absurd H (by simp)
                 ·
                  rw [if_neg c21] at H
                  exact absurd H (by simp)
                ·
                 rw [if_neg c20] at H
                 exact absurd H (by simp)
               ·
                rw [if_neg c19] at H
                exact absurd H (by simp)
              ·
               rw [if_neg c18] at H
               have c18b0 : decide (x49_3 < ((rdOf ByteArray.empty l0 x41_2).size : Int)) = false := decide_eq_false c18
               clear c18
               have H' := zm H
               clear H
               go_wp2
               repeat (go_quiet (fail); try go_wp2)
               (try simp only [← hl4_2, ← hl4_3])
               go_roundg k3
               case measure => have := HK1.out; have := HK2.out; have := HK3.out; omega
               case rel => exact ⟨(x4_3), (x6_3), (wrap64 (x41_2 + 1)), (by first | rfl | (simp; done) | (simp [*]; done)), (by first | rfl | (simp; done) | (simp [*]; done)), H', ⟨by have := HK1.out; have := HK2.out; have := HK3.out; omega⟩, ⟨by (try simp only [hl4_1]); (try simp only [hl4_2]); (try simp only [hl4_3]); (with_reducible repeat (first | apply Kd.R_alloc | apply Kd.R_drewN | apply Kd.R_drew)); exact HO_4.out⟩, ⟨zb⟩⟩
           ·
            rw [if_neg c17] at H
            exact absurd H (by simp)
          ·
           rw [if_neg c16] at H
           exact absurd H (by simp)
         ·
          rw [if_neg c15] at H
          have c15b0 : decide (x41_2 < (l0.length : Int)) = false := decide_eq_false c15
          (try (have c15z0 := c15b0; simp only [hl4_1] at c15z0))
          (try (have c15z0 := c15b0; simp only [hl4_2] at c15z0))
          (try (have c15z0 := c15b0; simp only [hl4_3] at c15z0))
          (try (have c15z0 := c15b0; simp only [hl4_4] at c15z0))
          clear c15
          by_cases c36 : 0 ≤ ji3
          ·
           rw [if_pos c36] at H
           have c36b0 := eq_true c36
           have c36b1 : decide (0 ≤ ji3) = true := decide_eq_true c36
           clear c36
           by_cases c37 : (ji3 : Int).toNat ≤ 35184372088832
           ·
            rw [if_pos c37] at H
            have c37b0 := eq_true c37
            have c37b1 : decide ((ji3 : Int).toNat ≤ 35184372088832) = true := decide_eq_true c37
            clear c37
            obtain ⟨y198, hy198⟩ : ∃ y_ : List Int, y_ = (List.replicate (ji3 : Int).toNat 0) := ⟨_, rfl⟩
            replace H : (if (ji3 : Int).toNat ≤ 281474976710656 then (impl_decodingBits.l4 k2 l0 ji3 x4_2 x6_2 y198 (List.replicate (ji3 : Int).toNat false) ji3 0) else (none)) = some r := by first | (rw [hy198]; with_reducible exact H) | (have H2_ := (Option.bind_some _ _).symm.trans H; rw [hy198]; with_reducible exact H2_) | (have H2_ := (Option.bind_some _ _).symm.trans H; with_reducible exact H2_) | with_reducible exact H | (rw [hy198]; exact H) | exact H
            have Ny198 := zm hy198
            clear hy198
            by_cases c38 : (ji3 : Int).toNat ≤ 281474976710656
            ·
             rw [if_pos c38] at H
             have c38b0 := eq_true c38
             have c38b1 : decide ((ji3 : Int).toNat ≤ 281474976710656) = true := decide_eq_true c38
             clear c38
             obtain ⟨y201, hy201⟩ : ∃ y_ : List Bool, y_ = (List.replicate (ji3 : Int).toNat false) := ⟨_, rfl⟩
             replace H : (impl_decodingBits.l4 k2 l0 ji3 x4_2 x6_2 y198 y201 ji3 0) = some r := by first | (rw [hy201]; with_reducible exact H) | (have H2_ := (Option.bind_some _ _).symm.trans H; rw [hy201]; with_reducible exact H2_) | (have H2_ := (Option.bind_some _ _).symm.trans H; with_reducible exact H2_) | with_reducible exact H | (rw [hy201]; exact H) | exact H
             have Ny201 := zm hy201
             clear hy201
             have H' := zm H
             clear H
             go_wp2_with (first | ((with_reducible refine gate_dst (N := 91) rfl ?_); refine Kd.R_make (Kd.int .i64) _ 3 rfl (N := 91) rfl 38 _ _ rfl ji3 rfl rfl Try.underlying38 (.int .i64 0) 8 info3 rfl (by decide) (by omega) 0 (ok := fun _ => True) (okp := fun _ => True) rfl (fun _ hk => hk) trivial (of_decide_eq_true (by first | (with_reducible assumption) | assumption)) (Nat.le_trans (Nat.mul_le_mul_right _ (of_decide_eq_true (by first | (with_reducible assumption) | assumption) : ji3.toNat ≤ 35184372088832)) (by omega)) (Below.refl _ _) (Nat.le_refl _) ?_; intro v199 w39 ho40 hb hg_ hnew_; clear hg_ hnew_; (first | rw [← Ny198.out] at ho40 | (simp only [Int.reduceToNat] at ho40; rw [← Ny198.out] at ho40)); have n0_ := zm (Kd.R_elder' (by (with_reducible repeat (first | apply Kd.R_alloc | apply Kd.R_drewN | apply Kd.R_drew)); exact HO_4.out) (Kd.R_base ho40) hb); have n1_ := zm (Kd.R_lower (Kd.R_new' ho40 (Kd.R_lt (by (with_reducible repeat (first | apply Kd.R_alloc | apply Kd.R_drewN | apply Kd.R_drew)); exact HO_4.out))) (below_size zb)); have n2_ := zm (below_step zb hb); clear HO_4; clear HB; have HO_4 := n0_; have HO200 := n1_; have HB := n2_; clear n0_ n1_ n2_; clear hb ho40) | ((with_reducible refine gate_dst (N := 93) rfl ?_); refine Kd.R_make Kd.bool _ 4 rfl (N := 93) rfl 132 _ _ rfl ji3 rfl rfl Try.underlying132 (.bool false) 1 info4 rfl (by decide) (by omega) false (ok := fun _ => True) (okp := fun _ => True) rfl (fun _ hk => hk) trivial (of_decide_eq_true (by first | (with_reducible assumption) | assumption)) (Nat.le_trans (Nat.mul_le_mul_right _ (of_decide_eq_true (by first | (with_reducible assumption) | assumption) : ji3.toNat ≤ 281474976710656)) (by omega)) (Below.refl _ _) (Nat.le_refl _) ?_; intro v202 w41 ho42 hb hg_ hnew_; clear hg_ hnew_; (first | rw [← Ny201.out] at ho42 | (simp only [Int.reduceToNat] at ho42; rw [← Ny201.out] at ho42)); have n0_ := zm (Kd.R_below (by (with_reducible repeat (first | apply Kd.R_alloc | apply Kd.R_drewN | apply Kd.R_drew)); exact HO_4.out) hb); have n1_ := zm (Kd.R_below (by (with_reducible repeat (first | apply Kd.R_alloc | apply Kd.R_drewN | apply Kd.R_drew)); exact HO200.out) hb); have n2_ := zm (Kd.R_lower ho42 (below_size zb)); have n3_ := zm (below_step zb hb); clear HO_4; clear HO200; clear HB; have HO_4 := n0_; have HO200 := n1_; have HO203 := n2_; have HB := n3_; clear n0_ n1_ n2_ n3_; clear hb ho42) | ((with_reducible refine impl_decodingBits.gq ?_); go_quiet (fail)))
             go_loopg [95] k2 (fun kq v95 w' => ∃ (x12_3 : List Int) (x13_3 : List Bool) (x95_3 : Int), v95 = .int .i64 x95_3 ∧ Aside0 (impl_decodingBits.l4 kq l0 ji3 x4_2 x6_2 x12_3 x13_3 ji3 x95_3 = some r) ∧ Aside0 (kq ≤ k2) ∧ Aside0 (Kd.R (Kd.int .i64) 3 w' w.heap.size (fun k_ => some k_ ≠ (v199 : Value).ownBlock) (.slice Ao8 x4_2.length co8) x4_2) ∧ Aside0 (Kd.R (Kd.int .i64) 3 w' w.heap.size (fun k_ => some k_ ≠ ((.slice Ao8 x4_2.length co8) : Value).ownBlock) v199 x12_3) ∧ Aside0 (Kd.R Kd.bool 4 w' w.heap.size (fun _ => True) v202 x13_3) ∧ Aside0 (Below w.heap.size w w'))
             case atStart => exact ⟨(y198), (y201), (0), (by first | rfl | (simp; done) | (simp [*]; done)), H', ⟨Nat.le_refl _⟩, ⟨by (try simp only [hl4_1]); (try simp only [hl4_2]); (with_reducible repeat (first | apply Kd.R_alloc | apply Kd.R_drewN | apply Kd.R_drew)); exact zM HO_4.out⟩, ⟨by (try simp only [hl4_1]); (try simp only [hl4_2]); (with_reducible repeat (first | apply Kd.R_alloc | apply Kd.R_drewN | apply Kd.R_drew)); exact Kd.R_mono HO200.out (fun _ hk => hk.2)⟩, ⟨by (try simp only [hl4_1]); (try simp only [hl4_2]); (with_reducible repeat (first | apply Kd.R_alloc | apply Kd.R_drewN | apply Kd.R_drew)); exact HO203.out⟩, ⟨zb⟩⟩
             case round =>
              clear H'
              (try clear c1); (try clear p1); (try clear q1); (try clear hx1); (try clear qi1); (try clear hf1); (try clear c2); (try clear c2b0); (try clear c2b1); (try clear p2); (try clear q2); (try clear hx2); (try clear c3); (try clear p3); (try clear q3); (try clear hx3); (try clear hf3); (try clear c4); (try clear c4b0); (try clear c4b1); (try clear c5); (try clear c5b0); (try clear c5b1); (try clear p6); (try clear c9); (try clear c9b0); (try clear c10); (try clear c10b0); (try clear c11); (try clear c11b0); (try clear p12); (try clear q12); (try clear hx12); (try clear hf12); (try clear c15); (try clear c15b0); (try clear c16); (try clear c16b0); (try clear c17); (try clear c17b0); (try clear c18); (try clear c18b0); (try clear p18); (try clear q18); (try clear hx18); (try clear qi18); (try clear c19); (try clear c19b0); (try clear p19); (try clear q19); (try clear hx19); (try clear c20); (try clear c20b0); (try clear c21); (try clear c21b0); (try clear c22); (try clear c22b0); (try clear p23); (try clear q23); (try clear hx23); (try clear c24); (try clear c24b0); (try clear c24b1); (try clear c25); (try clear c25b0); (try clear c27); (try clear c27b0); (try clear c28); (try clear c28b0); (try clear c29); (try clear c29b0); (try clear c30); (try clear c30b0); (try clear c31); (try clear c31b0); (try clear c32); (try clear c32b0); (try clear c32b1); (try clear p33); (try clear q33); (try clear hx33); (try clear hf33); (try clear c36); (try clear c36b0); (try clear c36b1); (try clear c37); (try clear c37b0); (try clear c37b1); (try clear c38); (try clear c38b0); (try clear c38b1); (try clear hx12_0); (try clear hx187_0); (try clear hx192_0); (try clear hx193_0); (try clear hx194_0); (try clear hx195_0); (try clear hx196_0); (try clear hx33_0); (try clear p1); (try clear p12); (try clear p18); (try clear p187); (try clear p19); (try clear p192); (try clear p193); (try clear p194); (try clear p195); (try clear p196); (try clear p2); (try clear p23); (try clear p33); (try clear p6); (try clear q1); (try clear q12); (try clear q18); (try clear q187); (try clear q19); (try clear q192); (try clear q193); (try clear q194); (try clear q195); (try clear q196); (try clear q2); (try clear q23); (try clear q33)
              obtain ⟨x12_3, x13_3, x95_3, rfl, HA, HK3, HO_4, HO_12, HO_13, HB⟩ := hrel
              cases gk with
              | zero => exact absurd HA.out (by simp [impl_decodingBits.l4])
              | succ k3 =>
               have H := HA.out
               clear HA
               simp only [impl_decodingBits.l4] at H
               by_cases c43 : x95_3 < ji3
               ·
                rw [if_pos c43] at H
                have c43b0 : decide (x95_3 < ji3) = true := decide_eq_true c43
                clear c43
                replace H := Option.bind_eq_some_iff.mp H
                obtain ⟨⟨t204, t205⟩, A440, H⟩ := H
                (try dsimp only at H)
                have A44 := zm A440
                clear A440
                by_cases c45 : 0 ≤ x95_3
                ·
                 rw [if_pos c45] at H
                 have c45b0 : decide (0 ≤ x95_3) = true := decide_eq_true c45
                 clear c45
                 by_cases c46 : x95_3 < (x4_2.length : Int)
                 ·
                  rw [if_pos c46] at H
                  have c46b0 : decide (x95_3 < (x4_2.length : Int)) = true := decide_eq_true c46
                  clear c46
                  by_cases c47 : 0 ≤ (rd x4_2 x95_3)
                  ·
                   rw [if_pos c47] at H
                   have c47b0 : decide (0 ≤ (rd x4_2 x95_3)) = true := decide_eq_true c47
                   clear c47
                   by_cases c48 : (rd x4_2 x95_3) < (x12_3.length : Int)
                   ·
                    rw [if_pos c48] at H
                    have c48b0 : decide ((rd x4_2 x95_3) < (x12_3.length : Int)) = true := decide_eq_true c48
                    clear c48
                    obtain ⟨y208, hy208⟩ : ∃ y_ : List Int, y_ = (x12_3.set ((rd x4_2 x95_3) : Int).toNat (wrap64 ((rd x12_3 (rd x4_2 x95_3)) + t204))) := ⟨_, rfl⟩
                    replace H : (if (rd x4_2 x95_3) < (x13_3.length : Int) then (impl_decodingBits.l4 k3 l0 ji3 x4_2 x6_2 y208 (x13_3.set ((rd x4_2 x95_3) : Int).toNat true) ji3 (wrap64 (x95_3 + 1))) else (none)) = some r := by first | (rw [hy208]; with_reducible exact H) | (have H2_ := (Option.bind_some _ _).symm.trans H; rw [hy208]; with_reducible exact H2_) | (have H2_ := (Option.bind_some _ _).symm.trans H; with_reducible exact H2_) | with_reducible exact H | (rw [hy208]; exact H) | exact H
                    have Ny208 := zm hy208
                    clear hy208
                    by_cases c50 : (rd x4_2 x95_3) < (x13_3.length : Int)
                    ·
                     rw [if_pos c50] at H
                     have c50b0 : decide ((rd x4_2 x95_3) < (x13_3.length : Int)) = true := decide_eq_true c50
                     clear c50
                     obtain ⟨y210, hy210⟩ : ∃ y_ : List Bool, y_ = (x13_3.set ((rd x4_2 x95_3) : Int).toNat true) := ⟨_, rfl⟩
                     replace H : (impl_decodingBits.l4 k3 l0 ji3 x4_2 x6_2 y208 y210 ji3 (wrap64 (x95_3 + 1))) = some r := by first | (rw [hy210]; with_reducible exact H) | (have H2_ := (Option.bind_some _ _).symm.trans H; rw [hy210]; with_reducible exact H2_) | (have H2_ := (Option.bind_some _ _).symm.trans H; with_reducible exact H2_) | with_reducible exact H | (rw [hy210]; exact H) | exact H
                     have Ny210 := zm hy210
                     clear hy210
                     have H' := zm H
                     clear H
                     go_wp2_with (first | (go_at_call 127; (with_reducible refine (impl_lineCounts.calls k3 _ _ l0 x95_3 t204 t205 _ ?side1 ?side2 A44.out).mono ?_); (case side1 => repeat (first | exact (Kd.C_below HR0.out HB.out) | (with_reducible refine Kd.C_alloc ?_ _) | (with_reducible refine Kd.C_drewN ?_ _) | (with_reducible refine Kd.C_drew ?_))); (case side2 => exact HC0.out); rintro e w52 ⟨rfl, hb⟩; have n0_ := zm (Kd.R_below (by (with_reducible repeat (first | apply Kd.R_alloc | apply Kd.R_drewN | apply Kd.R_drew)); exact HO_4.out) hb); have n1_ := zm (Kd.R_below (by (with_reducible repeat (first | apply Kd.R_alloc | apply Kd.R_drewN | apply Kd.R_drew)); exact HO_12.out) hb); have n2_ := zm (Kd.R_below (by (with_reducible repeat (first | apply Kd.R_alloc | apply Kd.R_drewN | apply Kd.R_drew)); exact HO_13.out) hb); have n3_ := zm (below_step zb hb); clear HO_4; clear HO_12; clear HO_13; clear HB; have HO_4 := n0_; have HO_12 := n1_; have HO_13 := n2_; have HB := n3_; clear n0_ n1_ n2_ n3_; (try clear hb); (try clear hb2); (try clear hk); (try clear hi); have p206 : 0 ≤ (x95_3 : Int) := zd; have q206 : x95_3 < (x4_2.length : Int) := zd; obtain ⟨ad206, e206, hx206_0⟩ := Kd.at_int (Kd.R_reads' HO_4.out).2.2 x95_3 p206 q206; cases e206; replace p206 := eq_true p206; replace q206 := eq_true q206; obtain ⟨Ao53, co53, eo53⟩ := Kd.R_slice HO_12.out; subst eo53; have p207 : 0 ≤ ((rd x4_2 x95_3) : Int) := zd; have q207 : (rd x4_2 x95_3) < (x12_3.length : Int) := zd; obtain ⟨ad207, e207, hx207_0⟩ := Kd.at_int (Kd.R_reads' HO_12.out).2.2 (rd x4_2 x95_3) p207 q207; cases e207; replace p207 := eq_true p207; replace q207 := eq_true q207; have p49 : 0 ≤ ((rd x4_2 x95_3) : Int) := zd; have q49 : ((rd x4_2 x95_3) : Int) < ((x12_3.length : Int) : Int) := zd; obtain ⟨go49, co49, eo49, gb49, gl49, cl49, HG49⟩ := Kd.R_form HO_12.out (by omega); (first | cases eo49 | (injection eo49 with ea_ en_ ec_; (first | subst ea_ | (injection ea_ with ea_; subst ea_)); subst ec_; clear en_)); have GB49 := zm gb49; have GG49 := zm HG49; clear gb49 gl49 HG49; (first | simp only [add_plain] at hx207_0 | skip); obtain ⟨hx49_0, hf49_0⟩ := Kd.R_celln 0 HO_12.out ((rd x4_2 x95_3) : Int) p49 q49; replace p49 := eq_true p49; replace q49 := eq_true q49; obtain ⟨hy54_, hz54_⟩ := Kd.R_celln 0 HO_12.out ((rd x4_2 x95_3) : Int) (of_decide_eq_true (by first | (with_reducible assumption) | assumption)) (of_decide_eq_true (by first | (with_reducible assumption) | assumption)); have HP54 := Kd.R_putg HO_12.out ((rd x4_2 x95_3) : Int) (wrap64 ((rd x12_3 (rd x4_2 x95_3)) + t204))) | ((with_reducible refine gate_store (t := 3) (p := 113) rfl ?_); (try (rw [drewN_self w52]; generalize hq_ : World.drewN w52 _ = w52; have n0_ := zm (Kd.R_at hq_ HO_4.out); have n1_ := zm (Kd.R_at hq_ HO_12.out); have n2_ := zm (Kd.R_at hq_ HO_13.out); have n3_ := zm (below_at hq_ HB.out); clear hq_ HO_4 HO_12 HO_13 HB; have HO_4 := n0_; have HO_12 := n1_; have HO_13 := n2_; have HB := n3_; clear n0_ n1_ n2_ n3_; (try (obtain ⟨hy54_, hz54_⟩ := Kd.R_celln 0 HO_12.out ((rd x4_2 x95_3) : Int) (of_decide_eq_true (by first | (with_reducible assumption) | assumption)) (of_decide_eq_true (by first | (with_reducible assumption) | assumption)))); (try (have HP54 := Kd.R_putg HO_12.out ((rd x4_2 x95_3) : Int) (wrap64 ((rd x12_3 (rd x4_2 x95_3)) + t204)))))); refine store_event (t := 3) (p := 113) (v := ?vo_w55) (w1 := (w52.setCell ⟨go49, ((rd x4_2 x95_3) : Int).toNat, none⟩ (.int .i64 (wrap64 ((rd x12_3 (rd x4_2 x95_3)) + t204))))) ?hg ?ho ?hn ?hr ?_; (case ho => rfl); (case hg => rfl); (case hn => rfl); (case hr => first | (go_simp; done) | (go_simp; rfl)); intro w55 hw; have hg : w52.grownBy w55 (some go49) := (by rw [hw]; exact HP54.2); have hp_ : Kd.R (Kd.int .i64) 3 w55 w.heap.size (fun k_ => some k_ ≠ (.slice (some ad206) x4_2.length co8 : Value).ownBlock) (.slice (some ⟨go49, 0, none⟩) x12_3.length co53) y208 := (by rw [hw, Ny208.out]; exact HP54.1); clear HP54; have n0_ := zm (Kd.R_after (v := (.slice (some ⟨go49, 0, none⟩) x12_3.length co53)) (v1 := (.slice (some ⟨go49, 0, none⟩) x12_3.length co53)) (ok := (fun _ => True)) (by (with_reducible repeat (first | apply Kd.R_alloc | apply Kd.R_drewN | apply Kd.R_drew)); exact Kd.R_mono HO_4.out (fun _ hk => ⟨trivial, hk⟩)) hg (.inl rfl)); have n1_ := zm (hp_); have n2_ := zm (Kd.R_over' (v := (.slice (some ⟨go49, 0, none⟩) x12_3.length co53)) (by (with_reducible repeat (first | apply Kd.R_alloc | apply Kd.R_drewN | apply Kd.R_drew)); exact HO_13.out) (Kd.R_typed HO_12.out) (by decide) hg); have n3_ := zm ((by rw [hw]; exact below_set (HB.out) GB49.out : Below w.heap.size w w55)); clear HO_4; clear HO_12; clear HO_13; clear HB; have HO_4 := n0_; have HO_12 := n1_; have HO_13 := n2_; have HB := n3_; clear n0_ n1_ n2_ n3_; clear hg hw hp_; have p209 : 0 ≤ (x95_3 : Int) := zd; have q209 : x95_3 < (x4_2.length : Int) := zd; obtain ⟨ad209, e209, hx209_0⟩ := Kd.at_int (Kd.R_reads' HO_4.out).2.2 x95_3 p209 q209; obtain rfl : ad206 = ad209 := (by injection e209); replace p209 := eq_true p209; replace q209 := eq_true q209; have p51 : 0 ≤ ((rd x4_2 x95_3) : Int) := zd; have q51 : ((rd x4_2 x95_3) : Int) < ((x13_3.length : Int) : Int) := zd; obtain ⟨go51, co51, eo51, gb51, gl51, cl51, HG51⟩ := Kd.R_form HO_13.out (by omega); (first | cases eo51 | (injection eo51 with ea_ en_ ec_; (first | subst ea_ | (injection ea_ with ea_; subst ea_)); subst ec_; clear en_)); have GB51 := zm gb51; have GG51 := zm HG51; clear gb51 gl51 HG51; obtain ⟨hx51_0, hf51_0⟩ := Kd.R_celln false HO_13.out ((rd x4_2 x95_3) : Int) p51 q51; replace p51 := eq_true p51; replace q51 := eq_true q51; obtain ⟨hy56_, hz56_⟩ := Kd.R_celln false HO_13.out ((rd x4_2 x95_3) : Int) (of_decide_eq_true (by first | (with_reducible assumption) | assumption)) (of_decide_eq_true (by first | (with_reducible assumption) | assumption)); have HP56 := Kd.R_putg HO_13.out ((rd x4_2 x95_3) : Int) true) | ((with_reducible refine gate_store (t := 4) (p := 119) rfl ?_); (try (rw [drewN_self w55]; generalize hq_ : World.drewN w55 _ = w55; have n0_ := zm (Kd.R_at hq_ HO_4.out); have n1_ := zm (Kd.R_at hq_ HO_12.out); have n2_ := zm (Kd.R_at hq_ HO_13.out); have n3_ := zm (below_at hq_ HB.out); clear hq_ HO_4 HO_12 HO_13 HB; have HO_4 := n0_; have HO_12 := n1_; have HO_13 := n2_; have HB := n3_; clear n0_ n1_ n2_ n3_; (try (obtain ⟨hy56_, hz56_⟩ := Kd.R_celln false HO_13.out ((rd x4_2 x95_3) : Int) (of_decide_eq_true (by first | (with_reducible assumption) | assumption)) (of_decide_eq_true (by first | (with_reducible assumption) | assumption)))); (try (have HP56 := Kd.R_putg HO_13.out ((rd x4_2 x95_3) : Int) true)))); refine store_event (t := 4) (p := 119) (v := ?vo_w57) (w1 := (w55.setCell ⟨go51, ((rd x4_2 x95_3) : Int).toNat, none⟩ (.bool true))) ?hg ?ho ?hn ?hr ?_; (case ho => rfl); (case hg => rfl); (case hn => rfl); (case hr => first | (go_simp; done) | (go_simp; rfl)); intro w57 hw; have hg : w55.grownBy w57 (some go51) := (by rw [hw]; exact HP56.2); have hp_ : Kd.R Kd.bool 4 w57 w.heap.size (fun _ => True) (.slice (some ⟨go51, 0, none⟩) x13_3.length co51) y210 := (by rw [hw, Ny210.out]; exact HP56.1); clear HP56; have n0_ := zm (Kd.R_over' (v := (.slice (some ⟨go51, 0, none⟩) x13_3.length co51)) (by (with_reducible repeat (first | apply Kd.R_alloc | apply Kd.R_drewN | apply Kd.R_drew)); exact HO_4.out) (Kd.R_typed HO_13.out) (by decide) hg); have n1_ := zm (Kd.R_over' (v := (.slice (some ⟨go51, 0, none⟩) x13_3.length co51)) (by (with_reducible repeat (first | apply Kd.R_alloc | apply Kd.R_drewN | apply Kd.R_drew)); exact HO_12.out) (Kd.R_typed HO_13.out) (by decide) hg); have n2_ := zm (hp_); have n3_ := zm ((by rw [hw]; exact below_set (HB.out) GB51.out : Below w.heap.size w w57)); clear HO_4; clear HO_12; clear HO_13; clear HB; have HO_4 := n0_; have HO_12 := n1_; have HO_13 := n2_; have HB := n3_; clear n0_ n1_ n2_ n3_; clear hg hw hp_) | ((with_reducible refine impl_decodingBits.gq ?_); go_quiet (first | (go_at_call 127; (with_reducible refine (impl_lineCounts.calls k3 _ _ l0 x95_3 t204 t205 _ ?side1 ?side2 A44.out).mono ?_); (case side1 => repeat (first | exact (Kd.C_below HR0.out HB.out) | (with_reducible refine Kd.C_alloc ?_ _) | (with_reducible refine Kd.C_drewN ?_ _) | (with_reducible refine Kd.C_drew ?_))); (case side2 => exact HC0.out); rintro e w52 ⟨rfl, hb⟩; have n0_ := zm (Kd.R_below (by (with_reducible repeat (first | apply Kd.R_alloc | apply Kd.R_drewN | apply Kd.R_drew)); exact HO_4.out) hb); have n1_ := zm (Kd.R_below (by (with_reducible repeat (first | apply Kd.R_alloc | apply Kd.R_drewN | apply Kd.R_drew)); exact HO_12.out) hb); have n2_ := zm (Kd.R_below (by (with_reducible repeat (first | apply Kd.R_alloc | apply Kd.R_drewN | apply Kd.R_drew)); exact HO_13.out) hb); have n3_ := zm (below_step zb hb); clear HO_4; clear HO_12; clear HO_13; clear HB; have HO_4 := n0_; have HO_12 := n1_; have HO_13 := n2_; have HB := n3_; clear n0_ n1_ n2_ n3_; (try clear hb); (try clear hb2); (try clear hk); (try clear hi); have p206 : 0 ≤ (x95_3 : Int) := zd; have q206 : x95_3 < (x4_2.length : Int) := zd; obtain ⟨ad206, e206, hx206_0⟩ := Kd.at_int (Kd.R_reads' HO_4.out).2.2 x95_3 p206 q206; cases e206; replace p206 := eq_true p206; replace q206 := eq_true q206; obtain ⟨Ao53, co53, eo53⟩ := Kd.R_slice HO_12.out; subst eo53; have p207 : 0 ≤ ((rd x4_2 x95_3) : Int) := zd; have q207 : (rd x4_2 x95_3) < (x12_3.length : Int) := zd; obtain ⟨ad207, e207, hx207_0⟩ := Kd.at_int (Kd.R_reads' HO_12.out).2.2 (rd x4_2 x95_3) p207 q207; cases e207; replace p207 := eq_true p207; replace q207 := eq_true q207; have p49 : 0 ≤ ((rd x4_2 x95_3) : Int) := zd; have q49 : ((rd x4_2 x95_3) : Int) < ((x12_3.length : Int) : Int) := zd; obtain ⟨go49, co49, eo49, gb49, gl49, cl49, HG49⟩ := Kd.R_form HO_12.out (by omega); (first | cases eo49 | (injection eo49 with ea_ en_ ec_; (first | subst ea_ | (injection ea_ with ea_; subst ea_)); subst ec_; clear en_)); have GB49 := zm gb49; have GG49 := zm HG49; clear gb49 gl49 HG49; (first | simp only [add_plain] at hx207_0 | skip); obtain ⟨hx49_0, hf49_0⟩ := Kd.R_celln 0 HO_12.out ((rd x4_2 x95_3) : Int) p49 q49; replace p49 := eq_true p49; replace q49 := eq_true q49; obtain ⟨hy54_, hz54_⟩ := Kd.R_celln 0 HO_12.out ((rd x4_2 x95_3) : Int) (of_decide_eq_true (by first | (with_reducible assumption) | assumption)) (of_decide_eq_true (by first | (with_reducible assumption) | assumption)); have HP54 := Kd.R_putg HO_12.out ((rd x4_2 x95_3) : Int) (wrap64 ((rd x12_3 (rd x4_2 x95_3)) + t204))))))
                     go_roundg k3
                     case measure => have := HK1.out; have := HK2.out; have := HK3.out; omega
                     case rel => exact ⟨(y208), (y210), (wrap64 (x95_3 + 1)), (by first | rfl | (simp; done) | (simp [*]; done)), H', ⟨by have := HK1.out; have := HK2.out; have := HK3.out; omega⟩, ⟨by (try simp only [hl4_1]); (try simp only [hl4_2]); (with_reducible repeat (first | apply Kd.R_alloc | apply Kd.R_drewN | apply Kd.R_drew)); exact zM HO_4.out⟩, ⟨by (try simp only [hl4_1]); (try simp only [hl4_2]); (with_reducible repeat (first | apply Kd.R_alloc | apply Kd.R_drewN | apply Kd.R_drew)); exact HO_12.out⟩, ⟨by (try simp only [hl4_1]); (try simp only [hl4_2]); (with_reducible repeat (first | apply Kd.R_alloc | apply Kd.R_drewN | apply Kd.R_drew)); exact HO_13.out⟩, ⟨zb⟩⟩
                    ·
                     rw [if_neg c50] at H
                     exact absurd H (by simp)
                   ·
                    rw [if_neg c48] at H
                    exact absurd H (by simp)
                  ·
                   rw [if_neg c47] at H
                   exact absurd H (by simp)
                 ·
                  rw [if_neg c46] at H
                  exact absurd H (by simp)
                ·
                 rw [if_neg c45] at H
                 exact absurd H (by simp)
               ·
                rw [if_neg c43] at H
                have c43b0 : decide (x95_3 < ji3) = false := decide_eq_false c43
                clear c43
                have H' := zm H
                clear H
                go_wp2
                repeat (go_quiet (fail); try go_wp2)
                go_loopg [6, 122] k3 (fun kq v6 v122 w' => ∃ (x6_4 : Int) (x122_4 : Int), v6 = .int .i64 x6_4 ∧ v122 = .int .i64 x122_4 ∧ Aside0 (impl_decodingBits.l5 kq x6_4 x12_3 x13_3 ji3 x122_4 = some r) ∧ Aside0 (kq ≤ k3) ∧ Aside0 (Kd.R (Kd.int .i64) 3 w' w.heap.size (fun _ => True) v199 x12_3) ∧ Aside0 (Kd.R Kd.bool 4 w' w.heap.size (fun _ => True) v202 x13_3) ∧ Aside0 (Below w.heap.size w w'))
                case atStart => exact ⟨(x6_2), (0), (by first | rfl | (simp; done) | (simp [*]; done)), (by first | rfl | (simp; done) | (simp [*]; done)), H', ⟨Nat.le_refl _⟩, ⟨by (try simp only [hl4_1]); (try simp only [hl4_2]); (with_reducible repeat (first | apply Kd.R_alloc | apply Kd.R_drewN | apply Kd.R_drew)); exact Kd.R_mono HO_12.out (fun _ hk => trivial)⟩, ⟨by (try simp only [hl4_1]); (try simp only [hl4_2]); (with_reducible repeat (first | apply Kd.R_alloc | apply Kd.R_drewN | apply Kd.R_drew)); exact HO_13.out⟩, ⟨zb⟩⟩
                case round =>
                 clear H'
                 (try clear c1); (try clear p1); (try clear q1); (try clear hx1); (try clear qi1); (try clear hf1); (try clear c2); (try clear c2b0); (try clear c2b1); (try clear p2); (try clear q2); (try clear hx2); (try clear c3); (try clear p3); (try clear q3); (try clear hx3); (try clear hf3); (try clear c4); (try clear c4b0); (try clear c4b1); (try clear p4); (try clear q4); (try clear hx4); (try clear hf4); (try clear c5); (try clear c5b0); (try clear c5b1); (try clear p5); (try clear q5); (try clear hx5); (try clear hf5); (try clear p6); (try clear c9); (try clear c9b0); (try clear c10); (try clear c10b0); (try clear c11); (try clear c11b0); (try clear p12); (try clear q12); (try clear hx12); (try clear hf12); (try clear c15); (try clear c15b0); (try clear c16); (try clear c16b0); (try clear c17); (try clear c17b0); (try clear c18); (try clear c18b0); (try clear p18); (try clear q18); (try clear hx18); (try clear qi18); (try clear c19); (try clear c19b0); (try clear p19); (try clear q19); (try clear hx19); (try clear c20); (try clear c20b0); (try clear p20); (try clear q20); (try clear hx20); (try clear c21); (try clear c21b0); (try clear c22); (try clear c22b0); (try clear p23); (try clear q23); (try clear hx23); (try clear c24); (try clear c24b0); (try clear c24b1); (try clear c25); (try clear c25b0); (try clear c27); (try clear c27b0); (try clear c28); (try clear c28b0); (try clear c29); (try clear c29b0); (try clear c30); (try clear c30b0); (try clear c31); (try clear c31b0); (try clear c32); (try clear c32b0); (try clear c32b1); (try clear p33); (try clear q33); (try clear hx33); (try clear hf33); (try clear c36); (try clear c36b0); (try clear c36b1); (try clear c37); (try clear c37b0); (try clear c37b1); (try clear c38); (try clear c38b0); (try clear c38b1); (try clear c43); (try clear c43b0); (try clear c45); (try clear c45b0); (try clear c46); (try clear c46b0); (try clear c47); (try clear c47b0); (try clear c48); (try clear c48b0); (try clear p49); (try clear q49); (try clear hx49); (try clear hf49); (try clear c50); (try clear c50b0); (try clear p51); (try clear q51); (try clear hx51); (try clear hf51); (try clear hx12_0); (try clear hx187_0); (try clear hx192_0); (try clear hx193_0); (try clear hx194_0); (try clear hx195_0); (try clear hx196_0); (try clear hx206_0); (try clear hx207_0); (try clear hx209_0); (try clear hx33_0); (try clear hx49_0); (try clear hx51_0); (try clear p1); (try clear p12); (try clear p18); (try clear p187); (try clear p19); (try clear p192); (try clear p193); (try clear p194); (try clear p195); (try clear p196); (try clear p2); (try clear p206); (try clear p207); (try clear p209); (try clear p23); (try clear p3); (try clear p33); (try clear p49); (try clear p51); (try clear p6); (try clear q1); (try clear q12); (try clear q18); (try clear q187); (try clear q19); (try clear q192); (try clear q193); (try clear q194); (try clear q195); (try clear q196); (try clear q2); (try clear q206); (try clear q207); (try clear q209); (try clear q23); (try clear q3); (try clear q33); (try clear q49); (try clear q51)
                 obtain ⟨x6_4, x122_4, rfl, rfl, HA, HK4, HO_12, HO_13, HB⟩ := hrel
                 cases gk with
                 | zero => exact absurd HA.out (by simp [impl_decodingBits.l5])
                 | succ k4 =>
                  have H := HA.out
                  clear HA
                  simp only [impl_decodingBits.l5] at H
                  by_cases c58 : x122_4 < ji3
                  ·
                   rw [if_pos c58] at H
                   have c58b0 : decide (x122_4 < ji3) = true := decide_eq_true c58
                   clear c58
                   by_cases c59 : 0 ≤ x122_4
                   ·
                    rw [if_pos c59] at H
                    have c59b0 : decide (0 ≤ x122_4) = true := decide_eq_true c59
                    clear c59
                    by_cases c60 : x122_4 < (x13_3.length : Int)
                    ·
                     rw [if_pos c60] at H
                     have c60b0 : decide (x122_4 < (x13_3.length : Int)) = true := decide_eq_true c60
                     clear c60
                     obtain ⟨bq61, hbq61⟩ : ∃ b_ : Bool, b_ = (rdOf false x13_3 x122_4) := ⟨_, rfl⟩
                     replace H : (if bq61 = true then (if x122_4 < (x12_3.length : Int) then (if (Int.tmod (rd x12_3 x122_4) 2) = 0 then (impl_decodingBits.l5 k4 (wrap64 (x6_4 + 1)) x12_3 x13_3 ji3 (wrap64 (x122_4 + 1))) else (some (-1))) else (none)) else (impl_decodingBits.l5 k4 x6_4 x12_3 x13_3 ji3 (wrap64 (x122_4 + 1)))) = some r := by rw [← hbq61] at H; exact H
                     have Nbq61 := zm hbq61
                     clear hbq61
                     by_cases c62 : bq61 = true
                     ·
                      subst c62
                      have H1 : (if x122_4 < (x12_3.length : Int) then (if (Int.tmod (rd x12_3 x122_4) 2) = 0 then (impl_decodingBits.l5 k4 (wrap64 (x6_4 + 1)) x12_3 x13_3 ji3 (wrap64 (x122_4 + 1))) else (some (-1))) else (none)) = some r := by rw [if_pos rfl] at H; exact H
                      clear H
                      have H := H1
                      clear H1
                      by_cases c63 : x122_4 < (x12_3.length : Int)
                      ·
                       rw [if_pos c63] at H
                       have c63b0 : decide (x122_4 < (x12_3.length : Int)) = true := decide_eq_true c63
                       clear c63
                       by_cases c64 : (Int.tmod (rd x12_3 x122_4) 2) = 0
                       ·
                        rw [if_pos c64] at H
                        have c64b0 : ((Int.tmod (rd x12_3 x122_4) 2) == 0) = true := beq_iff_eq.mpr c64
                        have c64b1 : ((Int.tmod (rd x12_3 x122_4) 2) != 0) = false := bne_eq_false_iff_eq.mpr c64
                        clear c64
                        have H' := zm H
                        clear H
                        obtain ⟨Ao65, co65, eo65⟩ := Kd.R_slice HO_13.out
                        subst eo65
                        have p211 : 0 ≤ (x122_4 : Int) := zd
                        have q211 : x122_4 < (x13_3.length : Int) := zd
                        obtain ⟨ad211, e211, hx211_0⟩ := Kd.at_bool (Kd.R_reads' HO_13.out).2.2 x122_4 p211 q211
                        (try rw [← Nbq61.out] at hx211_0)
                        cases e211
                        replace p211 := eq_true p211
                        replace q211 := eq_true q211
                        obtain ⟨Ao66, co66, eo66⟩ := Kd.R_slice HO_12.out
                        subst eo66
                        have p212 : 0 ≤ (x122_4 : Int) := zd
                        have q212 : x122_4 < (x12_3.length : Int) := zd
                        obtain ⟨ad212, e212, hx212_0⟩ := Kd.at_int (Kd.R_reads' HO_12.out).2.2 x122_4 p212 q212
                        cases e212
                        replace p212 := eq_true p212
                        replace q212 := eq_true q212
                        go_wp2
                        repeat (go_quiet (fail); try go_wp2)
                        go_roundg k4
                        case measure => have := HK1.out; have := HK2.out; have := HK3.out; have := HK4.out; omega
                        case rel => exact ⟨(wrap64 (x6_4 + 1)), (wrap64 (x122_4 + 1)), (by first | rfl | (simp; done) | (simp [*]; done)), (by first | rfl | (simp; done) | (simp [*]; done)), H', ⟨by have := HK1.out; have := HK2.out; have := HK3.out; have := HK4.out; omega⟩, ⟨by (try simp only [hl4_1]); (try simp only [hl4_2]); (with_reducible repeat (first | apply Kd.R_alloc | apply Kd.R_drewN | apply Kd.R_drew)); exact HO_12.out⟩, ⟨by (try simp only [hl4_1]); (try simp only [hl4_2]); (with_reducible repeat (first | apply Kd.R_alloc | apply Kd.R_drewN | apply Kd.R_drew)); exact HO_13.out⟩, ⟨zb⟩⟩
                       ·
                        rw [if_neg c64] at H
                        have c64b0 : ((Int.tmod (rd x12_3 x122_4) 2) == 0) = false := beq_eq_false_iff_ne.mpr c64
                        have c64b1 : ((Int.tmod (rd x12_3 x122_4) 2) != 0) = true := bne_iff_ne.mpr c64
                        obtain rfl := Option.some.inj H
                        obtain ⟨Ao67, co67, eo67⟩ := Kd.R_slice HO_13.out
                        subst eo67
                        have p211 : 0 ≤ (x122_4 : Int) := zd
                        have q211 : x122_4 < (x13_3.length : Int) := zd
                        obtain ⟨ad211, e211, hx211_0⟩ := Kd.at_bool (Kd.R_reads' HO_13.out).2.2 x122_4 p211 q211
                        (try rw [← Nbq61.out] at hx211_0)
                        cases e211
                        replace p211 := eq_true p211
                        replace q211 := eq_true q211
                        obtain ⟨Ao68, co68, eo68⟩ := Kd.R_slice HO_12.out
                        subst eo68
                        have p212 : 0 ≤ (x122_4 : Int) := zd
                        have q212 : x122_4 < (x12_3.length : Int) := zd
                        obtain ⟨ad212, e212, hx212_0⟩ := Kd.at_int (Kd.R_reads' HO_12.out).2.2 x122_4 p212 q212
                        cases e212
                        replace p212 := eq_true p212
                        replace q212 := eq_true q212
                        go_wp2
                        repeat (go_quiet (fail); try go_wp2)
                        go_ret
                        exact ⟨by first | rfl | (simp [errW_none, errW_some] <;> rfl) | (simp only [← hji3]; first | rfl | (simp [errW_none, errW_some] <;> rfl)) | (simp [*, errW_none, errW_some] <;> rfl), zb⟩
                      ·
                       rw [if_neg c63] at H
                       exact absurd H (by simp)
                     ·
                      replace c62 := Bool.eq_false_iff.mpr c62
                      subst c62
                      have H1 : (impl_decodingBits.l5 k4 x6_4 x12_3 x13_3 ji3 (wrap64 (x122_4 + 1))) = some r := by rw [if_neg (show ¬ (false = true) by decide)] at H; exact H
                      clear H
                      have H := H1
                      clear H1
                      have H' := zm H
                      clear H
                      obtain ⟨Ao69, co69, eo69⟩ := Kd.R_slice HO_13.out
                      subst eo69
                      have p211 : 0 ≤ (x122_4 : Int) := zd
                      have q211 : x122_4 < (x13_3.length : Int) := zd
                      obtain ⟨ad211, e211, hx211_0⟩ := Kd.at_bool (Kd.R_reads' HO_13.out).2.2 x122_4 p211 q211
                      (try rw [← Nbq61.out] at hx211_0)
                      cases e211
                      replace p211 := eq_true p211
                      replace q211 := eq_true q211
                      go_wp2
                      repeat (go_quiet (fail); try go_wp2)
                      go_roundg k4
                      case measure => have := HK1.out; have := HK2.out; have := HK3.out; have := HK4.out; omega
                      case rel => exact ⟨(x6_4), (wrap64 (x122_4 + 1)), (by first | rfl | (simp; done) | (simp [*]; done)), (by first | rfl | (simp; done) | (simp [*]; done)), H', ⟨by have := HK1.out; have := HK2.out; have := HK3.out; have := HK4.out; omega⟩, ⟨by (try simp only [hl4_1]); (try simp only [hl4_2]); (with_reducible repeat (first | apply Kd.R_alloc | apply Kd.R_drewN | apply Kd.R_drew)); exact HO_12.out⟩, ⟨by (try simp only [hl4_1]); (try simp only [hl4_2]); (with_reducible repeat (first | apply Kd.R_alloc | apply Kd.R_drewN | apply Kd.R_drew)); exact HO_13.out⟩, ⟨zb⟩⟩
                    ·
                     rw [if_neg c60] at H
                     exact absurd H (by simp)
                   ·
                    rw [if_neg c59] at H
                    exact absurd H (by simp)
                  ·
                   rw [if_neg c58] at H
                   have c58b0 : decide (x122_4 < ji3) = false := decide_eq_false c58
                   clear c58
                   obtain rfl := Option.some.inj H
                   go_wp2
                   repeat (go_quiet (fail); try go_wp2)
                   go_ret
                   exact ⟨by first | rfl | (simp [errW_none, errW_some] <;> rfl) | (simp only [← hji3]; first | rfl | (simp [errW_none, errW_some] <;> rfl)) | (simp [*, errW_none, errW_some] <;> rfl), zb⟩
            ·
             rw [if_neg c38] at H
             exact absurd H (by simp)
           ·
            rw [if_neg c37] at H
            exact absurd H (by simp)
          ·
           rw [if_neg c36] at H
           exact absurd H (by simp)
   ·
    rw [if_neg c5] at H
    exact absurd H (by simp)
  ·
   rw [if_neg c4] at H
   exact absurd H (by simp)
 ·
  rw [if_neg c2] at H
  exact absurd H (by simp)

end Go.Proofs.Ytjjjikdpegogcaa.PBd
