-- Written for this claim by a program of this session (wip/tpl/patchprint.py), not by print.sh.
import Derived.Test.YtjjjikdpegogcaaDoorPFtx0
import Derived.Test.YtjjjikdpegogcaaDoorPFtx1
namespace Go.Proofs.YtjjjikdpegogcaaDoor.PFt
open Go.RowKit Go.Proofs.YtjjjikdpegogcaaDoorW.PrintWords Go.Proofs.YtjjjikdpegogcaaDoorW.PrintLast Go.Proofs.YtjjjikdpegogcaaDoorW.PrintMore
attribute [local go_sem] max2_int min2_int max_two min_two max_three min_three max_four min_four   -- for this text's walks alone
set_option linter.unusedVariables false
set_option linter.unusedSimpArgs false

/-! ### spec_FaultsText: function 13 -/
def spec_FaultsText.l0 : Nat → ByteArray → List (List Int) → Int → Int → Option (ByteArray × Bool)
  | 0, _, _, _, _ => none
  | k + 1, x4, x10, x11, x12 => if x12 < x11 then (if 0 ≤ x12 then (if x12 < (x10.length : Int) then (if ((rd_L1 x10 x12).length : Int) = 2 then (if 0 < ((rd_L1 x10 x12).length : Int) then ((spec_l1In.f (rd (rd_L1 x10 x12) 0) 0 4).bind fun t112 => (if t112 = true then (if 1 < ((rd_L1 x10 x12).length : Int) then ((spec_l1In.f (rd (rd_L1 x10 x12) 1) 0 999).bind fun t114 => (if t114 = true then ((some (([(⟨#[109, 105, 115, 115, 105, 110, 103]⟩ : ByteArray), (⟨#[101, 120, 116, 114, 97]⟩ : ByteArray), (⟨#[102, 114, 111, 109]⟩ : ByteArray), (⟨#[116, 111]⟩ : ByteArray), (⟨#[115, 105, 108, 101, 110, 116]⟩ : ByteArray)] : List ByteArray) : List ByteArray)).bind fun y115 => (if 0 ≤ (rd (rd_L1 x10 x12) 0) then (if (rd (rd_L1 x10 x12) 0) < (y115.length : Int) then (if (rdOf ByteArray.empty y115 (rd (rd_L1 x10 x12) 0)).size + 1 ≤ 9223372036854775807 then ((spec_l1Num.f k (rd (rd_L1 x10 x12) 1)).bind fun t121 => (if ((rdOf ByteArray.empty y115 (rd (rd_L1 x10 x12) 0)) ++ (⟨#[32]⟩ : ByteArray)).size + t121.size ≤ 9223372036854775807 then (if (((rdOf ByteArray.empty y115 (rd (rd_L1 x10 x12) 0)) ++ (⟨#[32]⟩ : ByteArray)) ++ t121).size + 1 ≤ 9223372036854775807 then (if x4.size + ((((rdOf ByteArray.empty y115 (rd (rd_L1 x10 x12) 0)) ++ (⟨#[32]⟩ : ByteArray)) ++ t121) ++ (⟨#[10]⟩ : ByteArray)).size ≤ 9223372036854775807 then (spec_FaultsText.l0 k (x4 ++ ((((rdOf ByteArray.empty y115 (rd (rd_L1 x10 x12) 0)) ++ (⟨#[32]⟩ : ByteArray)) ++ t121) ++ (⟨#[10]⟩ : ByteArray))) x10 x11 (wrap64 (x12 + 1))) else (none)) else (none)) else (none))) else (none)) else (none)) else (none))) else (some ((⟨#[]⟩ : ByteArray), false)))) else (none)) else (some ((⟨#[]⟩ : ByteArray), false)))) else (none)) else (some ((⟨#[]⟩ : ByteArray), false))) else (none)) else (none)) else (some (x4, true))
def spec_FaultsText.f (k : Nat) (l0 : List (List Int)) : Option (ByteArray × Bool) := if (l0.length : Int) > 200 then (some ((⟨#[]⟩ : ByteArray), false)) else (spec_FaultsText.l0 k (⟨#[]⟩ : ByteArray) l0 (l0.length : Int) 0)
theorem spec_FaultsText.mono_l : ∀ k, (∀ y0 y1 y2 y3, LeO (spec_FaultsText.l0 k y0 y1 y2 y3) (spec_FaultsText.l0 (k + 1) y0 y1 y2 y3))
  | 0 => fun _ _ _ _ r h => by simp [spec_FaultsText.l0] at h
  | k + 1 => by
    have ih0 := spec_FaultsText.mono_l k
    · intro y0 y1 y2 y3
      unfold spec_FaultsText.l0
      repeat' first
      | (with_reducible exact ih0 _ _ _ _)
      | (with_reducible exact spec_l1Num.mono _ _)
      | (with_reducible exact LeO.refl _)
      | (with_reducible exact LeO.none _)
      | (with_reducible refine LeO.ite ?_ ?_)
      | (with_reducible refine LeO.bind ?_ (fun _ => ?_))
      | exact ih0 _ _ _ _
      | exact spec_l1Num.mono _ _
      | exact LeO.none _
      | refine LeO.ite ?_ ?_
      | refine LeO.bind ?_ (fun _ => ?_)
theorem spec_FaultsText.mono : ∀ a0 k, LeO (spec_FaultsText.f k a0) (spec_FaultsText.f (k + 1) a0) := by
  intro a0 k
  have ih0 := spec_FaultsText.mono_l k
  unfold spec_FaultsText.f
  repeat' first
      | (with_reducible exact ih0 _ _ _ _)
      | (with_reducible exact spec_l1Num.mono _ _)
      | (with_reducible exact LeO.refl _)
      | (with_reducible exact LeO.none _)
      | (with_reducible refine LeO.ite ?_ ?_)
      | (with_reducible refine LeO.bind ?_ (fun _ => ?_))
      | exact ih0 _ _ _ _
      | exact spec_l1Num.mono _ _
      | exact LeO.none _
      | refine LeO.ite ?_ ?_
      | refine LeO.bind ?_ (fun _ => ?_)
def spec_FaultsText.T9 : Bool × List (List Nat × List Nat) := (true, [([], []), ([], []), ([], []), ([2], [2]), ([3], [3]), ([1, 4], [1, 4]), ([5], [5]), ([6], [6]), ([], []), ([8], [8]), ([9], [9]), ([10], [10]), ([7, 11], [7, 11]), ([12], [12]), ([0, 13], [0, 13]), ([14, 11, 0, 1, 2, 3, 4, 5, 6, 7, 8, 9, 10, 11, 12, 13, 14], [0, 14])])
def spec_FaultsText.B9 : List Nat := [0, 0, 0, 4, 12, 30, 62, 126, 0, 256, 768, 1792, 4094, 8190, 16383, 32767]
theorem spec_FaultsText.tab9 : rtab .any (opsOf Tryd.f13 9) = spec_FaultsText.T9 := by kernel_rfl
theorem spec_FaultsText.bits9 : waitsOk spec_FaultsText.T9.2 spec_FaultsText.B9 = true := by kernel_rfl
set_option maxHeartbeats 8000000 in
set_option maxRecDepth 100000 in
theorem spec_FaultsText.calls (k : Nat) (A0 : Option Addr) (c0 : Nat) (l0 : List (List Int)) (r1 : ByteArray) (r2 : Bool) (w : World) (hr0 : Kd.C (Kd.slice 3 (Kd.int .i64)) w A0 l0.length l0) (hc0 : l0.length ≤ c0) (h : spec_FaultsText.f k l0 = some (r1, r2)) :
  Calls Tryd.prog 13 #[.slice A0 l0.length c0] w fun e w' => e = .returned (.tuple #[.string r1, .bool r2]) ∧ Below w.heap.size w w' := by
 have HR0 := zm hr0
 have HC0 := zm hc0
 clear hr0 hc0
 have HB := zm (Below.refl w.heap.size w)
 have H : (if (l0.length : Int) > 200 then (some ((⟨#[]⟩ : ByteArray), false)) else (spec_FaultsText.l0 k (⟨#[]⟩ : ByteArray) l0 (l0.length : Int) 0)) = some (r1, r2) := h
 clear h
 by_cases c2 : (l0.length : Int) > 200
 ·
  rw [if_pos c2] at H
  have c2b0 : decide (200 < (l0.length : Int)) = true := decide_eq_true c2
  have c2b1 : decide (200 < l0.length) = true := decide_eq_true (by omega)
  clear c2
  simp only [Option.some.injEq, Prod.mk.injEq] at H
  obtain ⟨rfl, rfl⟩ := H
  go_enter Tryd.func13, Tryd.ntmps13
  go_wp2
  go_ret2
  exact ⟨zr, zb⟩
 rw [if_neg c2] at H
 have c2b0 : decide (200 < (l0.length : Int)) = false := decide_eq_false c2
 have c2b1 : decide (200 < l0.length) = false := decide_eq_false (by omega)
 clear c2
 have H' := zm H
 clear H
 go_enter Tryd.func13, Tryd.ntmps13
 go_wp2
 go_loopg [4, 12] k (fun kq v4 v12 w' => ∃ (x4_1 : ByteArray) (x12_1 : Int), v4 = .string x4_1 ∧ v12 = .int .i64 x12_1 ∧ Aside0 (spec_FaultsText.l0 kq x4_1 l0 (l0.length : Int) x12_1 = some (r1, r2)) ∧ Aside0 (kq ≤ k) ∧ Aside0 (Below w.heap.size w w'))
 case atStart => exact ⟨((⟨#[]⟩ : ByteArray)), (0), (by first | rfl | (simp; done) | (simp [*]; done)), (by first | rfl | (simp; done) | (simp [*]; done)), H', ⟨Nat.le_refl _⟩, ⟨zb⟩⟩
 case round =>
  clear H'
  (try clear c1); (try clear c2); (try clear c2b0); (try clear c2b1); (try clear p2)
  obtain ⟨x4_1, x12_1, rfl, rfl, HA, HK1, HB⟩ := hrel
  cases gk with
  | zero => exact absurd HA.out (by simp [spec_FaultsText.l0])
  | succ k1 =>
   have H := HA.out
   clear HA
   simp only [spec_FaultsText.l0] at H
   by_cases c3 : x12_1 < (l0.length : Int)
   rotate_left
   ·
    rw [if_neg c3] at H
    have c3b0 : decide (x12_1 < (l0.length : Int)) = false := decide_eq_false c3
    clear c3
    simp only [Option.some.injEq, Prod.mk.injEq] at H
    obtain ⟨rfl, rfl⟩ := H
    go_wp2
    go_ret2
    exact ⟨zr, zb⟩

   rw [if_pos c3] at H
   have c3b0 : decide (x12_1 < (l0.length : Int)) = true := decide_eq_true c3
   clear c3
   by_cases c4 : 0 ≤ x12_1
   rotate_left
   ·
    rw [if_neg c4] at H
    exact absurd H (by simp)
   rw [if_pos c4] at H
   have c4b0 : decide (0 ≤ x12_1) = true := decide_eq_true c4
   clear c4
   by_cases c5 : x12_1 < (l0.length : Int)
   rotate_left
   ·
    rw [if_neg c5] at H
    exact absurd H (by simp)
   rw [if_pos c5] at H
   have c5b0 : decide (x12_1 < (l0.length : Int)) = true := decide_eq_true c5
   clear c5
   by_cases c6 : ((rd_L1 l0 x12_1).length : Int) = 2
   rotate_left
   ·
    rw [if_neg c6] at H
    have c6b0 : (((rd_L1 l0 x12_1).length : Int) == 2) = false := beq_eq_false_iff_ne.mpr c6
    have c6b1 : (((rd_L1 l0 x12_1).length : Int) != 2) = true := bne_iff_ne.mpr c6
    simp only [Option.some.injEq, Prod.mk.injEq] at H
    obtain ⟨rfl, rfl⟩ := H
    have p110 : 0 ≤ (x12_1 : Int) := zd
    have q110 : x12_1 < (l0.length : Int) := zd
    obtain ⟨ad110, A110_0, c110_0, e110, hx110_0, hl110_0, hi110_0⟩ := at_L1 HR0.out x12_1 p110 q110
    cases e110
    replace hx110_0 := zx HB.out hx110_0
    have HR110_0 := zm hi110_0
    have HC110_0 := zm hl110_0
    clear hi110_0 hl110_0
    replace p110 := eq_true p110
    replace q110 := eq_true q110
    go_wp2
    go_ret2
    exact ⟨zr, zb⟩
   rw [if_pos c6] at H
   have c6b0 : (((rd_L1 l0 x12_1).length : Int) == 2) = true := beq_iff_eq.mpr c6
   have c6b1 : (((rd_L1 l0 x12_1).length : Int) != 2) = false := bne_eq_false_iff_eq.mpr c6
   clear c6
   by_cases c7 : 0 < ((rd_L1 l0 x12_1).length : Int)
   rotate_left
   ·
    rw [if_neg c7] at H
    exact absurd H (by simp)
   rw [if_pos c7] at H
   have c7b0 : decide (0 < ((rd_L1 l0 x12_1).length : Int)) = true := decide_eq_true c7
   have c7b1 : decide (0 < (rd_L1 l0 x12_1).length) = true := decide_eq_true (by omega)
   clear c7
   replace H := Option.bind_eq_some_iff.mp H
   obtain ⟨t112, A80, H⟩ := H
   (try dsimp only at H)
   have A8 := zm A80
   clear A80
   by_cases c9 : t112 = true
   rotate_left
   ·
    replace c9 := Bool.eq_false_iff.mpr c9
    subst c9
    have H1 : (some ((⟨#[]⟩ : ByteArray), false)) = some (r1, r2) := by rw [if_neg (show ¬ (false = true) by decide)] at H; exact H
    clear H
    have H := H1
    clear H1
    simp only [Option.some.injEq, Prod.mk.injEq] at H
    obtain ⟨rfl, rfl⟩ := H
    have p110 : 0 ≤ (x12_1 : Int) := zd
    have q110 : x12_1 < (l0.length : Int) := zd
    obtain ⟨ad110, A110_0, c110_0, e110, hx110_0, hl110_0, hi110_0⟩ := at_L1 HR0.out x12_1 p110 q110
    cases e110
    replace hx110_0 := zx HB.out hx110_0
    have HR110_0 := zm hi110_0
    have HC110_0 := zm hl110_0
    clear hi110_0 hl110_0
    replace p110 := eq_true p110
    replace q110 := eq_true q110
    have p111 : 0 ≤ (0 : Int) := (by omega)
    have q111 : 0 < ((rd_L1 l0 x12_1).length : Int) := zd
    obtain ⟨ad111, e111, hx111_0⟩ := Kd.at_int HR110_0.out 0 p111 q111
    cases e111
    have qi111 : (0 < (rd_L1 l0 x12_1).length) = True := eq_true (by omega)
    (try rw [show ((0 : Int)).toNat = 0 from rfl] at hx111_0)
    (try rw [Addr.add_zero'] at hx111_0)
    replace hx111_0 := zx HB.out hx111_0
    replace p111 := eq_true p111
    replace q111 := eq_true q111
    go_wp2_with (first | (go_at_call 40; (with_reducible refine (spec_l1In.calls (rd (rd_L1 l0 x12_1) 0) 0 4 false _ A8.out).mono ?_); rintro e w' ⟨rfl, ⟨nd, rfl⟩⟩))
    go_ret2
    exact ⟨zr, zb⟩
   subst c9
   have H1 : (if 1 < ((rd_L1 l0 x12_1).length : Int) then ((spec_l1In.f (rd (rd_L1 l0 x12_1) 1) 0 999).bind fun t114 => (if t114 = true then ((some (([(⟨#[109, 105, 115, 115, 105, 110, 103]⟩ : ByteArray), (⟨#[101, 120, 116, 114, 97]⟩ : ByteArray), (⟨#[102, 114, 111, 109]⟩ : ByteArray), (⟨#[116, 111]⟩ : ByteArray), (⟨#[115, 105, 108, 101, 110, 116]⟩ : ByteArray)] : List ByteArray) : List ByteArray)).bind fun y115 => (if 0 ≤ (rd (rd_L1 l0 x12_1) 0) then (if (rd (rd_L1 l0 x12_1) 0) < (y115.length : Int) then (if (rdOf ByteArray.empty y115 (rd (rd_L1 l0 x12_1) 0)).size + 1 ≤ 9223372036854775807 then ((spec_l1Num.f k1 (rd (rd_L1 l0 x12_1) 1)).bind fun t121 => (if ((rdOf ByteArray.empty y115 (rd (rd_L1 l0 x12_1) 0)) ++ (⟨#[32]⟩ : ByteArray)).size + t121.size ≤ 9223372036854775807 then (if (((rdOf ByteArray.empty y115 (rd (rd_L1 l0 x12_1) 0)) ++ (⟨#[32]⟩ : ByteArray)) ++ t121).size + 1 ≤ 9223372036854775807 then (if x4_1.size + ((((rdOf ByteArray.empty y115 (rd (rd_L1 l0 x12_1) 0)) ++ (⟨#[32]⟩ : ByteArray)) ++ t121) ++ (⟨#[10]⟩ : ByteArray)).size ≤ 9223372036854775807 then (spec_FaultsText.l0 k1 (x4_1 ++ ((((rdOf ByteArray.empty y115 (rd (rd_L1 l0 x12_1) 0)) ++ (⟨#[32]⟩ : ByteArray)) ++ t121) ++ (⟨#[10]⟩ : ByteArray))) l0 (l0.length : Int) (wrap64 (x12_1 + 1))) else (none)) else (none)) else (none))) else (none)) else (none)) else (none))) else (some ((⟨#[]⟩ : ByteArray), false)))) else (none)) = some (r1, r2) := by rw [if_pos rfl] at H; exact H
   clear H
   have H := H1
   clear H1
   by_cases c10 : 1 < ((rd_L1 l0 x12_1).length : Int)
   rotate_left
   ·
    rw [if_neg c10] at H
    exact absurd H (by simp)
   rw [if_pos c10] at H
   have c10b0 : decide (1 < ((rd_L1 l0 x12_1).length : Int)) = true := decide_eq_true c10
   have c10b1 : decide (1 < (rd_L1 l0 x12_1).length) = true := decide_eq_true (by omega)
   clear c10
   replace H := Option.bind_eq_some_iff.mp H
   obtain ⟨t114, A110, H⟩ := H
   (try dsimp only at H)
   have A11 := zm A110
   clear A110
   by_cases c12 : t114 = true
   rotate_left
   ·
    replace c12 := Bool.eq_false_iff.mpr c12
    subst c12
    have H1 : (some ((⟨#[]⟩ : ByteArray), false)) = some (r1, r2) := by rw [if_neg (show ¬ (false = true) by decide)] at H; exact H
    clear H
    have H := H1
    clear H1
    simp only [Option.some.injEq, Prod.mk.injEq] at H
    obtain ⟨rfl, rfl⟩ := H
    have p110 : 0 ≤ (x12_1 : Int) := zd
    have q110 : x12_1 < (l0.length : Int) := zd
    obtain ⟨ad110, A110_0, c110_0, e110, hx110_0, hl110_0, hi110_0⟩ := at_L1 HR0.out x12_1 p110 q110
    cases e110
    replace hx110_0 := zx HB.out hx110_0
    have HR110_0 := zm hi110_0
    have HC110_0 := zm hl110_0
    clear hi110_0 hl110_0
    replace p110 := eq_true p110
    replace q110 := eq_true q110
    have p111 : 0 ≤ (0 : Int) := (by omega)
    have q111 : 0 < ((rd_L1 l0 x12_1).length : Int) := zd
    obtain ⟨ad111, e111, hx111_0⟩ := Kd.at_int HR110_0.out 0 p111 q111
    cases e111
    have qi111 : (0 < (rd_L1 l0 x12_1).length) = True := eq_true (by omega)
    (try rw [show ((0 : Int)).toNat = 0 from rfl] at hx111_0)
    (try rw [Addr.add_zero'] at hx111_0)
    replace hx111_0 := zx HB.out hx111_0
    replace p111 := eq_true p111
    replace q111 := eq_true q111
    go_wp2_with (first | (go_at_call 40; (with_reducible refine (spec_l1In.calls (rd (rd_L1 l0 x12_1) 0) 0 4 true _ A8.out).mono ?_); rintro e w' ⟨rfl, ⟨nd, rfl⟩⟩; have p113 : 0 ≤ (1 : Int) := (by omega); have q113 : 1 < ((rd_L1 l0 x12_1).length : Int) := zd; obtain ⟨ad113, e113, hx113_0⟩ := Kd.at_int HR110_0.out 1 p113 q113; obtain rfl : ad111 = ad113 := (by injection e113); (try simp only [show (1 : Int).toNat = 1 from rfl, Nat.reduceMul, Nat.reduceEqDiff, Go.Addr.add, ↓reduceIte] at hx113_0); have qi113 : (1 < (rd_L1 l0 x12_1).length) = True := eq_true (by omega); (try rw [show ((1 : Int)).toNat = 1 from rfl] at hx113_0); replace hx113_0 := zx HB.out hx113_0; replace p113 := eq_true p113; replace q113 := eq_true q113) | (go_at_call 40; (with_reducible refine (spec_l1In.calls (rd (rd_L1 l0 x12_1) 1) 0 999 false _ A11.out).mono ?_); rintro e w' ⟨rfl, ⟨nd, rfl⟩⟩))
    go_ret2
    exact ⟨zr, zb⟩
   subst c12
   have H1 : ((some (([(⟨#[109, 105, 115, 115, 105, 110, 103]⟩ : ByteArray), (⟨#[101, 120, 116, 114, 97]⟩ : ByteArray), (⟨#[102, 114, 111, 109]⟩ : ByteArray), (⟨#[116, 111]⟩ : ByteArray), (⟨#[115, 105, 108, 101, 110, 116]⟩ : ByteArray)] : List ByteArray) : List ByteArray)).bind fun y115 => (if 0 ≤ (rd (rd_L1 l0 x12_1) 0) then (if (rd (rd_L1 l0 x12_1) 0) < (y115.length : Int) then (if (rdOf ByteArray.empty y115 (rd (rd_L1 l0 x12_1) 0)).size + 1 ≤ 9223372036854775807 then ((spec_l1Num.f k1 (rd (rd_L1 l0 x12_1) 1)).bind fun t121 => (if ((rdOf ByteArray.empty y115 (rd (rd_L1 l0 x12_1) 0)) ++ (⟨#[32]⟩ : ByteArray)).size + t121.size ≤ 9223372036854775807 then (if (((rdOf ByteArray.empty y115 (rd (rd_L1 l0 x12_1) 0)) ++ (⟨#[32]⟩ : ByteArray)) ++ t121).size + 1 ≤ 9223372036854775807 then (if x4_1.size + ((((rdOf ByteArray.empty y115 (rd (rd_L1 l0 x12_1) 0)) ++ (⟨#[32]⟩ : ByteArray)) ++ t121) ++ (⟨#[10]⟩ : ByteArray)).size ≤ 9223372036854775807 then (spec_FaultsText.l0 k1 (x4_1 ++ ((((rdOf ByteArray.empty y115 (rd (rd_L1 l0 x12_1) 0)) ++ (⟨#[32]⟩ : ByteArray)) ++ t121) ++ (⟨#[10]⟩ : ByteArray))) l0 (l0.length : Int) (wrap64 (x12_1 + 1))) else (none)) else (none)) else (none))) else (none)) else (none)) else (none))) = some (r1, r2) := by rw [if_pos rfl] at H; exact H
   clear H
   have H := H1
   clear H1
   obtain ⟨y115, hy115⟩ : ∃ y_ : List ByteArray, y_ = (([(⟨#[109, 105, 115, 115, 105, 110, 103]⟩ : ByteArray), (⟨#[101, 120, 116, 114, 97]⟩ : ByteArray), (⟨#[102, 114, 111, 109]⟩ : ByteArray), (⟨#[116, 111]⟩ : ByteArray), (⟨#[115, 105, 108, 101, 110, 116]⟩ : ByteArray)] : List ByteArray)) := ⟨_, rfl⟩
   replace H : (if 0 ≤ (rd (rd_L1 l0 x12_1) 0) then (if (rd (rd_L1 l0 x12_1) 0) < (y115.length : Int) then (if (rdOf ByteArray.empty y115 (rd (rd_L1 l0 x12_1) 0)).size + 1 ≤ 9223372036854775807 then ((spec_l1Num.f k1 (rd (rd_L1 l0 x12_1) 1)).bind fun t121 => (if ((rdOf ByteArray.empty y115 (rd (rd_L1 l0 x12_1) 0)) ++ (⟨#[32]⟩ : ByteArray)).size + t121.size ≤ 9223372036854775807 then (if (((rdOf ByteArray.empty y115 (rd (rd_L1 l0 x12_1) 0)) ++ (⟨#[32]⟩ : ByteArray)) ++ t121).size + 1 ≤ 9223372036854775807 then (if x4_1.size + ((((rdOf ByteArray.empty y115 (rd (rd_L1 l0 x12_1) 0)) ++ (⟨#[32]⟩ : ByteArray)) ++ t121) ++ (⟨#[10]⟩ : ByteArray)).size ≤ 9223372036854775807 then (spec_FaultsText.l0 k1 (x4_1 ++ ((((rdOf ByteArray.empty y115 (rd (rd_L1 l0 x12_1) 0)) ++ (⟨#[32]⟩ : ByteArray)) ++ t121) ++ (⟨#[10]⟩ : ByteArray))) l0 (l0.length : Int) (wrap64 (x12_1 + 1))) else (none)) else (none)) else (none))) else (none)) else (none)) else (none)) = some (r1, r2) := by first | (rw [hy115]; with_reducible exact H) | (have H2_ := (Option.bind_some _ _).symm.trans H; rw [hy115]; with_reducible exact H2_) | (have H2_ := (Option.bind_some _ _).symm.trans H; with_reducible exact H2_) | with_reducible exact H | (rw [hy115]; exact H) | exact H
   have Ny115 := zm hy115
   clear hy115
   by_cases c13 : 0 ≤ (rd (rd_L1 l0 x12_1) 0)
   rotate_left
   ·
    rw [if_neg c13] at H
    exact absurd H (by simp)
   rw [if_pos c13] at H
   have c13b0 : decide (0 ≤ (rd (rd_L1 l0 x12_1) 0)) = true := decide_eq_true c13
   clear c13
   by_cases c14 : (rd (rd_L1 l0 x12_1) 0) < (y115.length : Int)
   rotate_left
   ·
    rw [if_neg c14] at H
    exact absurd H (by simp)
   rw [if_pos c14] at H
   have c14b0 : decide ((rd (rd_L1 l0 x12_1) 0) < (y115.length : Int)) = true := decide_eq_true c14
   clear c14
   by_cases c15 : (rdOf ByteArray.empty y115 (rd (rd_L1 l0 x12_1) 0)).size + 1 ≤ 9223372036854775807
   rotate_left
   ·
    rw [if_neg c15] at H
    exact absurd H (by simp)
   rw [if_pos c15] at H
   have c15b0 := eq_true c15
   have c15b1 : decide ((rdOf ByteArray.empty y115 (rd (rd_L1 l0 x12_1) 0)).size + 1 ≤ 9223372036854775807) = true := decide_eq_true c15
   try have c15b2 : (9223372036854775807 < (rdOf ByteArray.empty y115 (rd (rd_L1 l0 x12_1) 0)).size + 1) = False := eq_false (Nat.not_lt.2 c15)
   replace H := Option.bind_eq_some_iff.mp H
   obtain ⟨t121, A160, H⟩ := H
   (try dsimp only at H)
   have A16 := zm A160
   clear A160
   by_cases c17 : ((rdOf ByteArray.empty y115 (rd (rd_L1 l0 x12_1) 0)) ++ (⟨#[32]⟩ : ByteArray)).size + t121.size ≤ 9223372036854775807
   rotate_left
   ·
    rw [if_neg c17] at H
    exact absurd H (by simp)
   rw [if_pos c17] at H
   have c17b0 := eq_true c17
   have c17b1 : decide (((rdOf ByteArray.empty y115 (rd (rd_L1 l0 x12_1) 0)) ++ (⟨#[32]⟩ : ByteArray)).size + t121.size ≤ 9223372036854775807) = true := decide_eq_true c17
   try have c17b2 : (9223372036854775807 < ((rdOf ByteArray.empty y115 (rd (rd_L1 l0 x12_1) 0)) ++ (⟨#[32]⟩ : ByteArray)).size + t121.size) = False := eq_false (Nat.not_lt.2 c17)
   try have c17b3 : (9223372036854775807 < (rdOf ByteArray.empty y115 (rd (rd_L1 l0 x12_1) 0)).size + 1 + t121.size) = False := eq_false (Nat.not_lt.2 (by have z_ := c17; simp only [ByteArray.size_append] at z_; exact z_))
   by_cases c18 : (((rdOf ByteArray.empty y115 (rd (rd_L1 l0 x12_1) 0)) ++ (⟨#[32]⟩ : ByteArray)) ++ t121).size + 1 ≤ 9223372036854775807
   rotate_left
   ·
    rw [if_neg c18] at H
    exact absurd H (by simp)
   rw [if_pos c18] at H
   have c18b0 := eq_true c18
   have c18b1 : decide ((((rdOf ByteArray.empty y115 (rd (rd_L1 l0 x12_1) 0)) ++ (⟨#[32]⟩ : ByteArray)) ++ t121).size + 1 ≤ 9223372036854775807) = true := decide_eq_true c18
   try have c18b2 : (9223372036854775807 < (((rdOf ByteArray.empty y115 (rd (rd_L1 l0 x12_1) 0)) ++ (⟨#[32]⟩ : ByteArray)) ++ t121).size + 1) = False := eq_false (Nat.not_lt.2 c18)
   try have c18b3 : (9223372036854775807 < (rdOf ByteArray.empty y115 (rd (rd_L1 l0 x12_1) 0)).size + 1 + t121.size + 1) = False := eq_false (Nat.not_lt.2 (by have z_ := c18; simp only [ByteArray.size_append] at z_; exact z_))
   by_cases c19 : x4_1.size + ((((rdOf ByteArray.empty y115 (rd (rd_L1 l0 x12_1) 0)) ++ (⟨#[32]⟩ : ByteArray)) ++ t121) ++ (⟨#[10]⟩ : ByteArray)).size ≤ 9223372036854775807
   rotate_left
   ·
    rw [if_neg c19] at H
    exact absurd H (by simp)
   rw [if_pos c19] at H
   have c19b0 := eq_true c19
   have c19b1 : decide (x4_1.size + ((((rdOf ByteArray.empty y115 (rd (rd_L1 l0 x12_1) 0)) ++ (⟨#[32]⟩ : ByteArray)) ++ t121) ++ (⟨#[10]⟩ : ByteArray)).size ≤ 9223372036854775807) = true := decide_eq_true c19
   try have c19b2 : (9223372036854775807 < x4_1.size + ((((rdOf ByteArray.empty y115 (rd (rd_L1 l0 x12_1) 0)) ++ (⟨#[32]⟩ : ByteArray)) ++ t121) ++ (⟨#[10]⟩ : ByteArray)).size) = False := eq_false (Nat.not_lt.2 c19)
   try have c19b3 : (9223372036854775807 < x4_1.size + ((rdOf ByteArray.empty y115 (rd (rd_L1 l0 x12_1) 0)).size + 1 + t121.size + 1)) = False := eq_false (Nat.not_lt.2 (by have z_ := c19; simp only [ByteArray.size_append] at z_; exact z_))
   have H' := zm H
   clear H
   have p110 : 0 ≤ (x12_1 : Int) := zd
   have q110 : x12_1 < (l0.length : Int) := zd
   obtain ⟨ad110, A110_0, c110_0, e110, hx110_0, hl110_0, hi110_0⟩ := at_L1 HR0.out x12_1 p110 q110
   cases e110
   replace hx110_0 := zx HB.out hx110_0
   have HR110_0 := zm hi110_0
   have HC110_0 := zm hl110_0
   clear hi110_0 hl110_0
   replace p110 := eq_true p110
   replace q110 := eq_true q110
   have p111 : 0 ≤ (0 : Int) := (by omega)
   have q111 : 0 < ((rd_L1 l0 x12_1).length : Int) := zd
   obtain ⟨ad111, e111, hx111_0⟩ := Kd.at_int HR110_0.out 0 p111 q111
   cases e111
   have qi111 : (0 < (rd_L1 l0 x12_1).length) = True := eq_true (by omega)
   (try rw [show ((0 : Int)).toNat = 0 from rfl] at hx111_0)
   (try rw [Addr.add_zero'] at hx111_0)
   replace hx111_0 := zx HB.out hx111_0
   replace p111 := eq_true p111
   replace q111 := eq_true q111
   try go_wp2_with (first | (go_at_call 40; (with_reducible refine (spec_l1In.calls (rd (rd_L1 l0 x12_1) 0) 0 4 true _ A8.out).mono ?_); rintro e w' ⟨rfl, ⟨nd, rfl⟩⟩; have p113 : 0 ≤ (1 : Int) := (by omega); have q113 : 1 < ((rd_L1 l0 x12_1).length : Int) := zd; obtain ⟨ad113, e113, hx113_0⟩ := Kd.at_int HR110_0.out 1 p113 q113; obtain rfl : ad111 = ad113 := (by injection e113); (try simp only [show (1 : Int).toNat = 1 from rfl, Nat.reduceMul, Nat.reduceEqDiff, Go.Addr.add, ↓reduceIte] at hx113_0); have qi113 : (1 < (rd_L1 l0 x12_1).length) = True := eq_true (by omega); (try rw [show ((1 : Int)).toNat = 1 from rfl] at hx113_0); replace hx113_0 := zx HB.out hx113_0; replace p113 := eq_true p113; replace q113 := eq_true q113) | (go_at_call 40; (with_reducible refine (spec_l1In.calls (rd (rd_L1 l0 x12_1) 1) 0 999 true _ A11.out).mono ?_); rintro e w' ⟨rfl, ⟨nd, rfl⟩⟩))
   have pi119 : (0 ≤ ((rd (rd_L1 l0 x12_1) 0) : Int)) = True := eq_true (of_decide_eq_true (by first | (with_reducible assumption) | assumption))
   have qi119 : ((rd (rd_L1 l0 x12_1) 0) < (y115.length : Int)) = True := eq_true (of_decide_eq_true (by first | (with_reducible assumption) | assumption))
   (try (rw [drewN_self wr]; generalize hq_ : World.drewN wr _ = wr; have n0_ : Aside0 (Below w.heap.size w wr) := ⟨by rw [← hq_]; exact zb⟩; clear HB hq_; have HB := n0_; clear n0_))
   have n0_ := zm (below_drew1 HB.out)
   clear HB
   have HB := n0_
   clear n0_
   have p118 : 0 ≤ (0 : Int) := (by omega)
   have q118 : 0 < ((rd_L1 l0 x12_1).length : Int) := zd
   obtain ⟨ad118, e118, hx118_0⟩ := Kd.at_int HR110_0.out 0 p118 q118
   have hw118_0 := hx118_0
   (try rw [show ((0 : Int)).toNat = 0 from rfl] at hw118_0)
   (try rw [show 0 * 1 = 0 from rfl] at hw118_0)
   (try rw [Addr.add_zero'] at hw118_0)
   obtain rfl : ad111 = ad118 := (by injection e118)
   skip
   have qi118 : (0 < (rd_L1 l0 x12_1).length) = True := eq_true (by omega)
   (try rw [show ((0 : Int)).toNat = 0 from rfl] at hx118_0)
   (try rw [Addr.add_zero'] at hx118_0)
   replace hx118_0 := zx HB.out hx118_0
   replace p118 := eq_true p118
   replace q118 := eq_true q118
   have p120 : 0 ≤ (1 : Int) := (by omega)
   have q120 : 1 < ((rd_L1 l0 x12_1).length : Int) := zd
   obtain ⟨ad120, e120, hx120_0⟩ := Kd.at_int HR110_0.out 1 p120 q120
   have hw120_0 := hx120_0
   (try rw [show ((1 : Int)).toNat = 1 from rfl] at hw120_0)
   (try rw [show 1 * 1 = 1 from rfl] at hw120_0)
   (try simp only [Nat.reduceMul, Nat.reduceEqDiff, Go.Addr.add, ↓reduceIte] at hw120_0)
   obtain rfl : ad111 = ad120 := (by injection e120)
   skip
   (try simp only [show (1 : Int).toNat = 1 from rfl, Nat.reduceMul, Nat.reduceEqDiff, Go.Addr.add, ↓reduceIte] at hx120_0)
   have qi120 : (1 < (rd_L1 l0 x12_1).length) = True := eq_true (by omega)
   (try rw [show ((1 : Int)).toNat = 1 from rfl] at hx120_0)
   replace hx120_0 := zx HB.out hx120_0
   replace p120 := eq_true p120
   replace q120 := eq_true q120
   refine start_ (n := 16) (S := fun w' => True) (ds := []) #[false, false, false, false, false, false, false, false, false, false, false, false, false, false, false, false] (by kernel_rfl) rfl rfl trivial (fun hHeld => ?_); refine with_tabW spec_FaultsText.tab9 spec_FaultsText.bits9 (fun HT_ HW_ => ?_)
   generalize wr.drew = w20 at HB hx118_0 hx120_0 hHeld ⊢
   refine pure_ (i := 0) (N := some 33) (v := ?_) (a' := ?_) #[true, false, false, false, false, false, false, false, false, false, false, false, false, false, false, false] rfl rfl (any_of HT_.out (by kernel_rfl)) (fun _ _ _ h => h) (Or.inl ⟨by rfl, ?_⟩) ?_ ?_
   rotate_left
   ·
    intro w'
    go_simp
    with_reducible rfl
   rotate_left
   ·
    simp only [Act.put, zA, zB, zD, i64_w, i32_w]
    rfl
   refine pure_ (i := 2) (N := some 35) (v := ?_) (a' := ?_) #[true, false, true, false, false, false, false, false, false, false, false, false, false, false, false, false] rfl rfl (any_of HT_.out (by kernel_rfl)) (fun _ _ _ h => h) (Or.inl ⟨by rfl, ?_⟩) ?_ ?_
   rotate_left
   ·
    intro w'
    go_simp
    with_reducible rfl
   rotate_left
   ·
    simp only [Act.put, zA, zB, zD, i64_w, i32_w]
    rfl
   refine pure_ (i := 8) (N := some 41) (v := ?_) (a' := ?_) #[true, false, true, false, false, false, false, false, true, false, false, false, false, false, false, false] rfl rfl (any_of HT_.out (by kernel_rfl)) (fun _ _ _ h => h) (Or.inl ⟨by rfl, ?_⟩) ?_ ?_
   rotate_left
   ·
    intro w'
    go_simp
    with_reducible rfl
   rotate_left
   ·
    simp only [Act.put, zA, zB, zD, i64_w, i32_w]
    rfl
   refine inv_at [1, 3, 4, 5, 6, 7, 9, 10, 11, 12, 13, 14, 15] (fun a0_ b a w' => ∃ (v116 : Value) (adz_v116 : Addr) (m5_ : Value), a = putSel a0_ b [(1, 34, v116), (3, 36, .pointer (some ad111)), (4, 37, .int .i64 (rd (rd_L1 l0 x12_1) 0)), (5, 38, m5_), (6, 39, .string (rdOf ByteArray.empty y115 (rd (rd_L1 l0 x12_1) 0))), (7, 40, .string ((rdOf ByteArray.empty y115 (rd (rd_L1 l0 x12_1) 0)) ++ (⟨#[32]⟩ : ByteArray))), (9, 42, .pointer (some (ad111.add 1))), (10, 43, .int .i64 (rd (rd_L1 l0 x12_1) 1)), (11, 44, .string t121), (12, 45, .string (((rdOf ByteArray.empty y115 (rd (rd_L1 l0 x12_1) 0)) ++ (⟨#[32]⟩ : ByteArray)) ++ t121)), (13, 46, .string ((((rdOf ByteArray.empty y115 (rd (rd_L1 l0 x12_1) 0)) ++ (⟨#[32]⟩ : ByteArray)) ++ t121) ++ (⟨#[10]⟩ : ByteArray))), (14, 47, .string (x4_1 ++ ((((rdOf ByteArray.empty y115 (rd (rd_L1 l0 x12_1) 0)) ++ (⟨#[32]⟩ : ByteArray)) ++ t121) ++ (⟨#[10]⟩ : ByteArray)))), (15, 4, .string (x4_1 ++ ((((rdOf ByteArray.empty y115 (rd (rd_L1 l0 x12_1) 0)) ++ (⟨#[32]⟩ : ByteArray)) ++ t121) ++ (⟨#[10]⟩ : ByteArray))))] ∧ (Below w.heap.size w w') ∧ (b 1 = true → Kd.R Kd.string 9 w' w.heap.size (fun _ => True) v116 y115) ∧ (b 1 = true → ∃ c_, (v116 : Value) = .slice (some adz_v116) y115.length c_) ∧ (b 5 = true → (m5_ : Value) = .pointer (some (adz_v116.add ((rd (rd_L1 l0 x12_1) 0)).toNat)))) HT_.out HW_.out (by kernel_rfl) (by kernel_rfl) ?_ ?_ ?_
   ·
    exact ⟨.bool false, ⟨0, 0, none⟩, .bool false, by simp only [putSel, Bool.false_eq_true, if_false], HB.out, fun h_ => absurd h_ (by decide), fun h_ => absurd h_ (by decide), fun h_ => absurd h_ (by decide)⟩
   ·
    skip
    clear HB
    refine steps_cons ?_ ?_
    ·
     rintro b a w' ⟨v116, adz_v116, m5_, ha, Q_HB, Q_HO117, Q_HA_HO117, Q_X5_⟩ hb_ hon hoff
     refine ⟨_, rfl, fun K hK => ?_⟩
     replace ha := zm ha
     have HB := zm Q_HB
     refine Kd.R_lit_step Kd.string _ 9 ?hg (N := 34) ?hd (xs := ([(⟨#[109, 105, 115, 115, 105, 110, 103]⟩ : ByteArray), (⟨#[101, 120, 116, 114, 97]⟩ : ByteArray), (⟨#[102, 114, 111, 109]⟩ : ByteArray), (⟨#[116, 111]⟩ : ByteArray), (⟨#[115, 105, 108, 101, 110, 116]⟩ : ByteArray)] : List ByteArray)) (inner := [.string (⟨#[109, 105, 115, 115, 105, 110, 103]⟩ : ByteArray), .string (⟨#[101, 120, 116, 114, 97]⟩ : ByteArray), .string (⟨#[102, 114, 111, 109]⟩ : ByteArray), .string (⟨#[116, 111]⟩ : ByteArray), .string (⟨#[115, 105, 108, 101, 110, 116]⟩ : ByteArray)]) (ok := fun _ => True) (okp := fun _ => True) ?hr ?hp (fun _ hk => hk) trivial (Below.refl _ _) (Nat.le_refl _) (by simp) ?_; (case hd => rfl); (case hg => rfl); (case hr => first | (go_simp; done) | (go_simp; rfl)); (case hp => exact (Reps.one (show Kd.M Kd.string _ _ _ (⟨#[109, 105, 115, 115, 105, 110, 103]⟩ : ByteArray) [.string (⟨#[109, 105, 115, 115, 105, 110, 103]⟩ : ByteArray)] from rfl) (Reps.one (show Kd.M Kd.string _ _ _ (⟨#[101, 120, 116, 114, 97]⟩ : ByteArray) [.string (⟨#[101, 120, 116, 114, 97]⟩ : ByteArray)] from rfl) (Reps.one (show Kd.M Kd.string _ _ _ (⟨#[102, 114, 111, 109]⟩ : ByteArray) [.string (⟨#[102, 114, 111, 109]⟩ : ByteArray)] from rfl) (Reps.one (show Kd.M Kd.string _ _ _ (⟨#[116, 111]⟩ : ByteArray) [.string (⟨#[116, 111]⟩ : ByteArray)] from rfl) (Reps.one (show Kd.M Kd.string _ _ _ (⟨#[115, 105, 108, 101, 110, 116]⟩ : ByteArray) [.string (⟨#[115, 105, 108, 101, 110, 116]⟩ : ByteArray)] from rfl) (Reps.none _ _)))))))
     intro v116 w21 ho22 hb hg_ hnew_
     clear hg_ hnew_
     (first | rw [← Ny115.out] at ho22 | (simp only [Int.reduceToNat] at ho22; rw [← Ny115.out] at ho22))
     have n0_ := zm (Kd.R_lower ho22 (below_size zb))
     have n1_ := zm (below_step zb hb)
     clear HB
     have HO117 := n0_
     have HB := n1_
     clear n0_ n1_
     clear hb ho22
     obtain ⟨Ao23, co23, eo23⟩ := Kd.R_slice HO117.out
     subst eo23
     obtain ⟨ado23, fo23, _⟩ := Kd.at_string (Kd.R_reads' HO117.out).2.2 0 (by decide) (by rw [Ny115.out]; simp)
     cases fo23
     refine hK.out _ _ ⟨.slice (some ado23) y115.length co23, ado23, m5_, (by rw [ha.out]; exact putSel_upk 0 hb_ rfl rfl rfl), zb, fun _ => (by (with_reducible repeat (first | apply Kd.R_alloc | apply Kd.R_drewN | apply Kd.R_drew)); first | exact HO117.out | exact Kd.R_mono HO117.out (fun _ _ => trivial)), fun _ => ⟨_, rfl⟩, fun h0_ => absurd ((hoff 5 (by kernel_rfl)).symm.trans h0_) (by decide)⟩
    refine steps_cons ?_ ?_
    ·
     rintro b a w' ⟨v116, adz_v116, m5_, ha, Q_HB, Q_HO117, Q_HA_HO117, Q_X5_⟩ hb_ hon hoff
     refine ⟨_, rfl, fun K hK => ?_⟩
     have e35 : a.tmps[35]? = some (.slice (some ad111) (rd_L1 l0 x12_1).length c110_0) := by rw [ha]; exact (putSel_off rfl).trans rfl
     replace ha := zm ha
     have HB := zm Q_HB
     have hs0_ : w'.cell? ad111 = some (.int .i64 (rd (rd_L1 l0 x12_1) 0)) := ((HB.out.cell (World.block_lt_of_cell? w _ hw118_0)).trans hw118_0)
     refine value_ (w1 := w') (v := .pointer (some ad111)) (by rfl) rfl ?_ ?_
     ·
      go_simp
      (try simp only [i64_w])
      try rfl
     refine hK.out _ _ ⟨v116, adz_v116, m5_, (by rw [ha.out]; exact putSel_upk 1 hb_ rfl rfl rfl), Q_HB, Q_HO117, Q_HA_HO117, fun h0_ => absurd ((hoff 5 (by kernel_rfl)).symm.trans h0_) (by decide)⟩
    refine steps_cons ?_ ?_
    ·
     rintro b a w' ⟨v116, adz_v116, m5_, ha, Q_HB, Q_HO117, Q_HA_HO117, Q_X5_⟩ hb_ hon hoff
     refine ⟨_, rfl, fun K hK => ?_⟩
     have e36 : a.tmps[36]? = some (.pointer (some ad111)) := by rw [ha]; exact putSel_on (e := (3, 36, .pointer (some ad111))) 1 rfl rfl (hon 3 (by kernel_rfl)) rfl
     replace ha := zm ha
     have HB := zm Q_HB
     have hs0_ : w'.cell? ad111 = some (.int .i64 (rd (rd_L1 l0 x12_1) 0)) := ((HB.out.cell (World.block_lt_of_cell? w _ hw118_0)).trans hw118_0)
     refine value_ (w1 := w') (v := .int .i64 (rd (rd_L1 l0 x12_1) 0)) (by rfl) rfl ?_ ?_
     ·
      go_simp
      (try simp only [i64_w])
      try rfl
     refine hK.out _ _ ⟨v116, adz_v116, m5_, (by rw [ha.out]; exact putSel_upk 2 hb_ rfl rfl rfl), Q_HB, Q_HO117, Q_HA_HO117, fun h0_ => absurd ((hoff 5 (by kernel_rfl)).symm.trans h0_) (by decide)⟩
    refine steps_cons ?_ ?_
    ·
     rintro b a w' ⟨v116, adz_v116, m5_, ha, Q_HB, Q_HO117, Q_HA_HO117, Q_X5_⟩ hb_ hon hoff
     refine ⟨_, rfl, fun K hK => ?_⟩
     have e34 : a.tmps[34]? = some (v116) := by rw [ha]; exact putSel_on (e := (1, 34, v116)) 0 rfl rfl (hon 1 (by kernel_rfl)) rfl
     have e37 : a.tmps[37]? = some (.int .i64 (rd (rd_L1 l0 x12_1) 0)) := by rw [ha]; exact putSel_on (e := (4, 37, .int .i64 (rd (rd_L1 l0 x12_1) 0))) 2 rfl rfl (hon 4 (by kernel_rfl)) rfl
     replace ha := zm ha
     have HB := zm Q_HB
     have HO117 := zm (Q_HO117 (hon 1 (by kernel_rfl)))
     have HA_HO117 := zm (Q_HA_HO117 (hon 1 (by kernel_rfl)))
     obtain ⟨c_, hv_⟩ := HA_HO117.out
     rw [hv_] at e34
     refine value_ (w1 := w') (v := .pointer (some (adz_v116.add ((rd (rd_L1 l0 x12_1) 0)).toNat))) (by rfl) rfl ?_ ?_
     ·
      go_simp
      (try simp only [i64_w])
      try rfl
     refine hK.out _ _ ⟨v116, adz_v116, (.pointer (some (adz_v116.add ((rd (rd_L1 l0 x12_1) 0)).toNat))), (by rw [ha.out]; exact putSel_upk 3 hb_ rfl rfl rfl), Q_HB, Q_HO117, Q_HA_HO117, fun _ => rfl⟩
    refine steps_cons ?_ ?_
    ·
     rintro b a w' ⟨v116, adz_v116, m5_, ha, Q_HB, Q_HO117, Q_HA_HO117, Q_X5_⟩ hb_ hon hoff
     refine ⟨_, rfl, fun K hK => ?_⟩
     have e38 : a.tmps[38]? = some (m5_) := by rw [ha]; exact putSel_on (e := (5, 38, m5_)) 3 rfl rfl (hon 5 (by kernel_rfl)) rfl
     rw [Q_X5_ (hon 5 (by kernel_rfl))] at e38
     replace ha := zm ha
     have HB := zm Q_HB
     have HO117 := zm (Q_HO117 (hon 1 (by kernel_rfl)))
     have HA_HO117 := zm (Q_HA_HO117 (hon 1 (by kernel_rfl)))
     obtain ⟨c_, hv_⟩ := HA_HO117.out
     have hF_ := HO117.out
     rw [hv_] at hF_
     obtain ⟨ad_, ea_, hx_⟩ := Kd.at_string (Kd.R_reads' hF_).2.2 (rd (rd_L1 l0 x12_1) 0) (of_eq_true pi119) (of_eq_true qi119)
     cases ea_
     refine value_ (w1 := w') (v := .string (rdOf ByteArray.empty y115 (rd (rd_L1 l0 x12_1) 0))) (by rfl) rfl ?_ ?_
     ·
      go_simp
      (try simp only [i64_w])
      try rfl
     refine hK.out _ _ ⟨v116, adz_v116, m5_, (by rw [ha.out]; exact putSel_upk 4 hb_ rfl rfl rfl), Q_HB, Q_HO117, Q_HA_HO117, Q_X5_⟩
    refine steps_cons ?_ ?_
    ·
     rintro b a w' ⟨v116, adz_v116, m5_, ha, Q_HB, Q_HO117, Q_HA_HO117, Q_X5_⟩ hb_ hon hoff
     refine ⟨_, rfl, fun K hK => ?_⟩
     have e39 : a.tmps[39]? = some (.string (rdOf ByteArray.empty y115 (rd (rd_L1 l0 x12_1) 0))) := by rw [ha]; exact putSel_on (e := (6, 39, .string (rdOf ByteArray.empty y115 (rd (rd_L1 l0 x12_1) 0)))) 4 rfl rfl (hon 6 (by kernel_rfl)) rfl
     replace ha := zm ha
     have HB := zm Q_HB
     have HO117 := zm (Q_HO117 (hon 1 (by kernel_rfl)))
     have HA_HO117 := zm (Q_HA_HO117 (hon 1 (by kernel_rfl)))
     refine value_ (w1 := w') (v := .string ((rdOf ByteArray.empty y115 (rd (rd_L1 l0 x12_1) 0)) ++ (⟨#[32]⟩ : ByteArray))) (by rfl) rfl ?_ ?_
     ·
      go_simp
      (try simp only [i64_w])
      try rfl
     refine hK.out _ _ ⟨v116, adz_v116, m5_, (by rw [ha.out]; exact putSel_upk 5 hb_ rfl rfl rfl), Q_HB, Q_HO117, Q_HA_HO117, Q_X5_⟩
    refine steps_cons ?_ ?_
    ·
     rintro b a w' ⟨v116, adz_v116, m5_, ha, Q_HB, Q_HO117, Q_HA_HO117, Q_X5_⟩ hb_ hon hoff
     refine ⟨_, rfl, fun K hK => ?_⟩
     have e41 : a.tmps[41]? = some (.slice (some ad111) (rd_L1 l0 x12_1).length c110_0) := by rw [ha]; exact (putSel_off rfl).trans rfl
     replace ha := zm ha
     have HB := zm Q_HB
     have hs1_ : w'.cell? ⟨ad111.block, ad111.off + 1, none⟩ = some (.int .i64 (rd (rd_L1 l0 x12_1) 1)) := ((HB.out.cell (World.block_lt_of_cell? w _ hw120_0)).trans hw120_0)
     refine value_ (w1 := w') (v := .pointer (some (ad111.add 1))) (by rfl) rfl ?_ ?_
     ·
      go_simp
      (try simp only [i64_w])
      try rfl
     refine hK.out _ _ ⟨v116, adz_v116, m5_, (by rw [ha.out]; exact putSel_upk 6 hb_ rfl rfl rfl), Q_HB, Q_HO117, Q_HA_HO117, Q_X5_⟩
    refine steps_cons ?_ ?_
    ·
     rintro b a w' ⟨v116, adz_v116, m5_, ha, Q_HB, Q_HO117, Q_HA_HO117, Q_X5_⟩ hb_ hon hoff
     refine ⟨_, rfl, fun K hK => ?_⟩
     have e42 : a.tmps[42]? = some (.pointer (some (ad111.add 1))) := by rw [ha]; exact putSel_on (e := (9, 42, .pointer (some (ad111.add 1)))) 6 rfl rfl (hon 9 (by kernel_rfl)) rfl
     replace ha := zm ha
     have HB := zm Q_HB
     have hs1_ : w'.cell? ⟨ad111.block, ad111.off + 1, none⟩ = some (.int .i64 (rd (rd_L1 l0 x12_1) 1)) := ((HB.out.cell (World.block_lt_of_cell? w _ hw120_0)).trans hw120_0)
     refine value_ (w1 := w') (v := .int .i64 (rd (rd_L1 l0 x12_1) 1)) (by rfl) rfl ?_ ?_
     ·
      go_simp
      (try simp only [i64_w])
      try rfl
     refine hK.out _ _ ⟨v116, adz_v116, m5_, (by rw [ha.out]; exact putSel_upk 7 hb_ rfl rfl rfl), Q_HB, Q_HO117, Q_HA_HO117, Q_X5_⟩
    refine steps_cons ?_ ?_
    ·
     rintro b a w' ⟨v116, adz_v116, m5_, ha, Q_HB, Q_HO117, Q_HA_HO117, Q_X5_⟩ hb_ hon hoff
     refine ⟨_, rfl, fun K hK => ?_⟩
     have e43 : a.tmps[43]? = some (.int .i64 (rd (rd_L1 l0 x12_1) 1)) := by rw [ha]; exact putSel_on (e := (10, 43, .int .i64 (rd (rd_L1 l0 x12_1) 1))) 7 rfl rfl (hon 10 (by kernel_rfl)) rfl
     replace ha := zm ha
     have HB := zm Q_HB
     refine goes_ Tryd.func32 (by kernel_rfl) rfl #[.int .i64 (rd (rd_L1 l0 x12_1) 1)] (by rfl) rfl rfl (by first | (simp only [List.map_toArray, List.map_cons, List.map_nil, Act.eval, Array.getD_eq_getD_getElem?, Option.getD_some, e43]; done) | (simp only [List.map_toArray, List.map_cons, List.map_nil, Act.eval, Array.getD_eq_getD_getElem?, Option.getD_some, e43]; rfl)) ?_
     with_reducible refine (spec_l1Num.calls k1 (rd (rd_L1 l0 x12_1) 1) t121 _ A16.out).mono ?_
     rintro e w21 ⟨rfl, hb⟩
     refine ⟨_, rfl, ?_⟩
     have n0_ := zm (below_step zb hb)
     have z_HO117 := fun (h0_ : b 1 = true) => (show Kd.R Kd.string 9 w21 w.heap.size (fun _ => True) v116 y115 from by first | exact (Kd.R_below (zP ((Q_HO117 h0_))) hb) | exact Kd.R_mono (Kd.R_below (zP ((Q_HO117 h0_))) hb) (fun _ h_ => by first | trivial | exact h_ | exact h_.1))
     clear HB
     have HB := n0_
     clear n0_
     (try clear hb)
     (try clear hb2)
     (try clear hk)
     (try clear hi)
     refine hK.out _ _ ⟨v116, adz_v116, m5_, (by rw [ha.out]; exact putSel_upk 8 hb_ rfl rfl rfl), zb, z_HO117, Q_HA_HO117, Q_X5_⟩
    refine steps_cons ?_ ?_
    ·
     rintro b a w' ⟨v116, adz_v116, m5_, ha, Q_HB, Q_HO117, Q_HA_HO117, Q_X5_⟩ hb_ hon hoff
     refine ⟨_, rfl, fun K hK => ?_⟩
     have e40 : a.tmps[40]? = some (.string ((rdOf ByteArray.empty y115 (rd (rd_L1 l0 x12_1) 0)) ++ (⟨#[32]⟩ : ByteArray))) := by rw [ha]; exact putSel_on (e := (7, 40, .string ((rdOf ByteArray.empty y115 (rd (rd_L1 l0 x12_1) 0)) ++ (⟨#[32]⟩ : ByteArray)))) 5 rfl rfl (hon 7 (by kernel_rfl)) rfl
     have e44 : a.tmps[44]? = some (.string t121) := by rw [ha]; exact putSel_on (e := (11, 44, .string t121)) 8 rfl rfl (hon 11 (by kernel_rfl)) rfl
     replace ha := zm ha
     have HB := zm Q_HB
     have HO117 := zm (Q_HO117 (hon 1 (by kernel_rfl)))
     have HA_HO117 := zm (Q_HA_HO117 (hon 1 (by kernel_rfl)))
     refine value_ (w1 := w') (v := .string (((rdOf ByteArray.empty y115 (rd (rd_L1 l0 x12_1) 0)) ++ (⟨#[32]⟩ : ByteArray)) ++ t121)) (by rfl) rfl ?_ ?_
     ·
      go_simp
      (try simp only [i64_w])
      try rfl
     refine hK.out _ _ ⟨v116, adz_v116, m5_, (by rw [ha.out]; exact putSel_upk 9 hb_ rfl rfl rfl), Q_HB, Q_HO117, Q_HA_HO117, Q_X5_⟩
    refine steps_cons ?_ ?_
    ·
     rintro b a w' ⟨v116, adz_v116, m5_, ha, Q_HB, Q_HO117, Q_HA_HO117, Q_X5_⟩ hb_ hon hoff
     refine ⟨_, rfl, fun K hK => ?_⟩
     have e45 : a.tmps[45]? = some (.string (((rdOf ByteArray.empty y115 (rd (rd_L1 l0 x12_1) 0)) ++ (⟨#[32]⟩ : ByteArray)) ++ t121)) := by rw [ha]; exact putSel_on (e := (12, 45, .string (((rdOf ByteArray.empty y115 (rd (rd_L1 l0 x12_1) 0)) ++ (⟨#[32]⟩ : ByteArray)) ++ t121))) 9 rfl rfl (hon 12 (by kernel_rfl)) rfl
     replace ha := zm ha
     have HB := zm Q_HB
     have HO117 := zm (Q_HO117 (hon 1 (by kernel_rfl)))
     have HA_HO117 := zm (Q_HA_HO117 (hon 1 (by kernel_rfl)))
     refine value_ (w1 := w') (v := .string ((((rdOf ByteArray.empty y115 (rd (rd_L1 l0 x12_1) 0)) ++ (⟨#[32]⟩ : ByteArray)) ++ t121) ++ (⟨#[10]⟩ : ByteArray))) (by rfl) rfl ?_ ?_
     ·
      go_simp
      (try simp only [i64_w])
      try rfl
     refine hK.out _ _ ⟨v116, adz_v116, m5_, (by rw [ha.out]; exact putSel_upk 10 hb_ rfl rfl rfl), Q_HB, Q_HO117, Q_HA_HO117, Q_X5_⟩
    refine steps_cons ?_ ?_
    ·
     rintro b a w' ⟨v116, adz_v116, m5_, ha, Q_HB, Q_HO117, Q_HA_HO117, Q_X5_⟩ hb_ hon hoff
     refine ⟨_, rfl, fun K hK => ?_⟩
     have e33 : a.tmps[33]? = some (.string x4_1) := by rw [ha]; exact (putSel_off rfl).trans rfl
     have e46 : a.tmps[46]? = some (.string ((((rdOf ByteArray.empty y115 (rd (rd_L1 l0 x12_1) 0)) ++ (⟨#[32]⟩ : ByteArray)) ++ t121) ++ (⟨#[10]⟩ : ByteArray))) := by rw [ha]; exact putSel_on (e := (13, 46, .string ((((rdOf ByteArray.empty y115 (rd (rd_L1 l0 x12_1) 0)) ++ (⟨#[32]⟩ : ByteArray)) ++ t121) ++ (⟨#[10]⟩ : ByteArray)))) 10 rfl rfl (hon 13 (by kernel_rfl)) rfl
     replace ha := zm ha
     have HB := zm Q_HB
     have HO117 := zm (Q_HO117 (hon 1 (by kernel_rfl)))
     have HA_HO117 := zm (Q_HA_HO117 (hon 1 (by kernel_rfl)))
     refine value_ (w1 := w') (v := .string (x4_1 ++ ((((rdOf ByteArray.empty y115 (rd (rd_L1 l0 x12_1) 0)) ++ (⟨#[32]⟩ : ByteArray)) ++ t121) ++ (⟨#[10]⟩ : ByteArray)))) (by rfl) rfl ?_ ?_
     ·
      go_simp
      (try simp only [i64_w])
      try rfl
     refine hK.out _ _ ⟨v116, adz_v116, m5_, (by rw [ha.out]; exact putSel_upk 11 hb_ rfl rfl rfl), Q_HB, Q_HO117, Q_HA_HO117, Q_X5_⟩
    refine steps_cons ?_ ?_
    ·
     rintro b a w' ⟨v116, adz_v116, m5_, ha, Q_HB, Q_HO117, Q_HA_HO117, Q_X5_⟩ hb_ hon hoff
     refine ⟨_, rfl, fun K hK => ?_⟩
     have e47 : a.tmps[47]? = some (.string (x4_1 ++ ((((rdOf ByteArray.empty y115 (rd (rd_L1 l0 x12_1) 0)) ++ (⟨#[32]⟩ : ByteArray)) ++ t121) ++ (⟨#[10]⟩ : ByteArray)))) := by rw [ha]; exact putSel_on (e := (14, 47, .string (x4_1 ++ ((((rdOf ByteArray.empty y115 (rd (rd_L1 l0 x12_1) 0)) ++ (⟨#[32]⟩ : ByteArray)) ++ t121) ++ (⟨#[10]⟩ : ByteArray))))) 11 rfl rfl (hon 14 (by kernel_rfl)) rfl
     replace ha := zm ha
     have HB := zm Q_HB
     have HO117 := zm (Q_HO117 (hon 1 (by kernel_rfl)))
     have HA_HO117 := zm (Q_HA_HO117 (hon 1 (by kernel_rfl)))
     refine value_ (w1 := w') (v := .string (x4_1 ++ ((((rdOf ByteArray.empty y115 (rd (rd_L1 l0 x12_1) 0)) ++ (⟨#[32]⟩ : ByteArray)) ++ t121) ++ (⟨#[10]⟩ : ByteArray)))) (by rfl) rfl ?_ ?_
     ·
      go_simp
      (try simp only [i64_w])
      try rfl
     refine hK.out _ _ ⟨v116, adz_v116, m5_, (by rw [ha.out]; exact putSel_upk 12 hb_ rfl rfl rfl), Q_HB, Q_HO117, Q_HA_HO117, Q_X5_⟩
    exact steps_nil
   rintro b a w25 hall ⟨v116, adz_v116, m5_, ha, Q_HB, Q_HO117, Q_HA_HO117, Q_X5_⟩
   clear HB
   have hb1_ := hall 1 (by kernel_rfl)
   have hb3_ := hall 3 (by kernel_rfl)
   have hb4_ := hall 4 (by kernel_rfl)
   have hb5_ := hall 5 (by kernel_rfl)
   have hb6_ := hall 6 (by kernel_rfl)
   have hb7_ := hall 7 (by kernel_rfl)
   have hb9_ := hall 9 (by kernel_rfl)
   have hb10_ := hall 10 (by kernel_rfl)
   have hb11_ := hall 11 (by kernel_rfl)
   have hb12_ := hall 12 (by kernel_rfl)
   have hb13_ := hall 13 (by kernel_rfl)
   have hb14_ := hall 14 (by kernel_rfl)
   have hb15_ := hall 15 (by kernel_rfl)
   subst ha
   obtain rfl := Q_X5_ hb5_
   simp only [putSel, hb1_, hb3_, hb4_, hb5_, hb6_, hb7_, hb9_, hb10_, hb11_, hb12_, hb13_, hb14_, hb15_, if_true, Act.put, List.setIfInBounds_toArray, List.set_cons_zero, List.set_cons_succ]
   have HB := zm Q_HB
   clear Q_HB
   have HO117 := zm (Q_HO117 hb1_)
   clear Q_HO117
   have HA_HO117 := zm (Q_HA_HO117 hb1_)
   clear Q_HA_HO117
   clear hall hb1_ hb3_ hb4_ hb5_ hb6_ hb7_ hb9_ hb10_ hb11_ hb12_ hb13_ hb14_ hb15_
   obtain ⟨co26, eo26⟩ := HA_HO117.out
   clear HA_HO117
   subst eo26
   try go_wp2
   go_roundg k1
   case measure => have := HK1.out; omega
   case rel => exact ⟨(x4_1 ++ ((((rdOf ByteArray.empty y115 (rd (rd_L1 l0 x12_1) 0)) ++ (⟨#[32]⟩ : ByteArray)) ++ t121) ++ (⟨#[10]⟩ : ByteArray))), (wrap64 (x12_1 + 1)), (by first | rfl | (simp; done) | (simp [*]; done)), (by first | rfl | (simp; done) | (simp [*]; done)), H', ⟨by have := HK1.out; omega⟩, ⟨zb⟩⟩
/-! ### laws_toIntS: function 41 -/
def laws_toIntS.l0 : Nat → List Int → List Int → Int → Option (List Int)
  | 0, _, _, _ => none
  | k + 1, x0, x3, x4 => if x4 < (x0.length : Int) then (if 0 ≤ x4 then (if x4 < (x3.length : Int) then (laws_toIntS.l0 k x0 (x3.set (x4 : Int).toNat (rd x0 x4)) (wrap64 (x4 + 1))) else (none)) else (none)) else (some x3)
def laws_toIntS.f (k : Nat) (l0 : List Int) : Option (List Int) := if 0 ≤ (l0.length : Int) then (if ((l0.length : Int) : Int).toNat ≤ 35184372088832 then (laws_toIntS.l0 k l0 (List.replicate ((l0.length : Int) : Int).toNat 0) 0) else (none)) else (none)
theorem laws_toIntS.mono_l : ∀ k, (∀ y0 y1 y2, LeO (laws_toIntS.l0 k y0 y1 y2) (laws_toIntS.l0 (k + 1) y0 y1 y2))
  | 0 => fun _ _ _ r h => by simp [laws_toIntS.l0] at h
  | k + 1 => by
    have ih0 := laws_toIntS.mono_l k
    · intro y0 y1 y2
      unfold laws_toIntS.l0
      repeat' first
      | (with_reducible exact ih0 _ _ _)
      | (with_reducible exact LeO.refl _)
      | (with_reducible exact LeO.none _)
      | (with_reducible refine LeO.ite ?_ ?_)
      | (with_reducible refine LeO.bind ?_ (fun _ => ?_))
      | exact ih0 _ _ _
      | exact LeO.none _
      | refine LeO.ite ?_ ?_
      | refine LeO.bind ?_ (fun _ => ?_)
theorem laws_toIntS.mono : ∀ a0 k, LeO (laws_toIntS.f k a0) (laws_toIntS.f (k + 1) a0) := by
  intro a0 k
  have ih0 := laws_toIntS.mono_l k
  unfold laws_toIntS.f
  repeat' first
      | (with_reducible exact ih0 _ _ _)
      | (with_reducible exact LeO.refl _)
      | (with_reducible exact LeO.none _)
      | (with_reducible refine LeO.ite ?_ ?_)
      | (with_reducible refine LeO.bind ?_ (fun _ => ?_))
      | exact ih0 _ _ _
      | exact LeO.none _
      | refine LeO.ite ?_ ?_
      | refine LeO.bind ?_ (fun _ => ?_)
set_option maxHeartbeats 8000000 in
set_option maxRecDepth 100000 in
theorem laws_toIntS.calls (k : Nat) (A0 : Option Addr) (c0 : Nat) (l0 : List Int) (r : List Int) (w : World) (hr0 : Kd.C (Kd.int .i64) w A0 l0.length l0) (hc0 : l0.length ≤ c0) (h : laws_toIntS.f k l0 = some r) :
  Calls Tryd.prog 41 #[.slice A0 l0.length c0] w fun e w' => ∃ v0_ : Value, e = .returned (v0_) ∧ Kd.R (Kd.int .i64) 3 w' w.heap.size (fun _ => True) v0_ r ∧ Below w.heap.size w w' := by
 have HR0 := zm hr0
 have HC0 := zm hc0
 clear hr0 hc0
 have HB := zm (Below.refl w.heap.size w)
 have H : (if 0 ≤ (l0.length : Int) then (if ((l0.length : Int) : Int).toNat ≤ 35184372088832 then (laws_toIntS.l0 k l0 (List.replicate ((l0.length : Int) : Int).toNat 0) 0) else (none)) else (none)) = some r := h
 clear h
 by_cases c2 : 0 ≤ (l0.length : Int)
 rotate_left
 ·
  rw [if_neg c2] at H
  exact absurd H (by simp)

 rw [if_pos c2] at H
 have c2b0 := eq_true c2
 have c2b1 : decide (0 ≤ (l0.length : Int)) = true := decide_eq_true c2
 clear c2
 by_cases c3 : ((l0.length : Int) : Int).toNat ≤ 35184372088832
 rotate_left
 ·
  rw [if_neg c3] at H
  exact absurd H (by simp)
 rw [if_pos c3] at H
 have c3b0 := eq_true c3
 have c3b1 : decide (((l0.length : Int) : Int).toNat ≤ 35184372088832) = true := decide_eq_true c3
 clear c3
 obtain ⟨y122, hy122⟩ : ∃ y_ : List Int, y_ = (List.replicate ((l0.length : Int) : Int).toNat 0) := ⟨_, rfl⟩
 replace H : (laws_toIntS.l0 k l0 y122 0) = some r := by first | (rw [hy122]; with_reducible exact H) | (have H2_ := (Option.bind_some _ _).symm.trans H; rw [hy122]; with_reducible exact H2_) | (have H2_ := (Option.bind_some _ _).symm.trans H; with_reducible exact H2_) | with_reducible exact H | (rw [hy122]; exact H) | exact H
 have Ny122 := zm hy122
 clear hy122
 have H' := zm H
 clear H
 go_enter Tryd.func41, Tryd.ntmps41
 go_wp2_with (first | ((with_reducible refine gate_dst (N := 7) rfl ?_); refine Kd.R_make (Kd.int .i64) _ 3 rfl (N := 7) rfl 37 _ _ rfl (l0.length : Int) rfl rfl Tryd.underlying37 (.int .i64 0) 8 info3 rfl (by decide) (by omega) 0 (ok := fun _ => True) (okp := fun _ => True) rfl (fun _ hk => hk) trivial (of_decide_eq_true (by first | (with_reducible assumption) | assumption)) (Nat.le_trans (Nat.mul_le_mul_right _ (of_decide_eq_true (by first | (with_reducible assumption) | assumption) : (l0.length : Int).toNat ≤ 35184372088832)) (by omega)) (Below.refl _ _) (Nat.le_refl _) ?_; intro v123 w4 ho5 hb hg_ hnew_; clear hg_ hnew_; (first | rw [← Ny122.out] at ho5 | (simp only [Int.reduceToNat] at ho5; rw [← Ny122.out] at ho5)); have HO124 := zm (Kd.R_lower ho5 (below_size zb)); replace HB := zm (below_step zb hb); clear hb ho5))
 go_loopg [4] k (fun kq v4 w' => ∃ (x3_1 : List Int) (x4_1 : Int), v4 = .int .i64 x4_1 ∧ Aside0 (laws_toIntS.l0 kq l0 x3_1 x4_1 = some r) ∧ Aside0 (kq ≤ k) ∧ Aside0 (Kd.R (Kd.int .i64) 3 w' w.heap.size (fun _ => True) v123 x3_1) ∧ Aside0 (Below w.heap.size w w'))
 case atStart => exact ⟨(y122), (0), (by first | rfl | (simp; done) | (simp [*]; done)), H', ⟨Nat.le_refl _⟩, ⟨zP HO124.out⟩, ⟨zb⟩⟩
 case round =>
  clear H'
  (try clear c2); (try clear c2b0); (try clear c2b1); (try clear p2); (try clear c3); (try clear c3b0); (try clear c3b1); (try clear c4)
  obtain ⟨x3_1, x4_1, rfl, HA, HK1, HO_3, HB⟩ := hrel
  cases gk with
  | zero => exact absurd HA.out (by simp [laws_toIntS.l0])
  | succ k1 =>
   have H := HA.out
   clear HA
   simp only [laws_toIntS.l0] at H
   by_cases c6 : x4_1 < (l0.length : Int)
   rotate_left
   ·
    rw [if_neg c6] at H
    have c6b0 : decide (x4_1 < (l0.length : Int)) = false := decide_eq_false c6
    clear c6
    obtain rfl := Option.some.inj H
    go_wp2
    go_ret
    exact ⟨_, zr, zP HO_3.out, zb⟩
   rw [if_pos c6] at H
   have c6b0 : decide (x4_1 < (l0.length : Int)) = true := decide_eq_true c6
   clear c6
   by_cases c7 : 0 ≤ x4_1
   rotate_left
   ·
    rw [if_neg c7] at H
    exact absurd H (by simp)
   rw [if_pos c7] at H
   have c7b0 : decide (0 ≤ x4_1) = true := decide_eq_true c7
   clear c7
   by_cases c8 : x4_1 < (x3_1.length : Int)
   rotate_left
   ·
    rw [if_neg c8] at H
    exact absurd H (by simp)
   rw [if_pos c8] at H
   have c8b0 : decide (x4_1 < (x3_1.length : Int)) = true := decide_eq_true c8
   clear c8
   obtain ⟨y126, hy126⟩ : ∃ y_ : List Int, y_ = (x3_1.set (x4_1 : Int).toNat (rd l0 x4_1)) := ⟨_, rfl⟩
   replace H : (laws_toIntS.l0 k1 l0 y126 (wrap64 (x4_1 + 1))) = some r := by first | (rw [hy126]; with_reducible exact H) | (have H2_ := (Option.bind_some _ _).symm.trans H; rw [hy126]; with_reducible exact H2_) | (have H2_ := (Option.bind_some _ _).symm.trans H; with_reducible exact H2_) | with_reducible exact H | (rw [hy126]; exact H) | exact H
   have Ny126 := zm hy126
   clear hy126
   have H' := zm H
   clear H
   have p125 : 0 ≤ (x4_1 : Int) := zd
   have q125 : x4_1 < (l0.length : Int) := zd
   obtain ⟨ad125, e125, hx125_0⟩ := Kd.at_int HR0.out x4_1 p125 q125
   cases e125
   replace hx125_0 := zx HB.out hx125_0
   replace p125 := eq_true p125
   replace q125 := eq_true q125
   have p9 : 0 ≤ (x4_1 : Int) := zd
   have q9 : (x4_1 : Int) < ((x3_1.length : Int) : Int) := zd
   obtain ⟨go9, co9, eo9, gb9, gl9, cl9, HG9⟩ := Kd.R_form HO_3.out (by omega)
   (first | cases eo9 | (injection eo9 with ea_ en_ ec_; (first | subst ea_ | (injection ea_ with ea_; subst ea_)); subst ec_; clear en_))
   have GB9 := zm gb9
   have GG9 := zm HG9
   clear gb9 gl9 HG9
   obtain ⟨hx9_0, hf9_0⟩ := Kd.R_celln 0 HO_3.out (x4_1 : Int) p9 q9
   replace p9 := eq_true p9
   replace q9 := eq_true q9
   have HP10 := Kd.R_putg HO_3.out (x4_1 : Int) (rd l0 x4_1)
   go_wp2_with (first | ((with_reducible refine gate_store (t := 3) (p := 20) rfl ?_); refine store_event (t := 3) (p := 20) (v := ?vo_w11) (w1 := (wr.setCell ⟨go9, (x4_1 : Int).toNat, none⟩ (.int .i64 (rd l0 x4_1)))) ?hg ?ho ?hn ?hr ?_; (case ho => rfl); (case hg => rfl); (case hn => rfl); (case hr => first | (go_simp; done) | (go_simp; rfl)); intro w11 hw; have hg : wr.grownBy w11 (some go9) := (by rw [hw]; exact HP10.2); have hp_ : Kd.R (Kd.int .i64) 3 w11 w.heap.size (fun _ => True) (.slice (some ⟨go9, 0, none⟩) x3_1.length co9) y126 := (by rw [hw, Ny126.out]; exact HP10.1); clear HP10; replace HO_3 := zm (hp_); replace HB := zm ((by rw [hw]; exact below_set (HB.out) GB9.out : Below w.heap.size w w11)); clear hg hw hp_))
   go_roundg k1
   case measure => have := HK1.out; omega
   case rel => exact ⟨(y126), (wrap64 (x4_1 + 1)), (by first | rfl | (simp; done) | (simp [*]; done)), H', ⟨by have := HK1.out; omega⟩, ⟨zP HO_3.out⟩, ⟨zb⟩⟩
end Go.Proofs.YtjjjikdpegogcaaDoor.PFt
