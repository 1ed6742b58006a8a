-- Written for this claim by a program of this session (wip/tpl/patchprint.py), not by print.sh.
import Derived.Test.YtjdkdbeenggfaaaPSox0
import Derived.Test.YtjdkdbeenggfaaaPSox2
namespace Go.Proofs.Ytjdkdbeenggfaaa.PSo
open Go.RowKit Go.Proofs.YtjdkdbeenggfaaaW.PrintWords Go.Proofs.YtjdkdbeenggfaaaW.PrintLast Go.Proofs.YtjdkdbeenggfaaaW.PrintMore
attribute [local go_sem] max2_int min2_int max_two min_two max_three min_three max_four min_four   -- for this text's walks alone
set_option linter.unusedVariables false
set_option linter.unusedSimpArgs false

/-! ### spec_rdEvents: function 74 -/
mutual
def spec_rdEvents.l0 : Nat → List (S87) → List (List Int) → Int → Option ((List (List Int)))
  | 0, _, _, _ => none
  | k + 1, x0, x3, x4 => (spec_shLength.f k x0).bind fun t120 => (if x4 ≤ t120 then (spec_rdEvents.l1 k x0 x3 x4 0) else (some x3))
def spec_rdEvents.l1 : Nat → List (S87) → List (List Int) → Int → Int → Option ((List (List Int)))
  | 0, _, _, _, _ => none
  | k + 1, x0, x3, x4, x5 => if x5 < 20 then (spec_rdEvents.l2 k x0 x3 x4 x5 x0 (x0.length : Int) 0) else (spec_rdEvents.l0 k x0 x3 (wrap64 (x4 + 1)))
def spec_rdEvents.l2 : Nat → List (S87) → List (List Int) → Int → Int → List (S87) → Int → Int → Option ((List (List Int)))
  | 0, _, _, _, _, _, _, _ => none
  | k + 1, x0, x3, x4, x5, x18, x19, x20 => if x20 < x19 then (if 0 ≤ x20 then (if x20 < (x18.length : Int) then (if ((rd_T87 x18 x20).f0) = x5 then (spec_rdEvents.j3 k x0 x3 x4 x5 x18 x19 x20 (((rd_T87 x18 x20).f1) == x4) ((rd_T87 x18 x20).f0) ((rd_T87 x18 x20).f1) ((rd_T87 x18 x20).f2)) else (spec_rdEvents.j3 k x0 x3 x4 x5 x18 x19 x20 false ((rd_T87 x18 x20).f0) ((rd_T87 x18 x20).f1) ((rd_T87 x18 x20).f2))) else (none)) else (none)) else (spec_rdEvents.l1 k x0 x3 x4 (wrap64 (x5 + 1)))
def spec_rdEvents.j3 : Nat → List (S87) → List (List Int) → Int → Int → List (S87) → Int → Int → Bool → Int → Int → Int → Option ((List (List Int)))
  | 0, _, _, _, _, _, _, _, _, _, _, _ => none
  | k + 1, x0, x3, x4, x5, x18, x19, x20, x33, x123000, x123001, x123002 => if x33 = true then (if x3.length < 5864062014805 then ((some (x3 ++ [(([x4, x5, 1] : List Int))] : List (List Int))).bind fun y126 => (if x123000 = x5 then (if x123002 = x4 then (if y126.length < 5864062014805 then (spec_rdEvents.l2 k x0 (y126 ++ [(([x4, x5, 0] : List Int))]) x4 x5 x18 x19 (wrap64 (x20 + 1))) else (none)) else (spec_rdEvents.l2 k x0 y126 x4 x5 x18 x19 (wrap64 (x20 + 1)))) else (spec_rdEvents.l2 k x0 y126 x4 x5 x18 x19 (wrap64 (x20 + 1))))) else (none)) else (if x123000 = x5 then (if x123002 = x4 then (if x3.length < 5864062014805 then (spec_rdEvents.l2 k x0 (x3 ++ [(([x4, x5, 0] : List Int))]) x4 x5 x18 x19 (wrap64 (x20 + 1))) else (none)) else (spec_rdEvents.l2 k x0 x3 x4 x5 x18 x19 (wrap64 (x20 + 1)))) else (spec_rdEvents.l2 k x0 x3 x4 x5 x18 x19 (wrap64 (x20 + 1))))
end
def spec_rdEvents.f (k : Nat) (l0 : List (S87)) : Option ((List (List Int))) := spec_rdEvents.l0 k l0 ([] : List (List Int)) 0
theorem spec_rdEvents.mono_l : ∀ k, (∀ y0 y1 y2, LeO (spec_rdEvents.l0 k y0 y1 y2) (spec_rdEvents.l0 (k + 1) y0 y1 y2)) ∧ (∀ y0 y1 y2 y3, LeO (spec_rdEvents.l1 k y0 y1 y2 y3) (spec_rdEvents.l1 (k + 1) y0 y1 y2 y3)) ∧ (∀ y0 y1 y2 y3 y4 y5 y6, LeO (spec_rdEvents.l2 k y0 y1 y2 y3 y4 y5 y6) (spec_rdEvents.l2 (k + 1) y0 y1 y2 y3 y4 y5 y6)) ∧ (∀ y0 y1 y2 y3 y4 y5 y6 y7 y8 y9 y10, LeO (spec_rdEvents.j3 k y0 y1 y2 y3 y4 y5 y6 y7 y8 y9 y10) (spec_rdEvents.j3 (k + 1) y0 y1 y2 y3 y4 y5 y6 y7 y8 y9 y10))
  | 0 => ⟨fun _ _ _ r h => by simp [spec_rdEvents.l0] at h, fun _ _ _ _ r h => by simp [spec_rdEvents.l1] at h, fun _ _ _ _ _ _ _ r h => by simp [spec_rdEvents.l2] at h, fun _ _ _ _ _ _ _ _ _ _ _ r h => by simp [spec_rdEvents.j3] at h⟩
  | k + 1 => by
    obtain ⟨ih0, ih1, ih2, ih3⟩ := spec_rdEvents.mono_l k
    refine ⟨?_, ?_, ?_, ?_⟩
    · intro y0 y1 y2
      unfold spec_rdEvents.l0
      repeat' first
      | (with_reducible exact ih0 _ _ _)
      | (with_reducible exact ih1 _ _ _ _)
      | (with_reducible exact ih2 _ _ _ _ _ _ _)
      | (with_reducible exact ih3 _ _ _ _ _ _ _ _ _ _ _)
      | (with_reducible exact spec_shLength.mono _ _)
      | (with_reducible exact LeO.refl _)
      | (with_reducible exact LeO.none _)
      | (with_reducible refine LeO.ite ?_ ?_)
      | (with_reducible refine LeO.bind ?_ (fun _ => ?_))
      | exact ih0 _ _ _
      | exact ih1 _ _ _ _
      | exact ih2 _ _ _ _ _ _ _
      | exact ih3 _ _ _ _ _ _ _ _ _ _ _
      | exact spec_shLength.mono _ _
      | exact LeO.none _
      | refine LeO.ite ?_ ?_
      | refine LeO.bind ?_ (fun _ => ?_)
    · intro y0 y1 y2 y3
      unfold spec_rdEvents.l1
      repeat' first
      | (with_reducible exact ih0 _ _ _)
      | (with_reducible exact ih1 _ _ _ _)
      | (with_reducible exact ih2 _ _ _ _ _ _ _)
      | (with_reducible exact ih3 _ _ _ _ _ _ _ _ _ _ _)
      | (with_reducible exact spec_shLength.mono _ _)
      | (with_reducible exact LeO.refl _)
      | (with_reducible exact LeO.none _)
      | (with_reducible refine LeO.ite ?_ ?_)
      | (with_reducible refine LeO.bind ?_ (fun _ => ?_))
      | exact ih0 _ _ _
      | exact ih1 _ _ _ _
      | exact ih2 _ _ _ _ _ _ _
      | exact ih3 _ _ _ _ _ _ _ _ _ _ _
      | exact spec_shLength.mono _ _
      | exact LeO.none _
      | refine LeO.ite ?_ ?_
      | refine LeO.bind ?_ (fun _ => ?_)
    · intro y0 y1 y2 y3 y4 y5 y6
      unfold spec_rdEvents.l2
      repeat' first
      | (with_reducible exact ih0 _ _ _)
      | (with_reducible exact ih1 _ _ _ _)
      | (with_reducible exact ih2 _ _ _ _ _ _ _)
      | (with_reducible exact ih3 _ _ _ _ _ _ _ _ _ _ _)
      | (with_reducible exact spec_shLength.mono _ _)
      | (with_reducible exact LeO.refl _)
      | (with_reducible exact LeO.none _)
      | (with_reducible refine LeO.ite ?_ ?_)
      | (with_reducible refine LeO.bind ?_ (fun _ => ?_))
      | exact ih0 _ _ _
      | exact ih1 _ _ _ _
      | exact ih2 _ _ _ _ _ _ _
      | exact ih3 _ _ _ _ _ _ _ _ _ _ _
      | exact spec_shLength.mono _ _
      | exact LeO.none _
      | refine LeO.ite ?_ ?_
      | refine LeO.bind ?_ (fun _ => ?_)
    · intro y0 y1 y2 y3 y4 y5 y6 y7 y8 y9 y10
      unfold spec_rdEvents.j3
      repeat' first
      | (with_reducible exact ih0 _ _ _)
      | (with_reducible exact ih1 _ _ _ _)
      | (with_reducible exact ih2 _ _ _ _ _ _ _)
      | (with_reducible exact ih3 _ _ _ _ _ _ _ _ _ _ _)
      | (with_reducible exact spec_shLength.mono _ _)
      | (with_reducible exact LeO.refl _)
      | (with_reducible exact LeO.none _)
      | (with_reducible refine LeO.ite ?_ ?_)
      | (with_reducible refine LeO.bind ?_ (fun _ => ?_))
      | exact ih0 _ _ _
      | exact ih1 _ _ _ _
      | exact ih2 _ _ _ _ _ _ _
      | exact ih3 _ _ _ _ _ _ _ _ _ _ _
      | exact spec_shLength.mono _ _
      | exact LeO.none _
      | refine LeO.ite ?_ ?_
      | refine LeO.bind ?_ (fun _ => ?_)
theorem spec_rdEvents.mono : ∀ a0 k, LeO (spec_rdEvents.f k a0) (spec_rdEvents.f (k + 1) a0) := by
  intro a0 k
  obtain ⟨ih0, ih1, ih2, ih3⟩ := spec_rdEvents.mono_l k
  unfold spec_rdEvents.f
  repeat' first
      | (with_reducible exact ih0 _ _ _)
      | (with_reducible exact ih1 _ _ _ _)
      | (with_reducible exact ih2 _ _ _ _ _ _ _)
      | (with_reducible exact ih3 _ _ _ _ _ _ _ _ _ _ _)
      | (with_reducible exact spec_shLength.mono _ _)
      | (with_reducible exact LeO.refl _)
      | (with_reducible exact LeO.none _)
      | (with_reducible refine LeO.ite ?_ ?_)
      | (with_reducible refine LeO.bind ?_ (fun _ => ?_))
      | exact ih0 _ _ _
      | exact ih1 _ _ _ _
      | exact ih2 _ _ _ _ _ _ _
      | exact ih3 _ _ _ _ _ _ _ _ _ _ _
      | exact spec_shLength.mono _ _
      | exact LeO.none _
      | refine LeO.ite ?_ ?_
      | refine LeO.bind ?_ (fun _ => ?_)
set_option maxHeartbeats 8000000 in
set_option maxRecDepth 100000 in
theorem spec_rdEvents.calls (k : Nat) (A0 : Option Addr) (c0 : Nat) (l0 : List (S87)) (r : List (List Int)) (w : World) (hr0 : Kd.C k87 w A0 l0.length l0) (hc0 : l0.length ≤ c0) (h : spec_rdEvents.f k l0 = some r) :
  Calls Try.prog 74 #[.slice A0 l0.length c0] w fun e w' => ∃ v0_ : Value, e = .returned (v0_) ∧ Kd.S (Kd.slice 3 (Kd.int .i64)) 54 w' w.heap.size (fun _ => True) v0_ r ∧ Below w.heap.size w w' := by
 have hu87 := Try.underlying87
 have HR0 := zm hr0
 have HC0 := zm hc0
 clear hr0 hc0
 have HB := zm (Below.refl w.heap.size w)
 have H : (spec_rdEvents.l0 k l0 ([] : List (List Int)) 0) = some r := h
 clear h
 have H' := zm H
 clear H
 go_enter Try.func74, Try.ntmps74
 go_wp2
 go_loopg [3, 4] k (fun kq v3 v4 w' => ∃ (x3_1 : List (List Int)) (x4_1 : Int), v4 = .int .i64 x4_1 ∧ Aside0 (spec_rdEvents.l0 kq l0 x3_1 x4_1 = some r) ∧ Aside0 (kq ≤ k) ∧ Aside0 (Kd.S (Kd.slice 3 (Kd.int .i64)) 54 w' w.heap.size (fun _ => True) v3 x3_1) ∧ Aside0 (Below w.heap.size w w'))
 case atStart => exact ⟨(([] : List (List Int))), (0), (by first | rfl | (simp; done) | (simp [*]; done)), H', ⟨Nat.le_refl _⟩, ⟨by first | exact Kd.S_nil _ _ _ _ _ | exact Kd.N_nil _ _ _ _ _ | exact Kd.V_nil _ _ _ _ _ | exact Kd.Q_nil _ _ _ _ _ | exact Kd.R_nil _ _ _ _ _⟩, ⟨zb⟩⟩
 case round =>
  clear H'
  obtain ⟨x3_1, x4_1, rfl, HA, HK1, HO_3, HB⟩ := hrel
  cases gk with
  | zero => exact absurd HA.out (by simp [spec_rdEvents.l0])
  | succ k1 =>
   have H := HA.out
   clear HA
   simp only [spec_rdEvents.l0] at H
   replace H := Option.bind_eq_some_iff.mp H
   obtain ⟨t120, A20, H⟩ := H
   (try dsimp only at H)
   have A2 := zm A20
   clear A20
   by_cases c3 : x4_1 ≤ t120
   rotate_left
   ·
    rw [if_neg c3] at H
    have c3b0 : decide (x4_1 ≤ t120) = false := decide_eq_false c3
    clear c3
    obtain rfl := Option.some.inj H
    go_wp2_with (first | ((with_reducible refine gate_callee (f := 117) rfl ?_); refine goesA_ (some 10) Try.func117 #[.slice A0 l0.length c0] rfl ?_; (with_reducible refine (spec_shLength.calls k1 _ _ l0 t120 _ ?side1 ?side2 A2.out).mono ?_); (case side1 => repeat (first | exact (Kd.C_below HR0.out HB.out) | (with_reducible refine Kd.C_alloc ?_ _) | (with_reducible refine Kd.C_drewN ?_ _) | (with_reducible refine Kd.C_drew ?_))); (case side2 => exact HC0.out); rintro e w49 ⟨rfl, hb⟩; refine ⟨_, rfl, ?_⟩; replace HO_3 := zm (Kd.S_below (zS HO_3.out) hb); replace HB := zm (below_step zb hb); (try clear hb); (try clear hb2); (try clear hk); (try clear hi)))
    go_ret
    exact ⟨_, zr, zS HO_3.out, zb⟩

   rw [if_pos c3] at H
   have c3b0 : decide (x4_1 ≤ t120) = true := decide_eq_true c3
   clear c3
   have H' := zm H
   clear H
   go_wp2_with (first | ((with_reducible refine gate_callee (f := 117) rfl ?_); refine goesA_ (some 10) Try.func117 #[.slice A0 l0.length c0] rfl ?_; (with_reducible refine (spec_shLength.calls k1 _ _ l0 t120 _ ?side1 ?side2 A2.out).mono ?_); (case side1 => repeat (first | exact (Kd.C_below HR0.out HB.out) | (with_reducible refine Kd.C_alloc ?_ _) | (with_reducible refine Kd.C_drewN ?_ _) | (with_reducible refine Kd.C_drew ?_))); (case side2 => exact HC0.out); rintro e w4 ⟨rfl, hb⟩; refine ⟨_, rfl, ?_⟩; replace HO_3 := zm (Kd.S_below (zS HO_3.out) hb); replace HB := zm (below_step zb hb); (try clear hb); (try clear hb2); (try clear hk); (try clear hi)))
   go_loopg [3, 5] k1 (fun kq v3 v5 w' => ∃ (x3_2 : List (List Int)) (x5_2 : Int), v5 = .int .i64 x5_2 ∧ Aside0 (spec_rdEvents.l1 kq l0 x3_2 x4_1 x5_2 = some r) ∧ Aside0 (kq ≤ k1) ∧ Aside0 (Kd.S (Kd.slice 3 (Kd.int .i64)) 54 w' w.heap.size (fun _ => True) v3 x3_2) ∧ Aside0 (Below w.heap.size w w'))
   case atStart => exact ⟨(x3_1), (0), (by first | rfl | (simp; done) | (simp [*]; done)), H', ⟨Nat.le_refl _⟩, ⟨zS HO_3.out⟩, ⟨zb⟩⟩
   case round =>
    clear H'
    (try clear c1); (try clear p2); (try clear c3); (try clear c3b0)
    obtain ⟨x3_2, x5_2, rfl, HA, HK2, HO_3, HB⟩ := hrel
    cases gk with
    | zero => exact absurd HA.out (by simp [spec_rdEvents.l1])
    | succ k2 =>
     have H := HA.out
     clear HA
     simp only [spec_rdEvents.l1] at H
     by_cases c5 : x5_2 < 20
     rotate_left
     ·
      rw [if_neg c5] at H
      have c5b0 : decide (x5_2 < 20) = false := decide_eq_false c5
      clear c5
      have H' := zm H
      clear H
      go_wp2
      go_roundg k2
      case measure => have := HK1.out; have := HK2.out; omega
      case rel => exact ⟨(x3_2), (wrap64 (x4_1 + 1)), (by first | rfl | (simp; done) | (simp [*]; done)), H', ⟨by have := HK1.out; have := HK2.out; omega⟩, ⟨zS HO_3.out⟩, ⟨zb⟩⟩
     rw [if_pos c5] at H
     have c5b0 : decide (x5_2 < 20) = true := decide_eq_true c5
     clear c5
     have H' := zm H
     clear H
     go_wp2
     go_loopg [3, 20] k2 (fun kq v3 v20 w' => ∃ (x3_3 : List (List Int)) (x20_3 : Int), v20 = .int .i64 x20_3 ∧ Aside0 (spec_rdEvents.l2 kq l0 x3_3 x4_1 x5_2 l0 (l0.length : Int) x20_3 = some r) ∧ Aside0 (kq ≤ k2) ∧ Aside0 (Kd.S (Kd.slice 3 (Kd.int .i64)) 54 w' w.heap.size (fun _ => True) v3 x3_3) ∧ Aside0 (Below w.heap.size w w'))
     case atStart => exact ⟨(x3_2), (0), (by first | rfl | (simp; done) | (simp [*]; done)), H', ⟨Nat.le_refl _⟩, ⟨zS HO_3.out⟩, ⟨zb⟩⟩
     case round =>
      clear H'
      (try clear c1); (try clear p2); (try clear c3); (try clear c3b0); (try clear c5); (try clear c5b0); (try clear p2)
      obtain ⟨x3_3, x20_3, rfl, HA, HK3, HO_3, HB⟩ := hrel
      cases gk with
      | zero => exact absurd HA.out (by simp [spec_rdEvents.l2])
      | succ k3 =>
       have H := HA.out
       clear HA
       simp only [spec_rdEvents.l2] at H
       by_cases c6 : x20_3 < (l0.length : Int)
       rotate_left
       ·
        rw [if_neg c6] at H
        have c6b0 : decide (x20_3 < (l0.length : Int)) = false := decide_eq_false c6
        clear c6
        have H' := zm H
        clear H
        go_wp2
        go_roundg k3
        case measure => have := HK1.out; have := HK2.out; have := HK3.out; omega
        case rel => exact ⟨(x3_3), (wrap64 (x5_2 + 1)), (by first | rfl | (simp; done) | (simp [*]; done)), H', ⟨by have := HK1.out; have := HK2.out; have := HK3.out; omega⟩, ⟨zS HO_3.out⟩, ⟨zb⟩⟩
       rw [if_pos c6] at H
       have c6b0 : decide (x20_3 < (l0.length : Int)) = true := decide_eq_true c6
       clear c6
       by_cases c7 : 0 ≤ x20_3
       rotate_left
       ·
        rw [if_neg c7] at H
        exact absurd H (by simp)
       rw [if_pos c7] at H
       have c7b0 : decide (0 ≤ x20_3) = true := decide_eq_true c7
       clear c7
       by_cases c8 : x20_3 < (l0.length : Int)
       rotate_left
       ·
        rw [if_neg c8] at H
        exact absurd H (by simp)
       rw [if_pos c8] at H
       have c8b0 : decide (x20_3 < (l0.length : Int)) = true := decide_eq_true c8
       clear c8
       have HC9 := zm H
       clear H
       have p121 : 0 ≤ (x20_3 : Int) := zd
       have q121 : x20_3 < (l0.length : Int) := zd
       obtain ⟨ad121, e121, hx121_0, hx121_1, hx121_2⟩ := at_T87 HR0.out x20_3 p121 q121
       cases e121
       replace hx121_0 := zx HB.out hx121_0
       replace hx121_1 := zx HB.out hx121_1
       replace hx121_2 := zx HB.out hx121_2
       replace p121 := eq_true p121
       replace q121 := eq_true q121
       go_upto_region 11 with (first | ((with_reducible refine gate_dst (N := 7) rfl ?_); refine box_event ?hg (N := 7) ?hd (cs := #[.int .i64 0, .int .i64 0, .int .i64 0]) (t := 87) ?hr ?_; (case hd => rfl); (case hg => rfl); (case hr => first | (go_simp; done) | (go_simp; rfl)); intro gb122 hg w10 hbox hb; replace HO_3 := zm (Kd.S_below (zS HO_3.out) hb); have n1_ := zm (below_step zb hb); have BK122 := zm (hbox); have GW122 := zm (zs hg zb : w.heap.size ≤ gb122); have GE122 := zm (zs hg zb : w.heap.size ≤ gb122); replace HB := n1_; clear n1_; clear hb hbox hg; obtain ⟨hcz11_0, hcz11_1, hcz11_2, hfz11_0, hfz11_1, hfz11_2⟩ := zc3 BK122.out))
       (try simp only [Act.put, List.setIfInBounds_toArray, List.set_cons_zero, List.set_cons_succ])
       go_cut [33] (fun v33 wc => ∃ (kq : Nat) (x33_8 : Bool), v33 = .bool x33_8 ∧ Aside0 (spec_rdEvents.j3 kq l0 x3_3 x4_1 x5_2 l0 (l0.length : Int) x20_3 x33_8 ((rd_T87 l0 x20_3).f0) ((rd_T87 l0 x20_3).f1) ((rd_T87 l0 x20_3).f2) = some r) ∧ Aside0 (kq ≤ k3) ∧ Aside0 (Kd.S (Kd.slice 3 (Kd.int .i64)) 54 wc w.heap.size (fun _ => True) u3 x3_3) ∧ Aside0 (wc.heap[gb122]? = some (.cells #[.int .i64 ((rd_T87 l0 x20_3).f0), .int .i64 ((rd_T87 l0 x20_3).f1), .int .i64 ((rd_T87 l0 x20_3).f2)] 87 (0, 0))) ∧ Aside0 (Below w.heap.size w wc))
       case first =>
        have H := HC9.out
        clear HC9
        by_cases c12 : ((rd_T87 l0 x20_3).f0) = x5_2
        rotate_left
        ·
         rw [if_neg c12] at H
         have c12b0 : (((rd_T87 l0 x20_3).f0) == x5_2) = false := beq_eq_false_iff_ne.mpr c12
         have c12b1 : (((rd_T87 l0 x20_3).f0) != x5_2) = true := bne_iff_ne.mpr c12
         (first | rw [c12b0] | (simp only [i64_w, i32_w]; rw [c12b0]) | skip)
         have H' := zm H
         clear H
         obtain ⟨hcz14_0, hcz14_1, hcz14_2, hfz14_0, hfz14_1, hfz14_2⟩ := zc3 BK122.out
         go_wp2
         go_meet
         case rel => exact ⟨_, (false), (by first | rfl | (simp; done) | (simp [*]; done)), H', ⟨by have := HK1.out; have := HK2.out; have := HK3.out; first | omega | exact Nat.le_refl _⟩, ⟨zS (Kd.S_mono (Kd.S_far (p := ⟨gb122, 2, none⟩) (Kd.S_far (p := ⟨gb122, 1, none⟩) (Kd.S_far (p := ⟨gb122, 0, none⟩) (Kd.S_types HO_3.out BK122.out (by decide)) (fun _ hk => hk.2) (.int .i64 ((rd_T87 l0 x20_3).f0))) (fun _ hk => hk.2) (.int .i64 ((rd_T87 l0 x20_3).f1))) (fun _ hk => hk.2) (.int .i64 ((rd_T87 l0 x20_3).f2))) (fun _ hk => trivial))⟩, ⟨by (with_reducible repeat (first | refine blk_drewN ?_ _ | refine blk_drew ?_ | refine blk_alloc ?_ _)); refine blk_put (cs := #[.int .i64 ((rd_T87 l0 x20_3).f0), .int .i64 ((rd_T87 l0 x20_3).f1), .int .i64 0]) ?_ 2 _ rfl; (with_reducible repeat (first | refine blk_drewN ?_ _ | refine blk_drew ?_ | refine blk_alloc ?_ _)); refine blk_put (cs := #[.int .i64 ((rd_T87 l0 x20_3).f0), .int .i64 0, .int .i64 0]) ?_ 1 _ rfl; (with_reducible repeat (first | refine blk_drewN ?_ _ | refine blk_drew ?_ | refine blk_alloc ?_ _)); refine blk_put (cs := #[.int .i64 0, .int .i64 0, .int .i64 0]) ?_ 0 _ rfl; (with_reducible repeat (first | refine blk_drewN ?_ _ | refine blk_drew ?_ | refine blk_alloc ?_ _)); exact BK122.out⟩, ⟨zb⟩⟩
        rw [if_pos c12] at H
        have c12b0 : (((rd_T87 l0 x20_3).f0) == x5_2) = true := beq_iff_eq.mpr c12
        have c12b1 : (((rd_T87 l0 x20_3).f0) != x5_2) = false := bne_eq_false_iff_eq.mpr c12
        clear c12
        (first | rw [c12b0] | (simp only [i64_w, i32_w]; rw [c12b0]) | skip)
        have H' := zm H
        clear H
        obtain ⟨hcz13_0, hcz13_1, hcz13_2, hfz13_0, hfz13_1, hfz13_2⟩ := zc3 BK122.out
        go_wp2
        go_meet
        case rel => exact ⟨_, ((((rd_T87 l0 x20_3).f1) == x4_1)), (by first | rfl | (simp; done) | (simp [*]; done)), H', ⟨by have := HK1.out; have := HK2.out; have := HK3.out; first | omega | exact Nat.le_refl _⟩, ⟨zS (Kd.S_mono (Kd.S_far (p := ⟨gb122, 2, none⟩) (Kd.S_far (p := ⟨gb122, 1, none⟩) (Kd.S_far (p := ⟨gb122, 0, none⟩) (Kd.S_types HO_3.out BK122.out (by decide)) (fun _ hk => hk.2) (.int .i64 ((rd_T87 l0 x20_3).f0))) (fun _ hk => hk.2) (.int .i64 ((rd_T87 l0 x20_3).f1))) (fun _ hk => hk.2) (.int .i64 ((rd_T87 l0 x20_3).f2))) (fun _ hk => trivial))⟩, ⟨by (with_reducible repeat (first | refine blk_drewN ?_ _ | refine blk_drew ?_ | refine blk_alloc ?_ _)); refine blk_put (cs := #[.int .i64 ((rd_T87 l0 x20_3).f0), .int .i64 ((rd_T87 l0 x20_3).f1), .int .i64 0]) ?_ 2 _ rfl; (with_reducible repeat (first | refine blk_drewN ?_ _ | refine blk_drew ?_ | refine blk_alloc ?_ _)); refine blk_put (cs := #[.int .i64 ((rd_T87 l0 x20_3).f0), .int .i64 0, .int .i64 0]) ?_ 1 _ rfl; (with_reducible repeat (first | refine blk_drewN ?_ _ | refine blk_drew ?_ | refine blk_alloc ?_ _)); refine blk_put (cs := #[.int .i64 0, .int .i64 0, .int .i64 0]) ?_ 0 _ rfl; (with_reducible repeat (first | refine blk_drewN ?_ _ | refine blk_drew ?_ | refine blk_alloc ?_ _)); exact BK122.out⟩, ⟨zb⟩⟩
       case rest =>
        clear HC9
        (try clear c1); (try clear p1); (try clear q1); (try clear hx1); (try clear p2); (try clear c3); (try clear c3b0); (try clear c5); (try clear c5b0); (try clear c6); (try clear c6b0); (try clear c7); (try clear c7b0); (try clear c8); (try clear c8b0); (try clear c11); (try clear c12); (try clear c12b0); (try clear c12b1); (try clear p12); (try clear q12); (try clear hx12); (try clear hcz11_0); (try clear hcz11_1); (try clear hcz11_2); (try clear hcz13_0); (try clear hcz13_1); (try clear hcz13_2); (try clear hcz14_0); (try clear hcz14_1); (try clear hcz14_2); (try clear hfz11_0); (try clear hfz11_1); (try clear hfz11_2); (try clear hfz13_0); (try clear hfz13_1); (try clear hfz13_2); (try clear hfz14_0); (try clear hfz14_1); (try clear hfz14_2); (try clear hx121_0); (try clear hx121_1); (try clear hx121_2); (try clear p121); (try clear p2); (try clear q121)
        obtain ⟨kq, x33_8, rfl, HA, HJ8, HO_3, BK122, HB⟩ := hcut
        cases kq with
        | zero => exact absurd HA.out (by simp [spec_rdEvents.j3])
        | succ kj8 =>
         have H := HA.out
         clear HA
         simp only [spec_rdEvents.j3] at H
         by_cases c15 : x33_8 = true
         rotate_left
         ·
          replace c15 := Bool.eq_false_iff.mpr c15
          subst c15
          have H1 : (if ((rd_T87 l0 x20_3).f0) = x5_2 then (if ((rd_T87 l0 x20_3).f2) = x4_1 then (if x3_3.length < 5864062014805 then (spec_rdEvents.l2 kj8 l0 (x3_3 ++ [(([x4_1, x5_2, 0] : List Int))]) x4_1 x5_2 l0 (l0.length : Int) (wrap64 (x20_3 + 1))) else (none)) else (spec_rdEvents.l2 kj8 l0 x3_3 x4_1 x5_2 l0 (l0.length : Int) (wrap64 (x20_3 + 1)))) else (spec_rdEvents.l2 kj8 l0 x3_3 x4_1 x5_2 l0 (l0.length : Int) (wrap64 (x20_3 + 1)))) = some r := by rw [if_neg (show ¬ (false = true) by decide)] at H; exact H
          clear H
          have H := H1
          clear H1
          by_cases c39 : ((rd_T87 l0 x20_3).f0) = x5_2
          rotate_left
          ·
           rw [if_neg c39] at H
           have c39b0 : (((rd_T87 l0 x20_3).f0) == x5_2) = false := beq_eq_false_iff_ne.mpr c39
           have c39b1 : (((rd_T87 l0 x20_3).f0) != x5_2) = true := bne_iff_ne.mpr c39
           have H' := zm H
           clear H
           obtain ⟨hcz48_0, hcz48_1, hcz48_2, hfz48_0, hfz48_1, hfz48_2⟩ := zc3 BK122.out
           go_wp2
           go_roundg kj8
           case measure => have := HK1.out; have := HK2.out; have := HK3.out; have := HJ8.out; omega
           case rel => exact ⟨(x3_3), (wrap64 (x20_3 + 1)), (by first | rfl | (simp; done) | (simp [*]; done)), H', ⟨by have := HK1.out; have := HK2.out; have := HK3.out; have := HJ8.out; omega⟩, ⟨zS HO_3.out⟩, ⟨zb⟩⟩
          rw [if_pos c39] at H
          have c39b0 : (((rd_T87 l0 x20_3).f0) == x5_2) = true := beq_iff_eq.mpr c39
          have c39b1 : (((rd_T87 l0 x20_3).f0) != x5_2) = false := bne_eq_false_iff_eq.mpr c39
          clear c39
          by_cases c40 : ((rd_T87 l0 x20_3).f2) = x4_1
          rotate_left
          ·
           rw [if_neg c40] at H
           have c40b0 : (((rd_T87 l0 x20_3).f2) == x4_1) = false := beq_eq_false_iff_ne.mpr c40
           have c40b1 : (((rd_T87 l0 x20_3).f2) != x4_1) = true := bne_iff_ne.mpr c40
           have H' := zm H
           clear H
           obtain ⟨hcz47_0, hcz47_1, hcz47_2, hfz47_0, hfz47_1, hfz47_2⟩ := zc3 BK122.out
           go_wp2
           go_roundg kj8
           case measure => have := HK1.out; have := HK2.out; have := HK3.out; have := HJ8.out; omega
           case rel => exact ⟨(x3_3), (wrap64 (x20_3 + 1)), (by first | rfl | (simp; done) | (simp [*]; done)), H', ⟨by have := HK1.out; have := HK2.out; have := HK3.out; have := HJ8.out; omega⟩, ⟨zS HO_3.out⟩, ⟨zb⟩⟩
          rw [if_pos c40] at H
          have c40b0 : (((rd_T87 l0 x20_3).f2) == x4_1) = true := beq_iff_eq.mpr c40
          have c40b1 : (((rd_T87 l0 x20_3).f2) != x4_1) = false := bne_eq_false_iff_eq.mpr c40
          clear c40
          obtain ⟨y135, hy135⟩ : ∃ y_ : List Int, y_ = (([x4_1, x5_2, 0] : List Int)) := ⟨_, rfl⟩
          replace H : (if x3_3.length < 5864062014805 then (spec_rdEvents.l2 kj8 l0 (x3_3 ++ [y135]) x4_1 x5_2 l0 (l0.length : Int) (wrap64 (x20_3 + 1))) else (none)) = some r := by first | (rw [hy135]; with_reducible exact H) | (have H2_ := (Option.bind_some _ _).symm.trans H; rw [hy135]; with_reducible exact H2_) | (have H2_ := (Option.bind_some _ _).symm.trans H; with_reducible exact H2_) | with_reducible exact H | (rw [hy135]; exact H) | exact H
          have Ny135 := zm hy135
          clear hy135
          by_cases c41 : x3_3.length < 5864062014805
          rotate_left
          ·
           rw [if_neg c41] at H
           exact absurd H (by simp)
          rw [if_pos c41] at H
          have LMc41 := zm c41
          clear c41
          obtain ⟨y138, hy138⟩ : ∃ y_ : List (List Int), y_ = (x3_3 ++ [y135]) := ⟨_, rfl⟩
          replace H : (spec_rdEvents.l2 kj8 l0 y138 x4_1 x5_2 l0 (l0.length : Int) (wrap64 (x20_3 + 1))) = some r := by first | (rw [hy138]; with_reducible exact H) | (have H2_ := (Option.bind_some _ _).symm.trans H; rw [hy138]; with_reducible exact H2_) | (have H2_ := (Option.bind_some _ _).symm.trans H; with_reducible exact H2_) | with_reducible exact H | (rw [hy138]; exact H) | exact H
          have Ny138 := zm hy138
          clear hy138
          have H' := zm H
          clear H
          obtain ⟨hcz42_0, hcz42_1, hcz42_2, hfz42_0, hfz42_1, hfz42_2⟩ := zc3 BK122.out
          go_wp2_with (first | ((with_reducible refine gate_dst (N := 53) rfl ?_); refine Kd.R_lit (Kd.int .i64) _ 3 ?hg (N := 53) ?hd (xs := ([x4_1, x5_2, 0] : List Int)) (inner := [.int .i64 x4_1, .int .i64 x5_2, .int .i64 0]) (ok := fun _ => True) (okp := fun _ => True) ?hr ?hp (fun _ hk => hk) trivial (Below.refl _ _) (Nat.le_refl _) (by simp) ?_; (case hd => rfl); (case hg => rfl); (case hr => first | (go_simp; done) | (go_simp; rfl)); (case hp => exact (Reps.one (show Kd.M (Kd.int .i64) _ _ _ x4_1 [.int .i64 x4_1] from rfl) (Reps.one (show Kd.M (Kd.int .i64) _ _ _ x5_2 [.int .i64 x5_2] from rfl) (Reps.one (show Kd.M (Kd.int .i64) _ _ _ 0 [.int .i64 0] from rfl) (Reps.none _ _))))); intro v136 w43 ho44 hb hg_ hnew_; clear hg_ hnew_; (first | rw [← Ny135.out] at ho44 | (simp only [Int.reduceToNat] at ho44; rw [← Ny135.out] at ho44)); replace HO_3 := zm (Kd.S_elder' (zS HO_3.out) (Kd.R_base ho44) hb); have HO137 := zm (Kd.R_lower ho44 (below_size zb)); replace BK122 := zm (blk_below (g := gb122) zk hb); replace HB := zm (below_step zb hb); clear hb ho44; obtain ⟨Ao46, co46, eo46⟩ := Kd.R_slice HO137.out; subst eo46) | ((with_reducible refine gate_builtin (b := .append) (xs := #[.tmp 50, .tmp 54]) rfl ?_); at_builtin; refine Kd.S_append (Kd.slice 3 (Kd.int .i64)) (w0 := w) w.heap.size rfl (.tmp 50) (.tmp 54) 36 54 (.slice none 0 0) 24 rfl Try.underlying36 info54 rfl (by decide) (by omega) u3 x3_3 y135 [.slice Ao46 y135.length co46] (fun _ => True) (fun k_ => some k_ = (.slice Ao46 y135.length co46 : Value).ownBlock) rfl rfl ?aP (fun k_ hk_ => ((Kd.R_mono (ok' := fun k_ => ((fun _ => True)) k_ ∧ some k_ ≠ (u3 : Value).ownBlock) (Kd.R_apart' (HO137.out) (Kd.S_typed HO_3.out) (by decide)) (fun k_ hk => ⟨trivial, hk.2⟩))).1 k_ hk_.symm) ?aF ?aO ?aB ?aS ?aL ?_; (case aP => exact Kd.M_row (Kd.R_mono (Kd.R_tight rfl (Kd.R_mono (ok' := fun k_ => ((fun _ => True)) k_ ∧ some k_ ≠ (u3 : Value).ownBlock) (Kd.R_apart' (HO137.out) (Kd.S_typed HO_3.out) (by decide)) (fun k_ hk => ⟨trivial, hk.2⟩))) (fun _ h_ => h_))); (case aB => exact zb); (case aF => exact (fun _ _ => trivial)); (case aO => exact (zS (Kd.S_mono HO_3.out (fun k_ hk => ⟨trivial, fun e_ => hk.2 e_⟩)))); (case aS => exact (below_size zb)); (case aL => have := LMc41.out; omega); intro v139 w45 ho hb hg hat; rw [← Ny138.out] at ho; replace BK122 := zm (blk_grown (g := gb122) (o := .cells #[.int .i64 ((rd_T87 l0 x20_3).f0), .int .i64 ((rd_T87 l0 x20_3).f1), .int .i64 ((rd_T87 l0 x20_3).f2)] 87 (0, 0)) zk hg (Kd.S_ne HO_3.out BK122.out (by decide))); replace HB := zm (hb); have HO140 := zm (ho); clear HO_3 HO137; clear ho hb hg hat))
          go_roundg kj8
          case measure => have := HK1.out; have := HK2.out; have := HK3.out; have := HJ8.out; omega
          case rel => exact ⟨(y138), (wrap64 (x20_3 + 1)), (by first | rfl | (simp; done) | (simp [*]; done)), H', ⟨by have := HK1.out; have := HK2.out; have := HK3.out; have := HJ8.out; omega⟩, ⟨zS HO140.out⟩, ⟨zb⟩⟩
         subst c15
         have H1 : (if x3_3.length < 5864062014805 then ((some (x3_3 ++ [(([x4_1, x5_2, 1] : List Int))] : List (List Int))).bind fun y126 => (if ((rd_T87 l0 x20_3).f0) = x5_2 then (if ((rd_T87 l0 x20_3).f2) = x4_1 then (if y126.length < 5864062014805 then (spec_rdEvents.l2 kj8 l0 (y126 ++ [(([x4_1, x5_2, 0] : List Int))]) x4_1 x5_2 l0 (l0.length : Int) (wrap64 (x20_3 + 1))) else (none)) else (spec_rdEvents.l2 kj8 l0 y126 x4_1 x5_2 l0 (l0.length : Int) (wrap64 (x20_3 + 1)))) else (spec_rdEvents.l2 kj8 l0 y126 x4_1 x5_2 l0 (l0.length : Int) (wrap64 (x20_3 + 1))))) else (none)) = some r := by rw [if_pos rfl] at H; exact H
         clear H
         have H := H1
         clear H1
         obtain ⟨y123, hy123⟩ : ∃ y_ : List Int, y_ = (([x4_1, x5_2, 1] : List Int)) := ⟨_, rfl⟩
         replace H : (if x3_3.length < 5864062014805 then ((some (x3_3 ++ [y123] : List (List Int))).bind fun y126 => (if ((rd_T87 l0 x20_3).f0) = x5_2 then (if ((rd_T87 l0 x20_3).f2) = x4_1 then (if y126.length < 5864062014805 then (spec_rdEvents.l2 kj8 l0 (y126 ++ [(([x4_1, x5_2, 0] : List Int))]) x4_1 x5_2 l0 (l0.length : Int) (wrap64 (x20_3 + 1))) else (none)) else (spec_rdEvents.l2 kj8 l0 y126 x4_1 x5_2 l0 (l0.length : Int) (wrap64 (x20_3 + 1)))) else (spec_rdEvents.l2 kj8 l0 y126 x4_1 x5_2 l0 (l0.length : Int) (wrap64 (x20_3 + 1))))) else (none)) = some r := by first | (rw [hy123]; with_reducible exact H) | (have H2_ := (Option.bind_some _ _).symm.trans H; rw [hy123]; with_reducible exact H2_) | (have H2_ := (Option.bind_some _ _).symm.trans H; with_reducible exact H2_) | with_reducible exact H | (rw [hy123]; exact H) | exact H
         have Ny123 := zm hy123
         clear hy123
         by_cases c16 : x3_3.length < 5864062014805
         rotate_left
         ·
          rw [if_neg c16] at H
          exact absurd H (by simp)
         rw [if_pos c16] at H
         have LMc16 := zm c16
         clear c16
         obtain ⟨y126, hy126⟩ : ∃ y_ : List (List Int), y_ = (x3_3 ++ [y123]) := ⟨_, rfl⟩
         replace H : (if ((rd_T87 l0 x20_3).f0) = x5_2 then (if ((rd_T87 l0 x20_3).f2) = x4_1 then (if y126.length < 5864062014805 then (spec_rdEvents.l2 kj8 l0 (y126 ++ [(([x4_1, x5_2, 0] : List Int))]) x4_1 x5_2 l0 (l0.length : Int) (wrap64 (x20_3 + 1))) else (none)) else (spec_rdEvents.l2 kj8 l0 y126 x4_1 x5_2 l0 (l0.length : Int) (wrap64 (x20_3 + 1)))) else (spec_rdEvents.l2 kj8 l0 y126 x4_1 x5_2 l0 (l0.length : Int) (wrap64 (x20_3 + 1)))) = some r := by first | (rw [hy126]; with_reducible exact H) | (have H2_ := (Option.bind_some _ _).symm.trans H; rw [hy126]; with_reducible exact H2_) | (have H2_ := (Option.bind_some _ _).symm.trans H; with_reducible exact H2_) | with_reducible exact H | (rw [hy126]; exact H) | exact H
         have Ny126 := zm hy126
         clear hy126
         by_cases c17 : ((rd_T87 l0 x20_3).f0) = x5_2
         rotate_left
         ·
          rw [if_neg c17] at H
          have c17b0 : (((rd_T87 l0 x20_3).f0) == x5_2) = false := beq_eq_false_iff_ne.mpr c17
          have c17b1 : (((rd_T87 l0 x20_3).f0) != x5_2) = true := bne_iff_ne.mpr c17
          have H' := zm H
          clear H
          go_wp2_with (first | ((with_reducible refine gate_dst (N := 37) rfl ?_); refine Kd.R_lit (Kd.int .i64) _ 3 ?hg (N := 37) ?hd (xs := ([x4_1, x5_2, 1] : List Int)) (inner := [.int .i64 x4_1, .int .i64 x5_2, .int .i64 1]) (ok := fun _ => True) (okp := fun _ => True) ?hr ?hp (fun _ hk => hk) trivial (Below.refl _ _) (Nat.le_refl _) (by simp) ?_; (case hd => rfl); (case hg => rfl); (case hr => first | (go_simp; done) | (go_simp; rfl)); (case hp => exact (Reps.one (show Kd.M (Kd.int .i64) _ _ _ x4_1 [.int .i64 x4_1] from rfl) (Reps.one (show Kd.M (Kd.int .i64) _ _ _ x5_2 [.int .i64 x5_2] from rfl) (Reps.one (show Kd.M (Kd.int .i64) _ _ _ 1 [.int .i64 1] from rfl) (Reps.none _ _))))); intro v124 w34 ho35 hb hg_ hnew_; clear hg_ hnew_; (first | rw [← Ny123.out] at ho35 | (simp only [Int.reduceToNat] at ho35; rw [← Ny123.out] at ho35)); replace HO_3 := zm (Kd.S_elder' (zS HO_3.out) (Kd.R_base ho35) hb); have HO125 := zm (Kd.R_lower ho35 (below_size zb)); replace BK122 := zm (blk_below (g := gb122) zk hb); replace HB := zm (below_step zb hb); clear hb ho35; obtain ⟨Ao37, co37, eo37⟩ := Kd.R_slice HO125.out; subst eo37) | ((with_reducible refine gate_builtin (b := .append) (xs := #[.tmp 34, .tmp 38]) rfl ?_); at_builtin; refine Kd.S_append (Kd.slice 3 (Kd.int .i64)) (w0 := w) w.heap.size rfl (.tmp 34) (.tmp 38) 36 54 (.slice none 0 0) 24 rfl Try.underlying36 info54 rfl (by decide) (by omega) u3 x3_3 y123 [.slice Ao37 y123.length co37] (fun _ => True) (fun k_ => some k_ = (.slice Ao37 y123.length co37 : Value).ownBlock) rfl rfl ?aP (fun k_ hk_ => ((Kd.R_mono (ok' := fun k_ => ((fun _ => True)) k_ ∧ some k_ ≠ (u3 : Value).ownBlock) (Kd.R_apart' (HO125.out) (Kd.S_typed HO_3.out) (by decide)) (fun k_ hk => ⟨trivial, hk.2⟩))).1 k_ hk_.symm) ?aF ?aO ?aB ?aS ?aL ?_; (case aP => exact Kd.M_row (Kd.R_mono (Kd.R_tight rfl (Kd.R_mono (ok' := fun k_ => ((fun _ => True)) k_ ∧ some k_ ≠ (u3 : Value).ownBlock) (Kd.R_apart' (HO125.out) (Kd.S_typed HO_3.out) (by decide)) (fun k_ hk => ⟨trivial, hk.2⟩))) (fun _ h_ => h_))); (case aB => exact zb); (case aF => exact (fun _ _ => trivial)); (case aO => exact (zS (Kd.S_mono HO_3.out (fun k_ hk => ⟨trivial, fun e_ => hk.2 e_⟩)))); (case aS => exact (below_size zb)); (case aL => have := LMc16.out; omega); intro v127 w36 ho hb hg hat; rw [← Ny126.out] at ho; replace BK122 := zm (blk_grown (g := gb122) (o := .cells #[.int .i64 ((rd_T87 l0 x20_3).f0), .int .i64 ((rd_T87 l0 x20_3).f1), .int .i64 ((rd_T87 l0 x20_3).f2)] 87 (0, 0)) zk hg (Kd.S_ne HO_3.out BK122.out (by decide))); replace HB := zm (hb); have HO128 := zm (ho); clear HO_3 HO125; clear ho hb hg hat; obtain ⟨hcz38_0, hcz38_1, hcz38_2, hfz38_0, hfz38_1, hfz38_2⟩ := zc3 BK122.out))
          go_roundg kj8
          case measure => have := HK1.out; have := HK2.out; have := HK3.out; have := HJ8.out; omega
          case rel => exact ⟨(y126), (wrap64 (x20_3 + 1)), (by first | rfl | (simp; done) | (simp [*]; done)), H', ⟨by have := HK1.out; have := HK2.out; have := HK3.out; have := HJ8.out; omega⟩, ⟨zS HO128.out⟩, ⟨zb⟩⟩
         rw [if_pos c17] at H
         have c17b0 : (((rd_T87 l0 x20_3).f0) == x5_2) = true := beq_iff_eq.mpr c17
         have c17b1 : (((rd_T87 l0 x20_3).f0) != x5_2) = false := bne_eq_false_iff_eq.mpr c17
         clear c17
         by_cases c18 : ((rd_T87 l0 x20_3).f2) = x4_1
         rotate_left
         ·
          rw [if_neg c18] at H
          have c18b0 : (((rd_T87 l0 x20_3).f2) == x4_1) = false := beq_eq_false_iff_ne.mpr c18
          have c18b1 : (((rd_T87 l0 x20_3).f2) != x4_1) = true := bne_iff_ne.mpr c18
          have H' := zm H
          clear H
          go_wp2_with (first | ((with_reducible refine gate_dst (N := 37) rfl ?_); refine Kd.R_lit (Kd.int .i64) _ 3 ?hg (N := 37) ?hd (xs := ([x4_1, x5_2, 1] : List Int)) (inner := [.int .i64 x4_1, .int .i64 x5_2, .int .i64 1]) (ok := fun _ => True) (okp := fun _ => True) ?hr ?hp (fun _ hk => hk) trivial (Below.refl _ _) (Nat.le_refl _) (by simp) ?_; (case hd => rfl); (case hg => rfl); (case hr => first | (go_simp; done) | (go_simp; rfl)); (case hp => exact (Reps.one (show Kd.M (Kd.int .i64) _ _ _ x4_1 [.int .i64 x4_1] from rfl) (Reps.one (show Kd.M (Kd.int .i64) _ _ _ x5_2 [.int .i64 x5_2] from rfl) (Reps.one (show Kd.M (Kd.int .i64) _ _ _ 1 [.int .i64 1] from rfl) (Reps.none _ _))))); intro v124 w29 ho30 hb hg_ hnew_; clear hg_ hnew_; (first | rw [← Ny123.out] at ho30 | (simp only [Int.reduceToNat] at ho30; rw [← Ny123.out] at ho30)); replace HO_3 := zm (Kd.S_elder' (zS HO_3.out) (Kd.R_base ho30) hb); have HO125 := zm (Kd.R_lower ho30 (below_size zb)); replace BK122 := zm (blk_below (g := gb122) zk hb); replace HB := zm (below_step zb hb); clear hb ho30; obtain ⟨Ao32, co32, eo32⟩ := Kd.R_slice HO125.out; subst eo32) | ((with_reducible refine gate_builtin (b := .append) (xs := #[.tmp 34, .tmp 38]) rfl ?_); at_builtin; refine Kd.S_append (Kd.slice 3 (Kd.int .i64)) (w0 := w) w.heap.size rfl (.tmp 34) (.tmp 38) 36 54 (.slice none 0 0) 24 rfl Try.underlying36 info54 rfl (by decide) (by omega) u3 x3_3 y123 [.slice Ao32 y123.length co32] (fun _ => True) (fun k_ => some k_ = (.slice Ao32 y123.length co32 : Value).ownBlock) rfl rfl ?aP (fun k_ hk_ => ((Kd.R_mono (ok' := fun k_ => ((fun _ => True)) k_ ∧ some k_ ≠ (u3 : Value).ownBlock) (Kd.R_apart' (HO125.out) (Kd.S_typed HO_3.out) (by decide)) (fun k_ hk => ⟨trivial, hk.2⟩))).1 k_ hk_.symm) ?aF ?aO ?aB ?aS ?aL ?_; (case aP => exact Kd.M_row (Kd.R_mono (Kd.R_tight rfl (Kd.R_mono (ok' := fun k_ => ((fun _ => True)) k_ ∧ some k_ ≠ (u3 : Value).ownBlock) (Kd.R_apart' (HO125.out) (Kd.S_typed HO_3.out) (by decide)) (fun k_ hk => ⟨trivial, hk.2⟩))) (fun _ h_ => h_))); (case aB => exact zb); (case aF => exact (fun _ _ => trivial)); (case aO => exact (zS (Kd.S_mono HO_3.out (fun k_ hk => ⟨trivial, fun e_ => hk.2 e_⟩)))); (case aS => exact (below_size zb)); (case aL => have := LMc16.out; omega); intro v127 w31 ho hb hg hat; rw [← Ny126.out] at ho; replace BK122 := zm (blk_grown (g := gb122) (o := .cells #[.int .i64 ((rd_T87 l0 x20_3).f0), .int .i64 ((rd_T87 l0 x20_3).f1), .int .i64 ((rd_T87 l0 x20_3).f2)] 87 (0, 0)) zk hg (Kd.S_ne HO_3.out BK122.out (by decide))); replace HB := zm (hb); have HO128 := zm (ho); clear HO_3 HO125; clear ho hb hg hat; obtain ⟨hcz33_0, hcz33_1, hcz33_2, hfz33_0, hfz33_1, hfz33_2⟩ := zc3 BK122.out))
          go_roundg kj8
          case measure => have := HK1.out; have := HK2.out; have := HK3.out; have := HJ8.out; omega
          case rel => exact ⟨(y126), (wrap64 (x20_3 + 1)), (by first | rfl | (simp; done) | (simp [*]; done)), H', ⟨by have := HK1.out; have := HK2.out; have := HK3.out; have := HJ8.out; omega⟩, ⟨zS HO128.out⟩, ⟨zb⟩⟩
         rw [if_pos c18] at H
         have c18b0 : (((rd_T87 l0 x20_3).f2) == x4_1) = true := beq_iff_eq.mpr c18
         have c18b1 : (((rd_T87 l0 x20_3).f2) != x4_1) = false := bne_eq_false_iff_eq.mpr c18
         clear c18
         obtain ⟨y129, hy129⟩ : ∃ y_ : List Int, y_ = (([x4_1, x5_2, 0] : List Int)) := ⟨_, rfl⟩
         replace H : (if y126.length < 5864062014805 then (spec_rdEvents.l2 kj8 l0 (y126 ++ [y129]) x4_1 x5_2 l0 (l0.length : Int) (wrap64 (x20_3 + 1))) else (none)) = some r := by first | (rw [hy129]; with_reducible exact H) | (have H2_ := (Option.bind_some _ _).symm.trans H; rw [hy129]; with_reducible exact H2_) | (have H2_ := (Option.bind_some _ _).symm.trans H; with_reducible exact H2_) | with_reducible exact H | (rw [hy129]; exact H) | exact H
         have Ny129 := zm hy129
         clear hy129
         by_cases c19 : y126.length < 5864062014805
         rotate_left
         ·
          rw [if_neg c19] at H
          exact absurd H (by simp)
         rw [if_pos c19] at H
         have LMc19 := zm c19
         clear c19
         obtain ⟨y132, hy132⟩ : ∃ y_ : List (List Int), y_ = (y126 ++ [y129]) := ⟨_, rfl⟩
         replace H : (spec_rdEvents.l2 kj8 l0 y132 x4_1 x5_2 l0 (l0.length : Int) (wrap64 (x20_3 + 1))) = some r := by first | (rw [hy132]; with_reducible exact H) | (have H2_ := (Option.bind_some _ _).symm.trans H; rw [hy132]; with_reducible exact H2_) | (have H2_ := (Option.bind_some _ _).symm.trans H; with_reducible exact H2_) | with_reducible exact H | (rw [hy132]; exact H) | exact H
         have Ny132 := zm hy132
         clear hy132
         have H' := zm H
         clear H
         go_wp2_with (first | ((with_reducible refine gate_dst (N := 37) rfl ?_); refine Kd.R_lit (Kd.int .i64) _ 3 ?hg (N := 37) ?hd (xs := ([x4_1, x5_2, 1] : List Int)) (inner := [.int .i64 x4_1, .int .i64 x5_2, .int .i64 1]) (ok := fun _ => True) (okp := fun _ => True) ?hr ?hp (fun _ hk => hk) trivial (Below.refl _ _) (Nat.le_refl _) (by simp) ?_; (case hd => rfl); (case hg => rfl); (case hr => first | (go_simp; done) | (go_simp; rfl)); (case hp => exact (Reps.one (show Kd.M (Kd.int .i64) _ _ _ x4_1 [.int .i64 x4_1] from rfl) (Reps.one (show Kd.M (Kd.int .i64) _ _ _ x5_2 [.int .i64 x5_2] from rfl) (Reps.one (show Kd.M (Kd.int .i64) _ _ _ 1 [.int .i64 1] from rfl) (Reps.none _ _))))); intro v124 w20 ho21 hb hg_ hnew_; clear hg_ hnew_; (first | rw [← Ny123.out] at ho21 | (simp only [Int.reduceToNat] at ho21; rw [← Ny123.out] at ho21)); replace HO_3 := zm (Kd.S_elder' (zS HO_3.out) (Kd.R_base ho21) hb); have HO125 := zm (Kd.R_lower ho21 (below_size zb)); replace BK122 := zm (blk_below (g := gb122) zk hb); replace HB := zm (below_step zb hb); clear hb ho21; obtain ⟨Ao23, co23, eo23⟩ := Kd.R_slice HO125.out; subst eo23) | ((with_reducible refine gate_builtin (b := .append) (xs := #[.tmp 34, .tmp 38]) rfl ?_); at_builtin; refine Kd.S_append (Kd.slice 3 (Kd.int .i64)) (w0 := w) w.heap.size rfl (.tmp 34) (.tmp 38) 36 54 (.slice none 0 0) 24 rfl Try.underlying36 info54 rfl (by decide) (by omega) u3 x3_3 y123 [.slice Ao23 y123.length co23] (fun _ => True) (fun k_ => some k_ = (.slice Ao23 y123.length co23 : Value).ownBlock) rfl rfl ?aP (fun k_ hk_ => ((Kd.R_mono (ok' := fun k_ => ((fun _ => True)) k_ ∧ some k_ ≠ (u3 : Value).ownBlock) (Kd.R_apart' (HO125.out) (Kd.S_typed HO_3.out) (by decide)) (fun k_ hk => ⟨trivial, hk.2⟩))).1 k_ hk_.symm) ?aF ?aO ?aB ?aS ?aL ?_; (case aP => exact Kd.M_row (Kd.R_mono (Kd.R_tight rfl (Kd.R_mono (ok' := fun k_ => ((fun _ => True)) k_ ∧ some k_ ≠ (u3 : Value).ownBlock) (Kd.R_apart' (HO125.out) (Kd.S_typed HO_3.out) (by decide)) (fun k_ hk => ⟨trivial, hk.2⟩))) (fun _ h_ => h_))); (case aB => exact zb); (case aF => exact (fun _ _ => trivial)); (case aO => exact (zS (Kd.S_mono HO_3.out (fun k_ hk => ⟨trivial, fun e_ => hk.2 e_⟩)))); (case aS => exact (below_size zb)); (case aL => have := LMc16.out; omega); intro v127 w22 ho hb hg hat; rw [← Ny126.out] at ho; replace BK122 := zm (blk_grown (g := gb122) (o := .cells #[.int .i64 ((rd_T87 l0 x20_3).f0), .int .i64 ((rd_T87 l0 x20_3).f1), .int .i64 ((rd_T87 l0 x20_3).f2)] 87 (0, 0)) zk hg (Kd.S_ne HO_3.out BK122.out (by decide))); replace HB := zm (hb); have HO128 := zm (ho); clear HO_3 HO125; clear ho hb hg hat; obtain ⟨hcz24_0, hcz24_1, hcz24_2, hfz24_0, hfz24_1, hfz24_2⟩ := zc3 BK122.out) | ((with_reducible refine gate_dst (N := 53) rfl ?_); refine Kd.R_lit (Kd.int .i64) _ 3 ?hg (N := 53) ?hd (xs := ([x4_1, x5_2, 0] : List Int)) (inner := [.int .i64 x4_1, .int .i64 x5_2, .int .i64 0]) (ok := fun _ => True) (okp := fun _ => True) ?hr ?hp (fun _ hk => hk) trivial (Below.refl _ _) (Nat.le_refl _) (by simp) ?_; (case hd => rfl); (case hg => rfl); (case hr => first | (go_simp; done) | (go_simp; rfl)); (case hp => exact (Reps.one (show Kd.M (Kd.int .i64) _ _ _ x4_1 [.int .i64 x4_1] from rfl) (Reps.one (show Kd.M (Kd.int .i64) _ _ _ x5_2 [.int .i64 x5_2] from rfl) (Reps.one (show Kd.M (Kd.int .i64) _ _ _ 0 [.int .i64 0] from rfl) (Reps.none _ _))))); intro v130 w25 ho26 hb hg_ hnew_; clear hg_ hnew_; (first | rw [← Ny129.out] at ho26 | (simp only [Int.reduceToNat] at ho26; rw [← Ny129.out] at ho26)); replace HO128 := zm (Kd.S_elder' (zS HO128.out) (Kd.R_base ho26) hb); have HO131 := zm (Kd.R_lower ho26 (below_size zb)); replace BK122 := zm (blk_below (g := gb122) zk hb); replace HB := zm (below_step zb hb); clear hb ho26; obtain ⟨Ao28, co28, eo28⟩ := Kd.R_slice HO131.out; subst eo28) | ((with_reducible refine gate_builtin (b := .append) (xs := #[.tmp 50, .tmp 54]) rfl ?_); at_builtin; refine Kd.S_append (Kd.slice 3 (Kd.int .i64)) (w0 := w) w.heap.size rfl (.tmp 50) (.tmp 54) 36 54 (.slice none 0 0) 24 rfl Try.underlying36 info54 rfl (by decide) (by omega) v127 y126 y129 [.slice Ao28 y129.length co28] (fun _ => True) (fun k_ => some k_ = (.slice Ao28 y129.length co28 : Value).ownBlock) rfl rfl ?aP (fun k_ hk_ => ((Kd.R_mono (ok' := fun k_ => ((fun _ => True)) k_ ∧ some k_ ≠ (v127 : Value).ownBlock) (Kd.R_apart' (HO131.out) (Kd.S_typed HO128.out) (by decide)) (fun k_ hk => ⟨trivial, hk.2⟩))).1 k_ hk_.symm) ?aF ?aO ?aB ?aS ?aL ?_; (case aP => exact Kd.M_row (Kd.R_mono (Kd.R_tight rfl (Kd.R_mono (ok' := fun k_ => ((fun _ => True)) k_ ∧ some k_ ≠ (v127 : Value).ownBlock) (Kd.R_apart' (HO131.out) (Kd.S_typed HO128.out) (by decide)) (fun k_ hk => ⟨trivial, hk.2⟩))) (fun _ h_ => h_))); (case aB => exact zb); (case aF => exact (fun _ _ => trivial)); (case aO => exact (zS (Kd.S_mono HO128.out (fun k_ hk => ⟨trivial, fun e_ => hk.2 e_⟩)))); (case aS => exact (below_size zb)); (case aL => have := LMc19.out; omega); intro v133 w27 ho hb hg hat; rw [← Ny132.out] at ho; replace BK122 := zm (blk_grown (g := gb122) (o := .cells #[.int .i64 ((rd_T87 l0 x20_3).f0), .int .i64 ((rd_T87 l0 x20_3).f1), .int .i64 ((rd_T87 l0 x20_3).f2)] 87 (0, 0)) zk hg (Kd.S_ne HO128.out BK122.out (by decide))); replace HB := zm (hb); have HO134 := zm (ho); clear HO128 HO131; clear ho hb hg hat))
         go_roundg kj8
         case measure => have := HK1.out; have := HK2.out; have := HK3.out; have := HJ8.out; omega
         case rel => exact ⟨(y132), (wrap64 (x20_3 + 1)), (by first | rfl | (simp; done) | (simp [*]; done)), H', ⟨by have := HK1.out; have := HK2.out; have := HK3.out; have := HJ8.out; omega⟩, ⟨zS HO134.out⟩, ⟨zb⟩⟩
/-! ### spec_l1In: function 95 -/
def spec_l1In.f (a0 : Int) (a1 : Int) (a2 : Int) : Option (Bool) := if a0 ≥ a1 then (some (decide (a0 ≤ a2))) else (some false)
set_option maxHeartbeats 8000000 in
set_option maxRecDepth 100000 in
theorem spec_l1In.calls (a0 : Int) (a1 : Int) (a2 : Int) (r : Bool) (w : World) (h : spec_l1In.f a0 a1 a2 = some r) :
  Calls Try.prog 95 #[.int .i64 a0, .int .i64 a1, .int .i64 a2] w fun e w' => e = .returned (.bool r) ∧ Drawn0 w w' := by
 have H : (if a0 ≥ a1 then (some (decide (a0 ≤ a2))) else (some false)) = some r := h
 clear h
 by_cases c4 : a0 ≥ a1
 ·
  rw [if_pos c4] at H
  have c4b0 : decide (a1 ≤ a0) = true := decide_eq_true c4
  clear c4
  obtain rfl := Option.some.inj H
  go_enter Try.func95, Try.ntmps95
  go_wp2
  go_ret
  exact ⟨by first | rfl | (simp; done) | (simp [*]; done), by repeat (first | exact Drawn0.refl _ | apply Drawn0.step)⟩
 rw [if_neg c4] at H
 have c4b0 : decide (a1 ≤ a0) = false := decide_eq_false c4
 clear c4
 obtain rfl := Option.some.inj H
 go_enter Try.func95, Try.ntmps95
 go_wp2
 go_ret
 exact ⟨by first | rfl | (simp; done) | (simp [*]; done), by repeat (first | exact Drawn0.refl _ | apply Drawn0.step)⟩

/-! ### spec_rdStep: function 100 -/
def spec_rdStep.f (a0 : Int) : Option (Bool) := (spec_l1In.f a0 0 2000).bind fun t141 => (some t141)
set_option maxHeartbeats 8000000 in
set_option maxRecDepth 100000 in
theorem spec_rdStep.calls (a0 : Int) (r : Bool) (w : World) (h : spec_rdStep.f a0 = some r) :
  Calls Try.prog 100 #[.int .i64 a0] w fun e w' => e = .returned (.bool r) ∧ Drawn0 w w' := by
 have H : ((spec_l1In.f a0 0 2000).bind fun t141 => (some t141)) = some r := h
 clear h
 replace H := Option.bind_eq_some_iff.mp H
 obtain ⟨t141, A20, H⟩ := H
 (try dsimp only at H)
 have A2 := zm A20
 clear A20
 obtain rfl := Option.some.inj H
 go_enter Try.func100, Try.ntmps100
 go_wp2_with (first | ((with_reducible refine gate_callee (f := 95) rfl ?_); refine goesA_ (some 4) Try.func95 #[.int .i64 a0, .int .i64 0, .int .i64 2000] rfl ?_; (with_reducible refine (spec_l1In.calls a0 0 2000 t141 _ A2.out).mono ?_); rintro e w' ⟨rfl, ⟨nd, rfl⟩⟩; refine ⟨_, rfl, ?_⟩))
 go_ret
 exact ⟨by first | rfl | (simp; done) | (simp [*]; done), by repeat (first | exact Drawn0.refl _ | apply Drawn0.step)⟩

/-! ### spec_shHole: function 115 -/
def spec_shHole.f (a0_0 : Int) (a0_1 : Int) (a0_2 : Int) : Option (Bool) := (spec_l1In.f a0_0 0 19).bind fun t143 => (if t143 = true then ((spec_l1In.f a0_1 0 1999).bind fun t144 => (if t144 = true then ((spec_l1In.f a0_2 (wrap64 (a0_1 + 1)) 2000).bind fun t145 => (some t145)) else (some false))) else (some false))
set_option maxHeartbeats 8000000 in
set_option maxRecDepth 100000 in
theorem spec_shHole.calls (a0_0 : Int) (a0_1 : Int) (a0_2 : Int) (r : Bool) (w : World) (h : spec_shHole.f a0_0 a0_1 a0_2 = some r) :
  Calls Try.prog 115 #[.agg #[.int .i64 a0_0, .int .i64 a0_1, .int .i64 a0_2]] w fun e w' => e = .returned (.bool r) ∧ Below w.heap.size w w' := by
 have hu87 := Try.underlying87
 have HB := zm (Below.refl w.heap.size w)
 have H : ((spec_l1In.f a0_0 0 19).bind fun t143 => (if t143 = true then ((spec_l1In.f a0_1 0 1999).bind fun t144 => (if t144 = true then ((spec_l1In.f a0_2 (wrap64 (a0_1 + 1)) 2000).bind fun t145 => (some t145)) else (some false))) else (some false))) = some r := h
 clear h
 replace H := Option.bind_eq_some_iff.mp H
 obtain ⟨t143, A20, H⟩ := H
 (try dsimp only at H)
 have A2 := zm A20
 clear A20
 by_cases c3 : t143 = true
 rotate_left
 ·
  replace c3 := Bool.eq_false_iff.mpr c3
  subst c3
  have H1 : (some false) = some r := by rw [if_neg (show ¬ (false = true) by decide)] at H; exact H
  clear H
  have H := H1
  clear H1
  obtain rfl := Option.some.inj H
  go_enter Try.func115, Try.ntmps115
  go_wp2_with (first | ((with_reducible refine gate_dst (N := 1) rfl ?_); refine box_event ?hg (N := 1) ?hd (cs := #[.int .i64 a0_0, .int .i64 a0_1, .int .i64 a0_2]) (t := 87) ?hr ?_; (case hd => rfl); (case hg => rfl); (case hr => first | (go_simp; done) | (go_simp; rfl)); intro gb142 hg w11 hbox hb; have n0_ := zm (below_step zb hb); have BK142 := zm (hbox); have GW142 := zm (zs hg zb : w.heap.size ≤ gb142); have GE142 := zm (zs hg zb : w.heap.size ≤ gb142); replace HB := n0_; clear n0_; clear hb hbox hg; obtain ⟨hcz12_0, hcz12_1, hcz12_2, hfz12_0, hfz12_1, hfz12_2⟩ := zc3 BK142.out) | ((with_reducible refine gate_callee (f := 95) rfl ?_); refine goesA_ (some 5) Try.func95 #[.int .i64 a0_0, .int .i64 0, .int .i64 19] rfl ?_; (with_reducible refine (spec_l1In.calls a0_0 0 19 false _ A2.out).mono ?_); rintro e w' ⟨rfl, ⟨nd, rfl⟩⟩; refine ⟨_, rfl, ?_⟩))
  go_ret
  exact ⟨zr, zb⟩

 subst c3
 have H1 : ((spec_l1In.f a0_1 0 1999).bind fun t144 => (if t144 = true then ((spec_l1In.f a0_2 (wrap64 (a0_1 + 1)) 2000).bind fun t145 => (some t145)) else (some false))) = some r := by rw [if_pos rfl] at H; exact H
 clear H
 have H := H1
 clear H1
 replace H := Option.bind_eq_some_iff.mp H
 obtain ⟨t144, A40, H⟩ := H
 (try dsimp only at H)
 have A4 := zm A40
 clear A40
 by_cases c5 : t144 = true
 rotate_left
 ·
  replace c5 := Bool.eq_false_iff.mpr c5
  subst c5
  have H1 : (some false) = some r := by rw [if_neg (show ¬ (false = true) by decide)] at H; exact H
  clear H
  have H := H1
  clear H1
  obtain rfl := Option.some.inj H
  go_enter Try.func115, Try.ntmps115
  go_wp2_with (first | ((with_reducible refine gate_dst (N := 1) rfl ?_); refine box_event ?hg (N := 1) ?hd (cs := #[.int .i64 a0_0, .int .i64 a0_1, .int .i64 a0_2]) (t := 87) ?hr ?_; (case hd => rfl); (case hg => rfl); (case hr => first | (go_simp; done) | (go_simp; rfl)); intro gb142 hg w9 hbox hb; have n0_ := zm (below_step zb hb); have BK142 := zm (hbox); have GW142 := zm (zs hg zb : w.heap.size ≤ gb142); have GE142 := zm (zs hg zb : w.heap.size ≤ gb142); replace HB := n0_; clear n0_; clear hb hbox hg; obtain ⟨hcz10_0, hcz10_1, hcz10_2, hfz10_0, hfz10_1, hfz10_2⟩ := zc3 BK142.out) | ((with_reducible refine gate_callee (f := 95) rfl ?_); refine goesA_ (some 5) Try.func95 #[.int .i64 a0_0, .int .i64 0, .int .i64 19] rfl ?_; (with_reducible refine (spec_l1In.calls a0_0 0 19 true _ A2.out).mono ?_); rintro e w' ⟨rfl, ⟨nd, rfl⟩⟩; refine ⟨_, rfl, ?_⟩) | (go_at_call 95; (with_reducible refine (spec_l1In.calls a0_1 0 1999 false _ A4.out).mono ?_); rintro e w' ⟨rfl, ⟨nd, rfl⟩⟩))
  go_ret
  exact ⟨zr, zb⟩
 subst c5
 have H1 : ((spec_l1In.f a0_2 (wrap64 (a0_1 + 1)) 2000).bind fun t145 => (some t145)) = some r := by rw [if_pos rfl] at H; exact H
 clear H
 have H := H1
 clear H1
 replace H := Option.bind_eq_some_iff.mp H
 obtain ⟨t145, A60, H⟩ := H
 (try dsimp only at H)
 have A6 := zm A60
 clear A60
 obtain rfl := Option.some.inj H
 go_enter Try.func115, Try.ntmps115
 go_wp2_with (first | ((with_reducible refine gate_dst (N := 1) rfl ?_); refine box_event ?hg (N := 1) ?hd (cs := #[.int .i64 a0_0, .int .i64 a0_1, .int .i64 a0_2]) (t := 87) ?hr ?_; (case hd => rfl); (case hg => rfl); (case hr => first | (go_simp; done) | (go_simp; rfl)); intro gb142 hg w7 hbox hb; have n0_ := zm (below_step zb hb); have BK142 := zm (hbox); have GW142 := zm (zs hg zb : w.heap.size ≤ gb142); have GE142 := zm (zs hg zb : w.heap.size ≤ gb142); replace HB := n0_; clear n0_; clear hb hbox hg; obtain ⟨hcz8_0, hcz8_1, hcz8_2, hfz8_0, hfz8_1, hfz8_2⟩ := zc3 BK142.out) | ((with_reducible refine gate_callee (f := 95) rfl ?_); refine goesA_ (some 5) Try.func95 #[.int .i64 a0_0, .int .i64 0, .int .i64 19] rfl ?_; (with_reducible refine (spec_l1In.calls a0_0 0 19 true _ A2.out).mono ?_); rintro e w' ⟨rfl, ⟨nd, rfl⟩⟩; refine ⟨_, rfl, ?_⟩) | (go_at_call 95; (with_reducible refine (spec_l1In.calls a0_1 0 1999 true _ A4.out).mono ?_); rintro e w' ⟨rfl, ⟨nd, rfl⟩⟩) | (go_at_call 95; (with_reducible refine (spec_l1In.calls a0_2 (wrap64 (a0_1 + 1)) 2000 t145 _ A6.out).mono ?_); rintro e w' ⟨rfl, ⟨nd, rfl⟩⟩))
 go_ret
 exact ⟨zr, zb⟩
/-! ### spec_shBefore: function 116 -/
def spec_shBefore.f (a0_0 : Int) (a0_1 : Int) (a0_2 : Int) (a1_0 : Int) (a1_1 : Int) (a1_2 : Int) : Option (Bool) := if a0_1 < a1_1 then (some true) else (if a0_1 = a1_1 then (some (decide (a0_0 < a1_0))) else (some false))
set_option maxHeartbeats 8000000 in
set_option maxRecDepth 100000 in
theorem spec_shBefore.calls (a0_0 : Int) (a0_1 : Int) (a0_2 : Int) (a1_0 : Int) (a1_1 : Int) (a1_2 : Int) (r : Bool) (w : World) (h : spec_shBefore.f a0_0 a0_1 a0_2 a1_0 a1_1 a1_2 = some r) :
  Calls Try.prog 116 #[.agg #[.int .i64 a0_0, .int .i64 a0_1, .int .i64 a0_2], .agg #[.int .i64 a1_0, .int .i64 a1_1, .int .i64 a1_2]] w fun e w' => e = .returned (.bool r) ∧ Below w.heap.size w w' := by
 have hu87 := Try.underlying87
 have HB := zm (Below.refl w.heap.size w)
 have H : (if a0_1 < a1_1 then (some true) else (if a0_1 = a1_1 then (some (decide (a0_0 < a1_0))) else (some false))) = some r := h
 clear h
 by_cases c3 : a0_1 < a1_1
 ·
  rw [if_pos c3] at H
  have c3b0 : decide (a0_1 < a1_1) = true := decide_eq_true c3
  clear c3
  obtain rfl := Option.some.inj H
  go_enter Try.func116, Try.ntmps116
  go_wp2_with (first | ((with_reducible refine gate_dst (N := 2) rfl ?_); refine box_event ?hg (N := 2) ?hd (cs := #[.int .i64 a0_0, .int .i64 a0_1, .int .i64 a0_2]) (t := 87) ?hr ?_; (case hd => rfl); (case hg => rfl); (case hr => first | (go_simp; done) | (go_simp; rfl)); intro gb146 hg w4 hbox hb; have n0_ := zm (below_step zb hb); have BK146 := zm (hbox); have GW146 := zm (zs hg zb : w.heap.size ≤ gb146); have GE146 := zm (zs hg zb : w.heap.size ≤ gb146); replace HB := n0_; clear n0_; clear hb hbox hg) | ((with_reducible refine gate_dst (N := 3) rfl ?_); refine box_event ?hg (N := 3) ?hd (cs := #[.int .i64 a1_0, .int .i64 a1_1, .int .i64 a1_2]) (t := 87) ?hr ?_; (case hd => rfl); (case hg => rfl); (case hr => first | (go_simp; done) | (go_simp; rfl)); intro gb147 hg w5 hbox hb; have n0_ := zm (blk_below (g := gb146) zk hb); have n1_ := zm (below_step zb hb); have BK147 := zm (hbox); have GW147 := zm (zs hg zb : w.heap.size ≤ gb147); have GE147 := zm (zs hg zb : w.heap.size ≤ gb147); have NB146_147 := zm (zl hg zk : gb146 ≠ gb147); have NB147_146 := zm (zg hg zk : gb147 ≠ gb146); replace BK146 := n0_; replace HB := n1_; clear n0_ n1_; clear hb hbox hg; have hnb6 := NB146_147.out; have hnc6 := NB147_146.out; obtain ⟨hcz7_0, hcz7_1, hcz7_2, hfz7_0, hfz7_1, hfz7_2⟩ := zc3 BK146.out; obtain ⟨hcz8_0, hcz8_1, hcz8_2, hfz8_0, hfz8_1, hfz8_2⟩ := zc3 BK147.out))
  go_ret
  exact ⟨zr, zb⟩
 rw [if_neg c3] at H
 have c3b0 : decide (a0_1 < a1_1) = false := decide_eq_false c3
 clear c3
 by_cases c9 : a0_1 = a1_1
 rotate_left
 ·
  rw [if_neg c9] at H
  have c9b0 : (a0_1 == a1_1) = false := beq_eq_false_iff_ne.mpr c9
  have c9b1 : (a0_1 != a1_1) = true := bne_iff_ne.mpr c9
  obtain rfl := Option.some.inj H
  go_enter Try.func116, Try.ntmps116
  go_wp2_with (first | ((with_reducible refine gate_dst (N := 2) rfl ?_); refine box_event ?hg (N := 2) ?hd (cs := #[.int .i64 a0_0, .int .i64 a0_1, .int .i64 a0_2]) (t := 87) ?hr ?_; (case hd => rfl); (case hg => rfl); (case hr => first | (go_simp; done) | (go_simp; rfl)); intro gb146 hg w15 hbox hb; have n0_ := zm (below_step zb hb); have BK146 := zm (hbox); have GW146 := zm (zs hg zb : w.heap.size ≤ gb146); have GE146 := zm (zs hg zb : w.heap.size ≤ gb146); replace HB := n0_; clear n0_; clear hb hbox hg) | ((with_reducible refine gate_dst (N := 3) rfl ?_); refine box_event ?hg (N := 3) ?hd (cs := #[.int .i64 a1_0, .int .i64 a1_1, .int .i64 a1_2]) (t := 87) ?hr ?_; (case hd => rfl); (case hg => rfl); (case hr => first | (go_simp; done) | (go_simp; rfl)); intro gb147 hg w16 hbox hb; have n0_ := zm (blk_below (g := gb146) zk hb); have n1_ := zm (below_step zb hb); have BK147 := zm (hbox); have GW147 := zm (zs hg zb : w.heap.size ≤ gb147); have GE147 := zm (zs hg zb : w.heap.size ≤ gb147); have NB146_147 := zm (zl hg zk : gb146 ≠ gb147); have NB147_146 := zm (zg hg zk : gb147 ≠ gb146); replace BK146 := n0_; replace HB := n1_; clear n0_ n1_; clear hb hbox hg; have hnb17 := NB146_147.out; have hnc17 := NB147_146.out; obtain ⟨hcz18_0, hcz18_1, hcz18_2, hfz18_0, hfz18_1, hfz18_2⟩ := zc3 BK146.out; obtain ⟨hcz19_0, hcz19_1, hcz19_2, hfz19_0, hfz19_1, hfz19_2⟩ := zc3 BK147.out))
  go_ret
  exact ⟨zr, zb⟩

 rw [if_pos c9] at H
 have c9b0 : (a0_1 == a1_1) = true := beq_iff_eq.mpr c9
 have c9b1 : (a0_1 != a1_1) = false := bne_eq_false_iff_eq.mpr c9
 clear c9
 obtain rfl := Option.some.inj H
 go_enter Try.func116, Try.ntmps116
 go_wp2_with (first | ((with_reducible refine gate_dst (N := 2) rfl ?_); refine box_event ?hg (N := 2) ?hd (cs := #[.int .i64 a0_0, .int .i64 a0_1, .int .i64 a0_2]) (t := 87) ?hr ?_; (case hd => rfl); (case hg => rfl); (case hr => first | (go_simp; done) | (go_simp; rfl)); intro gb146 hg w10 hbox hb; have n0_ := zm (below_step zb hb); have BK146 := zm (hbox); have GW146 := zm (zs hg zb : w.heap.size ≤ gb146); have GE146 := zm (zs hg zb : w.heap.size ≤ gb146); replace HB := n0_; clear n0_; clear hb hbox hg) | ((with_reducible refine gate_dst (N := 3) rfl ?_); refine box_event ?hg (N := 3) ?hd (cs := #[.int .i64 a1_0, .int .i64 a1_1, .int .i64 a1_2]) (t := 87) ?hr ?_; (case hd => rfl); (case hg => rfl); (case hr => first | (go_simp; done) | (go_simp; rfl)); intro gb147 hg w11 hbox hb; have n0_ := zm (blk_below (g := gb146) zk hb); have n1_ := zm (below_step zb hb); have BK147 := zm (hbox); have GW147 := zm (zs hg zb : w.heap.size ≤ gb147); have GE147 := zm (zs hg zb : w.heap.size ≤ gb147); have NB146_147 := zm (zl hg zk : gb146 ≠ gb147); have NB147_146 := zm (zg hg zk : gb147 ≠ gb146); replace BK146 := n0_; replace HB := n1_; clear n0_ n1_; clear hb hbox hg; have hnb12 := NB146_147.out; have hnc12 := NB147_146.out; obtain ⟨hcz13_0, hcz13_1, hcz13_2, hfz13_0, hfz13_1, hfz13_2⟩ := zc3 BK146.out; obtain ⟨hcz14_0, hcz14_1, hcz14_2, hfz14_0, hfz14_1, hfz14_2⟩ := zc3 BK147.out))
 go_ret
 exact ⟨zr, zb⟩
end Go.Proofs.Ytjdkdbeenggfaaa.PSo
