-- Written for this claim by a program of this session (wip/tpl/patchprint.py), not by print.sh.
import Derived.Test.YtjjjikdpegogcaaPRrx0
import Derived.Test.YtjjjikdpegogcaaPRrx5
import Derived.Test.YtjjjikdpegogcaaPRrx13
namespace Go.Proofs.Ytjjjikdpegogcaa.PRr
open Go.RowKit Go.Proofs.YtjjjikdpegogcaaW.PrintWords Go.Proofs.YtjjjikdpegogcaaW.PrintLast Go.Proofs.YtjjjikdpegogcaaW.PrintMore
attribute [local go_sem] max2_int min2_int max_two min_two max_three min_three max_four min_four   -- for this text's walks alone
set_option linter.unusedVariables false
set_option linter.unusedSimpArgs false

/-! ### impl_isPitch: function 136 -/
def impl_isPitch.f (a0 : Int) : Option (Bool) := if a0 ≥ 24 then (some (decide (a0 ≤ 96))) else (some false)
set_option maxHeartbeats 8000000 in
set_option maxRecDepth 100000 in
theorem impl_isPitch.calls (a0 : Int) (r : Bool) (w : World) (h : impl_isPitch.f a0 = some r) :
  Calls Try.prog 136 #[.int .i64 a0] w fun e w' => e = .returned (.bool r) ∧ Drawn0 w w' := by
 have H : (if a0 ≥ 24 then (some (decide (a0 ≤ 96))) else (some false)) = some r := h
 clear h
 by_cases c2 : a0 ≥ 24
 ·
  rw [if_pos c2] at H
  have c2b0 : decide (24 ≤ a0) = true := decide_eq_true c2
  clear c2
  obtain rfl := Option.some.inj H
  go_enter Try.func136, Try.ntmps136
  go_wp2
  go_ret
  exact ⟨by first | rfl | (simp; done) | (simp [*]; done), by repeat (first | exact Drawn0.refl _ | apply Drawn0.step)⟩
 ·
  rw [if_neg c2] at H
  have c2b0 : decide (24 ≤ a0) = false := decide_eq_false c2
  clear c2
  obtain rfl := Option.some.inj H
  go_enter Try.func136, Try.ntmps136
  go_wp2
  go_ret
  exact ⟨by first | rfl | (simp; done) | (simp [*]; done), by repeat (first | exact Drawn0.refl _ | apply Drawn0.step)⟩

/-! ### impl_IsInstrument: function 109 -/
mutual
def impl_IsInstrument.j0 : Nat → Bool → List Int → Int → Option (Bool)
  | 0, _, _, _ => none
  | k + 1, x24, x371000, x371001 => if x24 = true then (some false) else (impl_IsInstrument.l0 k x371000 (x371000.length : Int) 0 x371000 x371001)
def impl_IsInstrument.l0 : Nat → List Int → Int → Int → List Int → Int → Option (Bool)
  | 0, _, _, _, _, _ => none
  | k + 1, x26, x27, x28, x371000, x371001 => if x28 < x27 then (if 0 ≤ x28 then (if x28 < (x26.length : Int) then ((impl_isPitch.f (rd x26 x28)).bind fun t372 => (if t372 = true then (if x28 > 0 then (if 0 ≤ (wrap64 (x28 - 1)) then (if (wrap64 (x28 - 1)) < (x371000.length : Int) then (if (rd x26 x28) ≤ (rd x371000 (wrap64 (x28 - 1))) then (some false) else (impl_IsInstrument.l0 k x26 x27 (wrap64 (x28 + 1)) x371000 x371001)) else (none)) else (none)) else (impl_IsInstrument.l0 k x26 x27 (wrap64 (x28 + 1)) x371000 x371001)) else (some false))) else (none)) else (none)) else (some true)
end
def impl_IsInstrument.f (k : Nat) (l0_0 : List Int) (a0_1 : Int) : Option (Bool) := if (l0_0.length : Int) < 1 then (impl_IsInstrument.j0 k true l0_0 a0_1) else (if (l0_0.length : Int) > 20 then (impl_IsInstrument.j0 k true l0_0 a0_1) else (if a0_1 < 1 then (impl_IsInstrument.j0 k true l0_0 a0_1) else (impl_IsInstrument.j0 k (decide (a0_1 > 20)) l0_0 a0_1)))
theorem impl_IsInstrument.mono_l : ∀ k, (∀ y0 y1 y2, LeO (impl_IsInstrument.j0 k y0 y1 y2) (impl_IsInstrument.j0 (k + 1) y0 y1 y2)) ∧ (∀ y0 y1 y2 y3 y4, LeO (impl_IsInstrument.l0 k y0 y1 y2 y3 y4) (impl_IsInstrument.l0 (k + 1) y0 y1 y2 y3 y4))
  | 0 => ⟨fun _ _ _ r h => by simp [impl_IsInstrument.j0] at h, fun _ _ _ _ _ r h => by simp [impl_IsInstrument.l0] at h⟩
  | k + 1 => by
    obtain ⟨ih0, ih1⟩ := impl_IsInstrument.mono_l k
    refine ⟨?_, ?_⟩
    · intro y0 y1 y2
      unfold impl_IsInstrument.j0
      repeat' first
      | (with_reducible exact ih0 _ _ _)
      | (with_reducible exact ih1 _ _ _ _ _)
      | (with_reducible exact LeO.refl _)
      | (with_reducible exact LeO.none _)
      | (with_reducible refine LeO.ite ?_ ?_)
      | (with_reducible refine LeO.bind ?_ (fun _ => ?_))
      | exact ih0 _ _ _
      | exact ih1 _ _ _ _ _
      | exact LeO.none _
      | refine LeO.ite ?_ ?_
      | refine LeO.bind ?_ (fun _ => ?_)
    · intro y0 y1 y2 y3 y4
      unfold impl_IsInstrument.l0
      repeat' first
      | (with_reducible exact ih0 _ _ _)
      | (with_reducible exact ih1 _ _ _ _ _)
      | (with_reducible exact LeO.refl _)
      | (with_reducible exact LeO.none _)
      | (with_reducible refine LeO.ite ?_ ?_)
      | (with_reducible refine LeO.bind ?_ (fun _ => ?_))
      | exact ih0 _ _ _
      | exact ih1 _ _ _ _ _
      | exact LeO.none _
      | refine LeO.ite ?_ ?_
      | refine LeO.bind ?_ (fun _ => ?_)
theorem impl_IsInstrument.mono : ∀ a0 a1 k, LeO (impl_IsInstrument.f k a0 a1) (impl_IsInstrument.f (k + 1) a0 a1) := by
  intro a0 a1 k
  obtain ⟨ih0, ih1⟩ := impl_IsInstrument.mono_l k
  unfold impl_IsInstrument.f
  repeat' first
      | (with_reducible exact ih0 _ _ _)
      | (with_reducible exact ih1 _ _ _ _ _)
      | (with_reducible exact LeO.refl _)
      | (with_reducible exact LeO.none _)
      | (with_reducible refine LeO.ite ?_ ?_)
      | (with_reducible refine LeO.bind ?_ (fun _ => ?_))
      | exact ih0 _ _ _
      | exact ih1 _ _ _ _ _
      | exact LeO.none _
      | refine LeO.ite ?_ ?_
      | refine LeO.bind ?_ (fun _ => ?_)
set_option maxHeartbeats 8000000 in
set_option maxRecDepth 100000 in
theorem impl_IsInstrument.calls (k : Nat) (A0_0 : Option Addr) (c0_0 : Nat) (l0_0 : List Int) (a0_1 : Int) (r : Bool) (w : World) (hr0_0 : Kd.C (Kd.int .i64) w A0_0 l0_0.length l0_0) (hc0_0 : l0_0.length ≤ c0_0) (h : impl_IsInstrument.f k l0_0 a0_1 = some r) :
  Calls Try.prog 109 #[.agg #[.slice A0_0 l0_0.length c0_0, .int .i64 a0_1]] w fun e w' => e = .returned (.bool r) ∧ Below w.heap.size w w' := by
 have hu45 := Try.underlying45
 have HR0_0 := zm hr0_0
 have HC0_0 := zm hc0_0
 clear hr0_0 hc0_0
 have HB := zm (Below.refl w.heap.size w)
 have H : (if (l0_0.length : Int) < 1 then (impl_IsInstrument.j0 k true l0_0 a0_1) else (if (l0_0.length : Int) > 20 then (impl_IsInstrument.j0 k true l0_0 a0_1) else (if a0_1 < 1 then (impl_IsInstrument.j0 k true l0_0 a0_1) else (impl_IsInstrument.j0 k (decide (a0_1 > 20)) l0_0 a0_1)))) = some r := h
 clear h
 have HC2 := zm H
 clear H
 go_enter Try.func109, Try.ntmps109
 go_upto_region 1 with (first | ((with_reducible refine gate_dst (N := 1) rfl ?_); (try (refine gate_guard (by rfl) ?_; dsimp only)); refine box_event ?hg (N := 1) ?hd (cs := #[.slice A0_0 l0_0.length c0_0, .int .i64 a0_1]) (t := 45) ?hr ?_; (case hd => rfl); (case hg => rfl); (case hr => first | (go_simp; done) | (go_simp; rfl)); intro gb370 hg w3 hbox hb; have n0_ := zm (below_step zb hb); have n1_ := zm (hbox); have n2_ := zm (zs hg zb : w.heap.size ≤ gb370); have n3_ := zm (zs hg zb : w.heap.size ≤ gb370); clear HB; have HB := n0_; have BK370 := n1_; have GW370 := n2_; have GE370 := n3_; clear n0_ n1_ n2_ n3_; clear hb hbox hg))
 (try simp only [Act.put, List.setIfInBounds_toArray, List.set_cons_zero, List.set_cons_succ])
 go_cut [24] (fun v24 wc => ∃ (kq : Nat) (x24_1 : Bool), v24 = .bool x24_1 ∧ Aside0 (impl_IsInstrument.j0 kq x24_1 l0_0 a0_1 = some r) ∧ Aside0 (kq ≤ k) ∧ Aside0 (wc.heap[gb370]? = some (.cells #[(.slice A0_0 l0_0.length c0_0), .int .i64 a0_1] 45 (0, 0))) ∧ Aside0 (Below w.heap.size w wc))
 case first =>
  have H := HC2.out
  clear HC2
  by_cases c4 : (l0_0.length : Int) < 1
  ·
   rw [if_pos c4] at H
   have c4b0 : decide ((l0_0.length : Int) < 1) = true := decide_eq_true c4
   have c4b1 : decide (l0_0.length < 1) = true := decide_eq_true (by omega)
   clear c4
   (first | rw [c4b0] | (simp only [i64_w, i32_w]; rw [c4b0]) | skip)
   have H' := zm H
   clear H
   obtain ⟨hcz5_0, hcz5_1, hfz5_0, hfz5_1⟩ := zc2 BK370.out
   go_wp2
   go_meet
   case rel => exact ⟨_, (true), (by first | rfl | (simp; done) | (simp [*]; done)), H', ⟨by first | omega | exact Nat.le_refl _⟩, ⟨zk⟩, ⟨zb⟩⟩
  ·
   rw [if_neg c4] at H
   have c4b0 : decide ((l0_0.length : Int) < 1) = false := decide_eq_false c4
   have c4b1 : decide (l0_0.length < 1) = false := decide_eq_false (by omega)
   clear c4
   (first | rw [c4b0] | (simp only [i64_w, i32_w]; rw [c4b0]) | skip)
   by_cases c6 : (l0_0.length : Int) > 20
   ·
    rw [if_pos c6] at H
    have c6b0 : decide (20 < (l0_0.length : Int)) = true := decide_eq_true c6
    have c6b1 : decide (20 < l0_0.length) = true := decide_eq_true (by omega)
    clear c6
    have H' := zm H
    clear H
    obtain ⟨hcz7_0, hcz7_1, hfz7_0, hfz7_1⟩ := zc2 BK370.out
    go_wp2
    go_meet
    case rel => exact ⟨_, (true), (by first | rfl | (simp; done) | (simp [*]; done)), H', ⟨by first | omega | exact Nat.le_refl _⟩, ⟨zk⟩, ⟨zb⟩⟩
   ·
    rw [if_neg c6] at H
    have c6b0 : decide (20 < (l0_0.length : Int)) = false := decide_eq_false c6
    have c6b1 : decide (20 < l0_0.length) = false := decide_eq_false (by omega)
    clear c6
    by_cases c8 : a0_1 < 1
    ·
     rw [if_pos c8] at H
     have c8b0 : decide (a0_1 < 1) = true := decide_eq_true c8
     clear c8
     have H' := zm H
     clear H
     obtain ⟨hcz9_0, hcz9_1, hfz9_0, hfz9_1⟩ := zc2 BK370.out
     go_wp2
     go_meet
     case rel => exact ⟨_, (true), (by first | rfl | (simp; done) | (simp [*]; done)), H', ⟨by first | omega | exact Nat.le_refl _⟩, ⟨zk⟩, ⟨zb⟩⟩
    ·
     rw [if_neg c8] at H
     have c8b0 : decide (a0_1 < 1) = false := decide_eq_false c8
     clear c8
     have H' := zm H
     clear H
     obtain ⟨hcz10_0, hcz10_1, hfz10_0, hfz10_1⟩ := zc2 BK370.out
     go_wp2
     go_meet
     case rel => exact ⟨_, (decide (a0_1 > 20)), (by first | rfl | (simp; done) | (simp [*]; done)), H', ⟨by first | omega | exact Nat.le_refl _⟩, ⟨zk⟩, ⟨zb⟩⟩
 case rest =>
  clear HC2
  (try clear c1); (try clear p2); (try clear c4); (try clear c4b0); (try clear c4b1); (try clear c6); (try clear c6b0); (try clear c6b1); (try clear c8); (try clear c8b0); (try clear c10); (try clear hcz10_0); (try clear hcz10_1); (try clear hcz5_0); (try clear hcz5_1); (try clear hcz7_0); (try clear hcz7_1); (try clear hcz9_0); (try clear hcz9_1); (try clear hfz10_0); (try clear hfz10_1); (try clear hfz5_0); (try clear hfz5_1); (try clear hfz7_0); (try clear hfz7_1); (try clear hfz9_0); (try clear hfz9_1)
  obtain ⟨kq, x24_1, rfl, HA, HJ1, BK370, HB⟩ := hcut
  cases kq with
  | zero => exact absurd HA.out (by simp [impl_IsInstrument.j0])
  | succ kj1 =>
   have H := HA.out
   clear HA
   simp only [impl_IsInstrument.j0] at H
   by_cases c11 : x24_1 = true
   ·
    subst c11
    have H1 : (some false) = some r := by rw [if_pos rfl] at H; exact H
    clear H
    have H := H1
    clear H1
    obtain rfl := Option.some.inj H
    go_wp2
    go_ret
    exact ⟨zr, zb⟩
   ·
    replace c11 := Bool.eq_false_iff.mpr c11
    subst c11
    have H1 : (impl_IsInstrument.l0 kj1 l0_0 (l0_0.length : Int) 0 l0_0 a0_1) = some r := by rw [if_neg (show ¬ (false = true) by decide)] at H; exact H
    clear H
    have H := H1
    clear H1
    have H' := zm H
    clear H
    obtain ⟨hcz12_0, hcz12_1, hfz12_0, hfz12_1⟩ := zc2 BK370.out
    go_wp2
    go_loopg [28] kj1 (fun kq v28 w' => ∃ (x28_2 : Int), v28 = .int .i64 x28_2 ∧ Aside0 (impl_IsInstrument.l0 kq l0_0 (l0_0.length : Int) x28_2 l0_0 a0_1 = some r) ∧ Aside0 (kq ≤ kj1) ∧ Aside0 (w'.heap[gb370]? = some (.cells #[(.slice A0_0 l0_0.length c0_0), .int .i64 a0_1] 45 (0, 0))) ∧ Aside0 (Below w.heap.size w w'))
    case atStart => exact ⟨(0), (by first | rfl | (simp; done) | (simp [*]; done)), H', ⟨Nat.le_refl _⟩, ⟨zk⟩, ⟨zb⟩⟩
    case round =>
     clear H'
     (try clear c1); (try clear p2); (try clear c4); (try clear c4b0); (try clear c4b1); (try clear c6); (try clear c6b0); (try clear c6b1); (try clear c8); (try clear c8b0); (try clear c10); (try clear c11); (try clear hcz10_0); (try clear hcz10_1); (try clear hcz12_0); (try clear hcz12_1); (try clear hcz5_0); (try clear hcz5_1); (try clear hcz7_0); (try clear hcz7_1); (try clear hcz9_0); (try clear hcz9_1); (try clear hfz10_0); (try clear hfz10_1); (try clear hfz12_0); (try clear hfz12_1); (try clear hfz5_0); (try clear hfz5_1); (try clear hfz7_0); (try clear hfz7_1); (try clear hfz9_0); (try clear hfz9_1); (try clear p2)
     obtain ⟨x28_2, rfl, HA, HK2, BK370, HB⟩ := hrel
     cases gk with
     | zero => exact absurd HA.out (by simp [impl_IsInstrument.l0])
     | succ k2 =>
      have H := HA.out
      clear HA
      simp only [impl_IsInstrument.l0] at H
      by_cases c13 : x28_2 < (l0_0.length : Int)
      ·
       rw [if_pos c13] at H
       have c13b0 : decide (x28_2 < (l0_0.length : Int)) = true := decide_eq_true c13
       clear c13
       by_cases c14 : 0 ≤ x28_2
       ·
        rw [if_pos c14] at H
        have c14b0 : decide (0 ≤ x28_2) = true := decide_eq_true c14
        clear c14
        by_cases c15 : x28_2 < (l0_0.length : Int)
        ·
         rw [if_pos c15] at H
         have c15b0 : decide (x28_2 < (l0_0.length : Int)) = true := decide_eq_true c15
         clear c15
         replace H := Option.bind_eq_some_iff.mp H
         obtain ⟨t372, A160, H⟩ := H
         (try dsimp only at H)
         have A16 := zm A160
         clear A160
         by_cases c17 : t372 = true
         ·
          subst c17
          have H1 : (if x28_2 > 0 then (if 0 ≤ (wrap64 (x28_2 - 1)) then (if (wrap64 (x28_2 - 1)) < (l0_0.length : Int) then (if (rd l0_0 x28_2) ≤ (rd l0_0 (wrap64 (x28_2 - 1))) then (some false) else (impl_IsInstrument.l0 k2 l0_0 (l0_0.length : Int) (wrap64 (x28_2 + 1)) l0_0 a0_1)) else (none)) else (none)) else (impl_IsInstrument.l0 k2 l0_0 (l0_0.length : Int) (wrap64 (x28_2 + 1)) l0_0 a0_1)) = some r := by rw [if_pos rfl] at H; exact H
          clear H
          have H := H1
          clear H1
          by_cases c18 : x28_2 > 0
          ·
           rw [if_pos c18] at H
           have c18b0 : decide (0 < x28_2) = true := decide_eq_true c18
           clear c18
           obtain ⟨ji19, hji19⟩ : ∃ j_ : Int, (wrap64 (x28_2 - 1)) = j_ := ⟨_, rfl⟩
           replace H : (if 0 ≤ (ji19) then (if (ji19) < (l0_0.length : Int) then (if (rd l0_0 x28_2) ≤ (rd l0_0 (ji19)) then (some false) else (impl_IsInstrument.l0 k2 l0_0 (l0_0.length : Int) (wrap64 (x28_2 + 1)) l0_0 a0_1)) else (none)) else (none)) = some r := by first | (rw [hji19] at H; exact H) | (simp only [hji19] at H ⊢; exact H)
           (try rw [hji19] at A16)
           have hji19w : (IntKind.i64.wrap (x28_2 - 1)) = ji19 := (i64_w _).trans hji19
           by_cases c20 : 0 ≤ (ji19)
           ·
            rw [if_pos c20] at H
            have c20b0 : decide (0 ≤ (ji19)) = true := decide_eq_true c20
            clear c20
            by_cases c21 : (ji19) < (l0_0.length : Int)
            ·
             rw [if_pos c21] at H
             have c21b0 : decide ((ji19) < (l0_0.length : Int)) = true := decide_eq_true c21
             clear c21
             by_cases c22 : (rd l0_0 x28_2) ≤ (rd l0_0 (ji19))
             ·
              rw [if_pos c22] at H
              have c22b0 : decide ((rd l0_0 x28_2) ≤ (rd l0_0 (ji19))) = true := decide_eq_true c22
              clear c22
              obtain rfl := Option.some.inj H
              have p371 : 0 ≤ (x28_2 : Int) := zd
              have q371 : x28_2 < (l0_0.length : Int) := zd
              obtain ⟨ad371, e371, hx371_0⟩ := Kd.at_int HR0_0.out x28_2 p371 q371
              cases e371
              replace hx371_0 := zx HB.out hx371_0
              replace p371 := eq_true p371
              replace q371 := eq_true q371
              go_wp2_with (first | ((with_reducible refine gate_callee (f := 136) rfl ?_); refine goesA_ (some 34) Try.func136 #[.int .i64 (rd l0_0 x28_2)] rfl ?_; (with_reducible refine (impl_isPitch.calls (rd l0_0 x28_2) true _ A16.out).mono ?_); rintro e w' ⟨rfl, ⟨nd, rfl⟩⟩; refine ⟨_, rfl, ?_⟩; obtain ⟨hcz23_0, hcz23_1, hfz23_0, hfz23_1⟩ := zc2 BK370.out; have p373 : 0 ≤ ((ji19) : Int) := zd; have q373 : (ji19) < (l0_0.length : Int) := zd; obtain ⟨ad373, e373, hx373_0⟩ := Kd.at_int HR0_0.out (ji19) p373 q373; obtain rfl : ad371 = ad373 := (by injection e373); replace hx373_0 := zx HB.out hx373_0; replace p373 := eq_true p373; replace q373 := eq_true q373))
              go_ret
              exact ⟨by first | rfl | (simp [errW_none, errW_some] <;> rfl) | (simp only [← hji19]; first | rfl | (simp [errW_none, errW_some] <;> rfl)) | (simp [*, errW_none, errW_some] <;> rfl), zb⟩
             ·
              rw [if_neg c22] at H
              have c22b0 : decide ((rd l0_0 x28_2) ≤ (rd l0_0 (ji19))) = false := decide_eq_false c22
              clear c22
              have H' := zm H
              clear H
              have p371 : 0 ≤ (x28_2 : Int) := zd
              have q371 : x28_2 < (l0_0.length : Int) := zd
              obtain ⟨ad371, e371, hx371_0⟩ := Kd.at_int HR0_0.out x28_2 p371 q371
              cases e371
              replace hx371_0 := zx HB.out hx371_0
              replace p371 := eq_true p371
              replace q371 := eq_true q371
              go_wp2_with (first | ((with_reducible refine gate_callee (f := 136) rfl ?_); refine goesA_ (some 34) Try.func136 #[.int .i64 (rd l0_0 x28_2)] rfl ?_; (with_reducible refine (impl_isPitch.calls (rd l0_0 x28_2) true _ A16.out).mono ?_); rintro e w' ⟨rfl, ⟨nd, rfl⟩⟩; refine ⟨_, rfl, ?_⟩; obtain ⟨hcz24_0, hcz24_1, hfz24_0, hfz24_1⟩ := zc2 BK370.out; have p373 : 0 ≤ ((ji19) : Int) := zd; have q373 : (ji19) < (l0_0.length : Int) := zd; obtain ⟨ad373, e373, hx373_0⟩ := Kd.at_int HR0_0.out (ji19) p373 q373; obtain rfl : ad371 = ad373 := (by injection e373); replace hx373_0 := zx HB.out hx373_0; replace p373 := eq_true p373; replace q373 := eq_true q373))
              go_roundg k2
              case measure => have := HJ1.out; have := HK2.out; omega
              case rel => exact ⟨(wrap64 (x28_2 + 1)), (by first | rfl | (simp; done) | (simp [*]; done)), H', ⟨by have := HJ1.out; have := HK2.out; omega⟩, ⟨zk⟩, ⟨zb⟩⟩
            ·
             rw [if_neg c21] at H
             exact absurd H (by simp)
           ·
            rw [if_neg c20] at H
            exact absurd H (by simp)
          ·
           rw [if_neg c18] at H
           have c18b0 : decide (0 < x28_2) = false := decide_eq_false c18
           clear c18
           have H' := zm H
           clear H
           have p371 : 0 ≤ (x28_2 : Int) := zd
           have q371 : x28_2 < (l0_0.length : Int) := zd
           obtain ⟨ad371, e371, hx371_0⟩ := Kd.at_int HR0_0.out x28_2 p371 q371
           cases e371
           replace hx371_0 := zx HB.out hx371_0
           replace p371 := eq_true p371
           replace q371 := eq_true q371
           go_wp2_with (first | ((with_reducible refine gate_callee (f := 136) rfl ?_); refine goesA_ (some 34) Try.func136 #[.int .i64 (rd l0_0 x28_2)] rfl ?_; (with_reducible refine (impl_isPitch.calls (rd l0_0 x28_2) true _ A16.out).mono ?_); rintro e w' ⟨rfl, ⟨nd, rfl⟩⟩; refine ⟨_, rfl, ?_⟩))
           go_roundg k2
           case measure => have := HJ1.out; have := HK2.out; omega
           case rel => exact ⟨(wrap64 (x28_2 + 1)), (by first | rfl | (simp; done) | (simp [*]; done)), H', ⟨by have := HJ1.out; have := HK2.out; omega⟩, ⟨zk⟩, ⟨zb⟩⟩
         ·
          replace c17 := Bool.eq_false_iff.mpr c17
          subst c17
          have H1 : (some false) = some r := by rw [if_neg (show ¬ (false = true) by decide)] at H; exact H
          clear H
          have H := H1
          clear H1
          obtain rfl := Option.some.inj H
          have p371 : 0 ≤ (x28_2 : Int) := zd
          have q371 : x28_2 < (l0_0.length : Int) := zd
          obtain ⟨ad371, e371, hx371_0⟩ := Kd.at_int HR0_0.out x28_2 p371 q371
          cases e371
          replace hx371_0 := zx HB.out hx371_0
          replace p371 := eq_true p371
          replace q371 := eq_true q371
          go_wp2_with (first | ((with_reducible refine gate_callee (f := 136) rfl ?_); refine goesA_ (some 34) Try.func136 #[.int .i64 (rd l0_0 x28_2)] rfl ?_; (with_reducible refine (impl_isPitch.calls (rd l0_0 x28_2) false _ A16.out).mono ?_); rintro e w' ⟨rfl, ⟨nd, rfl⟩⟩; refine ⟨_, rfl, ?_⟩))
          go_ret
          exact ⟨zr, zb⟩
        ·
         rw [if_neg c15] at H
         exact absurd H (by simp)
       ·
        rw [if_neg c14] at H
        exact absurd H (by simp)
      ·
       rw [if_neg c13] at H
       have c13b0 : decide (x28_2 < (l0_0.length : Int)) = false := decide_eq_false c13
       clear c13
       obtain rfl := Option.some.inj H
       go_wp2
       go_ret
       exact ⟨zr, zb⟩

/-! ### impl_canBePlayed: function 72 -/
def impl_canBePlayed.f (k : Nat) (l0_0 : List Int) (a0_1 : Int) (l1 : List (S96)) (a2_0 : Int) (a2_1 : Int) (a2_2 : Int) : Option (Bool) := (impl_IsInstrument.f k l0_0 a0_1).bind fun t376 => (if t376 = true then ((impl_IsSheet.f k l1).bind fun t377 => (if t377 = true then ((impl_IsAction.f a2_0 a2_1 a2_2).bind fun t378 => (some t378)) else (some false))) else (some false))
theorem impl_canBePlayed.mono : ∀ a0 a1 a2 a3 a4 a5 k, LeO (impl_canBePlayed.f k a0 a1 a2 a3 a4 a5) (impl_canBePlayed.f (k + 1) a0 a1 a2 a3 a4 a5) := by
  intro a0 a1 a2 a3 a4 a5 k
  unfold impl_canBePlayed.f
  repeat' first
      | (with_reducible exact impl_IsInstrument.mono _ _ _)
      | (with_reducible exact impl_IsSheet.mono _ _)
      | (with_reducible exact LeO.refl _)
      | (with_reducible exact LeO.none _)
      | (with_reducible refine LeO.ite ?_ ?_)
      | (with_reducible refine LeO.bind ?_ (fun _ => ?_))
      | exact impl_IsInstrument.mono _ _ _
      | exact impl_IsSheet.mono _ _
      | exact LeO.none _
      | refine LeO.ite ?_ ?_
      | refine LeO.bind ?_ (fun _ => ?_)
set_option maxHeartbeats 8000000 in
set_option maxRecDepth 100000 in
theorem impl_canBePlayed.calls (k : Nat) (A0_0 : Option Addr) (c0_0 : Nat) (l0_0 : List Int) (a0_1 : Int) (A1 : Option Addr) (c1 : Nat) (l1 : List (S96)) (a2_0 : Int) (a2_1 : Int) (a2_2 : Int) (r : Bool) (w : World) (hr0_0 : Kd.C (Kd.int .i64) w A0_0 l0_0.length l0_0) (hc0_0 : l0_0.length ≤ c0_0) (hr1 : Kd.C k96 w A1 l1.length l1) (hc1 : l1.length ≤ c1) (h : impl_canBePlayed.f k l0_0 a0_1 l1 a2_0 a2_1 a2_2 = some r) :
  Calls Try.prog 72 #[.agg #[.slice A0_0 l0_0.length c0_0, .int .i64 a0_1], .slice A1 l1.length c1, .agg #[.int .i64 a2_0, .int .i64 a2_1, .int .i64 a2_2]] w fun e w' => e = .returned (.bool r) ∧ Below w.heap.size w w' := by
 have hu45 := Try.underlying45
 have hu31 := Try.underlying31
 have HR0_0 := zm hr0_0
 have HC0_0 := zm hc0_0
 clear hr0_0 hc0_0
 have HR1 := zm hr1
 have HC1 := zm hc1
 clear hr1 hc1
 have HB := zm (Below.refl w.heap.size w)
 have H : ((impl_IsInstrument.f k l0_0 a0_1).bind fun t376 => (if t376 = true then ((impl_IsSheet.f k l1).bind fun t377 => (if t377 = true then ((impl_IsAction.f a2_0 a2_1 a2_2).bind fun t378 => (some t378)) else (some false))) else (some false))) = some r := h
 clear h
 replace H := Option.bind_eq_some_iff.mp H
 obtain ⟨t376, A40, H⟩ := H
 (try dsimp only at H)
 have A4 := zm A40
 clear A40
 by_cases c5 : t376 = true
 ·
  subst c5
  have H1 : ((impl_IsSheet.f k l1).bind fun t377 => (if t377 = true then ((impl_IsAction.f a2_0 a2_1 a2_2).bind fun t378 => (some t378)) else (some false))) = some r := by rw [if_pos rfl] at H; exact H
  clear H
  have H := H1
  clear H1
  replace H := Option.bind_eq_some_iff.mp H
  obtain ⟨t377, A60, H⟩ := H
  (try dsimp only at H)
  have A6 := zm A60
  clear A60
  by_cases c7 : t377 = true
  ·
   subst c7
   have H1 : ((impl_IsAction.f a2_0 a2_1 a2_2).bind fun t378 => (some t378)) = some r := by rw [if_pos rfl] at H; exact H
   clear H
   have H := H1
   clear H1
   replace H := Option.bind_eq_some_iff.mp H
   obtain ⟨t378, A80, H⟩ := H
   (try dsimp only at H)
   have A8 := zm A80
   clear A80
   obtain rfl := Option.some.inj H
   go_enter Try.func72, Try.ntmps72
   go_wp2_with (first | ((with_reducible refine gate_dst (N := 3) rfl ?_); refine box_event ?hg (N := 3) ?hd (cs := #[.slice A0_0 l0_0.length c0_0, .int .i64 a0_1]) (t := 45) ?hr ?_; (case hd => rfl); (case hg => rfl); (case hr => first | (go_simp; done) | (go_simp; rfl)); intro gb374 hg w9 hbox hb; have n0_ := zm (below_step zb hb); have n1_ := zm (hbox); have n2_ := zm (zs hg zb : w.heap.size ≤ gb374); have n3_ := zm (zs hg zb : w.heap.size ≤ gb374); clear HB; have HB := n0_; have BK374 := n1_; have GW374 := n2_; have GE374 := n3_; clear n0_ n1_ n2_ n3_; clear hb hbox hg) | ((with_reducible refine gate_dst (N := 5) rfl ?_); refine box_event ?hg (N := 5) ?hd (cs := #[.int .i64 a2_0, .int .i64 a2_1, .int .i64 a2_2]) (t := 31) ?hr ?_; (case hd => rfl); (case hg => rfl); (case hr => first | (go_simp; done) | (go_simp; rfl)); intro gb375 hg w10 hbox hb; have n0_ := zm (blk_below (g := gb374) zk hb); have n1_ := zm (below_step zb hb); have n2_ := zm (hbox); have n3_ := zm (zs hg zb : w.heap.size ≤ gb375); have n4_ := zm (zs hg zb : w.heap.size ≤ gb375); have n5_ := zm (zl hg zk : gb374 ≠ gb375); have n6_ := zm (zg hg zk : gb375 ≠ gb374); clear BK374; clear HB; have BK374 := n0_; have HB := n1_; have BK375 := n2_; have GW375 := n3_; have GE375 := n4_; have NB374_375 := n5_; have NB375_374 := n6_; clear n0_ n1_ n2_ n3_ n4_ n5_ n6_; clear hb hbox hg; have hnb11 := NB374_375.out; have hnc11 := NB375_374.out; obtain ⟨hcz12_0, hcz12_1, hfz12_0, hfz12_1⟩ := zc2 BK374.out) | ((with_reducible refine gate_callee (f := 109) rfl ?_); refine goesA_ (some 8) Try.func109 #[.agg #[.slice A0_0 l0_0.length c0_0, .int .i64 a0_1]] rfl ?_; (with_reducible refine (impl_IsInstrument.calls k _ _ l0_0 a0_1 true _ ?side1 ?side2 A4.out).mono ?_); (case side1 => repeat (first | exact (Kd.C_below HR0_0.out HB.out) | (with_reducible refine Kd.C_alloc ?_ _) | (with_reducible refine Kd.C_drewN ?_ _) | (with_reducible refine Kd.C_drew ?_))); (case side2 => exact HC0_0.out); rintro e w13 ⟨rfl, hb⟩; refine ⟨_, rfl, ?_⟩; have n0_ := zm (blk_below (g := gb374) zk hb); have n1_ := zm (blk_below (g := gb375) zk hb); have n2_ := zm (below_step zb hb); clear BK374; clear BK375; clear HB; have BK374 := n0_; have BK375 := n1_; have HB := n2_; clear n0_ n1_ n2_; (try clear hb); (try clear hb2); (try clear hk); (try clear hi)) | (go_at_call 77; (with_reducible refine (impl_IsSheet.calls k _ _ l1 true _ ?side1 ?side2 A6.out).mono ?_); (case side1 => repeat (first | exact (Kd.C_below HR1.out HB.out) | (with_reducible refine Kd.C_alloc ?_ _) | (with_reducible refine Kd.C_drewN ?_ _) | (with_reducible refine Kd.C_drew ?_))); (case side2 => exact HC1.out); rintro e w14 ⟨rfl, hb⟩; have n0_ := zm (blk_below (g := gb374) zk hb); have n1_ := zm (blk_below (g := gb375) zk hb); have n2_ := zm (below_step zb hb); clear BK374; clear BK375; clear HB; have BK374 := n0_; have BK375 := n1_; have HB := n2_; clear n0_ n1_ n2_; (try clear hb); (try clear hb2); (try clear hk); (try clear hi); obtain ⟨hcz15_0, hcz15_1, hcz15_2, hfz15_0, hfz15_1, hfz15_2⟩ := zc3 BK375.out) | (go_at_call 60; (with_reducible refine (impl_IsAction.calls a2_0 a2_1 a2_2 t378 _ A8.out).mono ?_); rintro e w16 ⟨rfl, hb⟩; have n0_ := zm (blk_below (g := gb374) zk hb); have n1_ := zm (blk_below (g := gb375) zk hb); have n2_ := zm (below_step zb hb); clear BK374; clear BK375; clear HB; have BK374 := n0_; have BK375 := n1_; have HB := n2_; clear n0_ n1_ n2_; (try clear hb); (try clear hb2); (try clear hk); (try clear hi)))
   go_ret
   exact ⟨zr, zb⟩
  ·
   replace c7 := Bool.eq_false_iff.mpr c7
   subst c7
   have H1 : (some false) = some r := by rw [if_neg (show ¬ (false = true) by decide)] at H; exact H
   clear H
   have H := H1
   clear H1
   obtain rfl := Option.some.inj H
   go_enter Try.func72, Try.ntmps72
   go_wp2_with (first | ((with_reducible refine gate_dst (N := 3) rfl ?_); refine box_event ?hg (N := 3) ?hd (cs := #[.slice A0_0 l0_0.length c0_0, .int .i64 a0_1]) (t := 45) ?hr ?_; (case hd => rfl); (case hg => rfl); (case hr => first | (go_simp; done) | (go_simp; rfl)); intro gb374 hg w17 hbox hb; have n0_ := zm (below_step zb hb); have n1_ := zm (hbox); have n2_ := zm (zs hg zb : w.heap.size ≤ gb374); have n3_ := zm (zs hg zb : w.heap.size ≤ gb374); clear HB; have HB := n0_; have BK374 := n1_; have GW374 := n2_; have GE374 := n3_; clear n0_ n1_ n2_ n3_; clear hb hbox hg) | ((with_reducible refine gate_dst (N := 5) rfl ?_); refine box_event ?hg (N := 5) ?hd (cs := #[.int .i64 a2_0, .int .i64 a2_1, .int .i64 a2_2]) (t := 31) ?hr ?_; (case hd => rfl); (case hg => rfl); (case hr => first | (go_simp; done) | (go_simp; rfl)); intro gb375 hg w18 hbox hb; have n0_ := zm (blk_below (g := gb374) zk hb); have n1_ := zm (below_step zb hb); have n2_ := zm (hbox); have n3_ := zm (zs hg zb : w.heap.size ≤ gb375); have n4_ := zm (zs hg zb : w.heap.size ≤ gb375); have n5_ := zm (zl hg zk : gb374 ≠ gb375); have n6_ := zm (zg hg zk : gb375 ≠ gb374); clear BK374; clear HB; have BK374 := n0_; have HB := n1_; have BK375 := n2_; have GW375 := n3_; have GE375 := n4_; have NB374_375 := n5_; have NB375_374 := n6_; clear n0_ n1_ n2_ n3_ n4_ n5_ n6_; clear hb hbox hg; have hnb19 := NB374_375.out; have hnc19 := NB375_374.out; obtain ⟨hcz20_0, hcz20_1, hfz20_0, hfz20_1⟩ := zc2 BK374.out) | ((with_reducible refine gate_callee (f := 109) rfl ?_); refine goesA_ (some 8) Try.func109 #[.agg #[.slice A0_0 l0_0.length c0_0, .int .i64 a0_1]] rfl ?_; (with_reducible refine (impl_IsInstrument.calls k _ _ l0_0 a0_1 true _ ?side1 ?side2 A4.out).mono ?_); (case side1 => repeat (first | exact (Kd.C_below HR0_0.out HB.out) | (with_reducible refine Kd.C_alloc ?_ _) | (with_reducible refine Kd.C_drewN ?_ _) | (with_reducible refine Kd.C_drew ?_))); (case side2 => exact HC0_0.out); rintro e w21 ⟨rfl, hb⟩; refine ⟨_, rfl, ?_⟩; have n0_ := zm (blk_below (g := gb374) zk hb); have n1_ := zm (blk_below (g := gb375) zk hb); have n2_ := zm (below_step zb hb); clear BK374; clear BK375; clear HB; have BK374 := n0_; have BK375 := n1_; have HB := n2_; clear n0_ n1_ n2_; (try clear hb); (try clear hb2); (try clear hk); (try clear hi)) | (go_at_call 77; (with_reducible refine (impl_IsSheet.calls k _ _ l1 false _ ?side1 ?side2 A6.out).mono ?_); (case side1 => repeat (first | exact (Kd.C_below HR1.out HB.out) | (with_reducible refine Kd.C_alloc ?_ _) | (with_reducible refine Kd.C_drewN ?_ _) | (with_reducible refine Kd.C_drew ?_))); (case side2 => exact HC1.out); rintro e w22 ⟨rfl, hb⟩; have n0_ := zm (blk_below (g := gb374) zk hb); have n1_ := zm (blk_below (g := gb375) zk hb); have n2_ := zm (below_step zb hb); clear BK374; clear BK375; clear HB; have BK374 := n0_; have BK375 := n1_; have HB := n2_; clear n0_ n1_ n2_; (try clear hb); (try clear hb2); (try clear hk); (try clear hi)))
   go_ret
   exact ⟨zr, zb⟩
 ·
  replace c5 := Bool.eq_false_iff.mpr c5
  subst c5
  have H1 : (some false) = some r := by rw [if_neg (show ¬ (false = true) by decide)] at H; exact H
  clear H
  have H := H1
  clear H1
  obtain rfl := Option.some.inj H
  go_enter Try.func72, Try.ntmps72
  go_wp2_with (first | ((with_reducible refine gate_dst (N := 3) rfl ?_); refine box_event ?hg (N := 3) ?hd (cs := #[.slice A0_0 l0_0.length c0_0, .int .i64 a0_1]) (t := 45) ?hr ?_; (case hd => rfl); (case hg => rfl); (case hr => first | (go_simp; done) | (go_simp; rfl)); intro gb374 hg w23 hbox hb; have n0_ := zm (below_step zb hb); have n1_ := zm (hbox); have n2_ := zm (zs hg zb : w.heap.size ≤ gb374); have n3_ := zm (zs hg zb : w.heap.size ≤ gb374); clear HB; have HB := n0_; have BK374 := n1_; have GW374 := n2_; have GE374 := n3_; clear n0_ n1_ n2_ n3_; clear hb hbox hg) | ((with_reducible refine gate_dst (N := 5) rfl ?_); refine box_event ?hg (N := 5) ?hd (cs := #[.int .i64 a2_0, .int .i64 a2_1, .int .i64 a2_2]) (t := 31) ?hr ?_; (case hd => rfl); (case hg => rfl); (case hr => first | (go_simp; done) | (go_simp; rfl)); intro gb375 hg w24 hbox hb; have n0_ := zm (blk_below (g := gb374) zk hb); have n1_ := zm (below_step zb hb); have n2_ := zm (hbox); have n3_ := zm (zs hg zb : w.heap.size ≤ gb375); have n4_ := zm (zs hg zb : w.heap.size ≤ gb375); have n5_ := zm (zl hg zk : gb374 ≠ gb375); have n6_ := zm (zg hg zk : gb375 ≠ gb374); clear BK374; clear HB; have BK374 := n0_; have HB := n1_; have BK375 := n2_; have GW375 := n3_; have GE375 := n4_; have NB374_375 := n5_; have NB375_374 := n6_; clear n0_ n1_ n2_ n3_ n4_ n5_ n6_; clear hb hbox hg; have hnb25 := NB374_375.out; have hnc25 := NB375_374.out; obtain ⟨hcz26_0, hcz26_1, hfz26_0, hfz26_1⟩ := zc2 BK374.out) | ((with_reducible refine gate_callee (f := 109) rfl ?_); refine goesA_ (some 8) Try.func109 #[.agg #[.slice A0_0 l0_0.length c0_0, .int .i64 a0_1]] rfl ?_; (with_reducible refine (impl_IsInstrument.calls k _ _ l0_0 a0_1 false _ ?side1 ?side2 A4.out).mono ?_); (case side1 => repeat (first | exact (Kd.C_below HR0_0.out HB.out) | (with_reducible refine Kd.C_alloc ?_ _) | (with_reducible refine Kd.C_drewN ?_ _) | (with_reducible refine Kd.C_drew ?_))); (case side2 => exact HC0_0.out); rintro e w27 ⟨rfl, hb⟩; refine ⟨_, rfl, ?_⟩; have n0_ := zm (blk_below (g := gb374) zk hb); have n1_ := zm (blk_below (g := gb375) zk hb); have n2_ := zm (below_step zb hb); clear BK374; clear BK375; clear HB; have BK374 := n0_; have BK375 := n1_; have HB := n2_; clear n0_ n1_ n2_; (try clear hb); (try clear hb2); (try clear hk); (try clear hi)))
  go_ret
  exact ⟨zr, zb⟩

theorem impl_spoken.zeroM111 (w : World) : (zeroValue 3).run Try.prog w = .ok ((Value.int .i64) (0 : Int)) w := by kernel_rfl
/-! ### impl_spoken: function 73 -/
def impl_spoken.l0 : Nat → List (S93) → List Int → List (S96) → Int → Int → List Int → Int → Int → Int → Int → List (Int × Int) → Option ((List (S93)) × List Int)
  | 0, _, _, _, _, _, _, _, _, _, _, _ => none
  | k + 1, x8, x9, x20, x21, x22, x380000, x380001, x381000, x381001, x381002, x388000 => if x22 < x21 then (if 0 ≤ x22 then (if x22 < (x20.length : Int) then (if ((rd_T96 x20 x22).f0) ≥ (x380000.length : Int) then (if x9.length < 17592186044416 then (impl_spoken.l0 k x8 (x9 ++ [x22]) x20 x21 (wrap64 (x22 + 1)) x380000 x380001 x381000 x381001 x381002 x388000) else (none)) else (if (wrap64 (((rd_T96 x20 x22).f2) - ((rd_T96 x20 x22).f1))) < x381002 then (if x9.length < 17592186044416 then (impl_spoken.l0 k x8 (x9 ++ [x22]) x20 x21 (wrap64 (x22 + 1)) x380000 x380001 x381000 x381001 x381002 x388000) else (none)) else (if Mp.mhas x388000 ((rd_T96 x20 x22).f0) = true then (if (wrap64 (((rd_T96 x20 x22).f1) - (Mp.mget (0 : Int) x388000 ((rd_T96 x20 x22).f0)))) < (wrap64 (2 * x380001)) then (if x9.length < 17592186044416 then (impl_spoken.l0 k x8 (x9 ++ [x22]) x20 x21 (wrap64 (x22 + 1)) x380000 x380001 x381000 x381001 x381002 x388000) else (none)) else (if (wrap64 (((rd_T96 x20 x22).f1) + x381000)) ≥ (wrap64 (((rd_T96 x20 x22).f2) + x381001)) then (if x9.length < 17592186044416 then (impl_spoken.l0 k x8 (x9 ++ [x22]) x20 x21 (wrap64 (x22 + 1)) x380000 x380001 x381000 x381001 x381002 x388000) else (none)) else (if 0 ≤ ((rd_T96 x20 x22).f0) then (if ((rd_T96 x20 x22).f0) < (x380000.length : Int) then (if x8.length < 5864062014805 then (impl_spoken.l0 k (x8 ++ [(⟨rd x380000 ((rd_T96 x20 x22).f0), wrap64 (((rd_T96 x20 x22).f1) + x381000), wrap64 (((rd_T96 x20 x22).f2) + x381001)⟩ : S93)]) x9 x20 x21 (wrap64 (x22 + 1)) x380000 x380001 x381000 x381001 x381002 (Mp.mput x388000 ((rd_T96 x20 x22).f0) ((rd_T96 x20 x22).f1))) else (none)) else (none)) else (none)))) else (if (wrap64 (((rd_T96 x20 x22).f1) + x381000)) ≥ (wrap64 (((rd_T96 x20 x22).f2) + x381001)) then (if x9.length < 17592186044416 then (impl_spoken.l0 k x8 (x9 ++ [x22]) x20 x21 (wrap64 (x22 + 1)) x380000 x380001 x381000 x381001 x381002 x388000) else (none)) else (if 0 ≤ ((rd_T96 x20 x22).f0) then (if ((rd_T96 x20 x22).f0) < (x380000.length : Int) then (if x8.length < 5864062014805 then (impl_spoken.l0 k (x8 ++ [(⟨rd x380000 ((rd_T96 x20 x22).f0), wrap64 (((rd_T96 x20 x22).f1) + x381000), wrap64 (((rd_T96 x20 x22).f2) + x381001)⟩ : S93)]) x9 x20 x21 (wrap64 (x22 + 1)) x380000 x380001 x381000 x381001 x381002 (Mp.mput x388000 ((rd_T96 x20 x22).f0) ((rd_T96 x20 x22).f1))) else (none)) else (none)) else (none)))))) else (none)) else (none)) else (some (x8, x9))
def impl_spoken.f (k : Nat) (l0_0 : List Int) (a0_1 : Int) (l1 : List (S96)) (a2_0 : Int) (a2_1 : Int) (a2_2 : Int) : Option ((List (S93)) × List Int) := impl_spoken.l0 k (([] : List (S93))) (([] : List Int)) l1 (l1.length : Int) 0 l0_0 a0_1 a2_0 a2_1 a2_2 ([] : List (Int × Int))
theorem impl_spoken.mono_l : ∀ k, (∀ y0 y1 y2 y3 y4 y5 y6 y7 y8 y9 y10, LeO (impl_spoken.l0 k y0 y1 y2 y3 y4 y5 y6 y7 y8 y9 y10) (impl_spoken.l0 (k + 1) y0 y1 y2 y3 y4 y5 y6 y7 y8 y9 y10))
  | 0 => fun _ _ _ _ _ _ _ _ _ _ _ r h => by simp [impl_spoken.l0] at h
  | k + 1 => by
    have ih0 := impl_spoken.mono_l k
    · intro y0 y1 y2 y3 y4 y5 y6 y7 y8 y9 y10
      unfold impl_spoken.l0
      repeat' first
      | (with_reducible exact ih0 _ _ _ _ _ _ _ _ _ _ _)
      | (with_reducible exact LeO.refl _)
      | (with_reducible exact LeO.none _)
      | (with_reducible refine LeO.ite ?_ ?_)
      | (with_reducible refine LeO.bind ?_ (fun _ => ?_))
      | exact ih0 _ _ _ _ _ _ _ _ _ _ _
      | exact LeO.none _
      | refine LeO.ite ?_ ?_
      | refine LeO.bind ?_ (fun _ => ?_)
theorem impl_spoken.mono : ∀ a0 a1 a2 a3 a4 a5 k, LeO (impl_spoken.f k a0 a1 a2 a3 a4 a5) (impl_spoken.f (k + 1) a0 a1 a2 a3 a4 a5) := by
  intro a0 a1 a2 a3 a4 a5 k
  have ih0 := impl_spoken.mono_l k
  unfold impl_spoken.f
  repeat' first
      | (with_reducible exact ih0 _ _ _ _ _ _ _ _ _ _ _)
      | (with_reducible exact LeO.refl _)
      | (with_reducible exact LeO.none _)
      | (with_reducible refine LeO.ite ?_ ?_)
      | (with_reducible refine LeO.bind ?_ (fun _ => ?_))
      | exact ih0 _ _ _ _ _ _ _ _ _ _ _
      | exact LeO.none _
      | refine LeO.ite ?_ ?_
      | refine LeO.bind ?_ (fun _ => ?_)
theorem impl_spoken.gq {P : Program} {i : Nat} {ops : Array Oper} {Q : Exit → Act → World → Prop} {a : Act} {W : World} (h : (Code.region i ops true).wp P Q a W) : (Code.region i ops true).wp P Q a W := h

set_option maxHeartbeats 8000000 in
set_option maxRecDepth 100000 in
theorem impl_spoken.calls (k : Nat) (A0_0 : Option Addr) (c0_0 : Nat) (l0_0 : List Int) (a0_1 : Int) (A1 : Option Addr) (c1 : Nat) (l1 : List (S96)) (a2_0 : Int) (a2_1 : Int) (a2_2 : Int) (r1 : List (S93)) (r2 : List Int) (w : World) (hr0_0 : Kd.C (Kd.int .i64) w A0_0 l0_0.length l0_0) (hc0_0 : l0_0.length ≤ c0_0) (hr1 : Kd.C k96 w A1 l1.length l1) (hc1 : l1.length ≤ c1) (h : impl_spoken.f k l0_0 a0_1 l1 a2_0 a2_1 a2_2 = some (r1, r2)) :
  Calls Try.prog 73 #[.agg #[.slice A0_0 l0_0.length c0_0, .int .i64 a0_1], .slice A1 l1.length c1, .agg #[.int .i64 a2_0, .int .i64 a2_1, .int .i64 a2_2]] w fun e w' => ∃ v0_ v1_ : Value, e = .returned (.tuple #[v0_, v1_]) ∧ Kd.R k93 93 w' w.heap.size (fun _ => True) v0_ r1 ∧ Kd.R (Kd.int .i64) 3 w' w.heap.size (fun _ => True) v1_ r2 ∧ Below w.heap.size w w' := by
 have hu45 := Try.underlying45
 have hu31 := Try.underlying31
 have hu96 := Try.underlying96
 have hu93 := Try.underlying93
 have HR0_0 := zm hr0_0
 have HC0_0 := zm hc0_0
 clear hr0_0 hc0_0
 have HR1 := zm hr1
 have HC1 := zm hc1
 clear hr1 hc1
 have HB := zm (Below.refl w.heap.size w)
 have H : (impl_spoken.l0 k (([] : List (S93))) (([] : List Int)) l1 (l1.length : Int) 0 l0_0 a0_1 a2_0 a2_1 a2_2 ([] : List (Int × Int))) = some (r1, r2) := h
 clear h
 obtain ⟨y381, hy381⟩ : ∃ y_ : List (S93), y_ = (([] : List (S93))) := ⟨_, rfl⟩
 replace H : (impl_spoken.l0 k y381 (([] : List Int)) l1 (l1.length : Int) 0 l0_0 a0_1 a2_0 a2_1 a2_2 ([] : List (Int × Int))) = some (r1, r2) := by first | (rw [hy381]; with_reducible exact H) | (have H2_ := (Option.bind_some _ _).symm.trans H; rw [hy381]; with_reducible exact H2_) | (have H2_ := (Option.bind_some _ _).symm.trans H; with_reducible exact H2_) | with_reducible exact H | (rw [hy381]; exact H) | exact H
 have Ny381 := zm hy381
 clear hy381
 obtain ⟨y384, hy384⟩ : ∃ y_ : List Int, y_ = (([] : List Int)) := ⟨_, rfl⟩
 replace H : (impl_spoken.l0 k y381 y384 l1 (l1.length : Int) 0 l0_0 a0_1 a2_0 a2_1 a2_2 ([] : List (Int × Int))) = some (r1, r2) := by first | (rw [hy384]; with_reducible exact H) | (have H2_ := (Option.bind_some _ _).symm.trans H; rw [hy384]; with_reducible exact H2_) | (have H2_ := (Option.bind_some _ _).symm.trans H; with_reducible exact H2_) | with_reducible exact H | (rw [hy384]; exact H) | exact H
 have Ny384 := zm hy384
 clear hy384
 have H' := zm H
 clear H
 go_enter Try.func73, Try.ntmps73
 go_wp2_with (first | ((with_reducible refine gate_dst (N := 3) rfl ?_); refine box_event ?hg (N := 3) ?hd (cs := #[.slice A0_0 l0_0.length c0_0, .int .i64 a0_1]) (t := 45) ?hr ?_; (case hd => rfl); (case hg => rfl); (case hr => first | (go_simp; done) | (go_simp; rfl)); intro gb379 hg w4 hbox hb; have n0_ := zm (below_step zb hb); have n1_ := zm (hbox); have n2_ := zm (zs hg zb : w.heap.size ≤ gb379); have n3_ := zm (zs hg zb : w.heap.size ≤ gb379); clear HB; have HB := n0_; have BK379 := n1_; have GW379 := n2_; have GE379 := n3_; clear n0_ n1_ n2_ n3_; clear hb hbox hg) | ((with_reducible refine gate_dst (N := 5) rfl ?_); refine box_event ?hg (N := 5) ?hd (cs := #[.int .i64 a2_0, .int .i64 a2_1, .int .i64 a2_2]) (t := 31) ?hr ?_; (case hd => rfl); (case hg => rfl); (case hr => first | (go_simp; done) | (go_simp; rfl)); intro gb380 hg w5 hbox hb; have n0_ := zm (blk_below (g := gb379) zk hb); have n1_ := zm (below_step zb hb); have n2_ := zm (hbox); have n3_ := zm (zs hg zb : w.heap.size ≤ gb380); have n4_ := zm (zs hg zb : w.heap.size ≤ gb380); have n5_ := zm (zl hg zk : gb379 ≠ gb380); have n6_ := zm (zg hg zk : gb380 ≠ gb379); clear BK379; clear HB; have BK379 := n0_; have HB := n1_; have BK380 := n2_; have GW380 := n3_; have GE380 := n4_; have NB379_380 := n5_; have NB380_379 := n6_; clear n0_ n1_ n2_ n3_ n4_ n5_ n6_; clear hb hbox hg) | ((with_reducible refine gate_dst (N := 17) rfl ?_); refine Kd.R_lit k93 _ 93 ?hg (N := 17) ?hd (xs := ([] : List (S93))) (inner := []) (ok := fun _ => True) (okp := fun _ => True) ?hr ?hp (fun _ hk => hk) trivial (Below.refl _ _) (Nat.le_refl _) (by simp) ?_; (case hd => rfl); (case hg => rfl); (case hr => first | (go_simp; done) | (go_simp; rfl)); (case hp => exact (Reps.none _ _)); intro v382 w6 ho7 hb hg_ hnew_; clear hg_ hnew_; (first | rw [← Ny381.out] at ho7 | (simp only [Int.reduceToNat] at ho7; rw [← Ny381.out] at ho7)); have n0_ := zm (Kd.R_lower ho7 (below_size zb)); have n1_ := zm (blk_below (g := gb379) zk hb); have n2_ := zm (blk_below (g := gb380) zk hb); have n3_ := zm (below_step zb hb); clear BK379; clear BK380; clear HB; have HO383 := n0_; have BK379 := n1_; have BK380 := n2_; have HB := n3_; clear n0_ n1_ n2_ n3_; clear hb ho7) | ((with_reducible refine gate_dst (N := 18) rfl ?_); refine Kd.R_lit (Kd.int .i64) _ 3 ?hg (N := 18) ?hd (xs := ([] : List Int)) (inner := []) (ok := fun _ => True) (okp := fun _ => True) ?hr ?hp (fun _ hk => hk) trivial (Below.refl _ _) (Nat.le_refl _) (by simp) ?_; (case hd => rfl); (case hg => rfl); (case hr => first | (go_simp; done) | (go_simp; rfl)); (case hp => exact (Reps.none _ _)); intro v385 w8 ho9 hb hg_ hnew_; clear hg_ hnew_; (first | rw [← Ny384.out] at ho9 | (simp only [Int.reduceToNat] at ho9; rw [← Ny384.out] at ho9)); have n0_ := zm (Kd.R_below (by (with_reducible repeat (first | apply Kd.R_alloc | apply Kd.R_drewN | apply Kd.R_drew)); exact HO383.out) hb); have n1_ := zm (Kd.R_lower ho9 (below_size zb)); have n2_ := zm (blk_below (g := gb379) zk hb); have n3_ := zm (blk_below (g := gb380) zk hb); have n4_ := zm (below_step zb hb); clear HO383; clear BK379; clear BK380; clear HB; have HO383 := n0_; have HO386 := n1_; have BK379 := n2_; have BK380 := n3_; have HB := n4_; clear n0_ n1_ n2_ n3_ n4_; clear hb ho9) | ((with_reducible refine gate_dst (N := 19) rfl ?_); refine Mp.make_event (Value.int .i64) ?hg (N := 19) ?hd (t := 111) ?ho ?_; (case hd => rfl); (case hg => rfl); (case ho => rfl); intro gb387 hg w10 hbox hb; have n0_ := zm (Kd.R_below (by (with_reducible repeat (first | apply Kd.R_alloc | apply Kd.R_drewN | apply Kd.R_drew)); exact HO383.out) hb); have n1_ := zm (Kd.R_below (by (with_reducible repeat (first | apply Kd.R_alloc | apply Kd.R_drewN | apply Kd.R_drew)); exact HO386.out) hb); have n2_ := zm (blk_below (g := gb379) zk hb); have n3_ := zm (blk_below (g := gb380) zk hb); have n4_ := zm (below_step zb hb); have n5_ := zm (hbox); have n6_ := zm (zs hg zb : w.heap.size ≤ gb387); have n7_ := zm (zs hg zb : w.heap.size ≤ gb387); have n8_ := zm (zl hg zk : gb379 ≠ gb387); have n9_ := zm (zg hg zk : gb387 ≠ gb379); have n10_ := zm (zl hg zk : gb380 ≠ gb387); have n11_ := zm (zg hg zk : gb387 ≠ gb380); clear HO383; clear HO386; clear BK379; clear BK380; clear HB; have HO383 := n0_; have HO386 := n1_; have BK379 := n2_; have BK380 := n3_; have HB := n4_; have BK387 := n5_; have GW387 := n6_; have GE387 := n7_; have NB379_387 := n8_; have NB387_379 := n9_; have NB380_387 := n10_; have NB387_380 := n11_; clear n0_ n1_ n2_ n3_ n4_ n5_ n6_ n7_ n8_ n9_ n10_ n11_; clear hb hbox hg) | ((with_reducible refine impl_spoken.gq ?_); go_quiet (fail)))
 go_loopg [8, 9, 22] k (fun kq v8 v9 v22 w' => ∃ (x8_1 : List (S93)) (x9_1 : List Int) (x22_1 : Int) (x388000_1 : List (Int × Int)), v22 = .int .i64 x22_1 ∧ Aside0 (impl_spoken.l0 kq x8_1 x9_1 l1 (l1.length : Int) x22_1 l0_0 a0_1 a2_0 a2_1 a2_2 x388000_1 = some (r1, r2)) ∧ Aside0 (kq ≤ k) ∧ Aside0 (Kd.R k93 93 w' w.heap.size (fun _ => True) v8 x8_1) ∧ Aside0 (Kd.R (Kd.int .i64) 3 w' w.heap.size (fun _ => True) v9 x9_1) ∧ Aside0 (w'.heap[gb379]? = some (.cells #[(.slice A0_0 l0_0.length c0_0), .int .i64 a0_1] 45 (0, 0))) ∧ Aside0 (w'.heap[gb380]? = some (.cells #[.int .i64 a2_0, .int .i64 a2_1, .int .i64 a2_2] 31 (0, 0))) ∧ Aside0 (w'.heap[gb387]? = some (Mp.mObj (Value.int .i64) x388000_1)) ∧ Aside0 (Below w.heap.size w w'))
 case atStart => exact ⟨(y381), (y384), (0), (([] : List (Int × Int))), (by first | rfl | (simp; done) | (simp [*]; done)), H', ⟨Nat.le_refl _⟩, ⟨by (with_reducible repeat (first | apply Kd.R_alloc | apply Kd.R_drewN | apply Kd.R_drew)); exact HO383.out⟩, ⟨by (with_reducible repeat (first | apply Kd.R_alloc | apply Kd.R_drewN | apply Kd.R_drew)); exact HO386.out⟩, ⟨zk⟩, ⟨zk⟩, ⟨zk⟩, ⟨zb⟩⟩
 case round =>
  clear H'
  (try clear c1); (try clear p2); (try clear c7)
  obtain ⟨x8_1, x9_1, x22_1, x388000_1, rfl, HA, HK1, HO_8, HO_9, BK379, BK380, BK387, HB⟩ := hrel
  cases gk with
  | zero => exact absurd HA.out (by simp [impl_spoken.l0])
  | succ k1 =>
   have H := HA.out
   clear HA
   simp only [impl_spoken.l0] at H
   by_cases c11 : x22_1 < (l1.length : Int)
   ·
    rw [if_pos c11] at H
    have c11b0 : decide (x22_1 < (l1.length : Int)) = true := decide_eq_true c11
    clear c11
    by_cases c12 : 0 ≤ x22_1
    ·
     rw [if_pos c12] at H
     have c12b0 : decide (0 ≤ x22_1) = true := decide_eq_true c12
     clear c12
     by_cases c13 : x22_1 < (l1.length : Int)
     ·
      rw [if_pos c13] at H
      have c13b0 : decide (x22_1 < (l1.length : Int)) = true := decide_eq_true c13
      clear c13
      by_cases c14 : ((rd_T96 l1 x22_1).f0) ≥ (l0_0.length : Int)
      ·
       rw [if_pos c14] at H
       have c14b0 : decide ((l0_0.length : Int) ≤ ((rd_T96 l1 x22_1).f0)) = true := decide_eq_true c14
       clear c14
       by_cases c15 : x9_1.length < 17592186044416
       ·
        rw [if_pos c15] at H
        have LMc15 := zm c15
        clear c15
        obtain ⟨y390, hy390⟩ : ∃ y_ : List Int, y_ = (x9_1 ++ [x22_1]) := ⟨_, rfl⟩
        replace H : (impl_spoken.l0 k1 x8_1 y390 l1 (l1.length : Int) (wrap64 (x22_1 + 1)) l0_0 a0_1 a2_0 a2_1 a2_2 x388000_1) = some (r1, r2) := by first | (rw [hy390]; with_reducible exact H) | (have H2_ := (Option.bind_some _ _).symm.trans H; rw [hy390]; with_reducible exact H2_) | (have H2_ := (Option.bind_some _ _).symm.trans H; with_reducible exact H2_) | with_reducible exact H | (rw [hy390]; exact H) | exact H
        have Ny390 := zm hy390
        clear hy390
        have H' := zm H
        clear H
        have p388 : 0 ≤ (x22_1 : Int) := zd
        have q388 : x22_1 < (l1.length : Int) := zd
        obtain ⟨ad388, e388, hx388_0, hx388_1, hx388_2⟩ := at_T96 HR1.out x22_1 p388 q388
        cases e388
        replace hx388_0 := zx HB.out hx388_0
        replace hx388_1 := zx HB.out hx388_1
        replace hx388_2 := zx HB.out hx388_2
        replace p388 := eq_true p388
        replace q388 := eq_true q388
        go_wp2_with (first | ((with_reducible refine gate_dst (N := 12) rfl ?_); refine box_event ?hg (N := 12) ?hd (cs := #[.int .i64 0, .int .i64 0, .int .i64 0]) (t := 96) ?hr ?_; (case hd => rfl); (case hg => rfl); (case hr => first | (go_simp; done) | (go_simp; rfl)); intro gb389 hg w16 hbox hb; have n0_ := zm (Kd.R_below (by (with_reducible repeat (first | apply Kd.R_alloc | apply Kd.R_drewN | apply Kd.R_drew)); exact HO_8.out) hb); have n1_ := zm (Kd.R_below (by (with_reducible repeat (first | apply Kd.R_alloc | apply Kd.R_drewN | apply Kd.R_drew)); exact HO_9.out) hb); have n2_ := zm (blk_below (g := gb379) zk hb); have n3_ := zm (blk_below (g := gb380) zk hb); have n4_ := zm (blk_below (g := gb387) zk hb); have n5_ := zm (below_step zb hb); have n6_ := zm (hbox); have n7_ := zm (zs hg zb : w.heap.size ≤ gb389); have n8_ := zm (zs hg zb : w.heap.size ≤ gb389); have n9_ := zm (zl hg zk : gb379 ≠ gb389); have n10_ := zm (zg hg zk : gb389 ≠ gb379); have n11_ := zm (zl hg zk : gb380 ≠ gb389); have n12_ := zm (zg hg zk : gb389 ≠ gb380); have n13_ := zm (zl hg zk : gb387 ≠ gb389); have n14_ := zm (zg hg zk : gb389 ≠ gb387); clear HO_8; clear HO_9; clear BK379; clear BK380; clear BK387; clear HB; have HO_8 := n0_; have HO_9 := n1_; have BK379 := n2_; have BK380 := n3_; have BK387 := n4_; have HB := n5_; have BK389 := n6_; have GW389 := n7_; have GE389 := n8_; have NB379_389 := n9_; have NB389_379 := n10_; have NB380_389 := n11_; have NB389_380 := n12_; have NB387_389 := n13_; have NB389_387 := n14_; clear n0_ n1_ n2_ n3_ n4_ n5_ n6_ n7_ n8_ n9_ n10_ n11_ n12_ n13_ n14_; clear hb hbox hg; have hnb17 := NB389_379.out; have hnc17 := NB379_389.out; have hnb18 := NB389_380.out; have hnc18 := NB380_389.out; have hnb19 := NB389_387.out; have hnc19 := NB387_389.out; obtain ⟨hcz20_0, hcz20_1, hcz20_2, hfz20_0, hfz20_1, hfz20_2⟩ := zc3 BK389.out) | ((with_reducible refine gate_store (t := 96) (p := 12) rfl ?_); (try (rw [drewN_self w16]; generalize hq_ : World.drewN w16 _ = w16; have n0_ := zm (Kd.R_at hq_ HO_8.out); have n1_ := zm (Kd.R_at hq_ HO_9.out); have n2_ := zm (blk_at hq_ BK379.out); have n3_ := zm (blk_at hq_ BK380.out); have n4_ := zm (blk_at hq_ BK387.out); have n5_ := zm (blk_at hq_ BK389.out); have n6_ := zm (below_at hq_ HB.out); clear hq_ HO_8 HO_9 BK379 BK380 BK387 BK389 HB; have HO_8 := n0_; have HO_9 := n1_; have BK379 := n2_; have BK380 := n3_; have BK387 := n4_; have BK389 := n5_; have HB := n6_; clear n0_ n1_ n2_ n3_ n4_ n5_ n6_)); refine store_event (t := 96) (p := 12) (v := ?vo_w21) (w1 := (((w16.setCell ⟨gb389, 0, none⟩ (.int .i64 ((rd_T96 l1 x22_1).f0))).setCell ⟨gb389, 1, none⟩ (.int .i64 ((rd_T96 l1 x22_1).f1))).setCell ⟨gb389, 2, none⟩ (.int .i64 ((rd_T96 l1 x22_1).f2)))) ?hg ?ho ?hn ?hr ?_; (case ho => rfl); (case hg => rfl); (case hn => rfl); (case hr => first | (go_simp; done) | (go_simp; rfl)); intro w21 hw; have n0_ : Aside0 (Kd.R k93 93 w21 w.heap.size (fun _ => True) u8 x8_1) := ⟨(by rw [hw]; exact (by (with_reducible repeat (first | apply Kd.R_alloc | apply Kd.R_drewN | apply Kd.R_drew)); exact Kd.R_mono (Kd.R_far (p := ⟨gb389, 2, none⟩) (Kd.R_far (p := ⟨gb389, 1, none⟩) (Kd.R_far (p := ⟨gb389, 0, none⟩) (Kd.R_types HO_8.out BK389.out (by decide)) (fun _ hk => hk.2) (.int .i64 ((rd_T96 l1 x22_1).f0))) (fun _ hk => hk.2) (.int .i64 ((rd_T96 l1 x22_1).f1))) (fun _ hk => hk.2) (.int .i64 ((rd_T96 l1 x22_1).f2))) (fun _ hk => trivial)))⟩; have n1_ : Aside0 (Kd.R (Kd.int .i64) 3 w21 w.heap.size (fun _ => True) u9 x9_1) := ⟨(by rw [hw]; exact (by (with_reducible repeat (first | apply Kd.R_alloc | apply Kd.R_drewN | apply Kd.R_drew)); exact Kd.R_mono (Kd.R_far (p := ⟨gb389, 2, none⟩) (Kd.R_far (p := ⟨gb389, 1, none⟩) (Kd.R_far (p := ⟨gb389, 0, none⟩) (Kd.R_types HO_9.out BK389.out (by decide)) (fun _ hk => hk.2) (.int .i64 ((rd_T96 l1 x22_1).f0))) (fun _ hk => hk.2) (.int .i64 ((rd_T96 l1 x22_1).f1))) (fun _ hk => hk.2) (.int .i64 ((rd_T96 l1 x22_1).f2))) (fun _ hk => trivial)))⟩; have n2_ : Aside0 (w21.heap[gb379]? = some (.cells #[.slice A0_0 l0_0.length c0_0, .int .i64 a0_1] 45 (0, 0))) := ⟨(by rw [hw]; exact zK)⟩; have n3_ : Aside0 (w21.heap[gb380]? = some (.cells #[.int .i64 a2_0, .int .i64 a2_1, .int .i64 a2_2] 31 (0, 0))) := ⟨(by rw [hw]; exact zK)⟩; have n4_ : Aside0 (w21.heap[gb387]? = some (Mp.mObj (Value.int .i64) x388000_1)) := ⟨(by rw [hw]; exact (by (with_reducible repeat (first | refine blk_drewN ?_ _ | refine blk_drew ?_ | refine blk_alloc ?_ _)); refine Mp.far ?_ NB387_389.out _; (with_reducible repeat (first | refine blk_drewN ?_ _ | refine blk_drew ?_ | refine blk_alloc ?_ _)); refine Mp.far ?_ NB387_389.out _; (with_reducible repeat (first | refine blk_drewN ?_ _ | refine blk_drew ?_ | refine blk_alloc ?_ _)); refine Mp.far ?_ NB387_389.out _; (with_reducible repeat (first | refine blk_drewN ?_ _ | refine blk_drew ?_ | refine blk_alloc ?_ _)); exact BK387.out))⟩; have n5_ : Aside0 (w21.heap[gb389]? = some (.cells #[.int .i64 ((rd_T96 l1 x22_1).f0), .int .i64 ((rd_T96 l1 x22_1).f1), .int .i64 ((rd_T96 l1 x22_1).f2)] 96 (0, 0))) := ⟨(by rw [hw]; exact (by (with_reducible repeat (first | refine blk_drewN ?_ _ | refine blk_drew ?_ | refine blk_alloc ?_ _)); refine blk_put (cs := #[.int .i64 ((rd_T96 l1 x22_1).f0), .int .i64 ((rd_T96 l1 x22_1).f1), .int .i64 0]) ?_ 2 _ rfl; (with_reducible repeat (first | refine blk_drewN ?_ _ | refine blk_drew ?_ | refine blk_alloc ?_ _)); refine blk_put (cs := #[.int .i64 ((rd_T96 l1 x22_1).f0), .int .i64 0, .int .i64 0]) ?_ 1 _ rfl; (with_reducible repeat (first | refine blk_drewN ?_ _ | refine blk_drew ?_ | refine blk_alloc ?_ _)); refine blk_put (cs := #[.int .i64 0, .int .i64 0, .int .i64 0]) ?_ 0 _ rfl; (with_reducible repeat (first | refine blk_drewN ?_ _ | refine blk_drew ?_ | refine blk_alloc ?_ _)); exact BK389.out))⟩; have n6_ : Aside0 (Below w.heap.size w w21) := ⟨(by rw [hw]; exact zb)⟩; clear hw; clear HO_8; clear HO_9; clear BK379; clear BK380; clear BK387; clear BK389; clear HB; have HO_8 := n0_; have HO_9 := n1_; have BK379 := n2_; have BK380 := n3_; have BK387 := n4_; have BK389 := n5_; have HB := n6_; clear n0_ n1_ n2_ n3_ n4_ n5_ n6_; obtain ⟨hcz22_0, hcz22_1, hcz22_2, hfz22_0, hfz22_1, hfz22_2⟩ := zc3 BK389.out; have hnb23 := NB387_379.out; have hnc23 := NB379_387.out; have hnb24 := NB387_380.out; have hnc24 := NB380_387.out; have hlz25_true : ∀ k_ : Int, (Instr.lookup 111 (.map (some gb387)) (.int .i64 k_) true).run Try.prog w21 = .ok (.tuple #[(Value.int .i64) (Mp.mget (0 : Int) x388000_1 k_), .bool (Mp.mhas x388000_1 k_)]) w21 := fun k_ => Mp.run_lookup (enc := (Value.int .i64)) Try.underlying111 Try.underlying3 (0 : Int) (fun w_ => impl_spoken.zeroM111 w_) BK387.out k_ true; have hlz25_false : ∀ k_ : Int, (Instr.lookup 111 (.map (some gb387)) (.int .i64 k_) false).run Try.prog w21 = .ok ((Value.int .i64) (Mp.mget (0 : Int) x388000_1 k_)) w21 := fun k_ => Mp.run_lookup (enc := (Value.int .i64)) Try.underlying111 Try.underlying3 (0 : Int) (fun w_ => impl_spoken.zeroM111 w_) BK387.out k_ false; have hlz25_truen : ∀ (n_ : Nat) (k_ : Int), (Instr.lookup 111 (.map (some gb387)) (.int .i64 k_) true).run Try.prog (w21.drewN n_) = .ok (.tuple #[(Value.int .i64) (Mp.mget (0 : Int) x388000_1 k_), .bool (Mp.mhas x388000_1 k_)]) (w21.drewN n_) := fun n_ k_ => Mp.run_lookup (enc := (Value.int .i64)) Try.underlying111 Try.underlying3 (0 : Int) (fun w_ => impl_spoken.zeroM111 w_) (show (w21.drewN n_).heap[gb387]? = _ from BK387.out) k_ true; have hlz25_falsen : ∀ (n_ : Nat) (k_ : Int), (Instr.lookup 111 (.map (some gb387)) (.int .i64 k_) false).run Try.prog (w21.drewN n_) = .ok ((Value.int .i64) (Mp.mget (0 : Int) x388000_1 k_)) (w21.drewN n_) := fun n_ k_ => Mp.run_lookup (enc := (Value.int .i64)) Try.underlying111 Try.underlying3 (0 : Int) (fun w_ => impl_spoken.zeroM111 w_) (show (w21.drewN n_).heap[gb387]? = _ from BK387.out) k_ false; have hnb26 := NB380_379.out; have hnc26 := NB379_380.out; obtain ⟨hcz27_0, hcz27_1, hcz27_2, hfz27_0, hfz27_1, hfz27_2⟩ := zc3 BK380.out; obtain ⟨hcz28_0, hcz28_1, hfz28_0, hfz28_1⟩ := zc2 BK379.out) | ((with_reducible refine gate_builtin (b := .append) (xs := #[.tmp 78, .tmp 80]) rfl ?_); at_builtin; refine Kd.R_append (Kd.int .i64) (w0 := w) w.heap.size rfl (.tmp 78) (.tmp 80) 38 3 (.int .i64 0) 8 rfl Try.underlying38 info3 rfl (by decide) (by omega) u9 x9_1 x22_1 [.int .i64 x22_1] (fun _ => True) (fun _ => False) rfl rfl ?aP (fun _ hk => hk.elim) ?aF ?aO ?aB ?aS ?aL ?_; (case aP => exact rfl); (case aB => exact zb); (case aF => exact (fun _ _ => trivial)); (case aO => exact (by (with_reducible repeat (first | apply Kd.R_alloc | apply Kd.R_drewN | apply Kd.R_drew)); exact HO_9.out)); (case aS => exact (below_size zb)); (case aL => have := LMc15.out; omega); intro v391 w29 ho hb hg hat; rw [← Ny390.out] at ho; have n0_ := zm (Kd.R_over' (by (with_reducible repeat (first | apply Kd.R_alloc | apply Kd.R_drewN | apply Kd.R_drew)); exact HO_8.out) (Kd.R_typed (by (with_reducible repeat (first | apply Kd.R_alloc | apply Kd.R_drewN | apply Kd.R_drew)); exact HO_9.out)) (by decide) hg); have n1_ := zm (blk_grown (g := gb379) (o := .cells #[.slice A0_0 l0_0.length c0_0, .int .i64 a0_1] 45 (0, 0)) zk hg (Kd.R_ne HO_9.out BK379.out (by decide))); have n2_ := zm (blk_grown (g := gb380) (o := .cells #[.int .i64 a2_0, .int .i64 a2_1, .int .i64 a2_2] 31 (0, 0)) zk hg (Kd.R_ne HO_9.out BK380.out (by decide))); have n3_ := zm (blk_grown (g := gb387) (o := Mp.mObj (Value.int .i64) x388000_1) zk hg (Mp.R_ne HO_9.out BK387.out)); have n4_ := zm (blk_grown (g := gb389) (o := .cells #[.int .i64 ((rd_T96 l1 x22_1).f0), .int .i64 ((rd_T96 l1 x22_1).f1), .int .i64 ((rd_T96 l1 x22_1).f2)] 96 (0, 0)) zk hg (Kd.R_ne HO_9.out BK389.out (by decide))); have n5_ := zm (hb); have n6_ := zm (ho); clear HO_8; clear BK379; clear BK380; clear BK387; clear BK389; clear HB; clear HO_9; have HO_8 := n0_; have BK379 := n1_; have BK380 := n2_; have BK387 := n3_; have BK389 := n4_; have HB := n5_; have HO392 := n6_; clear n0_ n1_ n2_ n3_ n4_ n5_ n6_; clear ho hb hg hat) | ((with_reducible refine impl_spoken.gq ?_); go_quiet (fail)))
        go_roundg k1
        case measure => have := HK1.out; omega
        case rel => exact ⟨(x8_1), (y390), (wrap64 (x22_1 + 1)), (x388000_1), (by first | rfl | (simp; done) | (simp [*]; done)), H', ⟨by have := HK1.out; omega⟩, ⟨by (with_reducible repeat (first | apply Kd.R_alloc | apply Kd.R_drewN | apply Kd.R_drew)); exact HO_8.out⟩, ⟨by (with_reducible repeat (first | apply Kd.R_alloc | apply Kd.R_drewN | apply Kd.R_drew)); exact HO392.out⟩, ⟨zk⟩, ⟨zk⟩, ⟨zk⟩, ⟨zb⟩⟩
       ·
        rw [if_neg c15] at H
        exact absurd H (by simp)
      ·
       rw [if_neg c14] at H
       have c14b0 : decide ((l0_0.length : Int) ≤ ((rd_T96 l1 x22_1).f0)) = false := decide_eq_false c14
       clear c14
       by_cases c30 : (wrap64 (((rd_T96 l1 x22_1).f2) - ((rd_T96 l1 x22_1).f1))) < a2_2
       ·
        rw [if_pos c30] at H
        have c30b0 : decide ((wrap64 (((rd_T96 l1 x22_1).f2) - ((rd_T96 l1 x22_1).f1))) < a2_2) = true := decide_eq_true c30
        clear c30
        by_cases c31 : x9_1.length < 17592186044416
        ·
         rw [if_pos c31] at H
         have LMc31 := zm c31
         clear c31
         obtain ⟨y393, hy393⟩ : ∃ y_ : List Int, y_ = (x9_1 ++ [x22_1]) := ⟨_, rfl⟩
         replace H : (impl_spoken.l0 k1 x8_1 y393 l1 (l1.length : Int) (wrap64 (x22_1 + 1)) l0_0 a0_1 a2_0 a2_1 a2_2 x388000_1) = some (r1, r2) := by first | (rw [hy393]; with_reducible exact H) | (have H2_ := (Option.bind_some _ _).symm.trans H; rw [hy393]; with_reducible exact H2_) | (have H2_ := (Option.bind_some _ _).symm.trans H; with_reducible exact H2_) | with_reducible exact H | (rw [hy393]; exact H) | exact H
         have Ny393 := zm hy393
         clear hy393
         have H' := zm H
         clear H
         have p388 : 0 ≤ (x22_1 : Int) := zd
         have q388 : x22_1 < (l1.length : Int) := zd
         obtain ⟨ad388, e388, hx388_0, hx388_1, hx388_2⟩ := at_T96 HR1.out x22_1 p388 q388
         cases e388
         replace hx388_0 := zx HB.out hx388_0
         replace hx388_1 := zx HB.out hx388_1
         replace hx388_2 := zx HB.out hx388_2
         replace p388 := eq_true p388
         replace q388 := eq_true q388
         go_wp2_with (first | ((with_reducible refine gate_dst (N := 12) rfl ?_); refine box_event ?hg (N := 12) ?hd (cs := #[.int .i64 0, .int .i64 0, .int .i64 0]) (t := 96) ?hr ?_; (case hd => rfl); (case hg => rfl); (case hr => first | (go_simp; done) | (go_simp; rfl)); intro gb389 hg w32 hbox hb; have n0_ := zm (Kd.R_below (by (with_reducible repeat (first | apply Kd.R_alloc | apply Kd.R_drewN | apply Kd.R_drew)); exact HO_8.out) hb); have n1_ := zm (Kd.R_below (by (with_reducible repeat (first | apply Kd.R_alloc | apply Kd.R_drewN | apply Kd.R_drew)); exact HO_9.out) hb); have n2_ := zm (blk_below (g := gb379) zk hb); have n3_ := zm (blk_below (g := gb380) zk hb); have n4_ := zm (blk_below (g := gb387) zk hb); have n5_ := zm (below_step zb hb); have n6_ := zm (hbox); have n7_ := zm (zs hg zb : w.heap.size ≤ gb389); have n8_ := zm (zs hg zb : w.heap.size ≤ gb389); have n9_ := zm (zl hg zk : gb379 ≠ gb389); have n10_ := zm (zg hg zk : gb389 ≠ gb379); have n11_ := zm (zl hg zk : gb380 ≠ gb389); have n12_ := zm (zg hg zk : gb389 ≠ gb380); have n13_ := zm (zl hg zk : gb387 ≠ gb389); have n14_ := zm (zg hg zk : gb389 ≠ gb387); clear HO_8; clear HO_9; clear BK379; clear BK380; clear BK387; clear HB; have HO_8 := n0_; have HO_9 := n1_; have BK379 := n2_; have BK380 := n3_; have BK387 := n4_; have HB := n5_; have BK389 := n6_; have GW389 := n7_; have GE389 := n8_; have NB379_389 := n9_; have NB389_379 := n10_; have NB380_389 := n11_; have NB389_380 := n12_; have NB387_389 := n13_; have NB389_387 := n14_; clear n0_ n1_ n2_ n3_ n4_ n5_ n6_ n7_ n8_ n9_ n10_ n11_ n12_ n13_ n14_; clear hb hbox hg; have hnb33 := NB389_379.out; have hnc33 := NB379_389.out; have hnb34 := NB389_380.out; have hnc34 := NB380_389.out; have hnb35 := NB389_387.out; have hnc35 := NB387_389.out; obtain ⟨hcz36_0, hcz36_1, hcz36_2, hfz36_0, hfz36_1, hfz36_2⟩ := zc3 BK389.out) | ((with_reducible refine gate_store (t := 96) (p := 12) rfl ?_); (try (rw [drewN_self w32]; generalize hq_ : World.drewN w32 _ = w32; have n0_ := zm (Kd.R_at hq_ HO_8.out); have n1_ := zm (Kd.R_at hq_ HO_9.out); have n2_ := zm (blk_at hq_ BK379.out); have n3_ := zm (blk_at hq_ BK380.out); have n4_ := zm (blk_at hq_ BK387.out); have n5_ := zm (blk_at hq_ BK389.out); have n6_ := zm (below_at hq_ HB.out); clear hq_ HO_8 HO_9 BK379 BK380 BK387 BK389 HB; have HO_8 := n0_; have HO_9 := n1_; have BK379 := n2_; have BK380 := n3_; have BK387 := n4_; have BK389 := n5_; have HB := n6_; clear n0_ n1_ n2_ n3_ n4_ n5_ n6_)); refine store_event (t := 96) (p := 12) (v := ?vo_w37) (w1 := (((w32.setCell ⟨gb389, 0, none⟩ (.int .i64 ((rd_T96 l1 x22_1).f0))).setCell ⟨gb389, 1, none⟩ (.int .i64 ((rd_T96 l1 x22_1).f1))).setCell ⟨gb389, 2, none⟩ (.int .i64 ((rd_T96 l1 x22_1).f2)))) ?hg ?ho ?hn ?hr ?_; (case ho => rfl); (case hg => rfl); (case hn => rfl); (case hr => first | (go_simp; done) | (go_simp; rfl)); intro w37 hw; have n0_ : Aside0 (Kd.R k93 93 w37 w.heap.size (fun _ => True) u8 x8_1) := ⟨(by rw [hw]; exact (by (with_reducible repeat (first | apply Kd.R_alloc | apply Kd.R_drewN | apply Kd.R_drew)); exact Kd.R_mono (Kd.R_far (p := ⟨gb389, 2, none⟩) (Kd.R_far (p := ⟨gb389, 1, none⟩) (Kd.R_far (p := ⟨gb389, 0, none⟩) (Kd.R_types HO_8.out BK389.out (by decide)) (fun _ hk => hk.2) (.int .i64 ((rd_T96 l1 x22_1).f0))) (fun _ hk => hk.2) (.int .i64 ((rd_T96 l1 x22_1).f1))) (fun _ hk => hk.2) (.int .i64 ((rd_T96 l1 x22_1).f2))) (fun _ hk => trivial)))⟩; have n1_ : Aside0 (Kd.R (Kd.int .i64) 3 w37 w.heap.size (fun _ => True) u9 x9_1) := ⟨(by rw [hw]; exact (by (with_reducible repeat (first | apply Kd.R_alloc | apply Kd.R_drewN | apply Kd.R_drew)); exact Kd.R_mono (Kd.R_far (p := ⟨gb389, 2, none⟩) (Kd.R_far (p := ⟨gb389, 1, none⟩) (Kd.R_far (p := ⟨gb389, 0, none⟩) (Kd.R_types HO_9.out BK389.out (by decide)) (fun _ hk => hk.2) (.int .i64 ((rd_T96 l1 x22_1).f0))) (fun _ hk => hk.2) (.int .i64 ((rd_T96 l1 x22_1).f1))) (fun _ hk => hk.2) (.int .i64 ((rd_T96 l1 x22_1).f2))) (fun _ hk => trivial)))⟩; have n2_ : Aside0 (w37.heap[gb379]? = some (.cells #[.slice A0_0 l0_0.length c0_0, .int .i64 a0_1] 45 (0, 0))) := ⟨(by rw [hw]; exact zK)⟩; have n3_ : Aside0 (w37.heap[gb380]? = some (.cells #[.int .i64 a2_0, .int .i64 a2_1, .int .i64 a2_2] 31 (0, 0))) := ⟨(by rw [hw]; exact zK)⟩; have n4_ : Aside0 (w37.heap[gb387]? = some (Mp.mObj (Value.int .i64) x388000_1)) := ⟨(by rw [hw]; exact (by (with_reducible repeat (first | refine blk_drewN ?_ _ | refine blk_drew ?_ | refine blk_alloc ?_ _)); refine Mp.far ?_ NB387_389.out _; (with_reducible repeat (first | refine blk_drewN ?_ _ | refine blk_drew ?_ | refine blk_alloc ?_ _)); refine Mp.far ?_ NB387_389.out _; (with_reducible repeat (first | refine blk_drewN ?_ _ | refine blk_drew ?_ | refine blk_alloc ?_ _)); refine Mp.far ?_ NB387_389.out _; (with_reducible repeat (first | refine blk_drewN ?_ _ | refine blk_drew ?_ | refine blk_alloc ?_ _)); exact BK387.out))⟩; have n5_ : Aside0 (w37.heap[gb389]? = some (.cells #[.int .i64 ((rd_T96 l1 x22_1).f0), .int .i64 ((rd_T96 l1 x22_1).f1), .int .i64 ((rd_T96 l1 x22_1).f2)] 96 (0, 0))) := ⟨(by rw [hw]; exact (by (with_reducible repeat (first | refine blk_drewN ?_ _ | refine blk_drew ?_ | refine blk_alloc ?_ _)); refine blk_put (cs := #[.int .i64 ((rd_T96 l1 x22_1).f0), .int .i64 ((rd_T96 l1 x22_1).f1), .int .i64 0]) ?_ 2 _ rfl; (with_reducible repeat (first | refine blk_drewN ?_ _ | refine blk_drew ?_ | refine blk_alloc ?_ _)); refine blk_put (cs := #[.int .i64 ((rd_T96 l1 x22_1).f0), .int .i64 0, .int .i64 0]) ?_ 1 _ rfl; (with_reducible repeat (first | refine blk_drewN ?_ _ | refine blk_drew ?_ | refine blk_alloc ?_ _)); refine blk_put (cs := #[.int .i64 0, .int .i64 0, .int .i64 0]) ?_ 0 _ rfl; (with_reducible repeat (first | refine blk_drewN ?_ _ | refine blk_drew ?_ | refine blk_alloc ?_ _)); exact BK389.out))⟩; have n6_ : Aside0 (Below w.heap.size w w37) := ⟨(by rw [hw]; exact zb)⟩; clear hw; clear HO_8; clear HO_9; clear BK379; clear BK380; clear BK387; clear BK389; clear HB; have HO_8 := n0_; have HO_9 := n1_; have BK379 := n2_; have BK380 := n3_; have BK387 := n4_; have BK389 := n5_; have HB := n6_; clear n0_ n1_ n2_ n3_ n4_ n5_ n6_; obtain ⟨hcz38_0, hcz38_1, hcz38_2, hfz38_0, hfz38_1, hfz38_2⟩ := zc3 BK389.out; have hnb39 := NB387_379.out; have hnc39 := NB379_387.out; have hnb40 := NB387_380.out; have hnc40 := NB380_387.out; have hlz41_true : ∀ k_ : Int, (Instr.lookup 111 (.map (some gb387)) (.int .i64 k_) true).run Try.prog w37 = .ok (.tuple #[(Value.int .i64) (Mp.mget (0 : Int) x388000_1 k_), .bool (Mp.mhas x388000_1 k_)]) w37 := fun k_ => Mp.run_lookup (enc := (Value.int .i64)) Try.underlying111 Try.underlying3 (0 : Int) (fun w_ => impl_spoken.zeroM111 w_) BK387.out k_ true; have hlz41_false : ∀ k_ : Int, (Instr.lookup 111 (.map (some gb387)) (.int .i64 k_) false).run Try.prog w37 = .ok ((Value.int .i64) (Mp.mget (0 : Int) x388000_1 k_)) w37 := fun k_ => Mp.run_lookup (enc := (Value.int .i64)) Try.underlying111 Try.underlying3 (0 : Int) (fun w_ => impl_spoken.zeroM111 w_) BK387.out k_ false; have hlz41_truen : ∀ (n_ : Nat) (k_ : Int), (Instr.lookup 111 (.map (some gb387)) (.int .i64 k_) true).run Try.prog (w37.drewN n_) = .ok (.tuple #[(Value.int .i64) (Mp.mget (0 : Int) x388000_1 k_), .bool (Mp.mhas x388000_1 k_)]) (w37.drewN n_) := fun n_ k_ => Mp.run_lookup (enc := (Value.int .i64)) Try.underlying111 Try.underlying3 (0 : Int) (fun w_ => impl_spoken.zeroM111 w_) (show (w37.drewN n_).heap[gb387]? = _ from BK387.out) k_ true; have hlz41_falsen : ∀ (n_ : Nat) (k_ : Int), (Instr.lookup 111 (.map (some gb387)) (.int .i64 k_) false).run Try.prog (w37.drewN n_) = .ok ((Value.int .i64) (Mp.mget (0 : Int) x388000_1 k_)) (w37.drewN n_) := fun n_ k_ => Mp.run_lookup (enc := (Value.int .i64)) Try.underlying111 Try.underlying3 (0 : Int) (fun w_ => impl_spoken.zeroM111 w_) (show (w37.drewN n_).heap[gb387]? = _ from BK387.out) k_ false; have hnb42 := NB380_379.out; have hnc42 := NB379_380.out; obtain ⟨hcz43_0, hcz43_1, hcz43_2, hfz43_0, hfz43_1, hfz43_2⟩ := zc3 BK380.out; obtain ⟨hcz44_0, hcz44_1, hfz44_0, hfz44_1⟩ := zc2 BK379.out) | ((with_reducible refine gate_builtin (b := .append) (xs := #[.tmp 78, .tmp 80]) rfl ?_); at_builtin; refine Kd.R_append (Kd.int .i64) (w0 := w) w.heap.size rfl (.tmp 78) (.tmp 80) 38 3 (.int .i64 0) 8 rfl Try.underlying38 info3 rfl (by decide) (by omega) u9 x9_1 x22_1 [.int .i64 x22_1] (fun _ => True) (fun _ => False) rfl rfl ?aP (fun _ hk => hk.elim) ?aF ?aO ?aB ?aS ?aL ?_; (case aP => exact rfl); (case aB => exact zb); (case aF => exact (fun _ _ => trivial)); (case aO => exact (by (with_reducible repeat (first | apply Kd.R_alloc | apply Kd.R_drewN | apply Kd.R_drew)); exact HO_9.out)); (case aS => exact (below_size zb)); (case aL => have := LMc31.out; omega); intro v394 w45 ho hb hg hat; rw [← Ny393.out] at ho; have n0_ := zm (Kd.R_over' (by (with_reducible repeat (first | apply Kd.R_alloc | apply Kd.R_drewN | apply Kd.R_drew)); exact HO_8.out) (Kd.R_typed (by (with_reducible repeat (first | apply Kd.R_alloc | apply Kd.R_drewN | apply Kd.R_drew)); exact HO_9.out)) (by decide) hg); have n1_ := zm (blk_grown (g := gb379) (o := .cells #[.slice A0_0 l0_0.length c0_0, .int .i64 a0_1] 45 (0, 0)) zk hg (Kd.R_ne HO_9.out BK379.out (by decide))); have n2_ := zm (blk_grown (g := gb380) (o := .cells #[.int .i64 a2_0, .int .i64 a2_1, .int .i64 a2_2] 31 (0, 0)) zk hg (Kd.R_ne HO_9.out BK380.out (by decide))); have n3_ := zm (blk_grown (g := gb387) (o := Mp.mObj (Value.int .i64) x388000_1) zk hg (Mp.R_ne HO_9.out BK387.out)); have n4_ := zm (blk_grown (g := gb389) (o := .cells #[.int .i64 ((rd_T96 l1 x22_1).f0), .int .i64 ((rd_T96 l1 x22_1).f1), .int .i64 ((rd_T96 l1 x22_1).f2)] 96 (0, 0)) zk hg (Kd.R_ne HO_9.out BK389.out (by decide))); have n5_ := zm (hb); have n6_ := zm (ho); clear HO_8; clear BK379; clear BK380; clear BK387; clear BK389; clear HB; clear HO_9; have HO_8 := n0_; have BK379 := n1_; have BK380 := n2_; have BK387 := n3_; have BK389 := n4_; have HB := n5_; have HO395 := n6_; clear n0_ n1_ n2_ n3_ n4_ n5_ n6_; clear ho hb hg hat) | ((with_reducible refine impl_spoken.gq ?_); go_quiet (fail)))
         go_roundg k1
         case measure => have := HK1.out; omega
         case rel => exact ⟨(x8_1), (y393), (wrap64 (x22_1 + 1)), (x388000_1), (by first | rfl | (simp; done) | (simp [*]; done)), H', ⟨by have := HK1.out; omega⟩, ⟨by (with_reducible repeat (first | apply Kd.R_alloc | apply Kd.R_drewN | apply Kd.R_drew)); exact HO_8.out⟩, ⟨by (with_reducible repeat (first | apply Kd.R_alloc | apply Kd.R_drewN | apply Kd.R_drew)); exact HO395.out⟩, ⟨zk⟩, ⟨zk⟩, ⟨zk⟩, ⟨zb⟩⟩
        ·
         rw [if_neg c31] at H
         exact absurd H (by simp)
       ·
        rw [if_neg c30] at H
        have c30b0 : decide ((wrap64 (((rd_T96 l1 x22_1).f2) - ((rd_T96 l1 x22_1).f1))) < a2_2) = false := decide_eq_false c30
        clear c30
        by_cases c46 : Mp.mhas x388000_1 ((rd_T96 l1 x22_1).f0) = true
        ·
         rw [if_pos c46] at H
         have c46b0 : Mp.mhas x388000_1 ((rd_T96 l1 x22_1).f0) = true := c46
         clear c46
         by_cases c47 : (wrap64 (((rd_T96 l1 x22_1).f1) - (Mp.mget (0 : Int) x388000_1 ((rd_T96 l1 x22_1).f0)))) < (wrap64 (2 * a0_1))
         ·
          rw [if_pos c47] at H
          have c47b0 : decide ((wrap64 (((rd_T96 l1 x22_1).f1) - (Mp.mget (0 : Int) x388000_1 ((rd_T96 l1 x22_1).f0)))) < (wrap64 (2 * a0_1))) = true := decide_eq_true c47
          clear c47
          by_cases c48 : x9_1.length < 17592186044416
          ·
           rw [if_pos c48] at H
           have LMc48 := zm c48
           clear c48
           obtain ⟨y396, hy396⟩ : ∃ y_ : List Int, y_ = (x9_1 ++ [x22_1]) := ⟨_, rfl⟩
           replace H : (impl_spoken.l0 k1 x8_1 y396 l1 (l1.length : Int) (wrap64 (x22_1 + 1)) l0_0 a0_1 a2_0 a2_1 a2_2 x388000_1) = some (r1, r2) := by first | (rw [hy396]; with_reducible exact H) | (have H2_ := (Option.bind_some _ _).symm.trans H; rw [hy396]; with_reducible exact H2_) | (have H2_ := (Option.bind_some _ _).symm.trans H; with_reducible exact H2_) | with_reducible exact H | (rw [hy396]; exact H) | exact H
           have Ny396 := zm hy396
           clear hy396
           have H' := zm H
           clear H
           have p388 : 0 ≤ (x22_1 : Int) := zd
           have q388 : x22_1 < (l1.length : Int) := zd
           obtain ⟨ad388, e388, hx388_0, hx388_1, hx388_2⟩ := at_T96 HR1.out x22_1 p388 q388
           cases e388
           replace hx388_0 := zx HB.out hx388_0
           replace hx388_1 := zx HB.out hx388_1
           replace hx388_2 := zx HB.out hx388_2
           replace p388 := eq_true p388
           replace q388 := eq_true q388
           go_wp2_with (first | ((with_reducible refine gate_dst (N := 12) rfl ?_); refine box_event ?hg (N := 12) ?hd (cs := #[.int .i64 0, .int .i64 0, .int .i64 0]) (t := 96) ?hr ?_; (case hd => rfl); (case hg => rfl); (case hr => first | (go_simp; done) | (go_simp; rfl)); intro gb389 hg w49 hbox hb; have n0_ := zm (Kd.R_below (by (with_reducible repeat (first | apply Kd.R_alloc | apply Kd.R_drewN | apply Kd.R_drew)); exact HO_8.out) hb); have n1_ := zm (Kd.R_below (by (with_reducible repeat (first | apply Kd.R_alloc | apply Kd.R_drewN | apply Kd.R_drew)); exact HO_9.out) hb); have n2_ := zm (blk_below (g := gb379) zk hb); have n3_ := zm (blk_below (g := gb380) zk hb); have n4_ := zm (blk_below (g := gb387) zk hb); have n5_ := zm (below_step zb hb); have n6_ := zm (hbox); have n7_ := zm (zs hg zb : w.heap.size ≤ gb389); have n8_ := zm (zs hg zb : w.heap.size ≤ gb389); have n9_ := zm (zl hg zk : gb379 ≠ gb389); have n10_ := zm (zg hg zk : gb389 ≠ gb379); have n11_ := zm (zl hg zk : gb380 ≠ gb389); have n12_ := zm (zg hg zk : gb389 ≠ gb380); have n13_ := zm (zl hg zk : gb387 ≠ gb389); have n14_ := zm (zg hg zk : gb389 ≠ gb387); clear HO_8; clear HO_9; clear BK379; clear BK380; clear BK387; clear HB; have HO_8 := n0_; have HO_9 := n1_; have BK379 := n2_; have BK380 := n3_; have BK387 := n4_; have HB := n5_; have BK389 := n6_; have GW389 := n7_; have GE389 := n8_; have NB379_389 := n9_; have NB389_379 := n10_; have NB380_389 := n11_; have NB389_380 := n12_; have NB387_389 := n13_; have NB389_387 := n14_; clear n0_ n1_ n2_ n3_ n4_ n5_ n6_ n7_ n8_ n9_ n10_ n11_ n12_ n13_ n14_; clear hb hbox hg; have hnb50 := NB389_379.out; have hnc50 := NB379_389.out; have hnb51 := NB389_380.out; have hnc51 := NB380_389.out; have hnb52 := NB389_387.out; have hnc52 := NB387_389.out; obtain ⟨hcz53_0, hcz53_1, hcz53_2, hfz53_0, hfz53_1, hfz53_2⟩ := zc3 BK389.out) | ((with_reducible refine gate_store (t := 96) (p := 12) rfl ?_); (try (rw [drewN_self w49]; generalize hq_ : World.drewN w49 _ = w49; have n0_ := zm (Kd.R_at hq_ HO_8.out); have n1_ := zm (Kd.R_at hq_ HO_9.out); have n2_ := zm (blk_at hq_ BK379.out); have n3_ := zm (blk_at hq_ BK380.out); have n4_ := zm (blk_at hq_ BK387.out); have n5_ := zm (blk_at hq_ BK389.out); have n6_ := zm (below_at hq_ HB.out); clear hq_ HO_8 HO_9 BK379 BK380 BK387 BK389 HB; have HO_8 := n0_; have HO_9 := n1_; have BK379 := n2_; have BK380 := n3_; have BK387 := n4_; have BK389 := n5_; have HB := n6_; clear n0_ n1_ n2_ n3_ n4_ n5_ n6_)); refine store_event (t := 96) (p := 12) (v := ?vo_w54) (w1 := (((w49.setCell ⟨gb389, 0, none⟩ (.int .i64 ((rd_T96 l1 x22_1).f0))).setCell ⟨gb389, 1, none⟩ (.int .i64 ((rd_T96 l1 x22_1).f1))).setCell ⟨gb389, 2, none⟩ (.int .i64 ((rd_T96 l1 x22_1).f2)))) ?hg ?ho ?hn ?hr ?_; (case ho => rfl); (case hg => rfl); (case hn => rfl); (case hr => first | (go_simp; done) | (go_simp; rfl)); intro w54 hw; have n0_ : Aside0 (Kd.R k93 93 w54 w.heap.size (fun _ => True) u8 x8_1) := ⟨(by rw [hw]; exact (by (with_reducible repeat (first | apply Kd.R_alloc | apply Kd.R_drewN | apply Kd.R_drew)); exact Kd.R_mono (Kd.R_far (p := ⟨gb389, 2, none⟩) (Kd.R_far (p := ⟨gb389, 1, none⟩) (Kd.R_far (p := ⟨gb389, 0, none⟩) (Kd.R_types HO_8.out BK389.out (by decide)) (fun _ hk => hk.2) (.int .i64 ((rd_T96 l1 x22_1).f0))) (fun _ hk => hk.2) (.int .i64 ((rd_T96 l1 x22_1).f1))) (fun _ hk => hk.2) (.int .i64 ((rd_T96 l1 x22_1).f2))) (fun _ hk => trivial)))⟩; have n1_ : Aside0 (Kd.R (Kd.int .i64) 3 w54 w.heap.size (fun _ => True) u9 x9_1) := ⟨(by rw [hw]; exact (by (with_reducible repeat (first | apply Kd.R_alloc | apply Kd.R_drewN | apply Kd.R_drew)); exact Kd.R_mono (Kd.R_far (p := ⟨gb389, 2, none⟩) (Kd.R_far (p := ⟨gb389, 1, none⟩) (Kd.R_far (p := ⟨gb389, 0, none⟩) (Kd.R_types HO_9.out BK389.out (by decide)) (fun _ hk => hk.2) (.int .i64 ((rd_T96 l1 x22_1).f0))) (fun _ hk => hk.2) (.int .i64 ((rd_T96 l1 x22_1).f1))) (fun _ hk => hk.2) (.int .i64 ((rd_T96 l1 x22_1).f2))) (fun _ hk => trivial)))⟩; have n2_ : Aside0 (w54.heap[gb379]? = some (.cells #[.slice A0_0 l0_0.length c0_0, .int .i64 a0_1] 45 (0, 0))) := ⟨(by rw [hw]; exact zK)⟩; have n3_ : Aside0 (w54.heap[gb380]? = some (.cells #[.int .i64 a2_0, .int .i64 a2_1, .int .i64 a2_2] 31 (0, 0))) := ⟨(by rw [hw]; exact zK)⟩; have n4_ : Aside0 (w54.heap[gb387]? = some (Mp.mObj (Value.int .i64) x388000_1)) := ⟨(by rw [hw]; exact (by (with_reducible repeat (first | refine blk_drewN ?_ _ | refine blk_drew ?_ | refine blk_alloc ?_ _)); refine Mp.far ?_ NB387_389.out _; (with_reducible repeat (first | refine blk_drewN ?_ _ | refine blk_drew ?_ | refine blk_alloc ?_ _)); refine Mp.far ?_ NB387_389.out _; (with_reducible repeat (first | refine blk_drewN ?_ _ | refine blk_drew ?_ | refine blk_alloc ?_ _)); refine Mp.far ?_ NB387_389.out _; (with_reducible repeat (first | refine blk_drewN ?_ _ | refine blk_drew ?_ | refine blk_alloc ?_ _)); exact BK387.out))⟩; have n5_ : Aside0 (w54.heap[gb389]? = some (.cells #[.int .i64 ((rd_T96 l1 x22_1).f0), .int .i64 ((rd_T96 l1 x22_1).f1), .int .i64 ((rd_T96 l1 x22_1).f2)] 96 (0, 0))) := ⟨(by rw [hw]; exact (by (with_reducible repeat (first | refine blk_drewN ?_ _ | refine blk_drew ?_ | refine blk_alloc ?_ _)); refine blk_put (cs := #[.int .i64 ((rd_T96 l1 x22_1).f0), .int .i64 ((rd_T96 l1 x22_1).f1), .int .i64 0]) ?_ 2 _ rfl; (with_reducible repeat (first | refine blk_drewN ?_ _ | refine blk_drew ?_ | refine blk_alloc ?_ _)); refine blk_put (cs := #[.int .i64 ((rd_T96 l1 x22_1).f0), .int .i64 0, .int .i64 0]) ?_ 1 _ rfl; (with_reducible repeat (first | refine blk_drewN ?_ _ | refine blk_drew ?_ | refine blk_alloc ?_ _)); refine blk_put (cs := #[.int .i64 0, .int .i64 0, .int .i64 0]) ?_ 0 _ rfl; (with_reducible repeat (first | refine blk_drewN ?_ _ | refine blk_drew ?_ | refine blk_alloc ?_ _)); exact BK389.out))⟩; have n6_ : Aside0 (Below w.heap.size w w54) := ⟨(by rw [hw]; exact zb)⟩; clear hw; clear HO_8; clear HO_9; clear BK379; clear BK380; clear BK387; clear BK389; clear HB; have HO_8 := n0_; have HO_9 := n1_; have BK379 := n2_; have BK380 := n3_; have BK387 := n4_; have BK389 := n5_; have HB := n6_; clear n0_ n1_ n2_ n3_ n4_ n5_ n6_; obtain ⟨hcz55_0, hcz55_1, hcz55_2, hfz55_0, hfz55_1, hfz55_2⟩ := zc3 BK389.out; have hnb56 := NB387_379.out; have hnc56 := NB379_387.out; have hnb57 := NB387_380.out; have hnc57 := NB380_387.out; have hlz58_true : ∀ k_ : Int, (Instr.lookup 111 (.map (some gb387)) (.int .i64 k_) true).run Try.prog w54 = .ok (.tuple #[(Value.int .i64) (Mp.mget (0 : Int) x388000_1 k_), .bool (Mp.mhas x388000_1 k_)]) w54 := fun k_ => Mp.run_lookup (enc := (Value.int .i64)) Try.underlying111 Try.underlying3 (0 : Int) (fun w_ => impl_spoken.zeroM111 w_) BK387.out k_ true; have hlz58_false : ∀ k_ : Int, (Instr.lookup 111 (.map (some gb387)) (.int .i64 k_) false).run Try.prog w54 = .ok ((Value.int .i64) (Mp.mget (0 : Int) x388000_1 k_)) w54 := fun k_ => Mp.run_lookup (enc := (Value.int .i64)) Try.underlying111 Try.underlying3 (0 : Int) (fun w_ => impl_spoken.zeroM111 w_) BK387.out k_ false; have hlz58_truen : ∀ (n_ : Nat) (k_ : Int), (Instr.lookup 111 (.map (some gb387)) (.int .i64 k_) true).run Try.prog (w54.drewN n_) = .ok (.tuple #[(Value.int .i64) (Mp.mget (0 : Int) x388000_1 k_), .bool (Mp.mhas x388000_1 k_)]) (w54.drewN n_) := fun n_ k_ => Mp.run_lookup (enc := (Value.int .i64)) Try.underlying111 Try.underlying3 (0 : Int) (fun w_ => impl_spoken.zeroM111 w_) (show (w54.drewN n_).heap[gb387]? = _ from BK387.out) k_ true; have hlz58_falsen : ∀ (n_ : Nat) (k_ : Int), (Instr.lookup 111 (.map (some gb387)) (.int .i64 k_) false).run Try.prog (w54.drewN n_) = .ok ((Value.int .i64) (Mp.mget (0 : Int) x388000_1 k_)) (w54.drewN n_) := fun n_ k_ => Mp.run_lookup (enc := (Value.int .i64)) Try.underlying111 Try.underlying3 (0 : Int) (fun w_ => impl_spoken.zeroM111 w_) (show (w54.drewN n_).heap[gb387]? = _ from BK387.out) k_ false; have hnb59 := NB380_379.out; have hnc59 := NB379_380.out; obtain ⟨hcz60_0, hcz60_1, hcz60_2, hfz60_0, hfz60_1, hfz60_2⟩ := zc3 BK380.out; obtain ⟨hcz61_0, hcz61_1, hfz61_0, hfz61_1⟩ := zc2 BK379.out) | ((with_reducible refine gate_builtin (b := .append) (xs := #[.tmp 78, .tmp 80]) rfl ?_); at_builtin; refine Kd.R_append (Kd.int .i64) (w0 := w) w.heap.size rfl (.tmp 78) (.tmp 80) 38 3 (.int .i64 0) 8 rfl Try.underlying38 info3 rfl (by decide) (by omega) u9 x9_1 x22_1 [.int .i64 x22_1] (fun _ => True) (fun _ => False) rfl rfl ?aP (fun _ hk => hk.elim) ?aF ?aO ?aB ?aS ?aL ?_; (case aP => exact rfl); (case aB => exact zb); (case aF => exact (fun _ _ => trivial)); (case aO => exact (by (with_reducible repeat (first | apply Kd.R_alloc | apply Kd.R_drewN | apply Kd.R_drew)); exact HO_9.out)); (case aS => exact (below_size zb)); (case aL => have := LMc48.out; omega); intro v397 w62 ho hb hg hat; rw [← Ny396.out] at ho; have n0_ := zm (Kd.R_over' (by (with_reducible repeat (first | apply Kd.R_alloc | apply Kd.R_drewN | apply Kd.R_drew)); exact HO_8.out) (Kd.R_typed (by (with_reducible repeat (first | apply Kd.R_alloc | apply Kd.R_drewN | apply Kd.R_drew)); exact HO_9.out)) (by decide) hg); have n1_ := zm (blk_grown (g := gb379) (o := .cells #[.slice A0_0 l0_0.length c0_0, .int .i64 a0_1] 45 (0, 0)) zk hg (Kd.R_ne HO_9.out BK379.out (by decide))); have n2_ := zm (blk_grown (g := gb380) (o := .cells #[.int .i64 a2_0, .int .i64 a2_1, .int .i64 a2_2] 31 (0, 0)) zk hg (Kd.R_ne HO_9.out BK380.out (by decide))); have n3_ := zm (blk_grown (g := gb387) (o := Mp.mObj (Value.int .i64) x388000_1) zk hg (Mp.R_ne HO_9.out BK387.out)); have n4_ := zm (blk_grown (g := gb389) (o := .cells #[.int .i64 ((rd_T96 l1 x22_1).f0), .int .i64 ((rd_T96 l1 x22_1).f1), .int .i64 ((rd_T96 l1 x22_1).f2)] 96 (0, 0)) zk hg (Kd.R_ne HO_9.out BK389.out (by decide))); have n5_ := zm (hb); have n6_ := zm (ho); clear HO_8; clear BK379; clear BK380; clear BK387; clear BK389; clear HB; clear HO_9; have HO_8 := n0_; have BK379 := n1_; have BK380 := n2_; have BK387 := n3_; have BK389 := n4_; have HB := n5_; have HO398 := n6_; clear n0_ n1_ n2_ n3_ n4_ n5_ n6_; clear ho hb hg hat) | ((with_reducible refine impl_spoken.gq ?_); go_quiet (fail)))
           go_roundg k1
           case measure => have := HK1.out; omega
           case rel => exact ⟨(x8_1), (y396), (wrap64 (x22_1 + 1)), (x388000_1), (by first | rfl | (simp; done) | (simp [*]; done)), H', ⟨by have := HK1.out; omega⟩, ⟨by (with_reducible repeat (first | apply Kd.R_alloc | apply Kd.R_drewN | apply Kd.R_drew)); exact HO_8.out⟩, ⟨by (with_reducible repeat (first | apply Kd.R_alloc | apply Kd.R_drewN | apply Kd.R_drew)); exact HO398.out⟩, ⟨zk⟩, ⟨zk⟩, ⟨zk⟩, ⟨zb⟩⟩
          ·
           rw [if_neg c48] at H
           exact absurd H (by simp)
         ·
          rw [if_neg c47] at H
          have c47b0 : decide ((wrap64 (((rd_T96 l1 x22_1).f1) - (Mp.mget (0 : Int) x388000_1 ((rd_T96 l1 x22_1).f0)))) < (wrap64 (2 * a0_1))) = false := decide_eq_false c47
          clear c47
          by_cases c63 : (wrap64 (((rd_T96 l1 x22_1).f1) + a2_0)) ≥ (wrap64 (((rd_T96 l1 x22_1).f2) + a2_1))
          ·
           rw [if_pos c63] at H
           have c63b0 : decide ((wrap64 (((rd_T96 l1 x22_1).f2) + a2_1)) ≤ (wrap64 (((rd_T96 l1 x22_1).f1) + a2_0))) = true := decide_eq_true c63
           clear c63
           by_cases c64 : x9_1.length < 17592186044416
           ·
            rw [if_pos c64] at H
            have LMc64 := zm c64
            clear c64
            obtain ⟨y399, hy399⟩ : ∃ y_ : List Int, y_ = (x9_1 ++ [x22_1]) := ⟨_, rfl⟩
            replace H : (impl_spoken.l0 k1 x8_1 y399 l1 (l1.length : Int) (wrap64 (x22_1 + 1)) l0_0 a0_1 a2_0 a2_1 a2_2 x388000_1) = some (r1, r2) := by first | (rw [hy399]; with_reducible exact H) | (have H2_ := (Option.bind_some _ _).symm.trans H; rw [hy399]; with_reducible exact H2_) | (have H2_ := (Option.bind_some _ _).symm.trans H; with_reducible exact H2_) | with_reducible exact H | (rw [hy399]; exact H) | exact H
            have Ny399 := zm hy399
            clear hy399
            have H' := zm H
            clear H
            have p388 : 0 ≤ (x22_1 : Int) := zd
            have q388 : x22_1 < (l1.length : Int) := zd
            obtain ⟨ad388, e388, hx388_0, hx388_1, hx388_2⟩ := at_T96 HR1.out x22_1 p388 q388
            cases e388
            replace hx388_0 := zx HB.out hx388_0
            replace hx388_1 := zx HB.out hx388_1
            replace hx388_2 := zx HB.out hx388_2
            replace p388 := eq_true p388
            replace q388 := eq_true q388
            go_wp2_with (first | ((with_reducible refine gate_dst (N := 12) rfl ?_); refine box_event ?hg (N := 12) ?hd (cs := #[.int .i64 0, .int .i64 0, .int .i64 0]) (t := 96) ?hr ?_; (case hd => rfl); (case hg => rfl); (case hr => first | (go_simp; done) | (go_simp; rfl)); intro gb389 hg w65 hbox hb; have n0_ := zm (Kd.R_below (by (with_reducible repeat (first | apply Kd.R_alloc | apply Kd.R_drewN | apply Kd.R_drew)); exact HO_8.out) hb); have n1_ := zm (Kd.R_below (by (with_reducible repeat (first | apply Kd.R_alloc | apply Kd.R_drewN | apply Kd.R_drew)); exact HO_9.out) hb); have n2_ := zm (blk_below (g := gb379) zk hb); have n3_ := zm (blk_below (g := gb380) zk hb); have n4_ := zm (blk_below (g := gb387) zk hb); have n5_ := zm (below_step zb hb); have n6_ := zm (hbox); have n7_ := zm (zs hg zb : w.heap.size ≤ gb389); have n8_ := zm (zs hg zb : w.heap.size ≤ gb389); have n9_ := zm (zl hg zk : gb379 ≠ gb389); have n10_ := zm (zg hg zk : gb389 ≠ gb379); have n11_ := zm (zl hg zk : gb380 ≠ gb389); have n12_ := zm (zg hg zk : gb389 ≠ gb380); have n13_ := zm (zl hg zk : gb387 ≠ gb389); have n14_ := zm (zg hg zk : gb389 ≠ gb387); clear HO_8; clear HO_9; clear BK379; clear BK380; clear BK387; clear HB; have HO_8 := n0_; have HO_9 := n1_; have BK379 := n2_; have BK380 := n3_; have BK387 := n4_; have HB := n5_; have BK389 := n6_; have GW389 := n7_; have GE389 := n8_; have NB379_389 := n9_; have NB389_379 := n10_; have NB380_389 := n11_; have NB389_380 := n12_; have NB387_389 := n13_; have NB389_387 := n14_; clear n0_ n1_ n2_ n3_ n4_ n5_ n6_ n7_ n8_ n9_ n10_ n11_ n12_ n13_ n14_; clear hb hbox hg; have hnb66 := NB389_379.out; have hnc66 := NB379_389.out; have hnb67 := NB389_380.out; have hnc67 := NB380_389.out; have hnb68 := NB389_387.out; have hnc68 := NB387_389.out; obtain ⟨hcz69_0, hcz69_1, hcz69_2, hfz69_0, hfz69_1, hfz69_2⟩ := zc3 BK389.out) | ((with_reducible refine gate_store (t := 96) (p := 12) rfl ?_); (try (rw [drewN_self w65]; generalize hq_ : World.drewN w65 _ = w65; have n0_ := zm (Kd.R_at hq_ HO_8.out); have n1_ := zm (Kd.R_at hq_ HO_9.out); have n2_ := zm (blk_at hq_ BK379.out); have n3_ := zm (blk_at hq_ BK380.out); have n4_ := zm (blk_at hq_ BK387.out); have n5_ := zm (blk_at hq_ BK389.out); have n6_ := zm (below_at hq_ HB.out); clear hq_ HO_8 HO_9 BK379 BK380 BK387 BK389 HB; have HO_8 := n0_; have HO_9 := n1_; have BK379 := n2_; have BK380 := n3_; have BK387 := n4_; have BK389 := n5_; have HB := n6_; clear n0_ n1_ n2_ n3_ n4_ n5_ n6_)); refine store_event (t := 96) (p := 12) (v := ?vo_w70) (w1 := (((w65.setCell ⟨gb389, 0, none⟩ (.int .i64 ((rd_T96 l1 x22_1).f0))).setCell ⟨gb389, 1, none⟩ (.int .i64 ((rd_T96 l1 x22_1).f1))).setCell ⟨gb389, 2, none⟩ (.int .i64 ((rd_T96 l1 x22_1).f2)))) ?hg ?ho ?hn ?hr ?_; (case ho => rfl); (case hg => rfl); (case hn => rfl); (case hr => first | (go_simp; done) | (go_simp; rfl)); intro w70 hw; have n0_ : Aside0 (Kd.R k93 93 w70 w.heap.size (fun _ => True) u8 x8_1) := ⟨(by rw [hw]; exact (by (with_reducible repeat (first | apply Kd.R_alloc | apply Kd.R_drewN | apply Kd.R_drew)); exact Kd.R_mono (Kd.R_far (p := ⟨gb389, 2, none⟩) (Kd.R_far (p := ⟨gb389, 1, none⟩) (Kd.R_far (p := ⟨gb389, 0, none⟩) (Kd.R_types HO_8.out BK389.out (by decide)) (fun _ hk => hk.2) (.int .i64 ((rd_T96 l1 x22_1).f0))) (fun _ hk => hk.2) (.int .i64 ((rd_T96 l1 x22_1).f1))) (fun _ hk => hk.2) (.int .i64 ((rd_T96 l1 x22_1).f2))) (fun _ hk => trivial)))⟩; have n1_ : Aside0 (Kd.R (Kd.int .i64) 3 w70 w.heap.size (fun _ => True) u9 x9_1) := ⟨(by rw [hw]; exact (by (with_reducible repeat (first | apply Kd.R_alloc | apply Kd.R_drewN | apply Kd.R_drew)); exact Kd.R_mono (Kd.R_far (p := ⟨gb389, 2, none⟩) (Kd.R_far (p := ⟨gb389, 1, none⟩) (Kd.R_far (p := ⟨gb389, 0, none⟩) (Kd.R_types HO_9.out BK389.out (by decide)) (fun _ hk => hk.2) (.int .i64 ((rd_T96 l1 x22_1).f0))) (fun _ hk => hk.2) (.int .i64 ((rd_T96 l1 x22_1).f1))) (fun _ hk => hk.2) (.int .i64 ((rd_T96 l1 x22_1).f2))) (fun _ hk => trivial)))⟩; have n2_ : Aside0 (w70.heap[gb379]? = some (.cells #[.slice A0_0 l0_0.length c0_0, .int .i64 a0_1] 45 (0, 0))) := ⟨(by rw [hw]; exact zK)⟩; have n3_ : Aside0 (w70.heap[gb380]? = some (.cells #[.int .i64 a2_0, .int .i64 a2_1, .int .i64 a2_2] 31 (0, 0))) := ⟨(by rw [hw]; exact zK)⟩; have n4_ : Aside0 (w70.heap[gb387]? = some (Mp.mObj (Value.int .i64) x388000_1)) := ⟨(by rw [hw]; exact (by (with_reducible repeat (first | refine blk_drewN ?_ _ | refine blk_drew ?_ | refine blk_alloc ?_ _)); refine Mp.far ?_ NB387_389.out _; (with_reducible repeat (first | refine blk_drewN ?_ _ | refine blk_drew ?_ | refine blk_alloc ?_ _)); refine Mp.far ?_ NB387_389.out _; (with_reducible repeat (first | refine blk_drewN ?_ _ | refine blk_drew ?_ | refine blk_alloc ?_ _)); refine Mp.far ?_ NB387_389.out _; (with_reducible repeat (first | refine blk_drewN ?_ _ | refine blk_drew ?_ | refine blk_alloc ?_ _)); exact BK387.out))⟩; have n5_ : Aside0 (w70.heap[gb389]? = some (.cells #[.int .i64 ((rd_T96 l1 x22_1).f0), .int .i64 ((rd_T96 l1 x22_1).f1), .int .i64 ((rd_T96 l1 x22_1).f2)] 96 (0, 0))) := ⟨(by rw [hw]; exact (by (with_reducible repeat (first | refine blk_drewN ?_ _ | refine blk_drew ?_ | refine blk_alloc ?_ _)); refine blk_put (cs := #[.int .i64 ((rd_T96 l1 x22_1).f0), .int .i64 ((rd_T96 l1 x22_1).f1), .int .i64 0]) ?_ 2 _ rfl; (with_reducible repeat (first | refine blk_drewN ?_ _ | refine blk_drew ?_ | refine blk_alloc ?_ _)); refine blk_put (cs := #[.int .i64 ((rd_T96 l1 x22_1).f0), .int .i64 0, .int .i64 0]) ?_ 1 _ rfl; (with_reducible repeat (first | refine blk_drewN ?_ _ | refine blk_drew ?_ | refine blk_alloc ?_ _)); refine blk_put (cs := #[.int .i64 0, .int .i64 0, .int .i64 0]) ?_ 0 _ rfl; (with_reducible repeat (first | refine blk_drewN ?_ _ | refine blk_drew ?_ | refine blk_alloc ?_ _)); exact BK389.out))⟩; have n6_ : Aside0 (Below w.heap.size w w70) := ⟨(by rw [hw]; exact zb)⟩; clear hw; clear HO_8; clear HO_9; clear BK379; clear BK380; clear BK387; clear BK389; clear HB; have HO_8 := n0_; have HO_9 := n1_; have BK379 := n2_; have BK380 := n3_; have BK387 := n4_; have BK389 := n5_; have HB := n6_; clear n0_ n1_ n2_ n3_ n4_ n5_ n6_; obtain ⟨hcz71_0, hcz71_1, hcz71_2, hfz71_0, hfz71_1, hfz71_2⟩ := zc3 BK389.out; have hnb72 := NB387_379.out; have hnc72 := NB379_387.out; have hnb73 := NB387_380.out; have hnc73 := NB380_387.out; have hlz74_true : ∀ k_ : Int, (Instr.lookup 111 (.map (some gb387)) (.int .i64 k_) true).run Try.prog w70 = .ok (.tuple #[(Value.int .i64) (Mp.mget (0 : Int) x388000_1 k_), .bool (Mp.mhas x388000_1 k_)]) w70 := fun k_ => Mp.run_lookup (enc := (Value.int .i64)) Try.underlying111 Try.underlying3 (0 : Int) (fun w_ => impl_spoken.zeroM111 w_) BK387.out k_ true; have hlz74_false : ∀ k_ : Int, (Instr.lookup 111 (.map (some gb387)) (.int .i64 k_) false).run Try.prog w70 = .ok ((Value.int .i64) (Mp.mget (0 : Int) x388000_1 k_)) w70 := fun k_ => Mp.run_lookup (enc := (Value.int .i64)) Try.underlying111 Try.underlying3 (0 : Int) (fun w_ => impl_spoken.zeroM111 w_) BK387.out k_ false; have hlz74_truen : ∀ (n_ : Nat) (k_ : Int), (Instr.lookup 111 (.map (some gb387)) (.int .i64 k_) true).run Try.prog (w70.drewN n_) = .ok (.tuple #[(Value.int .i64) (Mp.mget (0 : Int) x388000_1 k_), .bool (Mp.mhas x388000_1 k_)]) (w70.drewN n_) := fun n_ k_ => Mp.run_lookup (enc := (Value.int .i64)) Try.underlying111 Try.underlying3 (0 : Int) (fun w_ => impl_spoken.zeroM111 w_) (show (w70.drewN n_).heap[gb387]? = _ from BK387.out) k_ true; have hlz74_falsen : ∀ (n_ : Nat) (k_ : Int), (Instr.lookup 111 (.map (some gb387)) (.int .i64 k_) false).run Try.prog (w70.drewN n_) = .ok ((Value.int .i64) (Mp.mget (0 : Int) x388000_1 k_)) (w70.drewN n_) := fun n_ k_ => Mp.run_lookup (enc := (Value.int .i64)) Try.underlying111 Try.underlying3 (0 : Int) (fun w_ => impl_spoken.zeroM111 w_) (show (w70.drewN n_).heap[gb387]? = _ from BK387.out) k_ false; have hnb75 := NB380_379.out; have hnc75 := NB379_380.out; obtain ⟨hcz76_0, hcz76_1, hcz76_2, hfz76_0, hfz76_1, hfz76_2⟩ := zc3 BK380.out; obtain ⟨hcz77_0, hcz77_1, hfz77_0, hfz77_1⟩ := zc2 BK379.out) | ((with_reducible refine gate_builtin (b := .append) (xs := #[.tmp 78, .tmp 80]) rfl ?_); at_builtin; refine Kd.R_append (Kd.int .i64) (w0 := w) w.heap.size rfl (.tmp 78) (.tmp 80) 38 3 (.int .i64 0) 8 rfl Try.underlying38 info3 rfl (by decide) (by omega) u9 x9_1 x22_1 [.int .i64 x22_1] (fun _ => True) (fun _ => False) rfl rfl ?aP (fun _ hk => hk.elim) ?aF ?aO ?aB ?aS ?aL ?_; (case aP => exact rfl); (case aB => exact zb); (case aF => exact (fun _ _ => trivial)); (case aO => exact (by (with_reducible repeat (first | apply Kd.R_alloc | apply Kd.R_drewN | apply Kd.R_drew)); exact HO_9.out)); (case aS => exact (below_size zb)); (case aL => have := LMc64.out; omega); intro v400 w78 ho hb hg hat; rw [← Ny399.out] at ho; have n0_ := zm (Kd.R_over' (by (with_reducible repeat (first | apply Kd.R_alloc | apply Kd.R_drewN | apply Kd.R_drew)); exact HO_8.out) (Kd.R_typed (by (with_reducible repeat (first | apply Kd.R_alloc | apply Kd.R_drewN | apply Kd.R_drew)); exact HO_9.out)) (by decide) hg); have n1_ := zm (blk_grown (g := gb379) (o := .cells #[.slice A0_0 l0_0.length c0_0, .int .i64 a0_1] 45 (0, 0)) zk hg (Kd.R_ne HO_9.out BK379.out (by decide))); have n2_ := zm (blk_grown (g := gb380) (o := .cells #[.int .i64 a2_0, .int .i64 a2_1, .int .i64 a2_2] 31 (0, 0)) zk hg (Kd.R_ne HO_9.out BK380.out (by decide))); have n3_ := zm (blk_grown (g := gb387) (o := Mp.mObj (Value.int .i64) x388000_1) zk hg (Mp.R_ne HO_9.out BK387.out)); have n4_ := zm (blk_grown (g := gb389) (o := .cells #[.int .i64 ((rd_T96 l1 x22_1).f0), .int .i64 ((rd_T96 l1 x22_1).f1), .int .i64 ((rd_T96 l1 x22_1).f2)] 96 (0, 0)) zk hg (Kd.R_ne HO_9.out BK389.out (by decide))); have n5_ := zm (hb); have n6_ := zm (ho); clear HO_8; clear BK379; clear BK380; clear BK387; clear BK389; clear HB; clear HO_9; have HO_8 := n0_; have BK379 := n1_; have BK380 := n2_; have BK387 := n3_; have BK389 := n4_; have HB := n5_; have HO401 := n6_; clear n0_ n1_ n2_ n3_ n4_ n5_ n6_; clear ho hb hg hat) | ((with_reducible refine impl_spoken.gq ?_); go_quiet (fail)))
            go_roundg k1
            case measure => have := HK1.out; omega
            case rel => exact ⟨(x8_1), (y399), (wrap64 (x22_1 + 1)), (x388000_1), (by first | rfl | (simp; done) | (simp [*]; done)), H', ⟨by have := HK1.out; omega⟩, ⟨by (with_reducible repeat (first | apply Kd.R_alloc | apply Kd.R_drewN | apply Kd.R_drew)); exact HO_8.out⟩, ⟨by (with_reducible repeat (first | apply Kd.R_alloc | apply Kd.R_drewN | apply Kd.R_drew)); exact HO401.out⟩, ⟨zk⟩, ⟨zk⟩, ⟨zk⟩, ⟨zb⟩⟩
           ·
            rw [if_neg c64] at H
            exact absurd H (by simp)
          ·
           rw [if_neg c63] at H
           have c63b0 : decide ((wrap64 (((rd_T96 l1 x22_1).f2) + a2_1)) ≤ (wrap64 (((rd_T96 l1 x22_1).f1) + a2_0))) = false := decide_eq_false c63
           clear c63
           by_cases c79 : 0 ≤ ((rd_T96 l1 x22_1).f0)
           ·
            rw [if_pos c79] at H
            have c79b0 : decide (0 ≤ ((rd_T96 l1 x22_1).f0)) = true := decide_eq_true c79
            clear c79
            by_cases c80 : ((rd_T96 l1 x22_1).f0) < (l0_0.length : Int)
            ·
             rw [if_pos c80] at H
             have c80b0 : decide (((rd_T96 l1 x22_1).f0) < (l0_0.length : Int)) = true := decide_eq_true c80
             clear c80
             by_cases c81 : x8_1.length < 5864062014805
             ·
              rw [if_pos c81] at H
              have LMc81 := zm c81
              clear c81
              obtain ⟨y403, hy403⟩ : ∃ y_ : List (S93), y_ = (x8_1 ++ [(⟨rd l0_0 ((rd_T96 l1 x22_1).f0), wrap64 (((rd_T96 l1 x22_1).f1) + a2_0), wrap64 (((rd_T96 l1 x22_1).f2) + a2_1)⟩ : S93)]) := ⟨_, rfl⟩
              replace H : (impl_spoken.l0 k1 y403 x9_1 l1 (l1.length : Int) (wrap64 (x22_1 + 1)) l0_0 a0_1 a2_0 a2_1 a2_2 (Mp.mput x388000_1 ((rd_T96 l1 x22_1).f0) ((rd_T96 l1 x22_1).f1))) = some (r1, r2) := by first | (rw [hy403]; with_reducible exact H) | (have H2_ := (Option.bind_some _ _).symm.trans H; rw [hy403]; with_reducible exact H2_) | (have H2_ := (Option.bind_some _ _).symm.trans H; with_reducible exact H2_) | with_reducible exact H | (rw [hy403]; exact H) | exact H
              have Ny403 := zm hy403
              clear hy403
              have H' := zm H
              clear H
              have p388 : 0 ≤ (x22_1 : Int) := zd
              have q388 : x22_1 < (l1.length : Int) := zd
              obtain ⟨ad388, e388, hx388_0, hx388_1, hx388_2⟩ := at_T96 HR1.out x22_1 p388 q388
              cases e388
              replace hx388_0 := zx HB.out hx388_0
              replace hx388_1 := zx HB.out hx388_1
              replace hx388_2 := zx HB.out hx388_2
              replace p388 := eq_true p388
              replace q388 := eq_true q388
              go_wp2_with (first | ((with_reducible refine gate_dst (N := 12) rfl ?_); refine box_event ?hg (N := 12) ?hd (cs := #[.int .i64 0, .int .i64 0, .int .i64 0]) (t := 96) ?hr ?_; (case hd => rfl); (case hg => rfl); (case hr => first | (go_simp; done) | (go_simp; rfl)); intro gb389 hg w82 hbox hb; have n0_ := zm (Kd.R_below (by (with_reducible repeat (first | apply Kd.R_alloc | apply Kd.R_drewN | apply Kd.R_drew)); exact HO_8.out) hb); have n1_ := zm (Kd.R_below (by (with_reducible repeat (first | apply Kd.R_alloc | apply Kd.R_drewN | apply Kd.R_drew)); exact HO_9.out) hb); have n2_ := zm (blk_below (g := gb379) zk hb); have n3_ := zm (blk_below (g := gb380) zk hb); have n4_ := zm (blk_below (g := gb387) zk hb); have n5_ := zm (below_step zb hb); have n6_ := zm (hbox); have n7_ := zm (zs hg zb : w.heap.size ≤ gb389); have n8_ := zm (zs hg zb : w.heap.size ≤ gb389); have n9_ := zm (zl hg zk : gb379 ≠ gb389); have n10_ := zm (zg hg zk : gb389 ≠ gb379); have n11_ := zm (zl hg zk : gb380 ≠ gb389); have n12_ := zm (zg hg zk : gb389 ≠ gb380); have n13_ := zm (zl hg zk : gb387 ≠ gb389); have n14_ := zm (zg hg zk : gb389 ≠ gb387); clear HO_8; clear HO_9; clear BK379; clear BK380; clear BK387; clear HB; have HO_8 := n0_; have HO_9 := n1_; have BK379 := n2_; have BK380 := n3_; have BK387 := n4_; have HB := n5_; have BK389 := n6_; have GW389 := n7_; have GE389 := n8_; have NB379_389 := n9_; have NB389_379 := n10_; have NB380_389 := n11_; have NB389_380 := n12_; have NB387_389 := n13_; have NB389_387 := n14_; clear n0_ n1_ n2_ n3_ n4_ n5_ n6_ n7_ n8_ n9_ n10_ n11_ n12_ n13_ n14_; clear hb hbox hg; have hnb83 := NB389_379.out; have hnc83 := NB379_389.out; have hnb84 := NB389_380.out; have hnc84 := NB380_389.out; have hnb85 := NB389_387.out; have hnc85 := NB387_389.out; obtain ⟨hcz86_0, hcz86_1, hcz86_2, hfz86_0, hfz86_1, hfz86_2⟩ := zc3 BK389.out) | ((with_reducible refine gate_store (t := 96) (p := 12) rfl ?_); (try (rw [drewN_self w82]; generalize hq_ : World.drewN w82 _ = w82; have n0_ := zm (Kd.R_at hq_ HO_8.out); have n1_ := zm (Kd.R_at hq_ HO_9.out); have n2_ := zm (blk_at hq_ BK379.out); have n3_ := zm (blk_at hq_ BK380.out); have n4_ := zm (blk_at hq_ BK387.out); have n5_ := zm (blk_at hq_ BK389.out); have n6_ := zm (below_at hq_ HB.out); clear hq_ HO_8 HO_9 BK379 BK380 BK387 BK389 HB; have HO_8 := n0_; have HO_9 := n1_; have BK379 := n2_; have BK380 := n3_; have BK387 := n4_; have BK389 := n5_; have HB := n6_; clear n0_ n1_ n2_ n3_ n4_ n5_ n6_)); refine store_event (t := 96) (p := 12) (v := ?vo_w87) (w1 := (((w82.setCell ⟨gb389, 0, none⟩ (.int .i64 ((rd_T96 l1 x22_1).f0))).setCell ⟨gb389, 1, none⟩ (.int .i64 ((rd_T96 l1 x22_1).f1))).setCell ⟨gb389, 2, none⟩ (.int .i64 ((rd_T96 l1 x22_1).f2)))) ?hg ?ho ?hn ?hr ?_; (case ho => rfl); (case hg => rfl); (case hn => rfl); (case hr => first | (go_simp; done) | (go_simp; rfl)); intro w87 hw; have n0_ : Aside0 (Kd.R k93 93 w87 w.heap.size (fun _ => True) u8 x8_1) := ⟨(by rw [hw]; exact (by (with_reducible repeat (first | apply Kd.R_alloc | apply Kd.R_drewN | apply Kd.R_drew)); exact Kd.R_mono (Kd.R_far (p := ⟨gb389, 2, none⟩) (Kd.R_far (p := ⟨gb389, 1, none⟩) (Kd.R_far (p := ⟨gb389, 0, none⟩) (Kd.R_types HO_8.out BK389.out (by decide)) (fun _ hk => hk.2) (.int .i64 ((rd_T96 l1 x22_1).f0))) (fun _ hk => hk.2) (.int .i64 ((rd_T96 l1 x22_1).f1))) (fun _ hk => hk.2) (.int .i64 ((rd_T96 l1 x22_1).f2))) (fun _ hk => trivial)))⟩; have n1_ : Aside0 (Kd.R (Kd.int .i64) 3 w87 w.heap.size (fun _ => True) u9 x9_1) := ⟨(by rw [hw]; exact (by (with_reducible repeat (first | apply Kd.R_alloc | apply Kd.R_drewN | apply Kd.R_drew)); exact Kd.R_mono (Kd.R_far (p := ⟨gb389, 2, none⟩) (Kd.R_far (p := ⟨gb389, 1, none⟩) (Kd.R_far (p := ⟨gb389, 0, none⟩) (Kd.R_types HO_9.out BK389.out (by decide)) (fun _ hk => hk.2) (.int .i64 ((rd_T96 l1 x22_1).f0))) (fun _ hk => hk.2) (.int .i64 ((rd_T96 l1 x22_1).f1))) (fun _ hk => hk.2) (.int .i64 ((rd_T96 l1 x22_1).f2))) (fun _ hk => trivial)))⟩; have n2_ : Aside0 (w87.heap[gb379]? = some (.cells #[.slice A0_0 l0_0.length c0_0, .int .i64 a0_1] 45 (0, 0))) := ⟨(by rw [hw]; exact zK)⟩; have n3_ : Aside0 (w87.heap[gb380]? = some (.cells #[.int .i64 a2_0, .int .i64 a2_1, .int .i64 a2_2] 31 (0, 0))) := ⟨(by rw [hw]; exact zK)⟩; have n4_ : Aside0 (w87.heap[gb387]? = some (Mp.mObj (Value.int .i64) x388000_1)) := ⟨(by rw [hw]; exact (by (with_reducible repeat (first | refine blk_drewN ?_ _ | refine blk_drew ?_ | refine blk_alloc ?_ _)); refine Mp.far ?_ NB387_389.out _; (with_reducible repeat (first | refine blk_drewN ?_ _ | refine blk_drew ?_ | refine blk_alloc ?_ _)); refine Mp.far ?_ NB387_389.out _; (with_reducible repeat (first | refine blk_drewN ?_ _ | refine blk_drew ?_ | refine blk_alloc ?_ _)); refine Mp.far ?_ NB387_389.out _; (with_reducible repeat (first | refine blk_drewN ?_ _ | refine blk_drew ?_ | refine blk_alloc ?_ _)); exact BK387.out))⟩; have n5_ : Aside0 (w87.heap[gb389]? = some (.cells #[.int .i64 ((rd_T96 l1 x22_1).f0), .int .i64 ((rd_T96 l1 x22_1).f1), .int .i64 ((rd_T96 l1 x22_1).f2)] 96 (0, 0))) := ⟨(by rw [hw]; exact (by (with_reducible repeat (first | refine blk_drewN ?_ _ | refine blk_drew ?_ | refine blk_alloc ?_ _)); refine blk_put (cs := #[.int .i64 ((rd_T96 l1 x22_1).f0), .int .i64 ((rd_T96 l1 x22_1).f1), .int .i64 0]) ?_ 2 _ rfl; (with_reducible repeat (first | refine blk_drewN ?_ _ | refine blk_drew ?_ | refine blk_alloc ?_ _)); refine blk_put (cs := #[.int .i64 ((rd_T96 l1 x22_1).f0), .int .i64 0, .int .i64 0]) ?_ 1 _ rfl; (with_reducible repeat (first | refine blk_drewN ?_ _ | refine blk_drew ?_ | refine blk_alloc ?_ _)); refine blk_put (cs := #[.int .i64 0, .int .i64 0, .int .i64 0]) ?_ 0 _ rfl; (with_reducible repeat (first | refine blk_drewN ?_ _ | refine blk_drew ?_ | refine blk_alloc ?_ _)); exact BK389.out))⟩; have n6_ : Aside0 (Below w.heap.size w w87) := ⟨(by rw [hw]; exact zb)⟩; clear hw; clear HO_8; clear HO_9; clear BK379; clear BK380; clear BK387; clear BK389; clear HB; have HO_8 := n0_; have HO_9 := n1_; have BK379 := n2_; have BK380 := n3_; have BK387 := n4_; have BK389 := n5_; have HB := n6_; clear n0_ n1_ n2_ n3_ n4_ n5_ n6_; obtain ⟨hcz88_0, hcz88_1, hcz88_2, hfz88_0, hfz88_1, hfz88_2⟩ := zc3 BK389.out; have hnb89 := NB387_379.out; have hnc89 := NB379_387.out; have hnb90 := NB387_380.out; have hnc90 := NB380_387.out; have hlz91_true : ∀ k_ : Int, (Instr.lookup 111 (.map (some gb387)) (.int .i64 k_) true).run Try.prog w87 = .ok (.tuple #[(Value.int .i64) (Mp.mget (0 : Int) x388000_1 k_), .bool (Mp.mhas x388000_1 k_)]) w87 := fun k_ => Mp.run_lookup (enc := (Value.int .i64)) Try.underlying111 Try.underlying3 (0 : Int) (fun w_ => impl_spoken.zeroM111 w_) BK387.out k_ true; have hlz91_false : ∀ k_ : Int, (Instr.lookup 111 (.map (some gb387)) (.int .i64 k_) false).run Try.prog w87 = .ok ((Value.int .i64) (Mp.mget (0 : Int) x388000_1 k_)) w87 := fun k_ => Mp.run_lookup (enc := (Value.int .i64)) Try.underlying111 Try.underlying3 (0 : Int) (fun w_ => impl_spoken.zeroM111 w_) BK387.out k_ false; have hlz91_truen : ∀ (n_ : Nat) (k_ : Int), (Instr.lookup 111 (.map (some gb387)) (.int .i64 k_) true).run Try.prog (w87.drewN n_) = .ok (.tuple #[(Value.int .i64) (Mp.mget (0 : Int) x388000_1 k_), .bool (Mp.mhas x388000_1 k_)]) (w87.drewN n_) := fun n_ k_ => Mp.run_lookup (enc := (Value.int .i64)) Try.underlying111 Try.underlying3 (0 : Int) (fun w_ => impl_spoken.zeroM111 w_) (show (w87.drewN n_).heap[gb387]? = _ from BK387.out) k_ true; have hlz91_falsen : ∀ (n_ : Nat) (k_ : Int), (Instr.lookup 111 (.map (some gb387)) (.int .i64 k_) false).run Try.prog (w87.drewN n_) = .ok ((Value.int .i64) (Mp.mget (0 : Int) x388000_1 k_)) (w87.drewN n_) := fun n_ k_ => Mp.run_lookup (enc := (Value.int .i64)) Try.underlying111 Try.underlying3 (0 : Int) (fun w_ => impl_spoken.zeroM111 w_) (show (w87.drewN n_).heap[gb387]? = _ from BK387.out) k_ false; have hnb92 := NB380_379.out; have hnc92 := NB379_380.out; obtain ⟨hcz93_0, hcz93_1, hcz93_2, hfz93_0, hfz93_1, hfz93_2⟩ := zc3 BK380.out; obtain ⟨hcz94_0, hcz94_1, hfz94_0, hfz94_1⟩ := zc2 BK379.out) | (at_mapUpdate; refine Mp.put_event (t := 111) Try.underlying111 Try.underlying3 (Value.int .i64) rfl rfl rfl zk rfl ((rd_T96 l1 x22_1).f0) ((rd_T96 l1 x22_1).f1) ?hx ?hy ?_; (case hx => first | rfl | (go_simp; done) | (go_simp; rfl)); (case hy => first | rfl | (go_simp; done) | (go_simp; rfl)); intro w95 hp_ hg; have n0_ := zm (Mp.R_put (by (with_reducible repeat (first | apply Kd.R_alloc | apply Kd.R_drewN | apply Kd.R_drew)); exact HO_8.out) zk hg); have n1_ := zm (Mp.R_put (by (with_reducible repeat (first | apply Kd.R_alloc | apply Kd.R_drewN | apply Kd.R_drew)); exact HO_9.out) zk hg); have n2_ := zm (Mp.blk_put (by exact BK379.out) hg NB379_387.out); have n3_ := zm (Mp.blk_put (by exact BK380.out) hg NB380_387.out); have n4_ := zm (hp_); have n5_ := zm (Mp.blk_put (by exact BK389.out) hg NB389_387.out); have n6_ := zm (Below.grown zb hg (below_size zb) (fun j_ hj_ => by cases hj_; exact GE387.out)); clear HO_8; clear HO_9; clear BK379; clear BK380; clear BK387; clear BK389; clear HB; have HO_8 := n0_; have HO_9 := n1_; have BK379 := n2_; have BK380 := n3_; have BK387 := n4_; have BK389 := n5_; have HB := n6_; clear n0_ n1_ n2_ n3_ n4_ n5_ n6_; clear hp_ hg; obtain ⟨hcz96_0, hcz96_1, hfz96_0, hfz96_1⟩ := zc2 BK379.out; obtain ⟨hcz97_0, hcz97_1, hcz97_2, hfz97_0, hfz97_1, hfz97_2⟩ := zc3 BK389.out; have p402 : 0 ≤ (((rd_T96 l1 x22_1).f0) : Int) := zd; have q402 : ((rd_T96 l1 x22_1).f0) < (l0_0.length : Int) := zd; obtain ⟨ad402, e402, hx402_0⟩ := Kd.at_int HR0_0.out ((rd_T96 l1 x22_1).f0) p402 q402; cases e402; replace hx402_0 := zx HB.out hx402_0; replace p402 := eq_true p402; replace q402 := eq_true q402) | ((with_reducible refine gate_builtin (b := .append) (xs := #[.tmp 87, .tmp 97]) rfl ?_); at_builtin; refine Kd.R_append k93 (w0 := w) w.heap.size rfl (.tmp 87) (.tmp 97) 89 93 (.agg #[(.int .i64 0), (.int .i64 0), (.int .i64 0)]) 24 rfl Try.underlying89 info93 rfl (by decide) (by omega) u8 x8_1 (⟨rd l0_0 ((rd_T96 l1 x22_1).f0), wrap64 (((rd_T96 l1 x22_1).f1) + a2_0), wrap64 (((rd_T96 l1 x22_1).f2) + a2_1)⟩ : S93) [.int .i64 (rd l0_0 ((rd_T96 l1 x22_1).f0)), .int .i64 (wrap64 (((rd_T96 l1 x22_1).f1) + a2_0)), .int .i64 (wrap64 (((rd_T96 l1 x22_1).f2) + a2_1))] (fun _ => True) (fun _ => False) rfl rfl ?aP (fun _ hk => hk.elim) ?aF ?aO ?aB ?aS ?aL ?_; (case aP => exact k93_mkM _ _ _ (⟨rd l0_0 ((rd_T96 l1 x22_1).f0), wrap64 (((rd_T96 l1 x22_1).f1) + a2_0), wrap64 (((rd_T96 l1 x22_1).f2) + a2_1)⟩ : S93)); (case aB => exact zb); (case aF => exact (fun _ _ => trivial)); (case aO => exact (by (with_reducible repeat (first | apply Kd.R_alloc | apply Kd.R_drewN | apply Kd.R_drew)); exact HO_8.out)); (case aS => exact (below_size zb)); (case aL => have := LMc81.out; omega); intro v404 w98 ho hb hg hat; rw [← Ny403.out] at ho; have n0_ := zm (Kd.R_over' (by (with_reducible repeat (first | apply Kd.R_alloc | apply Kd.R_drewN | apply Kd.R_drew)); exact HO_9.out) (Kd.R_typed (by (with_reducible repeat (first | apply Kd.R_alloc | apply Kd.R_drewN | apply Kd.R_drew)); exact HO_8.out)) (by decide) hg); have n1_ := zm (blk_grown (g := gb379) (o := .cells #[.slice (some ad402) l0_0.length c0_0, .int .i64 a0_1] 45 (0, 0)) zk hg (Kd.R_ne HO_8.out BK379.out (by decide))); have n2_ := zm (blk_grown (g := gb380) (o := .cells #[.int .i64 a2_0, .int .i64 a2_1, .int .i64 a2_2] 31 (0, 0)) zk hg (Kd.R_ne HO_8.out BK380.out (by decide))); have n3_ := zm (blk_grown (g := gb387) (o := Mp.mObj (Value.int .i64) (Mp.mput x388000_1 ((rd_T96 l1 x22_1).f0) ((rd_T96 l1 x22_1).f1))) zk hg (Mp.R_ne HO_8.out BK387.out)); have n4_ := zm (blk_grown (g := gb389) (o := .cells #[.int .i64 ((rd_T96 l1 x22_1).f0), .int .i64 ((rd_T96 l1 x22_1).f1), .int .i64 ((rd_T96 l1 x22_1).f2)] 96 (0, 0)) zk hg (Kd.R_ne HO_8.out BK389.out (by decide))); have n5_ := zm (hb); have n6_ := zm (ho); clear HO_9; clear BK379; clear BK380; clear BK387; clear BK389; clear HB; clear HO_8; have HO_9 := n0_; have BK379 := n1_; have BK380 := n2_; have BK387 := n3_; have BK389 := n4_; have HB := n5_; have HO405 := n6_; clear n0_ n1_ n2_ n3_ n4_ n5_ n6_; clear ho hb hg hat) | ((with_reducible refine impl_spoken.gq ?_); go_quiet (fail)))
              go_roundg k1
              case measure => have := HK1.out; omega
              case rel => exact ⟨(y403), (x9_1), (wrap64 (x22_1 + 1)), (Mp.mput x388000_1 ((rd_T96 l1 x22_1).f0) ((rd_T96 l1 x22_1).f1)), (by first | rfl | (simp; done) | (simp [*]; done)), H', ⟨by have := HK1.out; omega⟩, ⟨by (with_reducible repeat (first | apply Kd.R_alloc | apply Kd.R_drewN | apply Kd.R_drew)); exact HO405.out⟩, ⟨by (with_reducible repeat (first | apply Kd.R_alloc | apply Kd.R_drewN | apply Kd.R_drew)); exact HO_9.out⟩, ⟨zk⟩, ⟨zk⟩, ⟨zk⟩, ⟨zb⟩⟩
             ·
              rw [if_neg c81] at H
              exact absurd H (by simp)
            ·
             rw [if_neg c80] at H
             exact absurd H (by simp)
           ·
            rw [if_neg c79] at H
            exact absurd H (by simp)
        ·
         rw [if_neg c46] at H
         have c46b0 : Mp.mhas x388000_1 ((rd_T96 l1 x22_1).f0) = false := by simpa using c46
         clear c46
         by_cases c99 : (wrap64 (((rd_T96 l1 x22_1).f1) + a2_0)) ≥ (wrap64 (((rd_T96 l1 x22_1).f2) + a2_1))
         ·
          rw [if_pos c99] at H
          have c99b0 : decide ((wrap64 (((rd_T96 l1 x22_1).f2) + a2_1)) ≤ (wrap64 (((rd_T96 l1 x22_1).f1) + a2_0))) = true := decide_eq_true c99
          clear c99
          by_cases c100 : x9_1.length < 17592186044416
          ·
           rw [if_pos c100] at H
           have LMc100 := zm c100
           clear c100
           obtain ⟨y406, hy406⟩ : ∃ y_ : List Int, y_ = (x9_1 ++ [x22_1]) := ⟨_, rfl⟩
           replace H : (impl_spoken.l0 k1 x8_1 y406 l1 (l1.length : Int) (wrap64 (x22_1 + 1)) l0_0 a0_1 a2_0 a2_1 a2_2 x388000_1) = some (r1, r2) := by first | (rw [hy406]; with_reducible exact H) | (have H2_ := (Option.bind_some _ _).symm.trans H; rw [hy406]; with_reducible exact H2_) | (have H2_ := (Option.bind_some _ _).symm.trans H; with_reducible exact H2_) | with_reducible exact H | (rw [hy406]; exact H) | exact H
           have Ny406 := zm hy406
           clear hy406
           have H' := zm H
           clear H
           have p388 : 0 ≤ (x22_1 : Int) := zd
           have q388 : x22_1 < (l1.length : Int) := zd
           obtain ⟨ad388, e388, hx388_0, hx388_1, hx388_2⟩ := at_T96 HR1.out x22_1 p388 q388
           cases e388
           replace hx388_0 := zx HB.out hx388_0
           replace hx388_1 := zx HB.out hx388_1
           replace hx388_2 := zx HB.out hx388_2
           replace p388 := eq_true p388
           replace q388 := eq_true q388
           go_wp2_with (first | ((with_reducible refine gate_dst (N := 12) rfl ?_); refine box_event ?hg (N := 12) ?hd (cs := #[.int .i64 0, .int .i64 0, .int .i64 0]) (t := 96) ?hr ?_; (case hd => rfl); (case hg => rfl); (case hr => first | (go_simp; done) | (go_simp; rfl)); intro gb389 hg w101 hbox hb; have n0_ := zm (Kd.R_below (by (with_reducible repeat (first | apply Kd.R_alloc | apply Kd.R_drewN | apply Kd.R_drew)); exact HO_8.out) hb); have n1_ := zm (Kd.R_below (by (with_reducible repeat (first | apply Kd.R_alloc | apply Kd.R_drewN | apply Kd.R_drew)); exact HO_9.out) hb); have n2_ := zm (blk_below (g := gb379) zk hb); have n3_ := zm (blk_below (g := gb380) zk hb); have n4_ := zm (blk_below (g := gb387) zk hb); have n5_ := zm (below_step zb hb); have n6_ := zm (hbox); have n7_ := zm (zs hg zb : w.heap.size ≤ gb389); have n8_ := zm (zs hg zb : w.heap.size ≤ gb389); have n9_ := zm (zl hg zk : gb379 ≠ gb389); have n10_ := zm (zg hg zk : gb389 ≠ gb379); have n11_ := zm (zl hg zk : gb380 ≠ gb389); have n12_ := zm (zg hg zk : gb389 ≠ gb380); have n13_ := zm (zl hg zk : gb387 ≠ gb389); have n14_ := zm (zg hg zk : gb389 ≠ gb387); clear HO_8; clear HO_9; clear BK379; clear BK380; clear BK387; clear HB; have HO_8 := n0_; have HO_9 := n1_; have BK379 := n2_; have BK380 := n3_; have BK387 := n4_; have HB := n5_; have BK389 := n6_; have GW389 := n7_; have GE389 := n8_; have NB379_389 := n9_; have NB389_379 := n10_; have NB380_389 := n11_; have NB389_380 := n12_; have NB387_389 := n13_; have NB389_387 := n14_; clear n0_ n1_ n2_ n3_ n4_ n5_ n6_ n7_ n8_ n9_ n10_ n11_ n12_ n13_ n14_; clear hb hbox hg; have hnb102 := NB389_379.out; have hnc102 := NB379_389.out; have hnb103 := NB389_380.out; have hnc103 := NB380_389.out; have hnb104 := NB389_387.out; have hnc104 := NB387_389.out; obtain ⟨hcz105_0, hcz105_1, hcz105_2, hfz105_0, hfz105_1, hfz105_2⟩ := zc3 BK389.out) | ((with_reducible refine gate_store (t := 96) (p := 12) rfl ?_); (try (rw [drewN_self w101]; generalize hq_ : World.drewN w101 _ = w101; have n0_ := zm (Kd.R_at hq_ HO_8.out); have n1_ := zm (Kd.R_at hq_ HO_9.out); have n2_ := zm (blk_at hq_ BK379.out); have n3_ := zm (blk_at hq_ BK380.out); have n4_ := zm (blk_at hq_ BK387.out); have n5_ := zm (blk_at hq_ BK389.out); have n6_ := zm (below_at hq_ HB.out); clear hq_ HO_8 HO_9 BK379 BK380 BK387 BK389 HB; have HO_8 := n0_; have HO_9 := n1_; have BK379 := n2_; have BK380 := n3_; have BK387 := n4_; have BK389 := n5_; have HB := n6_; clear n0_ n1_ n2_ n3_ n4_ n5_ n6_)); refine store_event (t := 96) (p := 12) (v := ?vo_w106) (w1 := (((w101.setCell ⟨gb389, 0, none⟩ (.int .i64 ((rd_T96 l1 x22_1).f0))).setCell ⟨gb389, 1, none⟩ (.int .i64 ((rd_T96 l1 x22_1).f1))).setCell ⟨gb389, 2, none⟩ (.int .i64 ((rd_T96 l1 x22_1).f2)))) ?hg ?ho ?hn ?hr ?_; (case ho => rfl); (case hg => rfl); (case hn => rfl); (case hr => first | (go_simp; done) | (go_simp; rfl)); intro w106 hw; have n0_ : Aside0 (Kd.R k93 93 w106 w.heap.size (fun _ => True) u8 x8_1) := ⟨(by rw [hw]; exact (by (with_reducible repeat (first | apply Kd.R_alloc | apply Kd.R_drewN | apply Kd.R_drew)); exact Kd.R_mono (Kd.R_far (p := ⟨gb389, 2, none⟩) (Kd.R_far (p := ⟨gb389, 1, none⟩) (Kd.R_far (p := ⟨gb389, 0, none⟩) (Kd.R_types HO_8.out BK389.out (by decide)) (fun _ hk => hk.2) (.int .i64 ((rd_T96 l1 x22_1).f0))) (fun _ hk => hk.2) (.int .i64 ((rd_T96 l1 x22_1).f1))) (fun _ hk => hk.2) (.int .i64 ((rd_T96 l1 x22_1).f2))) (fun _ hk => trivial)))⟩; have n1_ : Aside0 (Kd.R (Kd.int .i64) 3 w106 w.heap.size (fun _ => True) u9 x9_1) := ⟨(by rw [hw]; exact (by (with_reducible repeat (first | apply Kd.R_alloc | apply Kd.R_drewN | apply Kd.R_drew)); exact Kd.R_mono (Kd.R_far (p := ⟨gb389, 2, none⟩) (Kd.R_far (p := ⟨gb389, 1, none⟩) (Kd.R_far (p := ⟨gb389, 0, none⟩) (Kd.R_types HO_9.out BK389.out (by decide)) (fun _ hk => hk.2) (.int .i64 ((rd_T96 l1 x22_1).f0))) (fun _ hk => hk.2) (.int .i64 ((rd_T96 l1 x22_1).f1))) (fun _ hk => hk.2) (.int .i64 ((rd_T96 l1 x22_1).f2))) (fun _ hk => trivial)))⟩; have n2_ : Aside0 (w106.heap[gb379]? = some (.cells #[.slice A0_0 l0_0.length c0_0, .int .i64 a0_1] 45 (0, 0))) := ⟨(by rw [hw]; exact zK)⟩; have n3_ : Aside0 (w106.heap[gb380]? = some (.cells #[.int .i64 a2_0, .int .i64 a2_1, .int .i64 a2_2] 31 (0, 0))) := ⟨(by rw [hw]; exact zK)⟩; have n4_ : Aside0 (w106.heap[gb387]? = some (Mp.mObj (Value.int .i64) x388000_1)) := ⟨(by rw [hw]; exact (by (with_reducible repeat (first | refine blk_drewN ?_ _ | refine blk_drew ?_ | refine blk_alloc ?_ _)); refine Mp.far ?_ NB387_389.out _; (with_reducible repeat (first | refine blk_drewN ?_ _ | refine blk_drew ?_ | refine blk_alloc ?_ _)); refine Mp.far ?_ NB387_389.out _; (with_reducible repeat (first | refine blk_drewN ?_ _ | refine blk_drew ?_ | refine blk_alloc ?_ _)); refine Mp.far ?_ NB387_389.out _; (with_reducible repeat (first | refine blk_drewN ?_ _ | refine blk_drew ?_ | refine blk_alloc ?_ _)); exact BK387.out))⟩; have n5_ : Aside0 (w106.heap[gb389]? = some (.cells #[.int .i64 ((rd_T96 l1 x22_1).f0), .int .i64 ((rd_T96 l1 x22_1).f1), .int .i64 ((rd_T96 l1 x22_1).f2)] 96 (0, 0))) := ⟨(by rw [hw]; exact (by (with_reducible repeat (first | refine blk_drewN ?_ _ | refine blk_drew ?_ | refine blk_alloc ?_ _)); refine blk_put (cs := #[.int .i64 ((rd_T96 l1 x22_1).f0), .int .i64 ((rd_T96 l1 x22_1).f1), .int .i64 0]) ?_ 2 _ rfl; (with_reducible repeat (first | refine blk_drewN ?_ _ | refine blk_drew ?_ | refine blk_alloc ?_ _)); refine blk_put (cs := #[.int .i64 ((rd_T96 l1 x22_1).f0), .int .i64 0, .int .i64 0]) ?_ 1 _ rfl; (with_reducible repeat (first | refine blk_drewN ?_ _ | refine blk_drew ?_ | refine blk_alloc ?_ _)); refine blk_put (cs := #[.int .i64 0, .int .i64 0, .int .i64 0]) ?_ 0 _ rfl; (with_reducible repeat (first | refine blk_drewN ?_ _ | refine blk_drew ?_ | refine blk_alloc ?_ _)); exact BK389.out))⟩; have n6_ : Aside0 (Below w.heap.size w w106) := ⟨(by rw [hw]; exact zb)⟩; clear hw; clear HO_8; clear HO_9; clear BK379; clear BK380; clear BK387; clear BK389; clear HB; have HO_8 := n0_; have HO_9 := n1_; have BK379 := n2_; have BK380 := n3_; have BK387 := n4_; have BK389 := n5_; have HB := n6_; clear n0_ n1_ n2_ n3_ n4_ n5_ n6_; obtain ⟨hcz107_0, hcz107_1, hcz107_2, hfz107_0, hfz107_1, hfz107_2⟩ := zc3 BK389.out; have hnb108 := NB387_379.out; have hnc108 := NB379_387.out; have hnb109 := NB387_380.out; have hnc109 := NB380_387.out; have hlz110_true : ∀ k_ : Int, (Instr.lookup 111 (.map (some gb387)) (.int .i64 k_) true).run Try.prog w106 = .ok (.tuple #[(Value.int .i64) (Mp.mget (0 : Int) x388000_1 k_), .bool (Mp.mhas x388000_1 k_)]) w106 := fun k_ => Mp.run_lookup (enc := (Value.int .i64)) Try.underlying111 Try.underlying3 (0 : Int) (fun w_ => impl_spoken.zeroM111 w_) BK387.out k_ true; have hlz110_false : ∀ k_ : Int, (Instr.lookup 111 (.map (some gb387)) (.int .i64 k_) false).run Try.prog w106 = .ok ((Value.int .i64) (Mp.mget (0 : Int) x388000_1 k_)) w106 := fun k_ => Mp.run_lookup (enc := (Value.int .i64)) Try.underlying111 Try.underlying3 (0 : Int) (fun w_ => impl_spoken.zeroM111 w_) BK387.out k_ false; have hlz110_truen : ∀ (n_ : Nat) (k_ : Int), (Instr.lookup 111 (.map (some gb387)) (.int .i64 k_) true).run Try.prog (w106.drewN n_) = .ok (.tuple #[(Value.int .i64) (Mp.mget (0 : Int) x388000_1 k_), .bool (Mp.mhas x388000_1 k_)]) (w106.drewN n_) := fun n_ k_ => Mp.run_lookup (enc := (Value.int .i64)) Try.underlying111 Try.underlying3 (0 : Int) (fun w_ => impl_spoken.zeroM111 w_) (show (w106.drewN n_).heap[gb387]? = _ from BK387.out) k_ true; have hlz110_falsen : ∀ (n_ : Nat) (k_ : Int), (Instr.lookup 111 (.map (some gb387)) (.int .i64 k_) false).run Try.prog (w106.drewN n_) = .ok ((Value.int .i64) (Mp.mget (0 : Int) x388000_1 k_)) (w106.drewN n_) := fun n_ k_ => Mp.run_lookup (enc := (Value.int .i64)) Try.underlying111 Try.underlying3 (0 : Int) (fun w_ => impl_spoken.zeroM111 w_) (show (w106.drewN n_).heap[gb387]? = _ from BK387.out) k_ false; have hnb111 := NB380_379.out; have hnc111 := NB379_380.out; obtain ⟨hcz112_0, hcz112_1, hcz112_2, hfz112_0, hfz112_1, hfz112_2⟩ := zc3 BK380.out; obtain ⟨hcz113_0, hcz113_1, hfz113_0, hfz113_1⟩ := zc2 BK379.out) | ((with_reducible refine gate_builtin (b := .append) (xs := #[.tmp 78, .tmp 80]) rfl ?_); at_builtin; refine Kd.R_append (Kd.int .i64) (w0 := w) w.heap.size rfl (.tmp 78) (.tmp 80) 38 3 (.int .i64 0) 8 rfl Try.underlying38 info3 rfl (by decide) (by omega) u9 x9_1 x22_1 [.int .i64 x22_1] (fun _ => True) (fun _ => False) rfl rfl ?aP (fun _ hk => hk.elim) ?aF ?aO ?aB ?aS ?aL ?_; (case aP => exact rfl); (case aB => exact zb); (case aF => exact (fun _ _ => trivial)); (case aO => exact (by (with_reducible repeat (first | apply Kd.R_alloc | apply Kd.R_drewN | apply Kd.R_drew)); exact HO_9.out)); (case aS => exact (below_size zb)); (case aL => have := LMc100.out; omega); intro v407 w114 ho hb hg hat; rw [← Ny406.out] at ho; have n0_ := zm (Kd.R_over' (by (with_reducible repeat (first | apply Kd.R_alloc | apply Kd.R_drewN | apply Kd.R_drew)); exact HO_8.out) (Kd.R_typed (by (with_reducible repeat (first | apply Kd.R_alloc | apply Kd.R_drewN | apply Kd.R_drew)); exact HO_9.out)) (by decide) hg); have n1_ := zm (blk_grown (g := gb379) (o := .cells #[.slice A0_0 l0_0.length c0_0, .int .i64 a0_1] 45 (0, 0)) zk hg (Kd.R_ne HO_9.out BK379.out (by decide))); have n2_ := zm (blk_grown (g := gb380) (o := .cells #[.int .i64 a2_0, .int .i64 a2_1, .int .i64 a2_2] 31 (0, 0)) zk hg (Kd.R_ne HO_9.out BK380.out (by decide))); have n3_ := zm (blk_grown (g := gb387) (o := Mp.mObj (Value.int .i64) x388000_1) zk hg (Mp.R_ne HO_9.out BK387.out)); have n4_ := zm (blk_grown (g := gb389) (o := .cells #[.int .i64 ((rd_T96 l1 x22_1).f0), .int .i64 ((rd_T96 l1 x22_1).f1), .int .i64 ((rd_T96 l1 x22_1).f2)] 96 (0, 0)) zk hg (Kd.R_ne HO_9.out BK389.out (by decide))); have n5_ := zm (hb); have n6_ := zm (ho); clear HO_8; clear BK379; clear BK380; clear BK387; clear BK389; clear HB; clear HO_9; have HO_8 := n0_; have BK379 := n1_; have BK380 := n2_; have BK387 := n3_; have BK389 := n4_; have HB := n5_; have HO408 := n6_; clear n0_ n1_ n2_ n3_ n4_ n5_ n6_; clear ho hb hg hat) | ((with_reducible refine impl_spoken.gq ?_); go_quiet (fail)))
           go_roundg k1
           case measure => have := HK1.out; omega
           case rel => exact ⟨(x8_1), (y406), (wrap64 (x22_1 + 1)), (x388000_1), (by first | rfl | (simp; done) | (simp [*]; done)), H', ⟨by have := HK1.out; omega⟩, ⟨by (with_reducible repeat (first | apply Kd.R_alloc | apply Kd.R_drewN | apply Kd.R_drew)); exact HO_8.out⟩, ⟨by (with_reducible repeat (first | apply Kd.R_alloc | apply Kd.R_drewN | apply Kd.R_drew)); exact HO408.out⟩, ⟨zk⟩, ⟨zk⟩, ⟨zk⟩, ⟨zb⟩⟩
          ·
           rw [if_neg c100] at H
           exact absurd H (by simp)
         ·
          rw [if_neg c99] at H
          have c99b0 : decide ((wrap64 (((rd_T96 l1 x22_1).f2) + a2_1)) ≤ (wrap64 (((rd_T96 l1 x22_1).f1) + a2_0))) = false := decide_eq_false c99
          clear c99
          by_cases c115 : 0 ≤ ((rd_T96 l1 x22_1).f0)
          ·
           rw [if_pos c115] at H
           have c115b0 : decide (0 ≤ ((rd_T96 l1 x22_1).f0)) = true := decide_eq_true c115
           clear c115
           by_cases c116 : ((rd_T96 l1 x22_1).f0) < (l0_0.length : Int)
           ·
            rw [if_pos c116] at H
            have c116b0 : decide (((rd_T96 l1 x22_1).f0) < (l0_0.length : Int)) = true := decide_eq_true c116
            clear c116
            by_cases c117 : x8_1.length < 5864062014805
            ·
             rw [if_pos c117] at H
             have LMc117 := zm c117
             clear c117
             obtain ⟨y410, hy410⟩ : ∃ y_ : List (S93), y_ = (x8_1 ++ [(⟨rd l0_0 ((rd_T96 l1 x22_1).f0), wrap64 (((rd_T96 l1 x22_1).f1) + a2_0), wrap64 (((rd_T96 l1 x22_1).f2) + a2_1)⟩ : S93)]) := ⟨_, rfl⟩
             replace H : (impl_spoken.l0 k1 y410 x9_1 l1 (l1.length : Int) (wrap64 (x22_1 + 1)) l0_0 a0_1 a2_0 a2_1 a2_2 (Mp.mput x388000_1 ((rd_T96 l1 x22_1).f0) ((rd_T96 l1 x22_1).f1))) = some (r1, r2) := by first | (rw [hy410]; with_reducible exact H) | (have H2_ := (Option.bind_some _ _).symm.trans H; rw [hy410]; with_reducible exact H2_) | (have H2_ := (Option.bind_some _ _).symm.trans H; with_reducible exact H2_) | with_reducible exact H | (rw [hy410]; exact H) | exact H
             have Ny410 := zm hy410
             clear hy410
             have H' := zm H
             clear H
             have p388 : 0 ≤ (x22_1 : Int) := zd
             have q388 : x22_1 < (l1.length : Int) := zd
             obtain ⟨ad388, e388, hx388_0, hx388_1, hx388_2⟩ := at_T96 HR1.out x22_1 p388 q388
             cases e388
             replace hx388_0 := zx HB.out hx388_0
             replace hx388_1 := zx HB.out hx388_1
             replace hx388_2 := zx HB.out hx388_2
             replace p388 := eq_true p388
             replace q388 := eq_true q388
             go_wp2_with (first | ((with_reducible refine gate_dst (N := 12) rfl ?_); refine box_event ?hg (N := 12) ?hd (cs := #[.int .i64 0, .int .i64 0, .int .i64 0]) (t := 96) ?hr ?_; (case hd => rfl); (case hg => rfl); (case hr => first | (go_simp; done) | (go_simp; rfl)); intro gb389 hg w118 hbox hb; have n0_ := zm (Kd.R_below (by (with_reducible repeat (first | apply Kd.R_alloc | apply Kd.R_drewN | apply Kd.R_drew)); exact HO_8.out) hb); have n1_ := zm (Kd.R_below (by (with_reducible repeat (first | apply Kd.R_alloc | apply Kd.R_drewN | apply Kd.R_drew)); exact HO_9.out) hb); have n2_ := zm (blk_below (g := gb379) zk hb); have n3_ := zm (blk_below (g := gb380) zk hb); have n4_ := zm (blk_below (g := gb387) zk hb); have n5_ := zm (below_step zb hb); have n6_ := zm (hbox); have n7_ := zm (zs hg zb : w.heap.size ≤ gb389); have n8_ := zm (zs hg zb : w.heap.size ≤ gb389); have n9_ := zm (zl hg zk : gb379 ≠ gb389); have n10_ := zm (zg hg zk : gb389 ≠ gb379); have n11_ := zm (zl hg zk : gb380 ≠ gb389); have n12_ := zm (zg hg zk : gb389 ≠ gb380); have n13_ := zm (zl hg zk : gb387 ≠ gb389); have n14_ := zm (zg hg zk : gb389 ≠ gb387); clear HO_8; clear HO_9; clear BK379; clear BK380; clear BK387; clear HB; have HO_8 := n0_; have HO_9 := n1_; have BK379 := n2_; have BK380 := n3_; have BK387 := n4_; have HB := n5_; have BK389 := n6_; have GW389 := n7_; have GE389 := n8_; have NB379_389 := n9_; have NB389_379 := n10_; have NB380_389 := n11_; have NB389_380 := n12_; have NB387_389 := n13_; have NB389_387 := n14_; clear n0_ n1_ n2_ n3_ n4_ n5_ n6_ n7_ n8_ n9_ n10_ n11_ n12_ n13_ n14_; clear hb hbox hg; have hnb119 := NB389_379.out; have hnc119 := NB379_389.out; have hnb120 := NB389_380.out; have hnc120 := NB380_389.out; have hnb121 := NB389_387.out; have hnc121 := NB387_389.out; obtain ⟨hcz122_0, hcz122_1, hcz122_2, hfz122_0, hfz122_1, hfz122_2⟩ := zc3 BK389.out) | ((with_reducible refine gate_store (t := 96) (p := 12) rfl ?_); (try (rw [drewN_self w118]; generalize hq_ : World.drewN w118 _ = w118; have n0_ := zm (Kd.R_at hq_ HO_8.out); have n1_ := zm (Kd.R_at hq_ HO_9.out); have n2_ := zm (blk_at hq_ BK379.out); have n3_ := zm (blk_at hq_ BK380.out); have n4_ := zm (blk_at hq_ BK387.out); have n5_ := zm (blk_at hq_ BK389.out); have n6_ := zm (below_at hq_ HB.out); clear hq_ HO_8 HO_9 BK379 BK380 BK387 BK389 HB; have HO_8 := n0_; have HO_9 := n1_; have BK379 := n2_; have BK380 := n3_; have BK387 := n4_; have BK389 := n5_; have HB := n6_; clear n0_ n1_ n2_ n3_ n4_ n5_ n6_)); refine store_event (t := 96) (p := 12) (v := ?vo_w123) (w1 := (((w118.setCell ⟨gb389, 0, none⟩ (.int .i64 ((rd_T96 l1 x22_1).f0))).setCell ⟨gb389, 1, none⟩ (.int .i64 ((rd_T96 l1 x22_1).f1))).setCell ⟨gb389, 2, none⟩ (.int .i64 ((rd_T96 l1 x22_1).f2)))) ?hg ?ho ?hn ?hr ?_; (case ho => rfl); (case hg => rfl); (case hn => rfl); (case hr => first | (go_simp; done) | (go_simp; rfl)); intro w123 hw; have n0_ : Aside0 (Kd.R k93 93 w123 w.heap.size (fun _ => True) u8 x8_1) := ⟨(by rw [hw]; exact (by (with_reducible repeat (first | apply Kd.R_alloc | apply Kd.R_drewN | apply Kd.R_drew)); exact Kd.R_mono (Kd.R_far (p := ⟨gb389, 2, none⟩) (Kd.R_far (p := ⟨gb389, 1, none⟩) (Kd.R_far (p := ⟨gb389, 0, none⟩) (Kd.R_types HO_8.out BK389.out (by decide)) (fun _ hk => hk.2) (.int .i64 ((rd_T96 l1 x22_1).f0))) (fun _ hk => hk.2) (.int .i64 ((rd_T96 l1 x22_1).f1))) (fun _ hk => hk.2) (.int .i64 ((rd_T96 l1 x22_1).f2))) (fun _ hk => trivial)))⟩; have n1_ : Aside0 (Kd.R (Kd.int .i64) 3 w123 w.heap.size (fun _ => True) u9 x9_1) := ⟨(by rw [hw]; exact (by (with_reducible repeat (first | apply Kd.R_alloc | apply Kd.R_drewN | apply Kd.R_drew)); exact Kd.R_mono (Kd.R_far (p := ⟨gb389, 2, none⟩) (Kd.R_far (p := ⟨gb389, 1, none⟩) (Kd.R_far (p := ⟨gb389, 0, none⟩) (Kd.R_types HO_9.out BK389.out (by decide)) (fun _ hk => hk.2) (.int .i64 ((rd_T96 l1 x22_1).f0))) (fun _ hk => hk.2) (.int .i64 ((rd_T96 l1 x22_1).f1))) (fun _ hk => hk.2) (.int .i64 ((rd_T96 l1 x22_1).f2))) (fun _ hk => trivial)))⟩; have n2_ : Aside0 (w123.heap[gb379]? = some (.cells #[.slice A0_0 l0_0.length c0_0, .int .i64 a0_1] 45 (0, 0))) := ⟨(by rw [hw]; exact zK)⟩; have n3_ : Aside0 (w123.heap[gb380]? = some (.cells #[.int .i64 a2_0, .int .i64 a2_1, .int .i64 a2_2] 31 (0, 0))) := ⟨(by rw [hw]; exact zK)⟩; have n4_ : Aside0 (w123.heap[gb387]? = some (Mp.mObj (Value.int .i64) x388000_1)) := ⟨(by rw [hw]; exact (by (with_reducible repeat (first | refine blk_drewN ?_ _ | refine blk_drew ?_ | refine blk_alloc ?_ _)); refine Mp.far ?_ NB387_389.out _; (with_reducible repeat (first | refine blk_drewN ?_ _ | refine blk_drew ?_ | refine blk_alloc ?_ _)); refine Mp.far ?_ NB387_389.out _; (with_reducible repeat (first | refine blk_drewN ?_ _ | refine blk_drew ?_ | refine blk_alloc ?_ _)); refine Mp.far ?_ NB387_389.out _; (with_reducible repeat (first | refine blk_drewN ?_ _ | refine blk_drew ?_ | refine blk_alloc ?_ _)); exact BK387.out))⟩; have n5_ : Aside0 (w123.heap[gb389]? = some (.cells #[.int .i64 ((rd_T96 l1 x22_1).f0), .int .i64 ((rd_T96 l1 x22_1).f1), .int .i64 ((rd_T96 l1 x22_1).f2)] 96 (0, 0))) := ⟨(by rw [hw]; exact (by (with_reducible repeat (first | refine blk_drewN ?_ _ | refine blk_drew ?_ | refine blk_alloc ?_ _)); refine blk_put (cs := #[.int .i64 ((rd_T96 l1 x22_1).f0), .int .i64 ((rd_T96 l1 x22_1).f1), .int .i64 0]) ?_ 2 _ rfl; (with_reducible repeat (first | refine blk_drewN ?_ _ | refine blk_drew ?_ | refine blk_alloc ?_ _)); refine blk_put (cs := #[.int .i64 ((rd_T96 l1 x22_1).f0), .int .i64 0, .int .i64 0]) ?_ 1 _ rfl; (with_reducible repeat (first | refine blk_drewN ?_ _ | refine blk_drew ?_ | refine blk_alloc ?_ _)); refine blk_put (cs := #[.int .i64 0, .int .i64 0, .int .i64 0]) ?_ 0 _ rfl; (with_reducible repeat (first | refine blk_drewN ?_ _ | refine blk_drew ?_ | refine blk_alloc ?_ _)); exact BK389.out))⟩; have n6_ : Aside0 (Below w.heap.size w w123) := ⟨(by rw [hw]; exact zb)⟩; clear hw; clear HO_8; clear HO_9; clear BK379; clear BK380; clear BK387; clear BK389; clear HB; have HO_8 := n0_; have HO_9 := n1_; have BK379 := n2_; have BK380 := n3_; have BK387 := n4_; have BK389 := n5_; have HB := n6_; clear n0_ n1_ n2_ n3_ n4_ n5_ n6_; obtain ⟨hcz124_0, hcz124_1, hcz124_2, hfz124_0, hfz124_1, hfz124_2⟩ := zc3 BK389.out; have hnb125 := NB387_379.out; have hnc125 := NB379_387.out; have hnb126 := NB387_380.out; have hnc126 := NB380_387.out; have hlz127_true : ∀ k_ : Int, (Instr.lookup 111 (.map (some gb387)) (.int .i64 k_) true).run Try.prog w123 = .ok (.tuple #[(Value.int .i64) (Mp.mget (0 : Int) x388000_1 k_), .bool (Mp.mhas x388000_1 k_)]) w123 := fun k_ => Mp.run_lookup (enc := (Value.int .i64)) Try.underlying111 Try.underlying3 (0 : Int) (fun w_ => impl_spoken.zeroM111 w_) BK387.out k_ true; have hlz127_false : ∀ k_ : Int, (Instr.lookup 111 (.map (some gb387)) (.int .i64 k_) false).run Try.prog w123 = .ok ((Value.int .i64) (Mp.mget (0 : Int) x388000_1 k_)) w123 := fun k_ => Mp.run_lookup (enc := (Value.int .i64)) Try.underlying111 Try.underlying3 (0 : Int) (fun w_ => impl_spoken.zeroM111 w_) BK387.out k_ false; have hlz127_truen : ∀ (n_ : Nat) (k_ : Int), (Instr.lookup 111 (.map (some gb387)) (.int .i64 k_) true).run Try.prog (w123.drewN n_) = .ok (.tuple #[(Value.int .i64) (Mp.mget (0 : Int) x388000_1 k_), .bool (Mp.mhas x388000_1 k_)]) (w123.drewN n_) := fun n_ k_ => Mp.run_lookup (enc := (Value.int .i64)) Try.underlying111 Try.underlying3 (0 : Int) (fun w_ => impl_spoken.zeroM111 w_) (show (w123.drewN n_).heap[gb387]? = _ from BK387.out) k_ true; have hlz127_falsen : ∀ (n_ : Nat) (k_ : Int), (Instr.lookup 111 (.map (some gb387)) (.int .i64 k_) false).run Try.prog (w123.drewN n_) = .ok ((Value.int .i64) (Mp.mget (0 : Int) x388000_1 k_)) (w123.drewN n_) := fun n_ k_ => Mp.run_lookup (enc := (Value.int .i64)) Try.underlying111 Try.underlying3 (0 : Int) (fun w_ => impl_spoken.zeroM111 w_) (show (w123.drewN n_).heap[gb387]? = _ from BK387.out) k_ false; have hnb128 := NB380_379.out; have hnc128 := NB379_380.out; obtain ⟨hcz129_0, hcz129_1, hcz129_2, hfz129_0, hfz129_1, hfz129_2⟩ := zc3 BK380.out; obtain ⟨hcz130_0, hcz130_1, hfz130_0, hfz130_1⟩ := zc2 BK379.out) | (at_mapUpdate; refine Mp.put_event (t := 111) Try.underlying111 Try.underlying3 (Value.int .i64) rfl rfl rfl zk rfl ((rd_T96 l1 x22_1).f0) ((rd_T96 l1 x22_1).f1) ?hx ?hy ?_; (case hx => first | rfl | (go_simp; done) | (go_simp; rfl)); (case hy => first | rfl | (go_simp; done) | (go_simp; rfl)); intro w131 hp_ hg; have n0_ := zm (Mp.R_put (by (with_reducible repeat (first | apply Kd.R_alloc | apply Kd.R_drewN | apply Kd.R_drew)); exact HO_8.out) zk hg); have n1_ := zm (Mp.R_put (by (with_reducible repeat (first | apply Kd.R_alloc | apply Kd.R_drewN | apply Kd.R_drew)); exact HO_9.out) zk hg); have n2_ := zm (Mp.blk_put (by exact BK379.out) hg NB379_387.out); have n3_ := zm (Mp.blk_put (by exact BK380.out) hg NB380_387.out); have n4_ := zm (hp_); have n5_ := zm (Mp.blk_put (by exact BK389.out) hg NB389_387.out); have n6_ := zm (Below.grown zb hg (below_size zb) (fun j_ hj_ => by cases hj_; exact GE387.out)); clear HO_8; clear HO_9; clear BK379; clear BK380; clear BK387; clear BK389; clear HB; have HO_8 := n0_; have HO_9 := n1_; have BK379 := n2_; have BK380 := n3_; have BK387 := n4_; have BK389 := n5_; have HB := n6_; clear n0_ n1_ n2_ n3_ n4_ n5_ n6_; clear hp_ hg; obtain ⟨hcz132_0, hcz132_1, hfz132_0, hfz132_1⟩ := zc2 BK379.out; obtain ⟨hcz133_0, hcz133_1, hcz133_2, hfz133_0, hfz133_1, hfz133_2⟩ := zc3 BK389.out; have p409 : 0 ≤ (((rd_T96 l1 x22_1).f0) : Int) := zd; have q409 : ((rd_T96 l1 x22_1).f0) < (l0_0.length : Int) := zd; obtain ⟨ad409, e409, hx409_0⟩ := Kd.at_int HR0_0.out ((rd_T96 l1 x22_1).f0) p409 q409; cases e409; replace hx409_0 := zx HB.out hx409_0; replace p409 := eq_true p409; replace q409 := eq_true q409) | ((with_reducible refine gate_builtin (b := .append) (xs := #[.tmp 87, .tmp 97]) rfl ?_); at_builtin; refine Kd.R_append k93 (w0 := w) w.heap.size rfl (.tmp 87) (.tmp 97) 89 93 (.agg #[(.int .i64 0), (.int .i64 0), (.int .i64 0)]) 24 rfl Try.underlying89 info93 rfl (by decide) (by omega) u8 x8_1 (⟨rd l0_0 ((rd_T96 l1 x22_1).f0), wrap64 (((rd_T96 l1 x22_1).f1) + a2_0), wrap64 (((rd_T96 l1 x22_1).f2) + a2_1)⟩ : S93) [.int .i64 (rd l0_0 ((rd_T96 l1 x22_1).f0)), .int .i64 (wrap64 (((rd_T96 l1 x22_1).f1) + a2_0)), .int .i64 (wrap64 (((rd_T96 l1 x22_1).f2) + a2_1))] (fun _ => True) (fun _ => False) rfl rfl ?aP (fun _ hk => hk.elim) ?aF ?aO ?aB ?aS ?aL ?_; (case aP => exact k93_mkM _ _ _ (⟨rd l0_0 ((rd_T96 l1 x22_1).f0), wrap64 (((rd_T96 l1 x22_1).f1) + a2_0), wrap64 (((rd_T96 l1 x22_1).f2) + a2_1)⟩ : S93)); (case aB => exact zb); (case aF => exact (fun _ _ => trivial)); (case aO => exact (by (with_reducible repeat (first | apply Kd.R_alloc | apply Kd.R_drewN | apply Kd.R_drew)); exact HO_8.out)); (case aS => exact (below_size zb)); (case aL => have := LMc117.out; omega); intro v411 w134 ho hb hg hat; rw [← Ny410.out] at ho; have n0_ := zm (Kd.R_over' (by (with_reducible repeat (first | apply Kd.R_alloc | apply Kd.R_drewN | apply Kd.R_drew)); exact HO_9.out) (Kd.R_typed (by (with_reducible repeat (first | apply Kd.R_alloc | apply Kd.R_drewN | apply Kd.R_drew)); exact HO_8.out)) (by decide) hg); have n1_ := zm (blk_grown (g := gb379) (o := .cells #[.slice (some ad409) l0_0.length c0_0, .int .i64 a0_1] 45 (0, 0)) zk hg (Kd.R_ne HO_8.out BK379.out (by decide))); have n2_ := zm (blk_grown (g := gb380) (o := .cells #[.int .i64 a2_0, .int .i64 a2_1, .int .i64 a2_2] 31 (0, 0)) zk hg (Kd.R_ne HO_8.out BK380.out (by decide))); have n3_ := zm (blk_grown (g := gb387) (o := Mp.mObj (Value.int .i64) (Mp.mput x388000_1 ((rd_T96 l1 x22_1).f0) ((rd_T96 l1 x22_1).f1))) zk hg (Mp.R_ne HO_8.out BK387.out)); have n4_ := zm (blk_grown (g := gb389) (o := .cells #[.int .i64 ((rd_T96 l1 x22_1).f0), .int .i64 ((rd_T96 l1 x22_1).f1), .int .i64 ((rd_T96 l1 x22_1).f2)] 96 (0, 0)) zk hg (Kd.R_ne HO_8.out BK389.out (by decide))); have n5_ := zm (hb); have n6_ := zm (ho); clear HO_9; clear BK379; clear BK380; clear BK387; clear BK389; clear HB; clear HO_8; have HO_9 := n0_; have BK379 := n1_; have BK380 := n2_; have BK387 := n3_; have BK389 := n4_; have HB := n5_; have HO412 := n6_; clear n0_ n1_ n2_ n3_ n4_ n5_ n6_; clear ho hb hg hat) | ((with_reducible refine impl_spoken.gq ?_); go_quiet (fail)))
             go_roundg k1
             case measure => have := HK1.out; omega
             case rel => exact ⟨(y410), (x9_1), (wrap64 (x22_1 + 1)), (Mp.mput x388000_1 ((rd_T96 l1 x22_1).f0) ((rd_T96 l1 x22_1).f1)), (by first | rfl | (simp; done) | (simp [*]; done)), H', ⟨by have := HK1.out; omega⟩, ⟨by (with_reducible repeat (first | apply Kd.R_alloc | apply Kd.R_drewN | apply Kd.R_drew)); exact HO412.out⟩, ⟨by (with_reducible repeat (first | apply Kd.R_alloc | apply Kd.R_drewN | apply Kd.R_drew)); exact HO_9.out⟩, ⟨zk⟩, ⟨zk⟩, ⟨zk⟩, ⟨zb⟩⟩
            ·
             rw [if_neg c117] at H
             exact absurd H (by simp)
           ·
            rw [if_neg c116] at H
            exact absurd H (by simp)
          ·
           rw [if_neg c115] at H
           exact absurd H (by simp)
     ·
      rw [if_neg c13] at H
      exact absurd H (by simp)
    ·
     rw [if_neg c12] at H
     exact absurd H (by simp)
   ·
    rw [if_neg c11] at H
    have c11b0 : decide (x22_1 < (l1.length : Int)) = false := decide_eq_false c11
    clear c11
    simp only [Option.some.injEq, Prod.mk.injEq] at H
    obtain ⟨rfl, rfl⟩ := H
    go_wp2
    repeat (go_quiet (fail); try go_wp2)
    go_ret2
    exact ⟨_, _, zr, by (with_reducible repeat (first | apply Kd.R_alloc | apply Kd.R_drewN | apply Kd.R_drew)); exact HO_8.out, by (with_reducible repeat (first | apply Kd.R_alloc | apply Kd.R_drewN | apply Kd.R_drew)); exact HO_9.out, zb⟩

end Go.Proofs.Ytjjjikdpegogcaa.PRr
