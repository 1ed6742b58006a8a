-- Written for this claim by a program of this session (wip/tpl/patchprint.py), not by print.sh.
import Derived.Test.YtjjjikdpegogcaaPRrx0
import Derived.Test.YtjjjikdpegogcaaPRrx1
import Derived.Test.YtjjjikdpegogcaaPRrx3
import Derived.Test.YtjjjikdpegogcaaPRrx10
namespace Go.Proofs.Ytjjjikdpegogcaa.PRr
open Go.RowKit Go.Proofs.YtjjjikdpegogcaaW.PrintWords Go.Proofs.YtjjjikdpegogcaaW.PrintLast Go.Proofs.YtjjjikdpegogcaaW.PrintMore
attribute [local go_sem] max2_int min2_int max_two min_two max_three min_three max_four min_four   -- for this text's walks alone
set_option linter.unusedVariables false
set_option linter.unusedSimpArgs false

/-! ### spec_l1Rising: function 153 -/
def spec_l1Rising.l0 : Nat → List Int → Int → Int → List Int → Int → Int → Option (Bool)
  | 0, _, _, _, _, _, _ => none
  | k + 1, x0, x1, x2, x9, x10, x11 => if x11 < x10 then (if 0 ≤ x11 then (if x11 < (x9.length : Int) then ((spec_l1In.f (rd x9 x11) x1 x2).bind fun t275 => (if t275 = true then (if x11 > 0 then (if 0 ≤ (wrap64 (x11 - 1)) then (if (wrap64 (x11 - 1)) < (x0.length : Int) then (if (rd x0 (wrap64 (x11 - 1))) ≥ (rd x9 x11) then (some false) else (spec_l1Rising.l0 k x0 x1 x2 x9 x10 (wrap64 (x11 + 1)))) else (none)) else (none)) else (spec_l1Rising.l0 k x0 x1 x2 x9 x10 (wrap64 (x11 + 1)))) else (some false))) else (none)) else (none)) else (some true)
def spec_l1Rising.f (k : Nat) (l0 : List Int) (a1 : Int) (a2 : Int) : Option (Bool) := spec_l1Rising.l0 k l0 a1 a2 l0 (l0.length : Int) 0
theorem spec_l1Rising.mono_l : ∀ k, (∀ y0 y1 y2 y3 y4 y5, LeO (spec_l1Rising.l0 k y0 y1 y2 y3 y4 y5) (spec_l1Rising.l0 (k + 1) y0 y1 y2 y3 y4 y5))
  | 0 => fun _ _ _ _ _ _ r h => by simp [spec_l1Rising.l0] at h
  | k + 1 => by
    have ih0 := spec_l1Rising.mono_l k
    · intro y0 y1 y2 y3 y4 y5
      unfold spec_l1Rising.l0
      repeat' first
      | (with_reducible exact ih0 _ _ _ _ _ _)
      | (with_reducible exact LeO.refl _)
      | (with_reducible exact LeO.none _)
      | (with_reducible refine LeO.ite ?_ ?_)
      | (with_reducible refine LeO.bind ?_ (fun _ => ?_))
      | exact ih0 _ _ _ _ _ _
      | exact LeO.none _
      | refine LeO.ite ?_ ?_
      | refine LeO.bind ?_ (fun _ => ?_)
theorem spec_l1Rising.mono : ∀ a0 a1 a2 k, LeO (spec_l1Rising.f k a0 a1 a2) (spec_l1Rising.f (k + 1) a0 a1 a2) := by
  intro a0 a1 a2 k
  have ih0 := spec_l1Rising.mono_l k
  unfold spec_l1Rising.f
  repeat' first
      | (with_reducible exact ih0 _ _ _ _ _ _)
      | (with_reducible exact LeO.refl _)
      | (with_reducible exact LeO.none _)
      | (with_reducible refine LeO.ite ?_ ?_)
      | (with_reducible refine LeO.bind ?_ (fun _ => ?_))
      | exact ih0 _ _ _ _ _ _
      | exact LeO.none _
      | refine LeO.ite ?_ ?_
      | refine LeO.bind ?_ (fun _ => ?_)
set_option maxHeartbeats 8000000 in
set_option maxRecDepth 100000 in
theorem spec_l1Rising.calls (k : Nat) (A0 : Option Addr) (c0 : Nat) (l0 : List Int) (a1 : Int) (a2 : Int) (r : Bool) (w : World) (hr0 : Kd.C (Kd.int .i64) w A0 l0.length l0) (hc0 : l0.length ≤ c0) (h : spec_l1Rising.f k l0 a1 a2 = some r) :
  Calls Try.prog 153 #[.slice A0 l0.length c0, .int .i64 a1, .int .i64 a2] w fun e w' => e = .returned (.bool r) ∧ Drawn0 w w' := by
 have HR0 := zm hr0
 have HC0 := zm hc0
 clear hr0 hc0
 have H : (spec_l1Rising.l0 k l0 a1 a2 l0 (l0.length : Int) 0) = some r := h
 clear h
 have H' := zm H
 clear H
 go_enter Try.func153, Try.ntmps153
 go_wp2
 go_loopg [11] k (fun kq v11 w' => ∃ (x11_1 : Int), v11 = .int .i64 x11_1 ∧ Aside0 (spec_l1Rising.l0 kq l0 a1 a2 l0 (l0.length : Int) x11_1 = some r) ∧ Aside0 (kq ≤ k) ∧ Drawn0 w w')
 case atStart => exact ⟨(0), (by first | rfl | (simp; done) | (simp [*]; done)), H', ⟨Nat.le_refl _⟩, by repeat (first | exact Drawn0.refl _ | apply Drawn0.step)⟩
 case round =>
  clear H'
  (try clear c1); (try clear p2)
  obtain ⟨x11_1, rfl, HA, HK1, ⟨m1, rfl⟩⟩ := hrel
  cases gk with
  | zero => exact absurd HA.out (by simp [spec_l1Rising.l0])
  | succ k1 =>
   have H := HA.out
   clear HA
   simp only [spec_l1Rising.l0] at H
   by_cases c4 : x11_1 < (l0.length : Int)
   ·
    rw [if_pos c4] at H
    have c4b0 : decide (x11_1 < (l0.length : Int)) = true := decide_eq_true c4
    clear c4
    by_cases c5 : 0 ≤ x11_1
    ·
     rw [if_pos c5] at H
     have c5b0 : decide (0 ≤ x11_1) = true := decide_eq_true c5
     clear c5
     by_cases c6 : x11_1 < (l0.length : Int)
     ·
      rw [if_pos c6] at H
      have c6b0 : decide (x11_1 < (l0.length : Int)) = true := decide_eq_true c6
      clear c6
      replace H := Option.bind_eq_some_iff.mp H
      obtain ⟨t275, A70, H⟩ := H
      (try dsimp only at H)
      have A7 := zm A70
      clear A70
      by_cases c8 : t275 = true
      ·
       subst c8
       have H1 : (if x11_1 > 0 then (if 0 ≤ (wrap64 (x11_1 - 1)) then (if (wrap64 (x11_1 - 1)) < (l0.length : Int) then (if (rd l0 (wrap64 (x11_1 - 1))) ≥ (rd l0 x11_1) then (some false) else (spec_l1Rising.l0 k1 l0 a1 a2 l0 (l0.length : Int) (wrap64 (x11_1 + 1)))) else (none)) else (none)) else (spec_l1Rising.l0 k1 l0 a1 a2 l0 (l0.length : Int) (wrap64 (x11_1 + 1)))) = some r := by rw [if_pos rfl] at H; exact H
       clear H
       have H := H1
       clear H1
       by_cases c9 : x11_1 > 0
       ·
        rw [if_pos c9] at H
        have c9b0 : decide (0 < x11_1) = true := decide_eq_true c9
        clear c9
        obtain ⟨ji10, hji10⟩ : ∃ j_ : Int, (wrap64 (x11_1 - 1)) = j_ := ⟨_, rfl⟩
        replace H : (if 0 ≤ (ji10) then (if (ji10) < (l0.length : Int) then (if (rd l0 (ji10)) ≥ (rd l0 x11_1) then (some false) else (spec_l1Rising.l0 k1 l0 a1 a2 l0 (l0.length : Int) (wrap64 (x11_1 + 1)))) else (none)) else (none)) = some r := by first | (rw [hji10] at H; exact H) | (simp only [hji10] at H ⊢; exact H)
        (try rw [hji10] at A7)
        have hji10w : (IntKind.i64.wrap (x11_1 - 1)) = ji10 := (i64_w _).trans hji10
        by_cases c11 : 0 ≤ (ji10)
        ·
         rw [if_pos c11] at H
         have c11b0 : decide (0 ≤ (ji10)) = true := decide_eq_true c11
         clear c11
         by_cases c12 : (ji10) < (l0.length : Int)
         ·
          rw [if_pos c12] at H
          have c12b0 : decide ((ji10) < (l0.length : Int)) = true := decide_eq_true c12
          clear c12
          by_cases c13 : (rd l0 (ji10)) ≥ (rd l0 x11_1)
          ·
           rw [if_pos c13] at H
           have c13b0 : decide ((rd l0 x11_1) ≤ (rd l0 (ji10))) = true := decide_eq_true c13
           clear c13
           obtain rfl := Option.some.inj H
           have p274 : 0 ≤ (x11_1 : Int) := zd
           have q274 : x11_1 < (l0.length : Int) := zd
           obtain ⟨ad274, e274, hx274_0⟩ := Kd.at_int HR0.out x11_1 p274 q274
           cases e274
           replace p274 := eq_true p274
           replace q274 := eq_true q274
           go_wp2_with (first | ((with_reducible refine gate_callee (f := 96) rfl ?_); refine goesA_ (some 19) Try.func96 #[.int .i64 (rd l0 x11_1), .int .i64 a1, .int .i64 a2] rfl ?_; (with_reducible refine (spec_l1In.calls (rd l0 x11_1) a1 a2 true _ A7.out).mono ?_); rintro e w' ⟨rfl, ⟨nd, rfl⟩⟩; refine ⟨_, rfl, ?_⟩; have p276 : 0 ≤ ((ji10) : Int) := zd; have q276 : (ji10) < (l0.length : Int) := zd; obtain ⟨ad276, e276, hx276_0⟩ := Kd.at_int HR0.out (ji10) p276 q276; obtain rfl : ad274 = ad276 := (by injection e276); replace p276 := eq_true p276; replace q276 := eq_true q276))
           go_ret
           exact ⟨by first | rfl | (simp; done) | (simp only [← hji10] <;> (first | rfl | simp)) | (simp [*]; done), by repeat (first | exact Drawn0.refl _ | apply Drawn0.step)⟩
          ·
           rw [if_neg c13] at H
           have c13b0 : decide ((rd l0 x11_1) ≤ (rd l0 (ji10))) = false := decide_eq_false c13
           clear c13
           have H' := zm H
           clear H
           have p274 : 0 ≤ (x11_1 : Int) := zd
           have q274 : x11_1 < (l0.length : Int) := zd
           obtain ⟨ad274, e274, hx274_0⟩ := Kd.at_int HR0.out x11_1 p274 q274
           cases e274
           replace p274 := eq_true p274
           replace q274 := eq_true q274
           go_wp2_with (first | ((with_reducible refine gate_callee (f := 96) rfl ?_); refine goesA_ (some 19) Try.func96 #[.int .i64 (rd l0 x11_1), .int .i64 a1, .int .i64 a2] rfl ?_; (with_reducible refine (spec_l1In.calls (rd l0 x11_1) a1 a2 true _ A7.out).mono ?_); rintro e w' ⟨rfl, ⟨nd, rfl⟩⟩; refine ⟨_, rfl, ?_⟩; have p276 : 0 ≤ ((ji10) : Int) := zd; have q276 : (ji10) < (l0.length : Int) := zd; obtain ⟨ad276, e276, hx276_0⟩ := Kd.at_int HR0.out (ji10) p276 q276; obtain rfl : ad274 = ad276 := (by injection e276); replace p276 := eq_true p276; replace q276 := eq_true q276))
           go_roundg k1
           case measure => have := HK1.out; omega
           case rel => exact ⟨(wrap64 (x11_1 + 1)), (by first | rfl | (simp; done) | (simp [*]; done)), H', ⟨by have := HK1.out; omega⟩, by repeat (first | exact Drawn0.refl _ | apply Drawn0.step)⟩
         ·
          rw [if_neg c12] at H
          exact absurd H (by simp)
        ·
         rw [if_neg c11] at H
         exact absurd H (by simp)
       ·
        rw [if_neg c9] at H
        have c9b0 : decide (0 < x11_1) = false := decide_eq_false c9
        clear c9
        have H' := zm H
        clear H
        have p274 : 0 ≤ (x11_1 : Int) := zd
        have q274 : x11_1 < (l0.length : Int) := zd
        obtain ⟨ad274, e274, hx274_0⟩ := Kd.at_int HR0.out x11_1 p274 q274
        cases e274
        replace p274 := eq_true p274
        replace q274 := eq_true q274
        go_wp2_with (first | ((with_reducible refine gate_callee (f := 96) rfl ?_); refine goesA_ (some 19) Try.func96 #[.int .i64 (rd l0 x11_1), .int .i64 a1, .int .i64 a2] rfl ?_; (with_reducible refine (spec_l1In.calls (rd l0 x11_1) a1 a2 true _ A7.out).mono ?_); rintro e w' ⟨rfl, ⟨nd, rfl⟩⟩; refine ⟨_, rfl, ?_⟩))
        go_roundg k1
        case measure => have := HK1.out; omega
        case rel => exact ⟨(wrap64 (x11_1 + 1)), (by first | rfl | (simp; done) | (simp [*]; done)), H', ⟨by have := HK1.out; omega⟩, by repeat (first | exact Drawn0.refl _ | apply Drawn0.step)⟩
      ·
       replace c8 := Bool.eq_false_iff.mpr c8
       subst c8
       have H1 : (some false) = some r := by rw [if_neg (show ¬ (false = true) by decide)] at H; exact H
       clear H
       have H := H1
       clear H1
       obtain rfl := Option.some.inj H
       have p274 : 0 ≤ (x11_1 : Int) := zd
       have q274 : x11_1 < (l0.length : Int) := zd
       obtain ⟨ad274, e274, hx274_0⟩ := Kd.at_int HR0.out x11_1 p274 q274
       cases e274
       replace p274 := eq_true p274
       replace q274 := eq_true q274
       go_wp2_with (first | ((with_reducible refine gate_callee (f := 96) rfl ?_); refine goesA_ (some 19) Try.func96 #[.int .i64 (rd l0 x11_1), .int .i64 a1, .int .i64 a2] rfl ?_; (with_reducible refine (spec_l1In.calls (rd l0 x11_1) a1 a2 false _ A7.out).mono ?_); rintro e w' ⟨rfl, ⟨nd, rfl⟩⟩; refine ⟨_, rfl, ?_⟩))
       go_ret
       exact ⟨by first | rfl | (simp; done) | (simp [*]; done), by repeat (first | exact Drawn0.refl _ | apply Drawn0.step)⟩
     ·
      rw [if_neg c6] at H
      exact absurd H (by simp)
    ·
     rw [if_neg c5] at H
     exact absurd H (by simp)
   ·
    rw [if_neg c4] at H
    have c4b0 : decide (x11_1 < (l0.length : Int)) = false := decide_eq_false c4
    clear c4
    obtain rfl := Option.some.inj H
    go_wp2
    go_ret
    exact ⟨by first | rfl | (simp; done) | (simp [*]; done), by repeat (first | exact Drawn0.refl _ | apply Drawn0.step)⟩

/-! ### spec_inGood: function 135 -/
def spec_inGood.f (k : Nat) (l0_0 : List Int) (a0_1 : Int) : Option (Bool) := (spec_l1In.f (l0_0.length : Int) 1 20).bind fun t278 => (if t278 = true then ((spec_l1Rising.f k l0_0 24 96).bind fun t279 => (if t279 = true then ((spec_l1In.f a0_1 1 20).bind fun t280 => (some t280)) else (some false))) else (some false))
theorem spec_inGood.mono : ∀ a0 a1 k, LeO (spec_inGood.f k a0 a1) (spec_inGood.f (k + 1) a0 a1) := by
  intro a0 a1 k
  unfold spec_inGood.f
  repeat' first
      | (with_reducible exact spec_l1Rising.mono _ _ _ _)
      | (with_reducible exact LeO.refl _)
      | (with_reducible exact LeO.none _)
      | (with_reducible refine LeO.ite ?_ ?_)
      | (with_reducible refine LeO.bind ?_ (fun _ => ?_))
      | exact spec_l1Rising.mono _ _ _ _
      | exact LeO.none _
      | refine LeO.ite ?_ ?_
      | refine LeO.bind ?_ (fun _ => ?_)
set_option maxHeartbeats 8000000 in
set_option maxRecDepth 100000 in
theorem spec_inGood.calls (k : Nat) (A0_0 : Option Addr) (c0_0 : Nat) (l0_0 : List Int) (a0_1 : Int) (r : Bool) (w : World) (hr0_0 : Kd.C (Kd.int .i64) w A0_0 l0_0.length l0_0) (hc0_0 : l0_0.length ≤ c0_0) (h : spec_inGood.f k l0_0 a0_1 = some r) :
  Calls Try.prog 135 #[.agg #[.slice A0_0 l0_0.length c0_0, .int .i64 a0_1]] w fun e w' => e = .returned (.bool r) ∧ Below w.heap.size w w' := by
 have hu45 := Try.underlying45
 have HR0_0 := zm hr0_0
 have HC0_0 := zm hc0_0
 clear hr0_0 hc0_0
 have HB := zm (Below.refl w.heap.size w)
 have H : ((spec_l1In.f (l0_0.length : Int) 1 20).bind fun t278 => (if t278 = true then ((spec_l1Rising.f k l0_0 24 96).bind fun t279 => (if t279 = true then ((spec_l1In.f a0_1 1 20).bind fun t280 => (some t280)) else (some false))) else (some false))) = some r := h
 clear h
 replace H := Option.bind_eq_some_iff.mp H
 obtain ⟨t278, A20, H⟩ := H
 (try dsimp only at H)
 have A2 := zm A20
 clear A20
 by_cases c3 : t278 = true
 ·
  subst c3
  have H1 : ((spec_l1Rising.f k l0_0 24 96).bind fun t279 => (if t279 = true then ((spec_l1In.f a0_1 1 20).bind fun t280 => (some t280)) else (some false))) = some r := by rw [if_pos rfl] at H; exact H
  clear H
  have H := H1
  clear H1
  replace H := Option.bind_eq_some_iff.mp H
  obtain ⟨t279, A40, H⟩ := H
  (try dsimp only at H)
  have A4 := zm A40
  clear A40
  by_cases c5 : t279 = true
  ·
   subst c5
   have H1 : ((spec_l1In.f a0_1 1 20).bind fun t280 => (some t280)) = some r := by rw [if_pos rfl] at H; exact H
   clear H
   have H := H1
   clear H1
   replace H := Option.bind_eq_some_iff.mp H
   obtain ⟨t280, A60, H⟩ := H
   (try dsimp only at H)
   have A6 := zm A60
   clear A60
   obtain rfl := Option.some.inj H
   go_enter Try.func135, Try.ntmps135
   go_wp2_with (first | ((with_reducible refine gate_dst (N := 1) rfl ?_); refine box_event ?hg (N := 1) ?hd (cs := #[.slice A0_0 l0_0.length c0_0, .int .i64 a0_1]) (t := 45) ?hr ?_; (case hd => rfl); (case hg => rfl); (case hr => first | (go_simp; done) | (go_simp; rfl)); intro gb277 hg w7 hbox hb; have n0_ := zm (below_step zb hb); have n1_ := zm (hbox); have n2_ := zm (zs hg zb : w.heap.size ≤ gb277); have n3_ := zm (zs hg zb : w.heap.size ≤ gb277); clear HB; have HB := n0_; have BK277 := n1_; have GW277 := n2_; have GE277 := n3_; clear n0_ n1_ n2_ n3_; clear hb hbox hg; obtain ⟨hcz8_0, hcz8_1, hfz8_0, hfz8_1⟩ := zc2 BK277.out) | ((with_reducible refine gate_callee (f := 96) rfl ?_); refine goesA_ (some 6) Try.func96 #[.int .i64 (l0_0.length : Int), .int .i64 1, .int .i64 20] rfl ?_; (with_reducible refine (spec_l1In.calls (l0_0.length : Int) 1 20 true _ A2.out).mono ?_); rintro e w' ⟨rfl, ⟨nd, rfl⟩⟩; refine ⟨_, rfl, ?_⟩) | (go_at_call 153; (with_reducible refine (spec_l1Rising.calls k _ _ l0_0 24 96 true _ ?side1 ?side2 A4.out).mono ?_); (case side1 => repeat (first | exact (Kd.C_below HR0_0.out zb) | (with_reducible refine Kd.C_alloc ?_ _) | (with_reducible refine Kd.C_drewN ?_ _) | (with_reducible refine Kd.C_drew ?_))); (case side2 => exact HC0_0.out); rintro e w' ⟨rfl, ⟨nd, rfl⟩⟩) | (go_at_call 96; (with_reducible refine (spec_l1In.calls a0_1 1 20 t280 _ A6.out).mono ?_); rintro e w' ⟨rfl, ⟨nd, rfl⟩⟩))
   go_ret
   exact ⟨zr, zb⟩
  ·
   replace c5 := Bool.eq_false_iff.mpr c5
   subst c5
   have H1 : (some false) = some r := by rw [if_neg (show ¬ (false = true) by decide)] at H; exact H
   clear H
   have H := H1
   clear H1
   obtain rfl := Option.some.inj H
   go_enter Try.func135, Try.ntmps135
   go_wp2_with (first | ((with_reducible refine gate_dst (N := 1) rfl ?_); refine box_event ?hg (N := 1) ?hd (cs := #[.slice A0_0 l0_0.length c0_0, .int .i64 a0_1]) (t := 45) ?hr ?_; (case hd => rfl); (case hg => rfl); (case hr => first | (go_simp; done) | (go_simp; rfl)); intro gb277 hg w9 hbox hb; have n0_ := zm (below_step zb hb); have n1_ := zm (hbox); have n2_ := zm (zs hg zb : w.heap.size ≤ gb277); have n3_ := zm (zs hg zb : w.heap.size ≤ gb277); clear HB; have HB := n0_; have BK277 := n1_; have GW277 := n2_; have GE277 := n3_; clear n0_ n1_ n2_ n3_; clear hb hbox hg; obtain ⟨hcz10_0, hcz10_1, hfz10_0, hfz10_1⟩ := zc2 BK277.out) | ((with_reducible refine gate_callee (f := 96) rfl ?_); refine goesA_ (some 6) Try.func96 #[.int .i64 (l0_0.length : Int), .int .i64 1, .int .i64 20] rfl ?_; (with_reducible refine (spec_l1In.calls (l0_0.length : Int) 1 20 true _ A2.out).mono ?_); rintro e w' ⟨rfl, ⟨nd, rfl⟩⟩; refine ⟨_, rfl, ?_⟩) | (go_at_call 153; (with_reducible refine (spec_l1Rising.calls k _ _ l0_0 24 96 false _ ?side1 ?side2 A4.out).mono ?_); (case side1 => repeat (first | exact (Kd.C_below HR0_0.out zb) | (with_reducible refine Kd.C_alloc ?_ _) | (with_reducible refine Kd.C_drewN ?_ _) | (with_reducible refine Kd.C_drew ?_))); (case side2 => exact HC0_0.out); rintro e w' ⟨rfl, ⟨nd, rfl⟩⟩))
   go_ret
   exact ⟨zr, zb⟩
 ·
  replace c3 := Bool.eq_false_iff.mpr c3
  subst c3
  have H1 : (some false) = some r := by rw [if_neg (show ¬ (false = true) by decide)] at H; exact H
  clear H
  have H := H1
  clear H1
  obtain rfl := Option.some.inj H
  go_enter Try.func135, Try.ntmps135
  go_wp2_with (first | ((with_reducible refine gate_dst (N := 1) rfl ?_); refine box_event ?hg (N := 1) ?hd (cs := #[.slice A0_0 l0_0.length c0_0, .int .i64 a0_1]) (t := 45) ?hr ?_; (case hd => rfl); (case hg => rfl); (case hr => first | (go_simp; done) | (go_simp; rfl)); intro gb277 hg w11 hbox hb; have n0_ := zm (below_step zb hb); have n1_ := zm (hbox); have n2_ := zm (zs hg zb : w.heap.size ≤ gb277); have n3_ := zm (zs hg zb : w.heap.size ≤ gb277); clear HB; have HB := n0_; have BK277 := n1_; have GW277 := n2_; have GE277 := n3_; clear n0_ n1_ n2_ n3_; clear hb hbox hg; obtain ⟨hcz12_0, hcz12_1, hfz12_0, hfz12_1⟩ := zc2 BK277.out) | ((with_reducible refine gate_callee (f := 96) rfl ?_); refine goesA_ (some 6) Try.func96 #[.int .i64 (l0_0.length : Int), .int .i64 1, .int .i64 20] rfl ?_; (with_reducible refine (spec_l1In.calls (l0_0.length : Int) 1 20 false _ A2.out).mono ?_); rintro e w' ⟨rfl, ⟨nd, rfl⟩⟩; refine ⟨_, rfl, ?_⟩))
  go_ret
  exact ⟨zr, zb⟩

/-! ### spec_laAsked: function 108 -/
def spec_laAsked.f (k : Nat) (l0_0 : List Int) (a0_1 : Int) (l1 : List (S96)) : Option (Bool) := (spec_inGood.f k l0_0 a0_1).bind fun t282 => (if t282 = true then ((spec_shGood.f k l1).bind fun t283 => (some t283)) else (some false))
theorem spec_laAsked.mono : ∀ a0 a1 a2 k, LeO (spec_laAsked.f k a0 a1 a2) (spec_laAsked.f (k + 1) a0 a1 a2) := by
  intro a0 a1 a2 k
  unfold spec_laAsked.f
  repeat' first
      | (with_reducible exact spec_inGood.mono _ _ _)
      | (with_reducible exact spec_shGood.mono _ _)
      | (with_reducible exact LeO.refl _)
      | (with_reducible exact LeO.none _)
      | (with_reducible refine LeO.ite ?_ ?_)
      | (with_reducible refine LeO.bind ?_ (fun _ => ?_))
      | exact spec_inGood.mono _ _ _
      | exact spec_shGood.mono _ _
      | exact LeO.none _
      | refine LeO.ite ?_ ?_
      | refine LeO.bind ?_ (fun _ => ?_)
set_option maxHeartbeats 8000000 in
set_option maxRecDepth 100000 in
theorem spec_laAsked.calls (k : Nat) (A0_0 : Option Addr) (c0_0 : Nat) (l0_0 : List Int) (a0_1 : Int) (A1 : Option Addr) (c1 : Nat) (l1 : List (S96)) (r : Bool) (w : World) (hr0_0 : Kd.C (Kd.int .i64) w A0_0 l0_0.length l0_0) (hc0_0 : l0_0.length ≤ c0_0) (hr1 : Kd.C k96 w A1 l1.length l1) (hc1 : l1.length ≤ c1) (h : spec_laAsked.f k l0_0 a0_1 l1 = some r) :
  Calls Try.prog 108 #[.agg #[.slice A0_0 l0_0.length c0_0, .int .i64 a0_1], .slice A1 l1.length c1] w fun e w' => e = .returned (.bool r) ∧ Below w.heap.size w w' := by
 have hu45 := Try.underlying45
 have HR0_0 := zm hr0_0
 have HC0_0 := zm hc0_0
 clear hr0_0 hc0_0
 have HR1 := zm hr1
 have HC1 := zm hc1
 clear hr1 hc1
 have HB := zm (Below.refl w.heap.size w)
 have H : ((spec_inGood.f k l0_0 a0_1).bind fun t282 => (if t282 = true then ((spec_shGood.f k l1).bind fun t283 => (some t283)) else (some false))) = some r := h
 clear h
 replace H := Option.bind_eq_some_iff.mp H
 obtain ⟨t282, A30, H⟩ := H
 (try dsimp only at H)
 have A3 := zm A30
 clear A30
 by_cases c4 : t282 = true
 ·
  subst c4
  have H1 : ((spec_shGood.f k l1).bind fun t283 => (some t283)) = some r := by rw [if_pos rfl] at H; exact H
  clear H
  have H := H1
  clear H1
  replace H := Option.bind_eq_some_iff.mp H
  obtain ⟨t283, A50, H⟩ := H
  (try dsimp only at H)
  have A5 := zm A50
  clear A50
  obtain rfl := Option.some.inj H
  go_enter Try.func108, Try.ntmps108
  go_wp2_with (first | ((with_reducible refine gate_dst (N := 2) rfl ?_); refine box_event ?hg (N := 2) ?hd (cs := #[.slice A0_0 l0_0.length c0_0, .int .i64 a0_1]) (t := 45) ?hr ?_; (case hd => rfl); (case hg => rfl); (case hr => first | (go_simp; done) | (go_simp; rfl)); intro gb281 hg w6 hbox hb; have n0_ := zm (below_step zb hb); have n1_ := zm (hbox); have n2_ := zm (zs hg zb : w.heap.size ≤ gb281); have n3_ := zm (zs hg zb : w.heap.size ≤ gb281); clear HB; have HB := n0_; have BK281 := n1_; have GW281 := n2_; have GE281 := n3_; clear n0_ n1_ n2_ n3_; clear hb hbox hg; obtain ⟨hcz7_0, hcz7_1, hfz7_0, hfz7_1⟩ := zc2 BK281.out) | ((with_reducible refine gate_callee (f := 135) rfl ?_); refine goesA_ (some 6) Try.func135 #[.agg #[.slice A0_0 l0_0.length c0_0, .int .i64 a0_1]] rfl ?_; (with_reducible refine (spec_inGood.calls k _ _ l0_0 a0_1 true _ ?side1 ?side2 A3.out).mono ?_); (case side1 => repeat (first | exact (Kd.C_below HR0_0.out HB.out) | (with_reducible refine Kd.C_alloc ?_ _) | (with_reducible refine Kd.C_drewN ?_ _) | (with_reducible refine Kd.C_drew ?_))); (case side2 => exact HC0_0.out); rintro e w8 ⟨rfl, hb⟩; refine ⟨_, rfl, ?_⟩; have n0_ := zm (blk_below (g := gb281) zk hb); have n1_ := zm (below_step zb hb); clear BK281; clear HB; have BK281 := n0_; have HB := n1_; clear n0_ n1_; (try clear hb); (try clear hb2); (try clear hk); (try clear hi)) | (go_at_call 75; (with_reducible refine (spec_shGood.calls k _ _ l1 t283 _ ?side1 ?side2 A5.out).mono ?_); (case side1 => repeat (first | exact (Kd.C_below HR1.out HB.out) | (with_reducible refine Kd.C_alloc ?_ _) | (with_reducible refine Kd.C_drewN ?_ _) | (with_reducible refine Kd.C_drew ?_))); (case side2 => exact HC1.out); rintro e w9 ⟨rfl, hb⟩; have n0_ := zm (blk_below (g := gb281) zk hb); have n1_ := zm (below_step zb hb); clear BK281; clear HB; have BK281 := n0_; have HB := n1_; clear n0_ n1_; (try clear hb); (try clear hb2); (try clear hk); (try clear hi)))
  go_ret
  exact ⟨zr, zb⟩
 ·
  replace c4 := Bool.eq_false_iff.mpr c4
  subst c4
  have H1 : (some false) = some r := by rw [if_neg (show ¬ (false = true) by decide)] at H; exact H
  clear H
  have H := H1
  clear H1
  obtain rfl := Option.some.inj H
  go_enter Try.func108, Try.ntmps108
  go_wp2_with (first | ((with_reducible refine gate_dst (N := 2) rfl ?_); refine box_event ?hg (N := 2) ?hd (cs := #[.slice A0_0 l0_0.length c0_0, .int .i64 a0_1]) (t := 45) ?hr ?_; (case hd => rfl); (case hg => rfl); (case hr => first | (go_simp; done) | (go_simp; rfl)); intro gb281 hg w10 hbox hb; have n0_ := zm (below_step zb hb); have n1_ := zm (hbox); have n2_ := zm (zs hg zb : w.heap.size ≤ gb281); have n3_ := zm (zs hg zb : w.heap.size ≤ gb281); clear HB; have HB := n0_; have BK281 := n1_; have GW281 := n2_; have GE281 := n3_; clear n0_ n1_ n2_ n3_; clear hb hbox hg; obtain ⟨hcz11_0, hcz11_1, hfz11_0, hfz11_1⟩ := zc2 BK281.out) | ((with_reducible refine gate_callee (f := 135) rfl ?_); refine goesA_ (some 6) Try.func135 #[.agg #[.slice A0_0 l0_0.length c0_0, .int .i64 a0_1]] rfl ?_; (with_reducible refine (spec_inGood.calls k _ _ l0_0 a0_1 false _ ?side1 ?side2 A3.out).mono ?_); (case side1 => repeat (first | exact (Kd.C_below HR0_0.out HB.out) | (with_reducible refine Kd.C_alloc ?_ _) | (with_reducible refine Kd.C_drewN ?_ _) | (with_reducible refine Kd.C_drew ?_))); (case side2 => exact HC0_0.out); rintro e w12 ⟨rfl, hb⟩; refine ⟨_, rfl, ?_⟩; have n0_ := zm (blk_below (g := gb281) zk hb); have n1_ := zm (below_step zb hb); clear BK281; clear HB; have BK281 := n0_; have HB := n1_; clear n0_ n1_; (try clear hb); (try clear hb2); (try clear hk); (try clear hi)))
  go_ret
  exact ⟨zr, zb⟩

/-! ### spec_pyAsked: function 68 -/
def spec_pyAsked.f (k : Nat) (l0_0 : List Int) (a0_1 : Int) (l1 : List (S96)) (a2_0 : Int) (a2_1 : Int) (a2_2 : Int) : Option (Bool) := (spec_laAsked.f k l0_0 a0_1 l1).bind fun t286 => (if t286 = true then ((spec_pyAction.f a2_0 a2_1 a2_2).bind fun t287 => (some t287)) else (some false))
theorem spec_pyAsked.mono : ∀ a0 a1 a2 a3 a4 a5 k, LeO (spec_pyAsked.f k a0 a1 a2 a3 a4 a5) (spec_pyAsked.f (k + 1) a0 a1 a2 a3 a4 a5) := by
  intro a0 a1 a2 a3 a4 a5 k
  unfold spec_pyAsked.f
  repeat' first
      | (with_reducible exact spec_laAsked.mono _ _ _ _)
      | (with_reducible exact LeO.refl _)
      | (with_reducible exact LeO.none _)
      | (with_reducible refine LeO.ite ?_ ?_)
      | (with_reducible refine LeO.bind ?_ (fun _ => ?_))
      | exact spec_laAsked.mono _ _ _ _
      | exact LeO.none _
      | refine LeO.ite ?_ ?_
      | refine LeO.bind ?_ (fun _ => ?_)
set_option maxHeartbeats 8000000 in
set_option maxRecDepth 100000 in
theorem spec_pyAsked.calls (k : Nat) (A0_0 : Option Addr) (c0_0 : Nat) (l0_0 : List Int) (a0_1 : Int) (A1 : Option Addr) (c1 : Nat) (l1 : List (S96)) (a2_0 : Int) (a2_1 : Int) (a2_2 : Int) (r : Bool) (w : World) (hr0_0 : Kd.C (Kd.int .i64) w A0_0 l0_0.length l0_0) (hc0_0 : l0_0.length ≤ c0_0) (hr1 : Kd.C k96 w A1 l1.length l1) (hc1 : l1.length ≤ c1) (h : spec_pyAsked.f k l0_0 a0_1 l1 a2_0 a2_1 a2_2 = some r) :
  Calls Try.prog 68 #[.agg #[.slice A0_0 l0_0.length c0_0, .int .i64 a0_1], .slice A1 l1.length c1, .agg #[.int .i64 a2_0, .int .i64 a2_1, .int .i64 a2_2]] w fun e w' => e = .returned (.bool r) ∧ Below w.heap.size w w' := by
 have hu45 := Try.underlying45
 have hu31 := Try.underlying31
 have HR0_0 := zm hr0_0
 have HC0_0 := zm hc0_0
 clear hr0_0 hc0_0
 have HR1 := zm hr1
 have HC1 := zm hc1
 clear hr1 hc1
 have HB := zm (Below.refl w.heap.size w)
 have H : ((spec_laAsked.f k l0_0 a0_1 l1).bind fun t286 => (if t286 = true then ((spec_pyAction.f a2_0 a2_1 a2_2).bind fun t287 => (some t287)) else (some false))) = some r := h
 clear h
 replace H := Option.bind_eq_some_iff.mp H
 obtain ⟨t286, A40, H⟩ := H
 (try dsimp only at H)
 have A4 := zm A40
 clear A40
 by_cases c5 : t286 = true
 ·
  subst c5
  have H1 : ((spec_pyAction.f a2_0 a2_1 a2_2).bind fun t287 => (some t287)) = some r := by rw [if_pos rfl] at H; exact H
  clear H
  have H := H1
  clear H1
  replace H := Option.bind_eq_some_iff.mp H
  obtain ⟨t287, A60, H⟩ := H
  (try dsimp only at H)
  have A6 := zm A60
  clear A60
  obtain rfl := Option.some.inj H
  go_enter Try.func68, Try.ntmps68
  go_wp2_with (first | ((with_reducible refine gate_dst (N := 3) rfl ?_); refine box_event ?hg (N := 3) ?hd (cs := #[.slice A0_0 l0_0.length c0_0, .int .i64 a0_1]) (t := 45) ?hr ?_; (case hd => rfl); (case hg => rfl); (case hr => first | (go_simp; done) | (go_simp; rfl)); intro gb284 hg w7 hbox hb; have n0_ := zm (below_step zb hb); have n1_ := zm (hbox); have n2_ := zm (zs hg zb : w.heap.size ≤ gb284); have n3_ := zm (zs hg zb : w.heap.size ≤ gb284); clear HB; have HB := n0_; have BK284 := n1_; have GW284 := n2_; have GE284 := n3_; clear n0_ n1_ n2_ n3_; clear hb hbox hg) | ((with_reducible refine gate_dst (N := 5) rfl ?_); refine box_event ?hg (N := 5) ?hd (cs := #[.int .i64 a2_0, .int .i64 a2_1, .int .i64 a2_2]) (t := 31) ?hr ?_; (case hd => rfl); (case hg => rfl); (case hr => first | (go_simp; done) | (go_simp; rfl)); intro gb285 hg w8 hbox hb; have n0_ := zm (blk_below (g := gb284) zk hb); have n1_ := zm (below_step zb hb); have n2_ := zm (hbox); have n3_ := zm (zs hg zb : w.heap.size ≤ gb285); have n4_ := zm (zs hg zb : w.heap.size ≤ gb285); have n5_ := zm (zl hg zk : gb284 ≠ gb285); have n6_ := zm (zg hg zk : gb285 ≠ gb284); clear BK284; clear HB; have BK284 := n0_; have HB := n1_; have BK285 := n2_; have GW285 := n3_; have GE285 := n4_; have NB284_285 := n5_; have NB285_284 := n6_; clear n0_ n1_ n2_ n3_ n4_ n5_ n6_; clear hb hbox hg; have hnb9 := NB284_285.out; have hnc9 := NB285_284.out; obtain ⟨hcz10_0, hcz10_1, hfz10_0, hfz10_1⟩ := zc2 BK284.out) | ((with_reducible refine gate_callee (f := 108) rfl ?_); refine goesA_ (some 9) Try.func108 #[.agg #[.slice A0_0 l0_0.length c0_0, .int .i64 a0_1], .slice A1 l1.length c1] rfl ?_; (with_reducible refine (spec_laAsked.calls k _ _ l0_0 a0_1 _ _ l1 true _ ?side1 ?side2 ?side3 ?side4 A4.out).mono ?_); (case side1 => repeat (first | exact (Kd.C_below HR0_0.out HB.out) | (with_reducible refine Kd.C_alloc ?_ _) | (with_reducible refine Kd.C_drewN ?_ _) | (with_reducible refine Kd.C_drew ?_))); (case side2 => exact HC0_0.out); (case side3 => repeat (first | exact (Kd.C_below HR1.out HB.out) | (with_reducible refine Kd.C_alloc ?_ _) | (with_reducible refine Kd.C_drewN ?_ _) | (with_reducible refine Kd.C_drew ?_))); (case side4 => exact HC1.out); rintro e w11 ⟨rfl, hb⟩; refine ⟨_, rfl, ?_⟩; have n0_ := zm (blk_below (g := gb284) zk hb); have n1_ := zm (blk_below (g := gb285) zk hb); have n2_ := zm (below_step zb hb); clear BK284; clear BK285; clear HB; have BK284 := n0_; have BK285 := n1_; have HB := n2_; clear n0_ n1_ n2_; (try clear hb); (try clear hb2); (try clear hk); (try clear hi); obtain ⟨hcz12_0, hcz12_1, hcz12_2, hfz12_0, hfz12_1, hfz12_2⟩ := zc3 BK285.out) | (go_at_call 55; (with_reducible refine (spec_pyAction.calls a2_0 a2_1 a2_2 t287 _ A6.out).mono ?_); rintro e w13 ⟨rfl, hb⟩; have n0_ := zm (blk_below (g := gb284) zk hb); have n1_ := zm (blk_below (g := gb285) zk hb); have n2_ := zm (below_step zb hb); clear BK284; clear BK285; clear HB; have BK284 := n0_; have BK285 := n1_; have HB := n2_; clear n0_ n1_ n2_; (try clear hb); (try clear hb2); (try clear hk); (try clear hi)))
  go_ret
  exact ⟨zr, zb⟩
 ·
  replace c5 := Bool.eq_false_iff.mpr c5
  subst c5
  have H1 : (some false) = some r := by rw [if_neg (show ¬ (false = true) by decide)] at H; exact H
  clear H
  have H := H1
  clear H1
  obtain rfl := Option.some.inj H
  go_enter Try.func68, Try.ntmps68
  go_wp2_with (first | ((with_reducible refine gate_dst (N := 3) rfl ?_); refine box_event ?hg (N := 3) ?hd (cs := #[.slice A0_0 l0_0.length c0_0, .int .i64 a0_1]) (t := 45) ?hr ?_; (case hd => rfl); (case hg => rfl); (case hr => first | (go_simp; done) | (go_simp; rfl)); intro gb284 hg w14 hbox hb; have n0_ := zm (below_step zb hb); have n1_ := zm (hbox); have n2_ := zm (zs hg zb : w.heap.size ≤ gb284); have n3_ := zm (zs hg zb : w.heap.size ≤ gb284); clear HB; have HB := n0_; have BK284 := n1_; have GW284 := n2_; have GE284 := n3_; clear n0_ n1_ n2_ n3_; clear hb hbox hg) | ((with_reducible refine gate_dst (N := 5) rfl ?_); refine box_event ?hg (N := 5) ?hd (cs := #[.int .i64 a2_0, .int .i64 a2_1, .int .i64 a2_2]) (t := 31) ?hr ?_; (case hd => rfl); (case hg => rfl); (case hr => first | (go_simp; done) | (go_simp; rfl)); intro gb285 hg w15 hbox hb; have n0_ := zm (blk_below (g := gb284) zk hb); have n1_ := zm (below_step zb hb); have n2_ := zm (hbox); have n3_ := zm (zs hg zb : w.heap.size ≤ gb285); have n4_ := zm (zs hg zb : w.heap.size ≤ gb285); have n5_ := zm (zl hg zk : gb284 ≠ gb285); have n6_ := zm (zg hg zk : gb285 ≠ gb284); clear BK284; clear HB; have BK284 := n0_; have HB := n1_; have BK285 := n2_; have GW285 := n3_; have GE285 := n4_; have NB284_285 := n5_; have NB285_284 := n6_; clear n0_ n1_ n2_ n3_ n4_ n5_ n6_; clear hb hbox hg; have hnb16 := NB284_285.out; have hnc16 := NB285_284.out; obtain ⟨hcz17_0, hcz17_1, hfz17_0, hfz17_1⟩ := zc2 BK284.out) | ((with_reducible refine gate_callee (f := 108) rfl ?_); refine goesA_ (some 9) Try.func108 #[.agg #[.slice A0_0 l0_0.length c0_0, .int .i64 a0_1], .slice A1 l1.length c1] rfl ?_; (with_reducible refine (spec_laAsked.calls k _ _ l0_0 a0_1 _ _ l1 false _ ?side1 ?side2 ?side3 ?side4 A4.out).mono ?_); (case side1 => repeat (first | exact (Kd.C_below HR0_0.out HB.out) | (with_reducible refine Kd.C_alloc ?_ _) | (with_reducible refine Kd.C_drewN ?_ _) | (with_reducible refine Kd.C_drew ?_))); (case side2 => exact HC0_0.out); (case side3 => repeat (first | exact (Kd.C_below HR1.out HB.out) | (with_reducible refine Kd.C_alloc ?_ _) | (with_reducible refine Kd.C_drewN ?_ _) | (with_reducible refine Kd.C_drew ?_))); (case side4 => exact HC1.out); rintro e w18 ⟨rfl, hb⟩; refine ⟨_, rfl, ?_⟩; have n0_ := zm (blk_below (g := gb284) zk hb); have n1_ := zm (blk_below (g := gb285) zk hb); have n2_ := zm (below_step zb hb); clear BK284; clear BK285; clear HB; have BK284 := n0_; have BK285 := n1_; have HB := n2_; clear n0_ n1_ n2_; (try clear hb); (try clear hb2); (try clear hk); (try clear hi)))
  go_ret
  exact ⟨zr, zb⟩

/-! ### spec_pyAll: function 69 -/
mutual
def spec_pyAll.l0 : Nat → List (S96) → List Int → Int → Int → List Int → Int → Int → Int → Int → Option ((List (S93)) × List Int)
  | 0, _, _, _, _, _, _, _, _, _ => none
  | k + 1, x1, x10, x18, x19, x289000, x289001, x290000, x290001, x290002 => if x19 < x18 then (if 0 ≤ x19 then (if x19 < (x10.length : Int) then (spec_pyAll.l0 k x1 (x10.set (x19 : Int).toNat (-40)) x18 (wrap64 (x19 + 1)) x289000 x289001 x290000 x290001 x290002) else (none)) else (none)) else (spec_pyAll.l1 k ([] : List (S93)) ([] : List Int) x10 x1 (x1.length : Int) 0 x289000 x289001 x290000 x290001 x290002)
def spec_pyAll.l1 : Nat → List (S93) → List Int → List Int → List (S96) → Int → Int → List Int → Int → Int → Int → Int → Option ((List (S93)) × List Int)
  | 0, _, _, _, _, _, _, _, _, _, _, _ => none
  | k + 1, x8, x9, x10, x26, x27, x28, x289000, x289001, x290000, x290001, x290002 => if x28 < x27 then (if 0 ≤ x28 then (if x28 < (x26.length : Int) then (if ((rd_T96 x26 x28).f0) ≥ (x289000.length : Int) then (if x9.length < 17592186044416 then (spec_pyAll.l1 k x8 (x9 ++ [x28]) x10 x26 x27 (wrap64 (x28 + 1)) x289000 x289001 x290000 x290001 x290002) else (none)) else (if (wrap64 (((rd_T96 x26 x28).f2) - ((rd_T96 x26 x28).f1))) < x290002 then (if x9.length < 17592186044416 then (spec_pyAll.l1 k x8 (x9 ++ [x28]) x10 x26 x27 (wrap64 (x28 + 1)) x289000 x289001 x290000 x290001 x290002) else (none)) else (if 0 ≤ ((rd_T96 x26 x28).f0) then (if ((rd_T96 x26 x28).f0) < (x10.length : Int) then (if (wrap64 (((rd_T96 x26 x28).f1) - (rd x10 ((rd_T96 x26 x28).f0)))) < (wrap64 (2 * x289001)) then (if x9.length < 17592186044416 then (spec_pyAll.l1 k x8 (x9 ++ [x28]) x10 x26 x27 (wrap64 (x28 + 1)) x289000 x289001 x290000 x290001 x290002) else (none)) else (if (wrap64 (((rd_T96 x26 x28).f1) + x290000)) ≥ (wrap64 (((rd_T96 x26 x28).f2) + x290001)) then (if x9.length < 17592186044416 then (spec_pyAll.l1 k x8 (x9 ++ [x28]) x10 x26 x27 (wrap64 (x28 + 1)) x289000 x289001 x290000 x290001 x290002) else (none)) else (if ((rd_T96 x26 x28).f0) < (x289000.length : Int) then (if x8.length < 5864062014805 then (spec_pyAll.l1 k (x8 ++ [(⟨rd x289000 ((rd_T96 x26 x28).f0), wrap64 (((rd_T96 x26 x28).f1) + x290000), wrap64 (((rd_T96 x26 x28).f2) + x290001)⟩ : S93)]) x9 (x10.set (((rd_T96 x26 x28).f0) : Int).toNat ((rd_T96 x26 x28).f1)) x26 x27 (wrap64 (x28 + 1)) x289000 x289001 x290000 x290001 x290002) else (none)) else (none)))) else (none)) else (none)))) else (none)) else (none)) else (some (x8, x9))
end
def spec_pyAll.f (k : Nat) (l0_0 : List Int) (a0_1 : Int) (l1 : List (S96)) (a2_0 : Int) (a2_1 : Int) (a2_2 : Int) : Option ((List (S93)) × List Int) := if 20 ≤ 35184372088832 then ((some (List.replicate 20 0 : List Int)).bind fun y290 => (spec_pyAll.l0 k l1 y290 (y290.length : Int) 0 l0_0 a0_1 a2_0 a2_1 a2_2)) else (none)
theorem spec_pyAll.mono_l : ∀ k, (∀ y0 y1 y2 y3 y4 y5 y6 y7 y8, LeO (spec_pyAll.l0 k y0 y1 y2 y3 y4 y5 y6 y7 y8) (spec_pyAll.l0 (k + 1) y0 y1 y2 y3 y4 y5 y6 y7 y8)) ∧ (∀ y0 y1 y2 y3 y4 y5 y6 y7 y8 y9 y10, LeO (spec_pyAll.l1 k y0 y1 y2 y3 y4 y5 y6 y7 y8 y9 y10) (spec_pyAll.l1 (k + 1) y0 y1 y2 y3 y4 y5 y6 y7 y8 y9 y10))
  | 0 => ⟨fun _ _ _ _ _ _ _ _ _ r h => by simp [spec_pyAll.l0] at h, fun _ _ _ _ _ _ _ _ _ _ _ r h => by simp [spec_pyAll.l1] at h⟩
  | k + 1 => by
    obtain ⟨ih0, ih1⟩ := spec_pyAll.mono_l k
    refine ⟨?_, ?_⟩
    · intro y0 y1 y2 y3 y4 y5 y6 y7 y8
      unfold spec_pyAll.l0
      repeat' first
      | (with_reducible exact ih0 _ _ _ _ _ _ _ _ _)
      | (with_reducible exact ih1 _ _ _ _ _ _ _ _ _ _ _)
      | (with_reducible exact LeO.refl _)
      | (with_reducible exact LeO.none _)
      | (with_reducible refine LeO.ite ?_ ?_)
      | (with_reducible refine LeO.bind ?_ (fun _ => ?_))
      | exact ih0 _ _ _ _ _ _ _ _ _
      | exact ih1 _ _ _ _ _ _ _ _ _ _ _
      | exact LeO.none _
      | refine LeO.ite ?_ ?_
      | refine LeO.bind ?_ (fun _ => ?_)
    · intro y0 y1 y2 y3 y4 y5 y6 y7 y8 y9 y10
      unfold spec_pyAll.l1
      repeat' first
      | (with_reducible exact ih0 _ _ _ _ _ _ _ _ _)
      | (with_reducible exact ih1 _ _ _ _ _ _ _ _ _ _ _)
      | (with_reducible exact LeO.refl _)
      | (with_reducible exact LeO.none _)
      | (with_reducible refine LeO.ite ?_ ?_)
      | (with_reducible refine LeO.bind ?_ (fun _ => ?_))
      | exact ih0 _ _ _ _ _ _ _ _ _
      | exact ih1 _ _ _ _ _ _ _ _ _ _ _
      | exact LeO.none _
      | refine LeO.ite ?_ ?_
      | refine LeO.bind ?_ (fun _ => ?_)
theorem spec_pyAll.mono : ∀ a0 a1 a2 a3 a4 a5 k, LeO (spec_pyAll.f k a0 a1 a2 a3 a4 a5) (spec_pyAll.f (k + 1) a0 a1 a2 a3 a4 a5) := by
  intro a0 a1 a2 a3 a4 a5 k
  obtain ⟨ih0, ih1⟩ := spec_pyAll.mono_l k
  unfold spec_pyAll.f
  repeat' first
      | (with_reducible exact ih0 _ _ _ _ _ _ _ _ _)
      | (with_reducible exact ih1 _ _ _ _ _ _ _ _ _ _ _)
      | (with_reducible exact LeO.refl _)
      | (with_reducible exact LeO.none _)
      | (with_reducible refine LeO.ite ?_ ?_)
      | (with_reducible refine LeO.bind ?_ (fun _ => ?_))
      | exact ih0 _ _ _ _ _ _ _ _ _
      | exact ih1 _ _ _ _ _ _ _ _ _ _ _
      | exact LeO.none _
      | refine LeO.ite ?_ ?_
      | refine LeO.bind ?_ (fun _ => ?_)
theorem spec_pyAll.gq {P : Program} {i : Nat} {ops : Array Oper} {Q : Exit → Act → World → Prop} {a : Act} {W : World} (h : (Code.region i ops true).wp P Q a W) : (Code.region i ops true).wp P Q a W := h
set_option maxHeartbeats 8000000 in
set_option maxRecDepth 100000 in
theorem spec_pyAll.calls (k : Nat) (A0_0 : Option Addr) (c0_0 : Nat) (l0_0 : List Int) (a0_1 : Int) (A1 : Option Addr) (c1 : Nat) (l1 : List (S96)) (a2_0 : Int) (a2_1 : Int) (a2_2 : Int) (r1 : List (S93)) (r2 : List Int) (w : World) (hr0_0 : Kd.C (Kd.int .i64) w A0_0 l0_0.length l0_0) (hc0_0 : l0_0.length ≤ c0_0) (hr1 : Kd.C k96 w A1 l1.length l1) (hc1 : l1.length ≤ c1) (h : spec_pyAll.f k l0_0 a0_1 l1 a2_0 a2_1 a2_2 = some (r1, r2)) :
  Calls Try.prog 69 #[.agg #[.slice A0_0 l0_0.length c0_0, .int .i64 a0_1], .slice A1 l1.length c1, .agg #[.int .i64 a2_0, .int .i64 a2_1, .int .i64 a2_2]] w fun e w' => ∃ v0_ v1_ : Value, e = .returned (.tuple #[v0_, v1_]) ∧ Kd.R k93 93 w' w.heap.size (fun _ => True) v0_ r1 ∧ Kd.R (Kd.int .i64) 3 w' w.heap.size (fun _ => True) v1_ r2 ∧ Below w.heap.size w w' := by
 have hu45 := Try.underlying45
 have hu31 := Try.underlying31
 have hu96 := Try.underlying96
 have hu93 := Try.underlying93
 have HR0_0 := zm hr0_0
 have HC0_0 := zm hc0_0
 clear hr0_0 hc0_0
 have HR1 := zm hr1
 have HC1 := zm hc1
 clear hr1 hc1
 have HB := zm (Below.refl w.heap.size w)
 have H : (if 20 ≤ 35184372088832 then ((some (List.replicate 20 0 : List Int)).bind fun y290 => (spec_pyAll.l0 k l1 y290 (y290.length : Int) 0 l0_0 a0_1 a2_0 a2_1 a2_2)) else (none)) = some (r1, r2) := h
 clear h
 by_cases c4 : 20 ≤ 35184372088832
 ·
  rw [if_pos c4] at H
  have c4b0 := eq_true c4
  have c4b1 : decide (20 ≤ 35184372088832) = true := decide_eq_true c4
  clear c4
  obtain ⟨y290, hy290⟩ : ∃ y_ : List Int, y_ = (List.replicate 20 0) := ⟨_, rfl⟩
  replace H : (spec_pyAll.l0 k l1 y290 (y290.length : Int) 0 l0_0 a0_1 a2_0 a2_1 a2_2) = some (r1, r2) := by first | (rw [hy290]; with_reducible exact H) | (have H2_ := (Option.bind_some _ _).symm.trans H; rw [hy290]; with_reducible exact H2_) | (have H2_ := (Option.bind_some _ _).symm.trans H; with_reducible exact H2_) | with_reducible exact H | (rw [hy290]; exact H) | exact H
  have Ny290 := zm hy290
  clear hy290
  have H' := zm H
  clear H
  go_enter Try.func69, Try.ntmps69
  go_wp2_with (first | ((with_reducible refine gate_dst (N := 3) rfl ?_); refine box_event ?hg (N := 3) ?hd (cs := #[.slice A0_0 l0_0.length c0_0, .int .i64 a0_1]) (t := 45) ?hr ?_; (case hd => rfl); (case hg => rfl); (case hr => first | (go_simp; done) | (go_simp; rfl)); intro gb288 hg w5 hbox hb; have n0_ := zm (below_step zb hb); have n1_ := zm (hbox); have n2_ := zm (zs hg zb : w.heap.size ≤ gb288); have n3_ := zm (zs hg zb : w.heap.size ≤ gb288); clear HB; have HB := n0_; have BK288 := n1_; have GW288 := n2_; have GE288 := n3_; clear n0_ n1_ n2_ n3_; clear hb hbox hg) | ((with_reducible refine gate_dst (N := 5) rfl ?_); refine box_event ?hg (N := 5) ?hd (cs := #[.int .i64 a2_0, .int .i64 a2_1, .int .i64 a2_2]) (t := 31) ?hr ?_; (case hd => rfl); (case hg => rfl); (case hr => first | (go_simp; done) | (go_simp; rfl)); intro gb289 hg w6 hbox hb; have n0_ := zm (blk_below (g := gb288) zk hb); have n1_ := zm (below_step zb hb); have n2_ := zm (hbox); have n3_ := zm (zs hg zb : w.heap.size ≤ gb289); have n4_ := zm (zs hg zb : w.heap.size ≤ gb289); have n5_ := zm (zl hg zk : gb288 ≠ gb289); have n6_ := zm (zg hg zk : gb289 ≠ gb288); clear BK288; clear HB; have BK288 := n0_; have HB := n1_; have BK289 := n2_; have GW289 := n3_; have GE289 := n4_; have NB288_289 := n5_; have NB289_288 := n6_; clear n0_ n1_ n2_ n3_ n4_ n5_ n6_; clear hb hbox hg) | ((with_reducible refine gate_dst (N := 16) rfl ?_); refine Kd.R_make (Kd.int .i64) _ 3 rfl (N := 16) rfl 38 _ _ rfl 20 rfl rfl Try.underlying38 (.int .i64 0) 8 info3 rfl (by decide) (by omega) 0 (ok := fun _ => True) (okp := fun _ => True) rfl (fun _ hk => hk) trivial (by omega) (by omega) (Below.refl _ _) (Nat.le_refl _) ?_; intro v291 w7 ho8 hb hg_ hnew_; clear hg_ hnew_; (first | rw [← Ny290.out] at ho8 | (simp only [Int.reduceToNat] at ho8; rw [← Ny290.out] at ho8)); have n0_ := zm (Kd.R_lower ho8 (below_size zb)); have n1_ := zm (blk_below (g := gb288) zk hb); have n2_ := zm (blk_below (g := gb289) zk hb); have n3_ := zm (below_step zb hb); clear BK288; clear BK289; clear HB; have HO292 := n0_; have BK288 := n1_; have BK289 := n2_; have HB := n3_; clear n0_ n1_ n2_ n3_; clear hb ho8; obtain ⟨Ao9, co9, eo9⟩ := Kd.R_slice HO292.out; subst eo9) | ((with_reducible refine spec_pyAll.gq ?_); go_quiet (fail)))
  go_loopg [19] k (fun kq v19 w' => ∃ (x10_1 : List Int) (x19_1 : Int), v19 = .int .i64 x19_1 ∧ Aside0 (spec_pyAll.l0 kq l1 x10_1 (y290.length : Int) x19_1 l0_0 a0_1 a2_0 a2_1 a2_2 = some (r1, r2)) ∧ Aside0 (kq ≤ k) ∧ Aside0 (Kd.R (Kd.int .i64) 3 w' w.heap.size (fun _ => True) (.slice Ao9 y290.length co9) x10_1) ∧ Aside0 (w'.heap[gb288]? = some (.cells #[(.slice A0_0 l0_0.length c0_0), .int .i64 a0_1] 45 (0, 0))) ∧ Aside0 (w'.heap[gb289]? = some (.cells #[.int .i64 a2_0, .int .i64 a2_1, .int .i64 a2_2] 31 (0, 0))) ∧ Aside0 (Below w.heap.size w w'))
  case atStart => exact ⟨(y290), (0), (by first | rfl | (simp; done) | (simp [*]; done)), H', ⟨Nat.le_refl _⟩, ⟨by (with_reducible repeat (first | apply Kd.R_alloc | apply Kd.R_drewN | apply Kd.R_drew)); exact HO292.out⟩, ⟨zk⟩, ⟨zk⟩, ⟨zb⟩⟩
  case round =>
   clear H'
   (try clear c1); (try clear p2); (try clear c4); (try clear c4b0); (try clear c4b1); (try clear c6)
   obtain ⟨x10_1, x19_1, rfl, HA, HK1, HO_10, BK288, BK289, HB⟩ := hrel
   have hl10_1 := (Kd.R_reads' HO_10.out).1
   rw [hl10_1] at HO_10
   (try simp only [hl10_1])
   (try simp only [hl10_1] at BK288)
   (try simp only [hl10_1] at BK289)
   cases gk with
   | zero => exact absurd HA.out (by simp [spec_pyAll.l0])
   | succ k1 =>
    have H := HA.out
    clear HA
    simp only [spec_pyAll.l0] at H
    by_cases c10 : x19_1 < (y290.length : Int)
    ·
     rw [if_pos c10] at H
     have c10b0 : decide (x19_1 < (y290.length : Int)) = true := decide_eq_true c10
     clear c10
     by_cases c11 : 0 ≤ x19_1
     ·
      rw [if_pos c11] at H
      have c11b0 : decide (0 ≤ x19_1) = true := decide_eq_true c11
      clear c11
      by_cases c12 : x19_1 < (x10_1.length : Int)
      ·
       rw [if_pos c12] at H
       have c12b0 : decide (x19_1 < (x10_1.length : Int)) = true := decide_eq_true c12
       clear c12
       obtain ⟨y293, hy293⟩ : ∃ y_ : List Int, y_ = (x10_1.set (x19_1 : Int).toNat (-40)) := ⟨_, rfl⟩
       replace H : (spec_pyAll.l0 k1 l1 y293 (y290.length : Int) (wrap64 (x19_1 + 1)) l0_0 a0_1 a2_0 a2_1 a2_2) = some (r1, r2) := by first | (rw [hy293]; with_reducible exact H) | (have H2_ := (Option.bind_some _ _).symm.trans H; rw [hy293]; with_reducible exact H2_) | (have H2_ := (Option.bind_some _ _).symm.trans H; with_reducible exact H2_) | with_reducible exact H | (rw [hy293]; exact H) | exact H
       have Ny293 := zm hy293
       clear hy293
       have H' := zm H
       clear H
       have p13 : 0 ≤ (x19_1 : Int) := zd
       have q13 : (x19_1 : Int) < ((x10_1.length : Int) : Int) := zd
       obtain ⟨go13, co13, eo13, gb13, gl13, cl13, HG13⟩ := Kd.R_form HO_10.out (by omega)
       (first | cases eo13 | (injection eo13 with ea_ en_ ec_; (first | subst ea_ | (injection ea_ with ea_; subst ea_)); subst ec_; clear en_))
       have GB13 := zm gb13
       have GG13 := zm HG13
       clear gb13 gl13 HG13
       obtain ⟨hx13_0, hf13_0⟩ := Kd.R_celln 0 HO_10.out (x19_1 : Int) p13 q13
       replace p13 := eq_true p13
       replace q13 := eq_true q13
       have HP14 := Kd.R_putg HO_10.out (x19_1 : Int) (-40)
       go_wp2_with (first | ((with_reducible refine gate_store (t := 3) (p := 24) rfl ?_); (try (rw [drewN_self wr]; generalize hq_ : World.drewN wr _ = wr; have n0_ := zm (Kd.R_at hq_ HO_10.out); have n1_ := zm (blk_at hq_ BK288.out); have n2_ := zm (blk_at hq_ BK289.out); have n3_ := zm (below_at hq_ HB.out); clear hq_ HO_10 BK288 BK289 HB; have HO_10 := n0_; have BK288 := n1_; have BK289 := n2_; have HB := n3_; clear n0_ n1_ n2_ n3_; (try (have HP14 := Kd.R_putg HO_10.out (x19_1 : Int) (-40))))); refine store_event (t := 3) (p := 24) (v := ?vo_w15) (w1 := (wr.setCell ⟨go13, (x19_1 : Int).toNat, none⟩ (.int .i64 (-40)))) ?hg ?ho ?hn ?hr ?_; (case ho => rfl); (case hg => rfl); (case hn => rfl); (case hr => first | (go_simp; done) | (go_simp; rfl)); intro w15 hw; have hg : wr.grownBy w15 (some go13) := (by rw [hw]; exact HP14.2); have hp_ : Kd.R (Kd.int .i64) 3 w15 w.heap.size (fun _ => True) (.slice (some ⟨go13, 0, none⟩) x10_1.length co9) y293 := (by rw [hw, Ny293.out]; exact HP14.1); clear HP14; have n0_ := zm (hp_); have n1_ := zm (blk_grown (g := gb288) (o := .cells #[.slice A0_0 l0_0.length c0_0, .int .i64 a0_1] 45 (0, 0)) zk hg (Kd.R_ne HO_10.out BK288.out (by decide))); have n2_ := zm (blk_grown (g := gb289) (o := .cells #[.int .i64 a2_0, .int .i64 a2_1, .int .i64 a2_2] 31 (0, 0)) zk hg (Kd.R_ne HO_10.out BK289.out (by decide))); have n3_ := zm ((by rw [hw]; exact below_set (HB.out) GB13.out : Below w.heap.size w w15)); clear HO_10; clear BK288; clear BK289; clear HB; have HO_10 := n0_; have BK288 := n1_; have BK289 := n2_; have HB := n3_; clear n0_ n1_ n2_ n3_; clear hg hw hp_) | ((with_reducible refine spec_pyAll.gq ?_); go_quiet (fail)))
       (try simp only [← hl10_1])
       go_roundg k1
       case measure => have := HK1.out; omega
       case rel => exact ⟨(y293), (wrap64 (x19_1 + 1)), (by first | rfl | (simp; done) | (simp [*]; done)), H', ⟨by have := HK1.out; omega⟩, ⟨by (try simp only [hl10_1]); (with_reducible repeat (first | apply Kd.R_alloc | apply Kd.R_drewN | apply Kd.R_drew)); exact HO_10.out⟩, ⟨by (try simp only [hl10_1]); (with_reducible repeat (first | refine blk_drewN ?_ _ | refine blk_drew ?_ | refine blk_alloc ?_ _)); exact BK288.out⟩, ⟨by (try simp only [hl10_1]); (with_reducible repeat (first | refine blk_drewN ?_ _ | refine blk_drew ?_ | refine blk_alloc ?_ _)); exact BK289.out⟩, ⟨zb⟩⟩
      ·
       rw [if_neg c12] at H
       exact absurd H (by simp)
     ·
      rw [if_neg c11] at H
      exact absurd H (by simp)
    ·
     rw [if_neg c10] at H
     have c10b0 : decide (x19_1 < (y290.length : Int)) = false := decide_eq_false c10
     (try (have c10z0 := c10b0; simp only [hl10_1] at c10z0))
     clear c10
     have H' := zm H
     clear H
     go_wp2
     repeat (go_quiet (fail); try go_wp2)
     go_loopg [8, 9, 28] k1 (fun kq v8 v9 v28 w' => ∃ (x8_2 : List (S93)) (x9_2 : List Int) (x10_2 : List Int) (x28_2 : Int), v28 = .int .i64 x28_2 ∧ Aside0 (spec_pyAll.l1 kq x8_2 x9_2 x10_2 l1 (l1.length : Int) x28_2 l0_0 a0_1 a2_0 a2_1 a2_2 = some (r1, r2)) ∧ Aside0 (kq ≤ k1) ∧ Aside0 (Kd.R k93 93 w' w.heap.size (fun _ => True) v8 x8_2) ∧ Aside0 (Kd.R (Kd.int .i64) 3 w' w.heap.size (fun k_ => some k_ ≠ ((.slice Ao9 x10_1.length co9) : Value).ownBlock) v9 x9_2) ∧ Aside0 (Kd.R (Kd.int .i64) 3 w' w.heap.size (fun k_ => some k_ ≠ (v9 : Value).ownBlock) (.slice Ao9 x10_1.length co9) x10_2) ∧ Aside0 (w'.heap[gb288]? = some (.cells #[(.slice A0_0 l0_0.length c0_0), .int .i64 a0_1] 45 (0, 0))) ∧ Aside0 (w'.heap[gb289]? = some (.cells #[.int .i64 a2_0, .int .i64 a2_1, .int .i64 a2_2] 31 (0, 0))) ∧ Aside0 (Below w.heap.size w w'))
     case atStart => exact ⟨(([] : List (S93))), (([] : List Int)), (x10_1), (0), (by first | rfl | (simp; done) | (simp [*]; done)), H', ⟨Nat.le_refl _⟩, ⟨by (try simp only [hl10_1]); first | exact Kd.R_nil _ _ _ _ _ | exact Kd.N_nil _ _ _ _ _ | exact Kd.V_nil _ _ _ _ _ | exact Kd.Q_nil _ _ _ _ _ | exact Kd.S_nil _ _ _ _ _⟩, ⟨by (try simp only [hl10_1]); first | exact Kd.R_nil _ _ _ _ _ | exact Kd.N_nil _ _ _ _ _ | exact Kd.V_nil _ _ _ _ _ | exact Kd.Q_nil _ _ _ _ _ | exact Kd.S_nil _ _ _ _ _⟩, ⟨by (try simp only [hl10_1]); (with_reducible repeat (first | apply Kd.R_alloc | apply Kd.R_drewN | apply Kd.R_drew)); exact Kd.R_mono HO_10.out (fun _ hk => (by simp [Value.ownBlock]))⟩, ⟨by (try simp only [hl10_1]); (with_reducible repeat (first | refine blk_drewN ?_ _ | refine blk_drew ?_ | refine blk_alloc ?_ _)); exact BK288.out⟩, ⟨by (try simp only [hl10_1]); (with_reducible repeat (first | refine blk_drewN ?_ _ | refine blk_drew ?_ | refine blk_alloc ?_ _)); exact BK289.out⟩, ⟨zb⟩⟩
     case round =>
      clear H'
      (try clear c1); (try clear p1); (try clear q1); (try clear hx1); (try clear p2); (try clear c4); (try clear c4b0); (try clear c4b1); (try clear c6); (try clear p6); (try clear c10); (try clear c10b0); (try clear c11); (try clear c11b0); (try clear c12); (try clear c12b0); (try clear p13); (try clear q13); (try clear hx13); (try clear hf13); (try clear hx13_0); (try clear p13); (try clear p2); (try clear q13)
      obtain ⟨x8_2, x9_2, x10_2, x28_2, rfl, HA, HK2, HO_8, HO_9, HO_10, BK288, BK289, HB⟩ := hrel
      have hl10_2 := (Kd.R_reads' HO_10.out).1
      rw [hl10_2] at HO_10
      (try simp only [hl10_2])
      (try simp only [hl10_2] at BK288)
      (try simp only [hl10_2] at BK289)
      (try simp only [hl10_2] at HO_8)
      (try simp only [hl10_2] at HO_9)
      cases gk with
      | zero => exact absurd HA.out (by simp [spec_pyAll.l1])
      | succ k2 =>
       have H := HA.out
       clear HA
       simp only [spec_pyAll.l1] at H
       by_cases c16 : x28_2 < (l1.length : Int)
       ·
        rw [if_pos c16] at H
        have c16b0 : decide (x28_2 < (l1.length : Int)) = true := decide_eq_true c16
        clear c16
        by_cases c17 : 0 ≤ x28_2
        ·
         rw [if_pos c17] at H
         have c17b0 : decide (0 ≤ x28_2) = true := decide_eq_true c17
         clear c17
         by_cases c18 : x28_2 < (l1.length : Int)
         ·
          rw [if_pos c18] at H
          have c18b0 : decide (x28_2 < (l1.length : Int)) = true := decide_eq_true c18
          clear c18
          by_cases c19 : ((rd_T96 l1 x28_2).f0) ≥ (l0_0.length : Int)
          ·
           rw [if_pos c19] at H
           have c19b0 : decide ((l0_0.length : Int) ≤ ((rd_T96 l1 x28_2).f0)) = true := decide_eq_true c19
           clear c19
           by_cases c20 : x9_2.length < 17592186044416
           ·
            rw [if_pos c20] at H
            have LMc20 := zm c20
            clear c20
            obtain ⟨y296, hy296⟩ : ∃ y_ : List Int, y_ = (x9_2 ++ [x28_2]) := ⟨_, rfl⟩
            replace H : (spec_pyAll.l1 k2 x8_2 y296 x10_2 l1 (l1.length : Int) (wrap64 (x28_2 + 1)) l0_0 a0_1 a2_0 a2_1 a2_2) = some (r1, r2) := by first | (rw [hy296]; with_reducible exact H) | (have H2_ := (Option.bind_some _ _).symm.trans H; rw [hy296]; with_reducible exact H2_) | (have H2_ := (Option.bind_some _ _).symm.trans H; with_reducible exact H2_) | with_reducible exact H | (rw [hy296]; exact H) | exact H
            have Ny296 := zm hy296
            clear hy296
            have H' := zm H
            clear H
            have p294 : 0 ≤ (x28_2 : Int) := zd
            have q294 : x28_2 < (l1.length : Int) := zd
            obtain ⟨ad294, e294, hx294_0, hx294_1, hx294_2⟩ := at_T96 HR1.out x28_2 p294 q294
            cases e294
            replace hx294_0 := zx HB.out hx294_0
            replace hx294_1 := zx HB.out hx294_1
            replace hx294_2 := zx HB.out hx294_2
            replace p294 := eq_true p294
            replace q294 := eq_true q294
            go_wp2_with (first | ((with_reducible refine gate_dst (N := 13) rfl ?_); refine box_event ?hg (N := 13) ?hd (cs := #[.int .i64 0, .int .i64 0, .int .i64 0]) (t := 96) ?hr ?_; (case hd => rfl); (case hg => rfl); (case hr => first | (go_simp; done) | (go_simp; rfl)); intro gb295 hg w21 hbox hb; have n0_ := zm (Kd.R_below (by (with_reducible repeat (first | apply Kd.R_alloc | apply Kd.R_drewN | apply Kd.R_drew)); exact HO_8.out) hb); have n1_ := zm (Kd.R_below (by (with_reducible repeat (first | apply Kd.R_alloc | apply Kd.R_drewN | apply Kd.R_drew)); exact HO_9.out) hb); have n2_ := zm (Kd.R_below (by (with_reducible repeat (first | apply Kd.R_alloc | apply Kd.R_drewN | apply Kd.R_drew)); exact HO_10.out) hb); have n3_ := zm (blk_below (g := gb288) zk hb); have n4_ := zm (blk_below (g := gb289) zk hb); have n5_ := zm (below_step zb hb); have n6_ := zm (hbox); have n7_ := zm (zs hg zb : w.heap.size ≤ gb295); have n8_ := zm (zs hg zb : w.heap.size ≤ gb295); have n9_ := zm (zl hg zk : gb288 ≠ gb295); have n10_ := zm (zg hg zk : gb295 ≠ gb288); have n11_ := zm (zl hg zk : gb289 ≠ gb295); have n12_ := zm (zg hg zk : gb295 ≠ gb289); clear HO_8; clear HO_9; clear HO_10; clear BK288; clear BK289; clear HB; have HO_8 := n0_; have HO_9 := n1_; have HO_10 := n2_; have BK288 := n3_; have BK289 := n4_; have HB := n5_; have BK295 := n6_; have GW295 := n7_; have GE295 := n8_; have NB288_295 := n9_; have NB295_288 := n10_; have NB289_295 := n11_; have NB295_289 := n12_; clear n0_ n1_ n2_ n3_ n4_ n5_ n6_ n7_ n8_ n9_ n10_ n11_ n12_; clear hb hbox hg; have hnb22 := NB295_288.out; have hnc22 := NB288_295.out; have hnb23 := NB295_289.out; have hnc23 := NB289_295.out; obtain ⟨hcz24_0, hcz24_1, hcz24_2, hfz24_0, hfz24_1, hfz24_2⟩ := zc3 BK295.out; have hnb25 := NB289_288.out; have hnc25 := NB288_289.out; obtain ⟨hcz26_0, hcz26_1, hcz26_2, hfz26_0, hfz26_1, hfz26_2⟩ := zc3 BK289.out; obtain ⟨hcz27_0, hcz27_1, hfz27_0, hfz27_1⟩ := zc2 BK288.out) | ((with_reducible refine gate_builtin (b := .append) (xs := #[.tmp 78, .tmp 80]) rfl ?_); at_builtin; refine Kd.R_append (Kd.int .i64) (w0 := w) w.heap.size rfl (.tmp 78) (.tmp 80) 38 3 (.int .i64 0) 8 rfl Try.underlying38 info3 rfl (by decide) (by omega) u9 x9_2 x28_2 [.int .i64 x28_2] (fun k_ => some k_ ≠ (.slice Ao9 x10_2.length co9 : Value).ownBlock) (fun _ => False) rfl (by first | (go_simp; done) | (go_simp; rfl)) ?aP (fun _ hk => hk.elim) ?aF ?aO ?aB ?aS ?aL ?_; (case aP => exact rfl); (case aB => exact zb); (case aF => exact (fun k_ hk => Kd.fresh' (Kd.R_lt (by (with_reducible repeat (first | apply Kd.R_alloc | apply Kd.R_drewN | apply Kd.R_drew)); exact (Kd.R_mono (Kd.R_far (p := ⟨gb295, 2, none⟩) (Kd.R_far (p := ⟨gb295, 1, none⟩) (Kd.R_far (p := ⟨gb295, 0, none⟩) (Kd.R_types HO_10.out BK295.out (by decide)) (fun _ hk => hk.2) (.int .i64 ((rd_T96 l1 x28_2).f0))) (fun _ hk => hk.2) (.int .i64 ((rd_T96 l1 x28_2).f1))) (fun _ hk => hk.2) (.int .i64 ((rd_T96 l1 x28_2).f2))) (fun _ h_ => h_.1)))) k_ hk)); (case aO => exact (by (with_reducible repeat (first | apply Kd.R_alloc | apply Kd.R_drewN | apply Kd.R_drew)); exact Kd.R_mono (Kd.R_far (p := ⟨gb295, 2, none⟩) (Kd.R_far (p := ⟨gb295, 1, none⟩) (Kd.R_far (p := ⟨gb295, 0, none⟩) (Kd.R_types HO_9.out BK295.out (by decide)) (fun _ hk => hk.2) (.int .i64 ((rd_T96 l1 x28_2).f0))) (fun _ hk => hk.2) (.int .i64 ((rd_T96 l1 x28_2).f1))) (fun _ hk => hk.2) (.int .i64 ((rd_T96 l1 x28_2).f2))) (fun _ hk => hk.1))); (case aS => exact (below_size zb)); (case aL => have := LMc20.out; omega); intro v297 w28 ho hb hg hat; rw [← Ny296.out] at ho; have n0_ := zm (Kd.R_over' (by (with_reducible repeat (first | apply Kd.R_alloc | apply Kd.R_drewN | apply Kd.R_drew)); exact (Kd.R_mono (Kd.R_far (p := ⟨gb295, 2, none⟩) (Kd.R_far (p := ⟨gb295, 1, none⟩) (Kd.R_far (p := ⟨gb295, 0, none⟩) (Kd.R_types HO_8.out BK295.out (by decide)) (fun _ hk => hk.2) (.int .i64 ((rd_T96 l1 x28_2).f0))) (fun _ hk => hk.2) (.int .i64 ((rd_T96 l1 x28_2).f1))) (fun _ hk => hk.2) (.int .i64 ((rd_T96 l1 x28_2).f2))) (fun _ h_ => h_.1))) (Kd.R_typed (by (with_reducible repeat (first | apply Kd.R_alloc | apply Kd.R_drewN | apply Kd.R_drew)); exact (Kd.R_mono (Kd.R_far (p := ⟨gb295, 2, none⟩) (Kd.R_far (p := ⟨gb295, 1, none⟩) (Kd.R_far (p := ⟨gb295, 0, none⟩) (Kd.R_types HO_9.out BK295.out (by decide)) (fun _ hk => hk.2) (.int .i64 ((rd_T96 l1 x28_2).f0))) (fun _ hk => hk.2) (.int .i64 ((rd_T96 l1 x28_2).f1))) (fun _ hk => hk.2) (.int .i64 ((rd_T96 l1 x28_2).f2))) (fun _ h_ => h_.1)))) (by decide) hg); have n1_ := zm (Kd.R_after (ok := (fun _ => True)) (by (with_reducible repeat (first | apply Kd.R_alloc | apply Kd.R_drewN | apply Kd.R_drew)); exact Kd.R_mono (Kd.R_far (p := ⟨gb295, 2, none⟩) (Kd.R_far (p := ⟨gb295, 1, none⟩) (Kd.R_far (p := ⟨gb295, 0, none⟩) (Kd.R_types HO_10.out BK295.out (by decide)) (fun _ hk => hk.2) (.int .i64 ((rd_T96 l1 x28_2).f0))) (fun _ hk => hk.2) (.int .i64 ((rd_T96 l1 x28_2).f1))) (fun _ hk => hk.2) (.int .i64 ((rd_T96 l1 x28_2).f2))) (fun _ hk => ⟨trivial, hk.1⟩)) hg hat); have n2_ := zm (blk_grown (g := gb288) (o := .cells #[.slice A0_0 l0_0.length c0_0, .int .i64 a0_1] 45 (0, 0)) zK hg (Kd.R_ne HO_9.out BK288.out (by decide))); have n3_ := zm (blk_grown (g := gb289) (o := .cells #[.int .i64 a2_0, .int .i64 a2_1, .int .i64 a2_2] 31 (0, 0)) zK hg (Kd.R_ne HO_9.out BK289.out (by decide))); have n4_ := zm (blk_grown (g := gb295) (o := .cells #[.int .i64 ((rd_T96 l1 x28_2).f0), .int .i64 ((rd_T96 l1 x28_2).f1), .int .i64 ((rd_T96 l1 x28_2).f2)] 96 (0, 0)) (by (with_reducible repeat (first | refine blk_drewN ?_ _ | refine blk_drew ?_ | refine blk_alloc ?_ _)); refine blk_put (cs := #[.int .i64 ((rd_T96 l1 x28_2).f0), .int .i64 ((rd_T96 l1 x28_2).f1), .int .i64 0]) ?_ 2 _ rfl; (with_reducible repeat (first | refine blk_drewN ?_ _ | refine blk_drew ?_ | refine blk_alloc ?_ _)); refine blk_put (cs := #[.int .i64 ((rd_T96 l1 x28_2).f0), .int .i64 0, .int .i64 0]) ?_ 1 _ rfl; (with_reducible repeat (first | refine blk_drewN ?_ _ | refine blk_drew ?_ | refine blk_alloc ?_ _)); refine blk_put (cs := #[.int .i64 0, .int .i64 0, .int .i64 0]) ?_ 0 _ rfl; (with_reducible repeat (first | refine blk_drewN ?_ _ | refine blk_drew ?_ | refine blk_alloc ?_ _)); exact BK295.out) hg (Kd.R_ne HO_9.out BK295.out (by decide))); have n5_ := zm (hb); have n6_ := zm (ho); clear HO_8; clear HO_10; clear BK288; clear BK289; clear BK295; clear HB; clear HO_9; have HO_8 := n0_; have HO_10 := n1_; have BK288 := n2_; have BK289 := n3_; have BK295 := n4_; have HB := n5_; have HO298 := n6_; clear n0_ n1_ n2_ n3_ n4_ n5_ n6_; clear ho hb hg hat) | ((with_reducible refine spec_pyAll.gq ?_); go_quiet (fail)))
            (try simp only [← hl10_2])
            go_roundg k2
            case measure => have := HK1.out; have := HK2.out; omega
            case rel => exact ⟨(x8_2), (y296), (x10_2), (wrap64 (x28_2 + 1)), (by first | rfl | (simp; done) | (simp [*]; done)), H', ⟨by have := HK1.out; have := HK2.out; omega⟩, ⟨by (try simp only [hl10_1]); (try simp only [hl10_2]); (with_reducible repeat (first | apply Kd.R_alloc | apply Kd.R_drewN | apply Kd.R_drew)); exact HO_8.out⟩, ⟨by (try simp only [hl10_1]); (try simp only [hl10_2]); (with_reducible repeat (first | apply Kd.R_alloc | apply Kd.R_drewN | apply Kd.R_drew)); exact HO298.out⟩, ⟨by (try simp only [hl10_1]); (try simp only [hl10_2]); (with_reducible repeat (first | apply Kd.R_alloc | apply Kd.R_drewN | apply Kd.R_drew)); exact zM HO_10.out⟩, ⟨by (try simp only [hl10_1]); (try simp only [hl10_2]); (with_reducible repeat (first | refine blk_drewN ?_ _ | refine blk_drew ?_ | refine blk_alloc ?_ _)); exact BK288.out⟩, ⟨by (try simp only [hl10_1]); (try simp only [hl10_2]); (with_reducible repeat (first | refine blk_drewN ?_ _ | refine blk_drew ?_ | refine blk_alloc ?_ _)); exact BK289.out⟩, ⟨zb⟩⟩
           ·
            rw [if_neg c20] at H
            exact absurd H (by simp)
          ·
           rw [if_neg c19] at H
           have c19b0 : decide ((l0_0.length : Int) ≤ ((rd_T96 l1 x28_2).f0)) = false := decide_eq_false c19
           (try (have c19z0 := c19b0; simp only [hl10_1] at c19z0))
           (try (have c19z0 := c19b0; simp only [hl10_2] at c19z0))
           clear c19
           by_cases c29 : (wrap64 (((rd_T96 l1 x28_2).f2) - ((rd_T96 l1 x28_2).f1))) < a2_2
           ·
            rw [if_pos c29] at H
            have c29b0 : decide ((wrap64 (((rd_T96 l1 x28_2).f2) - ((rd_T96 l1 x28_2).f1))) < a2_2) = true := decide_eq_true c29
            clear c29
            by_cases c30 : x9_2.length < 17592186044416
            ·
             rw [if_pos c30] at H
             have LMc30 := zm c30
             clear c30
             obtain ⟨y299, hy299⟩ : ∃ y_ : List Int, y_ = (x9_2 ++ [x28_2]) := ⟨_, rfl⟩
             replace H : (spec_pyAll.l1 k2 x8_2 y299 x10_2 l1 (l1.length : Int) (wrap64 (x28_2 + 1)) l0_0 a0_1 a2_0 a2_1 a2_2) = some (r1, r2) := by first | (rw [hy299]; with_reducible exact H) | (have H2_ := (Option.bind_some _ _).symm.trans H; rw [hy299]; with_reducible exact H2_) | (have H2_ := (Option.bind_some _ _).symm.trans H; with_reducible exact H2_) | with_reducible exact H | (rw [hy299]; exact H) | exact H
             have Ny299 := zm hy299
             clear hy299
             have H' := zm H
             clear H
             have p294 : 0 ≤ (x28_2 : Int) := zd
             have q294 : x28_2 < (l1.length : Int) := zd
             obtain ⟨ad294, e294, hx294_0, hx294_1, hx294_2⟩ := at_T96 HR1.out x28_2 p294 q294
             cases e294
             replace hx294_0 := zx HB.out hx294_0
             replace hx294_1 := zx HB.out hx294_1
             replace hx294_2 := zx HB.out hx294_2
             replace p294 := eq_true p294
             replace q294 := eq_true q294
             go_wp2_with (first | ((with_reducible refine gate_dst (N := 13) rfl ?_); refine box_event ?hg (N := 13) ?hd (cs := #[.int .i64 0, .int .i64 0, .int .i64 0]) (t := 96) ?hr ?_; (case hd => rfl); (case hg => rfl); (case hr => first | (go_simp; done) | (go_simp; rfl)); intro gb295 hg w31 hbox hb; have n0_ := zm (Kd.R_below (by (with_reducible repeat (first | apply Kd.R_alloc | apply Kd.R_drewN | apply Kd.R_drew)); exact HO_8.out) hb); have n1_ := zm (Kd.R_below (by (with_reducible repeat (first | apply Kd.R_alloc | apply Kd.R_drewN | apply Kd.R_drew)); exact HO_9.out) hb); have n2_ := zm (Kd.R_below (by (with_reducible repeat (first | apply Kd.R_alloc | apply Kd.R_drewN | apply Kd.R_drew)); exact HO_10.out) hb); have n3_ := zm (blk_below (g := gb288) zk hb); have n4_ := zm (blk_below (g := gb289) zk hb); have n5_ := zm (below_step zb hb); have n6_ := zm (hbox); have n7_ := zm (zs hg zb : w.heap.size ≤ gb295); have n8_ := zm (zs hg zb : w.heap.size ≤ gb295); have n9_ := zm (zl hg zk : gb288 ≠ gb295); have n10_ := zm (zg hg zk : gb295 ≠ gb288); have n11_ := zm (zl hg zk : gb289 ≠ gb295); have n12_ := zm (zg hg zk : gb295 ≠ gb289); clear HO_8; clear HO_9; clear HO_10; clear BK288; clear BK289; clear HB; have HO_8 := n0_; have HO_9 := n1_; have HO_10 := n2_; have BK288 := n3_; have BK289 := n4_; have HB := n5_; have BK295 := n6_; have GW295 := n7_; have GE295 := n8_; have NB288_295 := n9_; have NB295_288 := n10_; have NB289_295 := n11_; have NB295_289 := n12_; clear n0_ n1_ n2_ n3_ n4_ n5_ n6_ n7_ n8_ n9_ n10_ n11_ n12_; clear hb hbox hg; have hnb32 := NB295_288.out; have hnc32 := NB288_295.out; have hnb33 := NB295_289.out; have hnc33 := NB289_295.out; obtain ⟨hcz34_0, hcz34_1, hcz34_2, hfz34_0, hfz34_1, hfz34_2⟩ := zc3 BK295.out; have hnb35 := NB289_288.out; have hnc35 := NB288_289.out; obtain ⟨hcz36_0, hcz36_1, hcz36_2, hfz36_0, hfz36_1, hfz36_2⟩ := zc3 BK289.out; obtain ⟨hcz37_0, hcz37_1, hfz37_0, hfz37_1⟩ := zc2 BK288.out) | ((with_reducible refine gate_builtin (b := .append) (xs := #[.tmp 78, .tmp 80]) rfl ?_); at_builtin; refine Kd.R_append (Kd.int .i64) (w0 := w) w.heap.size rfl (.tmp 78) (.tmp 80) 38 3 (.int .i64 0) 8 rfl Try.underlying38 info3 rfl (by decide) (by omega) u9 x9_2 x28_2 [.int .i64 x28_2] (fun k_ => some k_ ≠ (.slice Ao9 x10_2.length co9 : Value).ownBlock) (fun _ => False) rfl (by first | (go_simp; done) | (go_simp; rfl)) ?aP (fun _ hk => hk.elim) ?aF ?aO ?aB ?aS ?aL ?_; (case aP => exact rfl); (case aB => exact zb); (case aF => exact (fun k_ hk => Kd.fresh' (Kd.R_lt (by (with_reducible repeat (first | apply Kd.R_alloc | apply Kd.R_drewN | apply Kd.R_drew)); exact (Kd.R_mono (Kd.R_far (p := ⟨gb295, 2, none⟩) (Kd.R_far (p := ⟨gb295, 1, none⟩) (Kd.R_far (p := ⟨gb295, 0, none⟩) (Kd.R_types HO_10.out BK295.out (by decide)) (fun _ hk => hk.2) (.int .i64 ((rd_T96 l1 x28_2).f0))) (fun _ hk => hk.2) (.int .i64 ((rd_T96 l1 x28_2).f1))) (fun _ hk => hk.2) (.int .i64 ((rd_T96 l1 x28_2).f2))) (fun _ h_ => h_.1)))) k_ hk)); (case aO => exact (by (with_reducible repeat (first | apply Kd.R_alloc | apply Kd.R_drewN | apply Kd.R_drew)); exact Kd.R_mono (Kd.R_far (p := ⟨gb295, 2, none⟩) (Kd.R_far (p := ⟨gb295, 1, none⟩) (Kd.R_far (p := ⟨gb295, 0, none⟩) (Kd.R_types HO_9.out BK295.out (by decide)) (fun _ hk => hk.2) (.int .i64 ((rd_T96 l1 x28_2).f0))) (fun _ hk => hk.2) (.int .i64 ((rd_T96 l1 x28_2).f1))) (fun _ hk => hk.2) (.int .i64 ((rd_T96 l1 x28_2).f2))) (fun _ hk => hk.1))); (case aS => exact (below_size zb)); (case aL => have := LMc30.out; omega); intro v300 w38 ho hb hg hat; rw [← Ny299.out] at ho; have n0_ := zm (Kd.R_over' (by (with_reducible repeat (first | apply Kd.R_alloc | apply Kd.R_drewN | apply Kd.R_drew)); exact (Kd.R_mono (Kd.R_far (p := ⟨gb295, 2, none⟩) (Kd.R_far (p := ⟨gb295, 1, none⟩) (Kd.R_far (p := ⟨gb295, 0, none⟩) (Kd.R_types HO_8.out BK295.out (by decide)) (fun _ hk => hk.2) (.int .i64 ((rd_T96 l1 x28_2).f0))) (fun _ hk => hk.2) (.int .i64 ((rd_T96 l1 x28_2).f1))) (fun _ hk => hk.2) (.int .i64 ((rd_T96 l1 x28_2).f2))) (fun _ h_ => h_.1))) (Kd.R_typed (by (with_reducible repeat (first | apply Kd.R_alloc | apply Kd.R_drewN | apply Kd.R_drew)); exact (Kd.R_mono (Kd.R_far (p := ⟨gb295, 2, none⟩) (Kd.R_far (p := ⟨gb295, 1, none⟩) (Kd.R_far (p := ⟨gb295, 0, none⟩) (Kd.R_types HO_9.out BK295.out (by decide)) (fun _ hk => hk.2) (.int .i64 ((rd_T96 l1 x28_2).f0))) (fun _ hk => hk.2) (.int .i64 ((rd_T96 l1 x28_2).f1))) (fun _ hk => hk.2) (.int .i64 ((rd_T96 l1 x28_2).f2))) (fun _ h_ => h_.1)))) (by decide) hg); have n1_ := zm (Kd.R_after (ok := (fun _ => True)) (by (with_reducible repeat (first | apply Kd.R_alloc | apply Kd.R_drewN | apply Kd.R_drew)); exact Kd.R_mono (Kd.R_far (p := ⟨gb295, 2, none⟩) (Kd.R_far (p := ⟨gb295, 1, none⟩) (Kd.R_far (p := ⟨gb295, 0, none⟩) (Kd.R_types HO_10.out BK295.out (by decide)) (fun _ hk => hk.2) (.int .i64 ((rd_T96 l1 x28_2).f0))) (fun _ hk => hk.2) (.int .i64 ((rd_T96 l1 x28_2).f1))) (fun _ hk => hk.2) (.int .i64 ((rd_T96 l1 x28_2).f2))) (fun _ hk => ⟨trivial, hk.1⟩)) hg hat); have n2_ := zm (blk_grown (g := gb288) (o := .cells #[.slice A0_0 l0_0.length c0_0, .int .i64 a0_1] 45 (0, 0)) zK hg (Kd.R_ne HO_9.out BK288.out (by decide))); have n3_ := zm (blk_grown (g := gb289) (o := .cells #[.int .i64 a2_0, .int .i64 a2_1, .int .i64 a2_2] 31 (0, 0)) zK hg (Kd.R_ne HO_9.out BK289.out (by decide))); have n4_ := zm (blk_grown (g := gb295) (o := .cells #[.int .i64 ((rd_T96 l1 x28_2).f0), .int .i64 ((rd_T96 l1 x28_2).f1), .int .i64 ((rd_T96 l1 x28_2).f2)] 96 (0, 0)) (by (with_reducible repeat (first | refine blk_drewN ?_ _ | refine blk_drew ?_ | refine blk_alloc ?_ _)); refine blk_put (cs := #[.int .i64 ((rd_T96 l1 x28_2).f0), .int .i64 ((rd_T96 l1 x28_2).f1), .int .i64 0]) ?_ 2 _ rfl; (with_reducible repeat (first | refine blk_drewN ?_ _ | refine blk_drew ?_ | refine blk_alloc ?_ _)); refine blk_put (cs := #[.int .i64 ((rd_T96 l1 x28_2).f0), .int .i64 0, .int .i64 0]) ?_ 1 _ rfl; (with_reducible repeat (first | refine blk_drewN ?_ _ | refine blk_drew ?_ | refine blk_alloc ?_ _)); refine blk_put (cs := #[.int .i64 0, .int .i64 0, .int .i64 0]) ?_ 0 _ rfl; (with_reducible repeat (first | refine blk_drewN ?_ _ | refine blk_drew ?_ | refine blk_alloc ?_ _)); exact BK295.out) hg (Kd.R_ne HO_9.out BK295.out (by decide))); have n5_ := zm (hb); have n6_ := zm (ho); clear HO_8; clear HO_10; clear BK288; clear BK289; clear BK295; clear HB; clear HO_9; have HO_8 := n0_; have HO_10 := n1_; have BK288 := n2_; have BK289 := n3_; have BK295 := n4_; have HB := n5_; have HO301 := n6_; clear n0_ n1_ n2_ n3_ n4_ n5_ n6_; clear ho hb hg hat) | ((with_reducible refine spec_pyAll.gq ?_); go_quiet (fail)))
             (try simp only [← hl10_2])
             go_roundg k2
             case measure => have := HK1.out; have := HK2.out; omega
             case rel => exact ⟨(x8_2), (y299), (x10_2), (wrap64 (x28_2 + 1)), (by first | rfl | (simp; done) | (simp [*]; done)), H', ⟨by have := HK1.out; have := HK2.out; omega⟩, ⟨by (try simp only [hl10_1]); (try simp only [hl10_2]); (with_reducible repeat (first | apply Kd.R_alloc | apply Kd.R_drewN | apply Kd.R_drew)); exact HO_8.out⟩, ⟨by (try simp only [hl10_1]); (try simp only [hl10_2]); (with_reducible repeat (first | apply Kd.R_alloc | apply Kd.R_drewN | apply Kd.R_drew)); exact HO301.out⟩, ⟨by (try simp only [hl10_1]); (try simp only [hl10_2]); (with_reducible repeat (first | apply Kd.R_alloc | apply Kd.R_drewN | apply Kd.R_drew)); exact zM HO_10.out⟩, ⟨by (try simp only [hl10_1]); (try simp only [hl10_2]); (with_reducible repeat (first | refine blk_drewN ?_ _ | refine blk_drew ?_ | refine blk_alloc ?_ _)); exact BK288.out⟩, ⟨by (try simp only [hl10_1]); (try simp only [hl10_2]); (with_reducible repeat (first | refine blk_drewN ?_ _ | refine blk_drew ?_ | refine blk_alloc ?_ _)); exact BK289.out⟩, ⟨zb⟩⟩
            ·
             rw [if_neg c30] at H
             exact absurd H (by simp)
           ·
            rw [if_neg c29] at H
            have c29b0 : decide ((wrap64 (((rd_T96 l1 x28_2).f2) - ((rd_T96 l1 x28_2).f1))) < a2_2) = false := decide_eq_false c29
            clear c29
            by_cases c39 : 0 ≤ ((rd_T96 l1 x28_2).f0)
            ·
             rw [if_pos c39] at H
             have c39b0 : decide (0 ≤ ((rd_T96 l1 x28_2).f0)) = true := decide_eq_true c39
             clear c39
             by_cases c40 : ((rd_T96 l1 x28_2).f0) < (x10_2.length : Int)
             ·
              rw [if_pos c40] at H
              have c40b0 : decide (((rd_T96 l1 x28_2).f0) < (x10_2.length : Int)) = true := decide_eq_true c40
              clear c40
              by_cases c41 : (wrap64 (((rd_T96 l1 x28_2).f1) - (rd x10_2 ((rd_T96 l1 x28_2).f0)))) < (wrap64 (2 * a0_1))
              ·
               rw [if_pos c41] at H
               have c41b0 : decide ((wrap64 (((rd_T96 l1 x28_2).f1) - (rd x10_2 ((rd_T96 l1 x28_2).f0)))) < (wrap64 (2 * a0_1))) = true := decide_eq_true c41
               clear c41
               by_cases c42 : x9_2.length < 17592186044416
               ·
                rw [if_pos c42] at H
                have LMc42 := zm c42
                clear c42
                obtain ⟨y303, hy303⟩ : ∃ y_ : List Int, y_ = (x9_2 ++ [x28_2]) := ⟨_, rfl⟩
                replace H : (spec_pyAll.l1 k2 x8_2 y303 x10_2 l1 (l1.length : Int) (wrap64 (x28_2 + 1)) l0_0 a0_1 a2_0 a2_1 a2_2) = some (r1, r2) := by first | (rw [hy303]; with_reducible exact H) | (have H2_ := (Option.bind_some _ _).symm.trans H; rw [hy303]; with_reducible exact H2_) | (have H2_ := (Option.bind_some _ _).symm.trans H; with_reducible exact H2_) | with_reducible exact H | (rw [hy303]; exact H) | exact H
                have Ny303 := zm hy303
                clear hy303
                have H' := zm H
                clear H
                have p294 : 0 ≤ (x28_2 : Int) := zd
                have q294 : x28_2 < (l1.length : Int) := zd
                obtain ⟨ad294, e294, hx294_0, hx294_1, hx294_2⟩ := at_T96 HR1.out x28_2 p294 q294
                cases e294
                replace hx294_0 := zx HB.out hx294_0
                replace hx294_1 := zx HB.out hx294_1
                replace hx294_2 := zx HB.out hx294_2
                replace p294 := eq_true p294
                replace q294 := eq_true q294
                go_wp2_with (first | ((with_reducible refine gate_dst (N := 13) rfl ?_); refine box_event ?hg (N := 13) ?hd (cs := #[.int .i64 0, .int .i64 0, .int .i64 0]) (t := 96) ?hr ?_; (case hd => rfl); (case hg => rfl); (case hr => first | (go_simp; done) | (go_simp; rfl)); intro gb295 hg w43 hbox hb; have n0_ := zm (Kd.R_below (by (with_reducible repeat (first | apply Kd.R_alloc | apply Kd.R_drewN | apply Kd.R_drew)); exact HO_8.out) hb); have n1_ := zm (Kd.R_below (by (with_reducible repeat (first | apply Kd.R_alloc | apply Kd.R_drewN | apply Kd.R_drew)); exact HO_9.out) hb); have n2_ := zm (Kd.R_below (by (with_reducible repeat (first | apply Kd.R_alloc | apply Kd.R_drewN | apply Kd.R_drew)); exact HO_10.out) hb); have n3_ := zm (blk_below (g := gb288) zk hb); have n4_ := zm (blk_below (g := gb289) zk hb); have n5_ := zm (below_step zb hb); have n6_ := zm (hbox); have n7_ := zm (zs hg zb : w.heap.size ≤ gb295); have n8_ := zm (zs hg zb : w.heap.size ≤ gb295); have n9_ := zm (zl hg zk : gb288 ≠ gb295); have n10_ := zm (zg hg zk : gb295 ≠ gb288); have n11_ := zm (zl hg zk : gb289 ≠ gb295); have n12_ := zm (zg hg zk : gb295 ≠ gb289); clear HO_8; clear HO_9; clear HO_10; clear BK288; clear BK289; clear HB; have HO_8 := n0_; have HO_9 := n1_; have HO_10 := n2_; have BK288 := n3_; have BK289 := n4_; have HB := n5_; have BK295 := n6_; have GW295 := n7_; have GE295 := n8_; have NB288_295 := n9_; have NB295_288 := n10_; have NB289_295 := n11_; have NB295_289 := n12_; clear n0_ n1_ n2_ n3_ n4_ n5_ n6_ n7_ n8_ n9_ n10_ n11_ n12_; clear hb hbox hg; have hnb44 := NB295_288.out; have hnc44 := NB288_295.out; have hnb45 := NB295_289.out; have hnc45 := NB289_295.out; obtain ⟨hcz46_0, hcz46_1, hcz46_2, hfz46_0, hfz46_1, hfz46_2⟩ := zc3 BK295.out; have hnb47 := NB289_288.out; have hnc47 := NB288_289.out; obtain ⟨hcz48_0, hcz48_1, hcz48_2, hfz48_0, hfz48_1, hfz48_2⟩ := zc3 BK289.out; obtain ⟨hcz49_0, hcz49_1, hfz49_0, hfz49_1⟩ := zc2 BK288.out; have p302 : 0 ≤ (((rd_T96 l1 x28_2).f0) : Int) := zd; have q302 : ((rd_T96 l1 x28_2).f0) < (x10_2.length : Int) := zd; obtain ⟨ad302, e302, hx302_0⟩ := Kd.at_int (Kd.R_reads' HO_10.out).2.2 ((rd_T96 l1 x28_2).f0) p302 q302; cases e302; have hn302_0 : ad302.block ≠ gb295 := Kd.own_blk (Kd.R_ne HO_10.out BK295.out (by decide)); have hn302_1 : ad302.block ≠ gb295 := Kd.own_blk (Kd.R_ne HO_10.out BK295.out (by decide)); have hn302_2 : ad302.block ≠ gb295 := Kd.own_blk (Kd.R_ne HO_10.out BK295.out (by decide)); replace hx302_0 := zf (p := ⟨gb295, 0, none⟩) (.int .i64 ((rd_T96 l1 x28_2).f0)) hx302_0; replace hx302_0 := zf (p := ⟨gb295, 1, none⟩) (.int .i64 ((rd_T96 l1 x28_2).f1)) hx302_0; replace hx302_0 := zf (p := ⟨gb295, 2, none⟩) (.int .i64 ((rd_T96 l1 x28_2).f2)) hx302_0; (try have hy302_0 := fun (n_ : Nat) => (show (((((w43.drewN n_).setCell ⟨gb295, 0, none⟩ (.int .i64 ((rd_T96 l1 x28_2).f0))).setCell ⟨gb295, 1, none⟩ (.int .i64 ((rd_T96 l1 x28_2).f1))).setCell ⟨gb295, 2, none⟩ (.int .i64 ((rd_T96 l1 x28_2).f2)))).cell? _ = some _ from hx302_0)); clear hn302_0; clear hn302_1; clear hn302_2; replace p302 := eq_true p302; replace q302 := eq_true q302) | ((with_reducible refine gate_builtin (b := .append) (xs := #[.tmp 78, .tmp 80]) rfl ?_); at_builtin; refine Kd.R_append (Kd.int .i64) (w0 := w) w.heap.size rfl (.tmp 78) (.tmp 80) 38 3 (.int .i64 0) 8 rfl Try.underlying38 info3 rfl (by decide) (by omega) u9 x9_2 x28_2 [.int .i64 x28_2] (fun k_ => some k_ ≠ (.slice (some ad302) x10_2.length co9 : Value).ownBlock) (fun _ => False) rfl (by first | (go_simp; done) | (go_simp; rfl)) ?aP (fun _ hk => hk.elim) ?aF ?aO ?aB ?aS ?aL ?_; (case aP => exact rfl); (case aB => exact zb); (case aF => exact (fun k_ hk => Kd.fresh' (Kd.R_lt (by (with_reducible repeat (first | apply Kd.R_alloc | apply Kd.R_drewN | apply Kd.R_drew)); exact (Kd.R_mono (Kd.R_far (p := ⟨gb295, 2, none⟩) (Kd.R_far (p := ⟨gb295, 1, none⟩) (Kd.R_far (p := ⟨gb295, 0, none⟩) (Kd.R_types HO_10.out BK295.out (by decide)) (fun _ hk => hk.2) (.int .i64 ((rd_T96 l1 x28_2).f0))) (fun _ hk => hk.2) (.int .i64 ((rd_T96 l1 x28_2).f1))) (fun _ hk => hk.2) (.int .i64 ((rd_T96 l1 x28_2).f2))) (fun _ h_ => h_.1)))) k_ hk)); (case aO => exact (by (with_reducible repeat (first | apply Kd.R_alloc | apply Kd.R_drewN | apply Kd.R_drew)); exact Kd.R_mono (Kd.R_far (p := ⟨gb295, 2, none⟩) (Kd.R_far (p := ⟨gb295, 1, none⟩) (Kd.R_far (p := ⟨gb295, 0, none⟩) (Kd.R_types HO_9.out BK295.out (by decide)) (fun _ hk => hk.2) (.int .i64 ((rd_T96 l1 x28_2).f0))) (fun _ hk => hk.2) (.int .i64 ((rd_T96 l1 x28_2).f1))) (fun _ hk => hk.2) (.int .i64 ((rd_T96 l1 x28_2).f2))) (fun _ hk => hk.1))); (case aS => exact (below_size zb)); (case aL => have := LMc42.out; omega); intro v304 w50 ho hb hg hat; rw [← Ny303.out] at ho; have n0_ := zm (Kd.R_over' (by (with_reducible repeat (first | apply Kd.R_alloc | apply Kd.R_drewN | apply Kd.R_drew)); exact (Kd.R_mono (Kd.R_far (p := ⟨gb295, 2, none⟩) (Kd.R_far (p := ⟨gb295, 1, none⟩) (Kd.R_far (p := ⟨gb295, 0, none⟩) (Kd.R_types HO_8.out BK295.out (by decide)) (fun _ hk => hk.2) (.int .i64 ((rd_T96 l1 x28_2).f0))) (fun _ hk => hk.2) (.int .i64 ((rd_T96 l1 x28_2).f1))) (fun _ hk => hk.2) (.int .i64 ((rd_T96 l1 x28_2).f2))) (fun _ h_ => h_.1))) (Kd.R_typed (by (with_reducible repeat (first | apply Kd.R_alloc | apply Kd.R_drewN | apply Kd.R_drew)); exact (Kd.R_mono (Kd.R_far (p := ⟨gb295, 2, none⟩) (Kd.R_far (p := ⟨gb295, 1, none⟩) (Kd.R_far (p := ⟨gb295, 0, none⟩) (Kd.R_types HO_9.out BK295.out (by decide)) (fun _ hk => hk.2) (.int .i64 ((rd_T96 l1 x28_2).f0))) (fun _ hk => hk.2) (.int .i64 ((rd_T96 l1 x28_2).f1))) (fun _ hk => hk.2) (.int .i64 ((rd_T96 l1 x28_2).f2))) (fun _ h_ => h_.1)))) (by decide) hg); have n1_ := zm (Kd.R_after (ok := (fun _ => True)) (by (with_reducible repeat (first | apply Kd.R_alloc | apply Kd.R_drewN | apply Kd.R_drew)); exact Kd.R_mono (Kd.R_far (p := ⟨gb295, 2, none⟩) (Kd.R_far (p := ⟨gb295, 1, none⟩) (Kd.R_far (p := ⟨gb295, 0, none⟩) (Kd.R_types HO_10.out BK295.out (by decide)) (fun _ hk => hk.2) (.int .i64 ((rd_T96 l1 x28_2).f0))) (fun _ hk => hk.2) (.int .i64 ((rd_T96 l1 x28_2).f1))) (fun _ hk => hk.2) (.int .i64 ((rd_T96 l1 x28_2).f2))) (fun _ hk => ⟨trivial, hk.1⟩)) hg hat); have n2_ := zm (blk_grown (g := gb288) (o := .cells #[.slice A0_0 l0_0.length c0_0, .int .i64 a0_1] 45 (0, 0)) zK hg (Kd.R_ne HO_9.out BK288.out (by decide))); have n3_ := zm (blk_grown (g := gb289) (o := .cells #[.int .i64 a2_0, .int .i64 a2_1, .int .i64 a2_2] 31 (0, 0)) zK hg (Kd.R_ne HO_9.out BK289.out (by decide))); have n4_ := zm (blk_grown (g := gb295) (o := .cells #[.int .i64 ((rd_T96 l1 x28_2).f0), .int .i64 ((rd_T96 l1 x28_2).f1), .int .i64 ((rd_T96 l1 x28_2).f2)] 96 (0, 0)) (by (with_reducible repeat (first | refine blk_drewN ?_ _ | refine blk_drew ?_ | refine blk_alloc ?_ _)); refine blk_put (cs := #[.int .i64 ((rd_T96 l1 x28_2).f0), .int .i64 ((rd_T96 l1 x28_2).f1), .int .i64 0]) ?_ 2 _ rfl; (with_reducible repeat (first | refine blk_drewN ?_ _ | refine blk_drew ?_ | refine blk_alloc ?_ _)); refine blk_put (cs := #[.int .i64 ((rd_T96 l1 x28_2).f0), .int .i64 0, .int .i64 0]) ?_ 1 _ rfl; (with_reducible repeat (first | refine blk_drewN ?_ _ | refine blk_drew ?_ | refine blk_alloc ?_ _)); refine blk_put (cs := #[.int .i64 0, .int .i64 0, .int .i64 0]) ?_ 0 _ rfl; (with_reducible repeat (first | refine blk_drewN ?_ _ | refine blk_drew ?_ | refine blk_alloc ?_ _)); exact BK295.out) hg (Kd.R_ne HO_9.out BK295.out (by decide))); have n5_ := zm (hb); have n6_ := zm (ho); clear HO_8; clear HO_10; clear BK288; clear BK289; clear BK295; clear HB; clear HO_9; have HO_8 := n0_; have HO_10 := n1_; have BK288 := n2_; have BK289 := n3_; have BK295 := n4_; have HB := n5_; have HO305 := n6_; clear n0_ n1_ n2_ n3_ n4_ n5_ n6_; clear ho hb hg hat) | ((with_reducible refine spec_pyAll.gq ?_); go_quiet (fail)))
                (try simp only [← hl10_2])
                go_roundg k2
                case measure => have := HK1.out; have := HK2.out; omega
                case rel => exact ⟨(x8_2), (y303), (x10_2), (wrap64 (x28_2 + 1)), (by first | rfl | (simp; done) | (simp [*]; done)), H', ⟨by have := HK1.out; have := HK2.out; omega⟩, ⟨by (try simp only [hl10_1]); (try simp only [hl10_2]); (with_reducible repeat (first | apply Kd.R_alloc | apply Kd.R_drewN | apply Kd.R_drew)); exact HO_8.out⟩, ⟨by (try simp only [hl10_1]); (try simp only [hl10_2]); (with_reducible repeat (first | apply Kd.R_alloc | apply Kd.R_drewN | apply Kd.R_drew)); exact HO305.out⟩, ⟨by (try simp only [hl10_1]); (try simp only [hl10_2]); (with_reducible repeat (first | apply Kd.R_alloc | apply Kd.R_drewN | apply Kd.R_drew)); exact zM HO_10.out⟩, ⟨by (try simp only [hl10_1]); (try simp only [hl10_2]); (with_reducible repeat (first | refine blk_drewN ?_ _ | refine blk_drew ?_ | refine blk_alloc ?_ _)); exact BK288.out⟩, ⟨by (try simp only [hl10_1]); (try simp only [hl10_2]); (with_reducible repeat (first | refine blk_drewN ?_ _ | refine blk_drew ?_ | refine blk_alloc ?_ _)); exact BK289.out⟩, ⟨zb⟩⟩
               ·
                rw [if_neg c42] at H
                exact absurd H (by simp)
              ·
               rw [if_neg c41] at H
               have c41b0 : decide ((wrap64 (((rd_T96 l1 x28_2).f1) - (rd x10_2 ((rd_T96 l1 x28_2).f0)))) < (wrap64 (2 * a0_1))) = false := decide_eq_false c41
               clear c41
               by_cases c51 : (wrap64 (((rd_T96 l1 x28_2).f1) + a2_0)) ≥ (wrap64 (((rd_T96 l1 x28_2).f2) + a2_1))
               ·
                rw [if_pos c51] at H
                have c51b0 : decide ((wrap64 (((rd_T96 l1 x28_2).f2) + a2_1)) ≤ (wrap64 (((rd_T96 l1 x28_2).f1) + a2_0))) = true := decide_eq_true c51
                clear c51
                by_cases c52 : x9_2.length < 17592186044416
                ·
                 rw [if_pos c52] at H
                 have LMc52 := zm c52
                 clear c52
                 obtain ⟨y306, hy306⟩ : ∃ y_ : List Int, y_ = (x9_2 ++ [x28_2]) := ⟨_, rfl⟩
                 replace H : (spec_pyAll.l1 k2 x8_2 y306 x10_2 l1 (l1.length : Int) (wrap64 (x28_2 + 1)) l0_0 a0_1 a2_0 a2_1 a2_2) = some (r1, r2) := by first | (rw [hy306]; with_reducible exact H) | (have H2_ := (Option.bind_some _ _).symm.trans H; rw [hy306]; with_reducible exact H2_) | (have H2_ := (Option.bind_some _ _).symm.trans H; with_reducible exact H2_) | with_reducible exact H | (rw [hy306]; exact H) | exact H
                 have Ny306 := zm hy306
                 clear hy306
                 have H' := zm H
                 clear H
                 have p294 : 0 ≤ (x28_2 : Int) := zd
                 have q294 : x28_2 < (l1.length : Int) := zd
                 obtain ⟨ad294, e294, hx294_0, hx294_1, hx294_2⟩ := at_T96 HR1.out x28_2 p294 q294
                 cases e294
                 replace hx294_0 := zx HB.out hx294_0
                 replace hx294_1 := zx HB.out hx294_1
                 replace hx294_2 := zx HB.out hx294_2
                 replace p294 := eq_true p294
                 replace q294 := eq_true q294
                 go_wp2_with (first | ((with_reducible refine gate_dst (N := 13) rfl ?_); refine box_event ?hg (N := 13) ?hd (cs := #[.int .i64 0, .int .i64 0, .int .i64 0]) (t := 96) ?hr ?_; (case hd => rfl); (case hg => rfl); (case hr => first | (go_simp; done) | (go_simp; rfl)); intro gb295 hg w53 hbox hb; have n0_ := zm (Kd.R_below (by (with_reducible repeat (first | apply Kd.R_alloc | apply Kd.R_drewN | apply Kd.R_drew)); exact HO_8.out) hb); have n1_ := zm (Kd.R_below (by (with_reducible repeat (first | apply Kd.R_alloc | apply Kd.R_drewN | apply Kd.R_drew)); exact HO_9.out) hb); have n2_ := zm (Kd.R_below (by (with_reducible repeat (first | apply Kd.R_alloc | apply Kd.R_drewN | apply Kd.R_drew)); exact HO_10.out) hb); have n3_ := zm (blk_below (g := gb288) zk hb); have n4_ := zm (blk_below (g := gb289) zk hb); have n5_ := zm (below_step zb hb); have n6_ := zm (hbox); have n7_ := zm (zs hg zb : w.heap.size ≤ gb295); have n8_ := zm (zs hg zb : w.heap.size ≤ gb295); have n9_ := zm (zl hg zk : gb288 ≠ gb295); have n10_ := zm (zg hg zk : gb295 ≠ gb288); have n11_ := zm (zl hg zk : gb289 ≠ gb295); have n12_ := zm (zg hg zk : gb295 ≠ gb289); clear HO_8; clear HO_9; clear HO_10; clear BK288; clear BK289; clear HB; have HO_8 := n0_; have HO_9 := n1_; have HO_10 := n2_; have BK288 := n3_; have BK289 := n4_; have HB := n5_; have BK295 := n6_; have GW295 := n7_; have GE295 := n8_; have NB288_295 := n9_; have NB295_288 := n10_; have NB289_295 := n11_; have NB295_289 := n12_; clear n0_ n1_ n2_ n3_ n4_ n5_ n6_ n7_ n8_ n9_ n10_ n11_ n12_; clear hb hbox hg; have hnb54 := NB295_288.out; have hnc54 := NB288_295.out; have hnb55 := NB295_289.out; have hnc55 := NB289_295.out; obtain ⟨hcz56_0, hcz56_1, hcz56_2, hfz56_0, hfz56_1, hfz56_2⟩ := zc3 BK295.out; have hnb57 := NB289_288.out; have hnc57 := NB288_289.out; obtain ⟨hcz58_0, hcz58_1, hcz58_2, hfz58_0, hfz58_1, hfz58_2⟩ := zc3 BK289.out; obtain ⟨hcz59_0, hcz59_1, hfz59_0, hfz59_1⟩ := zc2 BK288.out; have p302 : 0 ≤ (((rd_T96 l1 x28_2).f0) : Int) := zd; have q302 : ((rd_T96 l1 x28_2).f0) < (x10_2.length : Int) := zd; obtain ⟨ad302, e302, hx302_0⟩ := Kd.at_int (Kd.R_reads' HO_10.out).2.2 ((rd_T96 l1 x28_2).f0) p302 q302; cases e302; have hn302_0 : ad302.block ≠ gb295 := Kd.own_blk (Kd.R_ne HO_10.out BK295.out (by decide)); have hn302_1 : ad302.block ≠ gb295 := Kd.own_blk (Kd.R_ne HO_10.out BK295.out (by decide)); have hn302_2 : ad302.block ≠ gb295 := Kd.own_blk (Kd.R_ne HO_10.out BK295.out (by decide)); replace hx302_0 := zf (p := ⟨gb295, 0, none⟩) (.int .i64 ((rd_T96 l1 x28_2).f0)) hx302_0; replace hx302_0 := zf (p := ⟨gb295, 1, none⟩) (.int .i64 ((rd_T96 l1 x28_2).f1)) hx302_0; replace hx302_0 := zf (p := ⟨gb295, 2, none⟩) (.int .i64 ((rd_T96 l1 x28_2).f2)) hx302_0; (try have hy302_0 := fun (n_ : Nat) => (show (((((w53.drewN n_).setCell ⟨gb295, 0, none⟩ (.int .i64 ((rd_T96 l1 x28_2).f0))).setCell ⟨gb295, 1, none⟩ (.int .i64 ((rd_T96 l1 x28_2).f1))).setCell ⟨gb295, 2, none⟩ (.int .i64 ((rd_T96 l1 x28_2).f2)))).cell? _ = some _ from hx302_0)); clear hn302_0; clear hn302_1; clear hn302_2; replace p302 := eq_true p302; replace q302 := eq_true q302) | ((with_reducible refine gate_builtin (b := .append) (xs := #[.tmp 78, .tmp 80]) rfl ?_); at_builtin; refine Kd.R_append (Kd.int .i64) (w0 := w) w.heap.size rfl (.tmp 78) (.tmp 80) 38 3 (.int .i64 0) 8 rfl Try.underlying38 info3 rfl (by decide) (by omega) u9 x9_2 x28_2 [.int .i64 x28_2] (fun k_ => some k_ ≠ (.slice (some ad302) x10_2.length co9 : Value).ownBlock) (fun _ => False) rfl (by first | (go_simp; done) | (go_simp; rfl)) ?aP (fun _ hk => hk.elim) ?aF ?aO ?aB ?aS ?aL ?_; (case aP => exact rfl); (case aB => exact zb); (case aF => exact (fun k_ hk => Kd.fresh' (Kd.R_lt (by (with_reducible repeat (first | apply Kd.R_alloc | apply Kd.R_drewN | apply Kd.R_drew)); exact (Kd.R_mono (Kd.R_far (p := ⟨gb295, 2, none⟩) (Kd.R_far (p := ⟨gb295, 1, none⟩) (Kd.R_far (p := ⟨gb295, 0, none⟩) (Kd.R_types HO_10.out BK295.out (by decide)) (fun _ hk => hk.2) (.int .i64 ((rd_T96 l1 x28_2).f0))) (fun _ hk => hk.2) (.int .i64 ((rd_T96 l1 x28_2).f1))) (fun _ hk => hk.2) (.int .i64 ((rd_T96 l1 x28_2).f2))) (fun _ h_ => h_.1)))) k_ hk)); (case aO => exact (by (with_reducible repeat (first | apply Kd.R_alloc | apply Kd.R_drewN | apply Kd.R_drew)); exact Kd.R_mono (Kd.R_far (p := ⟨gb295, 2, none⟩) (Kd.R_far (p := ⟨gb295, 1, none⟩) (Kd.R_far (p := ⟨gb295, 0, none⟩) (Kd.R_types HO_9.out BK295.out (by decide)) (fun _ hk => hk.2) (.int .i64 ((rd_T96 l1 x28_2).f0))) (fun _ hk => hk.2) (.int .i64 ((rd_T96 l1 x28_2).f1))) (fun _ hk => hk.2) (.int .i64 ((rd_T96 l1 x28_2).f2))) (fun _ hk => hk.1))); (case aS => exact (below_size zb)); (case aL => have := LMc52.out; omega); intro v307 w60 ho hb hg hat; rw [← Ny306.out] at ho; have n0_ := zm (Kd.R_over' (by (with_reducible repeat (first | apply Kd.R_alloc | apply Kd.R_drewN | apply Kd.R_drew)); exact (Kd.R_mono (Kd.R_far (p := ⟨gb295, 2, none⟩) (Kd.R_far (p := ⟨gb295, 1, none⟩) (Kd.R_far (p := ⟨gb295, 0, none⟩) (Kd.R_types HO_8.out BK295.out (by decide)) (fun _ hk => hk.2) (.int .i64 ((rd_T96 l1 x28_2).f0))) (fun _ hk => hk.2) (.int .i64 ((rd_T96 l1 x28_2).f1))) (fun _ hk => hk.2) (.int .i64 ((rd_T96 l1 x28_2).f2))) (fun _ h_ => h_.1))) (Kd.R_typed (by (with_reducible repeat (first | apply Kd.R_alloc | apply Kd.R_drewN | apply Kd.R_drew)); exact (Kd.R_mono (Kd.R_far (p := ⟨gb295, 2, none⟩) (Kd.R_far (p := ⟨gb295, 1, none⟩) (Kd.R_far (p := ⟨gb295, 0, none⟩) (Kd.R_types HO_9.out BK295.out (by decide)) (fun _ hk => hk.2) (.int .i64 ((rd_T96 l1 x28_2).f0))) (fun _ hk => hk.2) (.int .i64 ((rd_T96 l1 x28_2).f1))) (fun _ hk => hk.2) (.int .i64 ((rd_T96 l1 x28_2).f2))) (fun _ h_ => h_.1)))) (by decide) hg); have n1_ := zm (Kd.R_after (ok := (fun _ => True)) (by (with_reducible repeat (first | apply Kd.R_alloc | apply Kd.R_drewN | apply Kd.R_drew)); exact Kd.R_mono (Kd.R_far (p := ⟨gb295, 2, none⟩) (Kd.R_far (p := ⟨gb295, 1, none⟩) (Kd.R_far (p := ⟨gb295, 0, none⟩) (Kd.R_types HO_10.out BK295.out (by decide)) (fun _ hk => hk.2) (.int .i64 ((rd_T96 l1 x28_2).f0))) (fun _ hk => hk.2) (.int .i64 ((rd_T96 l1 x28_2).f1))) (fun _ hk => hk.2) (.int .i64 ((rd_T96 l1 x28_2).f2))) (fun _ hk => ⟨trivial, hk.1⟩)) hg hat); have n2_ := zm (blk_grown (g := gb288) (o := .cells #[.slice A0_0 l0_0.length c0_0, .int .i64 a0_1] 45 (0, 0)) zK hg (Kd.R_ne HO_9.out BK288.out (by decide))); have n3_ := zm (blk_grown (g := gb289) (o := .cells #[.int .i64 a2_0, .int .i64 a2_1, .int .i64 a2_2] 31 (0, 0)) zK hg (Kd.R_ne HO_9.out BK289.out (by decide))); have n4_ := zm (blk_grown (g := gb295) (o := .cells #[.int .i64 ((rd_T96 l1 x28_2).f0), .int .i64 ((rd_T96 l1 x28_2).f1), .int .i64 ((rd_T96 l1 x28_2).f2)] 96 (0, 0)) (by (with_reducible repeat (first | refine blk_drewN ?_ _ | refine blk_drew ?_ | refine blk_alloc ?_ _)); refine blk_put (cs := #[.int .i64 ((rd_T96 l1 x28_2).f0), .int .i64 ((rd_T96 l1 x28_2).f1), .int .i64 0]) ?_ 2 _ rfl; (with_reducible repeat (first | refine blk_drewN ?_ _ | refine blk_drew ?_ | refine blk_alloc ?_ _)); refine blk_put (cs := #[.int .i64 ((rd_T96 l1 x28_2).f0), .int .i64 0, .int .i64 0]) ?_ 1 _ rfl; (with_reducible repeat (first | refine blk_drewN ?_ _ | refine blk_drew ?_ | refine blk_alloc ?_ _)); refine blk_put (cs := #[.int .i64 0, .int .i64 0, .int .i64 0]) ?_ 0 _ rfl; (with_reducible repeat (first | refine blk_drewN ?_ _ | refine blk_drew ?_ | refine blk_alloc ?_ _)); exact BK295.out) hg (Kd.R_ne HO_9.out BK295.out (by decide))); have n5_ := zm (hb); have n6_ := zm (ho); clear HO_8; clear HO_10; clear BK288; clear BK289; clear BK295; clear HB; clear HO_9; have HO_8 := n0_; have HO_10 := n1_; have BK288 := n2_; have BK289 := n3_; have BK295 := n4_; have HB := n5_; have HO308 := n6_; clear n0_ n1_ n2_ n3_ n4_ n5_ n6_; clear ho hb hg hat) | ((with_reducible refine spec_pyAll.gq ?_); go_quiet (fail)))
                 (try simp only [← hl10_2])
                 go_roundg k2
                 case measure => have := HK1.out; have := HK2.out; omega
                 case rel => exact ⟨(x8_2), (y306), (x10_2), (wrap64 (x28_2 + 1)), (by first | rfl | (simp; done) | (simp [*]; done)), H', ⟨by have := HK1.out; have := HK2.out; omega⟩, ⟨by (try simp only [hl10_1]); (try simp only [hl10_2]); (with_reducible repeat (first | apply Kd.R_alloc | apply Kd.R_drewN | apply Kd.R_drew)); exact HO_8.out⟩, ⟨by (try simp only [hl10_1]); (try simp only [hl10_2]); (with_reducible repeat (first | apply Kd.R_alloc | apply Kd.R_drewN | apply Kd.R_drew)); exact HO308.out⟩, ⟨by (try simp only [hl10_1]); (try simp only [hl10_2]); (with_reducible repeat (first | apply Kd.R_alloc | apply Kd.R_drewN | apply Kd.R_drew)); exact zM HO_10.out⟩, ⟨by (try simp only [hl10_1]); (try simp only [hl10_2]); (with_reducible repeat (first | refine blk_drewN ?_ _ | refine blk_drew ?_ | refine blk_alloc ?_ _)); exact BK288.out⟩, ⟨by (try simp only [hl10_1]); (try simp only [hl10_2]); (with_reducible repeat (first | refine blk_drewN ?_ _ | refine blk_drew ?_ | refine blk_alloc ?_ _)); exact BK289.out⟩, ⟨zb⟩⟩
                ·
                 rw [if_neg c52] at H
                 exact absurd H (by simp)
               ·
                rw [if_neg c51] at H
                have c51b0 : decide ((wrap64 (((rd_T96 l1 x28_2).f2) + a2_1)) ≤ (wrap64 (((rd_T96 l1 x28_2).f1) + a2_0))) = false := decide_eq_false c51
                clear c51
                obtain ⟨y309, hy309⟩ : ∃ y_ : List Int, y_ = (x10_2.set (((rd_T96 l1 x28_2).f0) : Int).toNat ((rd_T96 l1 x28_2).f1)) := ⟨_, rfl⟩
                replace H : (if ((rd_T96 l1 x28_2).f0) < (l0_0.length : Int) then (if x8_2.length < 5864062014805 then (spec_pyAll.l1 k2 (x8_2 ++ [(⟨rd l0_0 ((rd_T96 l1 x28_2).f0), wrap64 (((rd_T96 l1 x28_2).f1) + a2_0), wrap64 (((rd_T96 l1 x28_2).f2) + a2_1)⟩ : S93)]) x9_2 y309 l1 (l1.length : Int) (wrap64 (x28_2 + 1)) l0_0 a0_1 a2_0 a2_1 a2_2) else (none)) else (none)) = some (r1, r2) := by first | (rw [hy309]; with_reducible exact H) | (have H2_ := (Option.bind_some _ _).symm.trans H; rw [hy309]; with_reducible exact H2_) | (have H2_ := (Option.bind_some _ _).symm.trans H; with_reducible exact H2_) | with_reducible exact H | (rw [hy309]; exact H) | exact H
                have Ny309 := zm hy309
                clear hy309
                by_cases c62 : ((rd_T96 l1 x28_2).f0) < (l0_0.length : Int)
                ·
                 rw [if_pos c62] at H
                 have c62b0 : decide (((rd_T96 l1 x28_2).f0) < (l0_0.length : Int)) = true := decide_eq_true c62
                 clear c62
                 by_cases c63 : x8_2.length < 5864062014805
                 ·
                  rw [if_pos c63] at H
                  have LMc63 := zm c63
                  clear c63
                  obtain ⟨y311, hy311⟩ : ∃ y_ : List (S93), y_ = (x8_2 ++ [(⟨rd l0_0 ((rd_T96 l1 x28_2).f0), wrap64 (((rd_T96 l1 x28_2).f1) + a2_0), wrap64 (((rd_T96 l1 x28_2).f2) + a2_1)⟩ : S93)]) := ⟨_, rfl⟩
                  replace H : (spec_pyAll.l1 k2 y311 x9_2 y309 l1 (l1.length : Int) (wrap64 (x28_2 + 1)) l0_0 a0_1 a2_0 a2_1 a2_2) = some (r1, r2) := by first | (rw [hy311]; with_reducible exact H) | (have H2_ := (Option.bind_some _ _).symm.trans H; rw [hy311]; with_reducible exact H2_) | (have H2_ := (Option.bind_some _ _).symm.trans H; with_reducible exact H2_) | with_reducible exact H | (rw [hy311]; exact H) | exact H
                  have Ny311 := zm hy311
                  clear hy311
                  have H' := zm H
                  clear H
                  have p294 : 0 ≤ (x28_2 : Int) := zd
                  have q294 : x28_2 < (l1.length : Int) := zd
                  obtain ⟨ad294, e294, hx294_0, hx294_1, hx294_2⟩ := at_T96 HR1.out x28_2 p294 q294
                  cases e294
                  replace hx294_0 := zx HB.out hx294_0
                  replace hx294_1 := zx HB.out hx294_1
                  replace hx294_2 := zx HB.out hx294_2
                  replace p294 := eq_true p294
                  replace q294 := eq_true q294
                  go_wp2_with (first | ((with_reducible refine gate_dst (N := 13) rfl ?_); refine box_event ?hg (N := 13) ?hd (cs := #[.int .i64 0, .int .i64 0, .int .i64 0]) (t := 96) ?hr ?_; (case hd => rfl); (case hg => rfl); (case hr => first | (go_simp; done) | (go_simp; rfl)); intro gb295 hg w64 hbox hb; have n0_ := zm (Kd.R_below (by (with_reducible repeat (first | apply Kd.R_alloc | apply Kd.R_drewN | apply Kd.R_drew)); exact HO_8.out) hb); have n1_ := zm (Kd.R_below (by (with_reducible repeat (first | apply Kd.R_alloc | apply Kd.R_drewN | apply Kd.R_drew)); exact HO_9.out) hb); have n2_ := zm (Kd.R_below (by (with_reducible repeat (first | apply Kd.R_alloc | apply Kd.R_drewN | apply Kd.R_drew)); exact HO_10.out) hb); have n3_ := zm (blk_below (g := gb288) zk hb); have n4_ := zm (blk_below (g := gb289) zk hb); have n5_ := zm (below_step zb hb); have n6_ := zm (hbox); have n7_ := zm (zs hg zb : w.heap.size ≤ gb295); have n8_ := zm (zs hg zb : w.heap.size ≤ gb295); have n9_ := zm (zl hg zk : gb288 ≠ gb295); have n10_ := zm (zg hg zk : gb295 ≠ gb288); have n11_ := zm (zl hg zk : gb289 ≠ gb295); have n12_ := zm (zg hg zk : gb295 ≠ gb289); clear HO_8; clear HO_9; clear HO_10; clear BK288; clear BK289; clear HB; have HO_8 := n0_; have HO_9 := n1_; have HO_10 := n2_; have BK288 := n3_; have BK289 := n4_; have HB := n5_; have BK295 := n6_; have GW295 := n7_; have GE295 := n8_; have NB288_295 := n9_; have NB295_288 := n10_; have NB289_295 := n11_; have NB295_289 := n12_; clear n0_ n1_ n2_ n3_ n4_ n5_ n6_ n7_ n8_ n9_ n10_ n11_ n12_; clear hb hbox hg; have hnb65 := NB295_288.out; have hnc65 := NB288_295.out; have hnb66 := NB295_289.out; have hnc66 := NB289_295.out; obtain ⟨hcz67_0, hcz67_1, hcz67_2, hfz67_0, hfz67_1, hfz67_2⟩ := zc3 BK295.out) | ((with_reducible refine gate_store (t := 96) (p := 13) rfl ?_); (try (rw [drewN_self w64]; generalize hq_ : World.drewN w64 _ = w64; have n0_ := zm (Kd.R_at hq_ HO_8.out); have n1_ := zm (Kd.R_at hq_ HO_9.out); have n2_ := zm (Kd.R_at hq_ HO_10.out); have n3_ := zm (blk_at hq_ BK288.out); have n4_ := zm (blk_at hq_ BK289.out); have n5_ := zm (blk_at hq_ BK295.out); have n6_ := zm (below_at hq_ HB.out); clear hq_ HO_8 HO_9 HO_10 BK288 BK289 BK295 HB; have HO_8 := n0_; have HO_9 := n1_; have HO_10 := n2_; have BK288 := n3_; have BK289 := n4_; have BK295 := n5_; have HB := n6_; clear n0_ n1_ n2_ n3_ n4_ n5_ n6_)); refine store_event (t := 96) (p := 13) (v := ?vo_w68) (w1 := (((w64.setCell ⟨gb295, 0, none⟩ (.int .i64 ((rd_T96 l1 x28_2).f0))).setCell ⟨gb295, 1, none⟩ (.int .i64 ((rd_T96 l1 x28_2).f1))).setCell ⟨gb295, 2, none⟩ (.int .i64 ((rd_T96 l1 x28_2).f2)))) ?hg ?ho ?hn ?hr ?_; (case ho => rfl); (case hg => rfl); (case hn => rfl); (case hr => first | (go_simp; done) | (go_simp; rfl)); intro w68 hw; have n0_ : Aside0 (Kd.R k93 93 w68 w.heap.size (fun _ => True) u8 x8_2) := ⟨(by rw [hw]; exact (by (with_reducible repeat (first | apply Kd.R_alloc | apply Kd.R_drewN | apply Kd.R_drew)); exact Kd.R_mono (Kd.R_far (p := ⟨gb295, 2, none⟩) (Kd.R_far (p := ⟨gb295, 1, none⟩) (Kd.R_far (p := ⟨gb295, 0, none⟩) (Kd.R_types HO_8.out BK295.out (by decide)) (fun _ hk => hk.2) (.int .i64 ((rd_T96 l1 x28_2).f0))) (fun _ hk => hk.2) (.int .i64 ((rd_T96 l1 x28_2).f1))) (fun _ hk => hk.2) (.int .i64 ((rd_T96 l1 x28_2).f2))) (fun _ hk => trivial)))⟩; have n1_ : Aside0 (Kd.R (Kd.int .i64) 3 w68 w.heap.size (fun k_ => some k_ ≠ (.slice Ao9 x10_2.length co9 : Value).ownBlock) u9 x9_2) := ⟨(by rw [hw]; exact (by (with_reducible repeat (first | apply Kd.R_alloc | apply Kd.R_drewN | apply Kd.R_drew)); exact Kd.R_mono (Kd.R_far (p := ⟨gb295, 2, none⟩) (Kd.R_far (p := ⟨gb295, 1, none⟩) (Kd.R_far (p := ⟨gb295, 0, none⟩) (Kd.R_types HO_9.out BK295.out (by decide)) (fun _ hk => hk.2) (.int .i64 ((rd_T96 l1 x28_2).f0))) (fun _ hk => hk.2) (.int .i64 ((rd_T96 l1 x28_2).f1))) (fun _ hk => hk.2) (.int .i64 ((rd_T96 l1 x28_2).f2))) (fun _ hk => hk.1)))⟩; have n2_ : Aside0 (Kd.R (Kd.int .i64) 3 w68 w.heap.size (fun k_ => some k_ ≠ (u9 : Value).ownBlock) (.slice Ao9 x10_2.length co9) x10_2) := ⟨(by rw [hw]; exact (by (with_reducible repeat (first | apply Kd.R_alloc | apply Kd.R_drewN | apply Kd.R_drew)); exact Kd.R_mono (Kd.R_far (p := ⟨gb295, 2, none⟩) (Kd.R_far (p := ⟨gb295, 1, none⟩) (Kd.R_far (p := ⟨gb295, 0, none⟩) (Kd.R_types HO_10.out BK295.out (by decide)) (fun _ hk => hk.2) (.int .i64 ((rd_T96 l1 x28_2).f0))) (fun _ hk => hk.2) (.int .i64 ((rd_T96 l1 x28_2).f1))) (fun _ hk => hk.2) (.int .i64 ((rd_T96 l1 x28_2).f2))) (fun _ hk => hk.1)))⟩; have n3_ : Aside0 (w68.heap[gb288]? = some (.cells #[.slice A0_0 l0_0.length c0_0, .int .i64 a0_1] 45 (0, 0))) := ⟨(by rw [hw]; exact zK)⟩; have n4_ : Aside0 (w68.heap[gb289]? = some (.cells #[.int .i64 a2_0, .int .i64 a2_1, .int .i64 a2_2] 31 (0, 0))) := ⟨(by rw [hw]; exact zK)⟩; have n5_ : Aside0 (w68.heap[gb295]? = some (.cells #[.int .i64 ((rd_T96 l1 x28_2).f0), .int .i64 ((rd_T96 l1 x28_2).f1), .int .i64 ((rd_T96 l1 x28_2).f2)] 96 (0, 0))) := ⟨(by rw [hw]; exact (by (with_reducible repeat (first | refine blk_drewN ?_ _ | refine blk_drew ?_ | refine blk_alloc ?_ _)); refine blk_put (cs := #[.int .i64 ((rd_T96 l1 x28_2).f0), .int .i64 ((rd_T96 l1 x28_2).f1), .int .i64 0]) ?_ 2 _ rfl; (with_reducible repeat (first | refine blk_drewN ?_ _ | refine blk_drew ?_ | refine blk_alloc ?_ _)); refine blk_put (cs := #[.int .i64 ((rd_T96 l1 x28_2).f0), .int .i64 0, .int .i64 0]) ?_ 1 _ rfl; (with_reducible repeat (first | refine blk_drewN ?_ _ | refine blk_drew ?_ | refine blk_alloc ?_ _)); refine blk_put (cs := #[.int .i64 0, .int .i64 0, .int .i64 0]) ?_ 0 _ rfl; (with_reducible repeat (first | refine blk_drewN ?_ _ | refine blk_drew ?_ | refine blk_alloc ?_ _)); exact BK295.out))⟩; have n6_ : Aside0 (Below w.heap.size w w68) := ⟨(by rw [hw]; exact zb)⟩; clear hw; clear HO_8; clear HO_9; clear HO_10; clear BK288; clear BK289; clear BK295; clear HB; have HO_8 := n0_; have HO_9 := n1_; have HO_10 := n2_; have BK288 := n3_; have BK289 := n4_; have BK295 := n5_; have HB := n6_; clear n0_ n1_ n2_ n3_ n4_ n5_ n6_; obtain ⟨hcz69_0, hcz69_1, hcz69_2, hfz69_0, hfz69_1, hfz69_2⟩ := zc3 BK295.out; have hnb70 := NB289_288.out; have hnc70 := NB288_289.out; obtain ⟨hcz71_0, hcz71_1, hcz71_2, hfz71_0, hfz71_1, hfz71_2⟩ := zc3 BK289.out; obtain ⟨hcz72_0, hcz72_1, hfz72_0, hfz72_1⟩ := zc2 BK288.out; have p302 : 0 ≤ (((rd_T96 l1 x28_2).f0) : Int) := zd; have q302 : ((rd_T96 l1 x28_2).f0) < (x10_2.length : Int) := zd; obtain ⟨ad302, e302, hx302_0⟩ := Kd.at_int (Kd.R_reads' HO_10.out).2.2 ((rd_T96 l1 x28_2).f0) p302 q302; cases e302; replace p302 := eq_true p302; replace q302 := eq_true q302; have p61 : 0 ≤ (((rd_T96 l1 x28_2).f0) : Int) := zd; have q61 : (((rd_T96 l1 x28_2).f0) : Int) < ((x10_2.length : Int) : Int) := zd; obtain ⟨go61, co61, eo61, gb61, gl61, cl61, HG61⟩ := Kd.R_form HO_10.out (by omega); (first | cases eo61 | (injection eo61 with ea_ en_ ec_; (first | subst ea_ | (injection ea_ with ea_; subst ea_)); subst ec_; clear en_)); have GB61 := zm gb61; have GG61 := zm HG61; clear gb61 gl61 HG61; (first | simp only [add_plain] at hx302_0 | skip); obtain ⟨hx61_0, hf61_0⟩ := Kd.R_celln 0 HO_10.out (((rd_T96 l1 x28_2).f0) : Int) p61 q61; replace p61 := eq_true p61; replace q61 := eq_true q61; obtain ⟨hy73_, hz73_⟩ := Kd.R_celln 0 HO_10.out (((rd_T96 l1 x28_2).f0) : Int) (of_decide_eq_true (by first | (with_reducible assumption) | assumption)) (of_decide_eq_true (by first | (with_reducible assumption) | assumption)); have HP73 := Kd.R_putg HO_10.out (((rd_T96 l1 x28_2).f0) : Int) ((rd_T96 l1 x28_2).f1)) | ((with_reducible refine gate_store (t := 3) (p := 87) rfl ?_); (try (rw [drewN_self w68]; generalize hq_ : World.drewN w68 _ = w68; have n0_ := zm (Kd.R_at hq_ HO_8.out); have n1_ := zm (Kd.R_at hq_ HO_9.out); have n2_ := zm (Kd.R_at hq_ HO_10.out); have n3_ := zm (blk_at hq_ BK288.out); have n4_ := zm (blk_at hq_ BK289.out); have n5_ := zm (blk_at hq_ BK295.out); have n6_ := zm (below_at hq_ HB.out); clear hq_ HO_8 HO_9 HO_10 BK288 BK289 BK295 HB; have HO_8 := n0_; have HO_9 := n1_; have HO_10 := n2_; have BK288 := n3_; have BK289 := n4_; have BK295 := n5_; have HB := n6_; clear n0_ n1_ n2_ n3_ n4_ n5_ n6_; (try (obtain ⟨hy73_, hz73_⟩ := Kd.R_celln 0 HO_10.out (((rd_T96 l1 x28_2).f0) : Int) (of_decide_eq_true (by first | (with_reducible assumption) | assumption)) (of_decide_eq_true (by first | (with_reducible assumption) | assumption)))); (try (have HP73 := Kd.R_putg HO_10.out (((rd_T96 l1 x28_2).f0) : Int) ((rd_T96 l1 x28_2).f1))))); refine store_event (t := 3) (p := 87) (v := ?vo_w74) (w1 := (w68.setCell ⟨go61, (((rd_T96 l1 x28_2).f0) : Int).toNat, none⟩ (.int .i64 ((rd_T96 l1 x28_2).f1)))) ?hg ?ho ?hn ?hr ?_; (case ho => rfl); (case hg => rfl); (case hn => rfl); (case hr => first | (go_simp; done) | (go_simp; rfl)); intro w74 hw; have hg : w68.grownBy w74 (some go61) := (by rw [hw]; exact HP73.2); have hp_ : Kd.R (Kd.int .i64) 3 w74 w.heap.size (fun k_ => some k_ ≠ (u9 : Value).ownBlock) (.slice (some ⟨go61, 0, none⟩) x10_2.length co9) y309 := (by rw [hw, Ny309.out]; exact HP73.1); clear HP73; have n0_ := zm (Kd.R_over' (v := (.slice (some ⟨go61, 0, none⟩) x10_2.length co9)) (by (with_reducible repeat (first | apply Kd.R_alloc | apply Kd.R_drewN | apply Kd.R_drew)); exact HO_8.out) (Kd.R_typed HO_10.out) (by decide) hg); have n1_ := zm (Kd.R_after (v := (.slice (some ⟨go61, 0, none⟩) x10_2.length co9)) (v1 := (.slice (some ⟨go61, 0, none⟩) x10_2.length co9)) (ok := (fun _ => True)) (by (with_reducible repeat (first | apply Kd.R_alloc | apply Kd.R_drewN | apply Kd.R_drew)); exact Kd.R_mono HO_9.out (fun _ hk => ⟨trivial, hk⟩)) hg (.inl rfl)); have n2_ := zm (hp_); have n3_ := zm (blk_grown (g := gb288) (o := .cells #[.slice A0_0 l0_0.length c0_0, .int .i64 a0_1] 45 (0, 0)) zk hg (Kd.R_ne HO_10.out BK288.out (by decide))); have n4_ := zm (blk_grown (g := gb289) (o := .cells #[.int .i64 a2_0, .int .i64 a2_1, .int .i64 a2_2] 31 (0, 0)) zk hg (Kd.R_ne HO_10.out BK289.out (by decide))); have n5_ := zm (blk_grown (g := gb295) (o := .cells #[.int .i64 ((rd_T96 l1 x28_2).f0), .int .i64 ((rd_T96 l1 x28_2).f1), .int .i64 ((rd_T96 l1 x28_2).f2)] 96 (0, 0)) zk hg (Kd.R_ne HO_10.out BK295.out (by decide))); have n6_ := zm ((by rw [hw]; exact below_set (HB.out) GB61.out : Below w.heap.size w w74)); clear HO_8; clear HO_9; clear HO_10; clear BK288; clear BK289; clear BK295; clear HB; have HO_8 := n0_; have HO_9 := n1_; have HO_10 := n2_; have BK288 := n3_; have BK289 := n4_; have BK295 := n5_; have HB := n6_; clear n0_ n1_ n2_ n3_ n4_ n5_ n6_; clear hg hw hp_; obtain ⟨hcz75_0, hcz75_1, hfz75_0, hfz75_1⟩ := zc2 BK288.out; obtain ⟨hcz76_0, hcz76_1, hcz76_2, hfz76_0, hfz76_1, hfz76_2⟩ := zc3 BK295.out; have p310 : 0 ≤ (((rd_T96 l1 x28_2).f0) : Int) := zd; have q310 : ((rd_T96 l1 x28_2).f0) < (l0_0.length : Int) := zd; obtain ⟨ad310, e310, hx310_0⟩ := Kd.at_int HR0_0.out ((rd_T96 l1 x28_2).f0) p310 q310; cases e310; replace hx310_0 := zx HB.out hx310_0; replace p310 := eq_true p310; replace q310 := eq_true q310) | ((with_reducible refine gate_builtin (b := .append) (xs := #[.tmp 88, .tmp 98]) rfl ?_); at_builtin; refine Kd.R_append k93 (w0 := w) w.heap.size rfl (.tmp 88) (.tmp 98) 89 93 (.agg #[(.int .i64 0), (.int .i64 0), (.int .i64 0)]) 24 rfl Try.underlying89 info93 rfl (by decide) (by omega) u8 x8_2 (⟨rd l0_0 ((rd_T96 l1 x28_2).f0), wrap64 (((rd_T96 l1 x28_2).f1) + a2_0), wrap64 (((rd_T96 l1 x28_2).f2) + a2_1)⟩ : S93) [.int .i64 (rd l0_0 ((rd_T96 l1 x28_2).f0)), .int .i64 (wrap64 (((rd_T96 l1 x28_2).f1) + a2_0)), .int .i64 (wrap64 (((rd_T96 l1 x28_2).f2) + a2_1))] (fun _ => True) (fun _ => False) rfl rfl ?aP (fun _ hk => hk.elim) ?aF ?aO ?aB ?aS ?aL ?_; (case aP => exact k93_mkM _ _ _ (⟨rd l0_0 ((rd_T96 l1 x28_2).f0), wrap64 (((rd_T96 l1 x28_2).f1) + a2_0), wrap64 (((rd_T96 l1 x28_2).f2) + a2_1)⟩ : S93)); (case aB => exact zb); (case aF => exact (fun _ _ => trivial)); (case aO => exact (by (with_reducible repeat (first | apply Kd.R_alloc | apply Kd.R_drewN | apply Kd.R_drew)); exact HO_8.out)); (case aS => exact (below_size zb)); (case aL => have := LMc63.out; omega); intro v312 w77 ho hb hg hat; rw [← Ny311.out] at ho; have n0_ := zm (Kd.R_over' (by (with_reducible repeat (first | apply Kd.R_alloc | apply Kd.R_drewN | apply Kd.R_drew)); exact HO_9.out) (Kd.R_typed (by (with_reducible repeat (first | apply Kd.R_alloc | apply Kd.R_drewN | apply Kd.R_drew)); exact HO_8.out)) (by decide) hg); have n1_ := zm (Kd.R_over' (by (with_reducible repeat (first | apply Kd.R_alloc | apply Kd.R_drewN | apply Kd.R_drew)); exact HO_10.out) (Kd.R_typed (by (with_reducible repeat (first | apply Kd.R_alloc | apply Kd.R_drewN | apply Kd.R_drew)); exact HO_8.out)) (by decide) hg); have n2_ := zm (blk_grown (g := gb288) (o := .cells #[.slice (some ad310) l0_0.length c0_0, .int .i64 a0_1] 45 (0, 0)) zk hg (Kd.R_ne HO_8.out BK288.out (by decide))); have n3_ := zm (blk_grown (g := gb289) (o := .cells #[.int .i64 a2_0, .int .i64 a2_1, .int .i64 a2_2] 31 (0, 0)) zk hg (Kd.R_ne HO_8.out BK289.out (by decide))); have n4_ := zm (blk_grown (g := gb295) (o := .cells #[.int .i64 ((rd_T96 l1 x28_2).f0), .int .i64 ((rd_T96 l1 x28_2).f1), .int .i64 ((rd_T96 l1 x28_2).f2)] 96 (0, 0)) zk hg (Kd.R_ne HO_8.out BK295.out (by decide))); have n5_ := zm (hb); have n6_ := zm (ho); clear HO_9; clear HO_10; clear BK288; clear BK289; clear BK295; clear HB; clear HO_8; have HO_9 := n0_; have HO_10 := n1_; have BK288 := n2_; have BK289 := n3_; have BK295 := n4_; have HB := n5_; have HO313 := n6_; clear n0_ n1_ n2_ n3_ n4_ n5_ n6_; clear ho hb hg hat) | ((with_reducible refine spec_pyAll.gq ?_); go_quiet (fail)))
                  (try simp only [← hl10_2])
                  go_roundg k2
                  case measure => have := HK1.out; have := HK2.out; omega
                  case rel => exact ⟨(y311), (x9_2), (y309), (wrap64 (x28_2 + 1)), (by first | rfl | (simp; done) | (simp [*]; done)), H', ⟨by have := HK1.out; have := HK2.out; omega⟩, ⟨by (try simp only [hl10_1]); (try simp only [hl10_2]); (with_reducible repeat (first | apply Kd.R_alloc | apply Kd.R_drewN | apply Kd.R_drew)); exact HO313.out⟩, ⟨by (try simp only [hl10_1]); (try simp only [hl10_2]); (with_reducible repeat (first | apply Kd.R_alloc | apply Kd.R_drewN | apply Kd.R_drew)); exact zM HO_9.out⟩, ⟨by (try simp only [hl10_1]); (try simp only [hl10_2]); (with_reducible repeat (first | apply Kd.R_alloc | apply Kd.R_drewN | apply Kd.R_drew)); exact HO_10.out⟩, ⟨by (try simp only [hl10_1]); (try simp only [hl10_2]); (with_reducible repeat (first | refine blk_drewN ?_ _ | refine blk_drew ?_ | refine blk_alloc ?_ _)); exact BK288.out⟩, ⟨by (try simp only [hl10_1]); (try simp only [hl10_2]); (with_reducible repeat (first | refine blk_drewN ?_ _ | refine blk_drew ?_ | refine blk_alloc ?_ _)); exact BK289.out⟩, ⟨zb⟩⟩
                 ·
                  rw [if_neg c63] at H
                  exact absurd H (by simp)
                ·
                 rw [if_neg c62] at H
                 exact absurd H (by simp)
             ·
              rw [if_neg c40] at H
              exact absurd H (by simp)
            ·
             rw [if_neg c39] at H
             exact absurd H (by simp)
         ·
          rw [if_neg c18] at H
          exact absurd H (by simp)
        ·
         rw [if_neg c17] at H
         exact absurd H (by simp)
       ·
        rw [if_neg c16] at H
        have c16b0 : decide (x28_2 < (l1.length : Int)) = false := decide_eq_false c16
        (try (have c16z0 := c16b0; simp only [hl10_1] at c16z0))
        (try (have c16z0 := c16b0; simp only [hl10_2] at c16z0))
        clear c16
        simp only [Option.some.injEq, Prod.mk.injEq] at H
        obtain ⟨rfl, rfl⟩ := H
        go_wp2
        repeat (go_quiet (fail); try go_wp2)
        go_ret2
        exact ⟨_, _, zr, by (with_reducible repeat (first | apply Kd.R_alloc | apply Kd.R_drewN | apply Kd.R_drew)); exact HO_8.out, by (with_reducible repeat (first | apply Kd.R_alloc | apply Kd.R_drewN | apply Kd.R_drew)); exact Kd.R_mono HO_9.out (fun _ hk => trivial), zb⟩
 ·
  rw [if_neg c4] at H
  exact absurd H (by simp)

end Go.Proofs.Ytjjjikdpegogcaa.PRr
