import Derived.Test.YtbgbmjagcdnloaaDoorPSgx0
import Derived.Test.YtbgbmjagcdnloaaDoorPSgx2
namespace Go.Proofs.YtbgbmjagcdnloaaDoor.PSg
open Go.RowKit Go.Proofs.YtbgbmjagcdnloaaDoorW.PrintWords Go.Proofs.YtbgbmjagcdnloaaDoorW.PrintLast Go.Proofs.YtbgbmjagcdnloaaDoorW.PrintMore
attribute [local go_sem] max2_int min2_int max_two min_two max_three min_three max_four min_four   -- for this text's walks alone
set_option linter.unusedVariables false
set_option linter.unusedSimpArgs false
def spec_DrawAreSegments.f (k : Nat) (l0 : List Int) : Option ((List (S35))) := (spec_l1Cur_segments.f k l0 0 0).bind fun bt176 => (some bt176.1)
set_option maxHeartbeats 8000000 in
set_option maxRecDepth 100000 in
theorem spec_DrawAreSegments.calls (k : Nat) (A0 : Option Addr) (c0 : Nat) (l0 : List Int) (r : List (S35)) (w : World) (hr0 : Kd.C (Kd.int .u8) w A0 l0.length l0) (hc0 : l0.length ≤ c0) (h : spec_DrawAreSegments.f k l0 = some r) :
  Calls Tryd.prog 22 #[.slice A0 l0.length c0] w fun e w' => ∃ v0_ : Value, e = .returned (v0_) ∧ Kd.R k35 35 w' w.heap.size (fun _ => True) v0_ r ∧ Below w.heap.size w w' := by
 have hu64 := Tryd.underlying64;have HR0 := zm hr0;have HC0 := zm hc0;clear hr0 hc0;have HB := zm (Below.refl w.heap.size w);have H : ((spec_l1Cur_segments.f k l0 0 0).bind fun bt176 => (some bt176.1)) = some r := h;clear h;obtain ⟨⟨t176, t179, t180⟩, A2, H⟩ := zI H;(try dsimp only at H);obtain rfl := Option.some.inj H;go_enter Tryd.func22, Tryd.ntmps22;go_wp2_with (first | ((with_reducible refine gate_dst (N := 6) rfl ?_); refine box_event ?hg (N := 6) ?hd (cs := #[.slice A0 l0.length c0, .int .i64 0, .int .u64 0]) (t := 64) ?hr ?_; (case hd => rfl); (case hg => rfl); (case hr => first | (go_simp; done) | (go_simp; rfl)); intro gb175 hg w3 hbox hb; have n0_ := zm (below_step zb hb); have HI175 := zm ((show IsS64 w _ gb175 l0 0 0 from ⟨_, _, hbox, (by rw [hg]; exact (below_size zb) : w.heap.size ≤ gb175), HR0.out⟩)); have GW175 := zm (zs hg zb : w.heap.size ≤ gb175); have GE175 := zm (zs hg zb : w.heap.size ≤ gb175); replace HB := n0_; clear n0_; clear hb hbox hg) | ((with_reducible refine gate_callee (f := 40) rfl ?_); refine goesA_ (some 8) Tryd.func40 #[.pointer (some ⟨gb175, 0, none⟩)] rfl ?_; (with_reducible refine (spec_l1Cur_segments.calls k gb175 l0 0 0 t176 t179 t180 w _ ?side1 ?side2 A2.out).mono ?_); (case side1 => exact z64i); (case side2 => exact zb); rintro e w4 ⟨v177, rfl, ho0, hi, hb, hk⟩; refine ⟨_, rfl, ?_⟩; have HO178 := zm (Kd.R_lower ho0 (below_size zb)); replace HB := zm (hb); replace HI175 := zm (hi); (try clear hb); (try clear hk); (try clear hi); (try clear ho0)))
 go_ret
 exact ⟨_, zr, zP HO178.out, zb⟩
def spec_DrawJoinSegments.f (k : Nat) (l0 : List Int) : Option ((List (S35))) := (spec_DrawAreSegments.f k l0).bind fun t181 => (some t181)
set_option maxHeartbeats 8000000 in
set_option maxRecDepth 100000 in
theorem spec_DrawJoinSegments.calls (k : Nat) (A0 : Option Addr) (c0 : Nat) (l0 : List Int) (r : List (S35)) (w : World) (hr0 : Kd.C (Kd.int .u8) w A0 l0.length l0) (hc0 : l0.length ≤ c0) (h : spec_DrawJoinSegments.f k l0 = some r) :
  Calls Tryd.prog 5 #[.slice A0 l0.length c0] w fun e w' => ∃ v0_ : Value, e = .returned (v0_) ∧ Kd.R k35 35 w' w.heap.size (fun _ => True) v0_ r ∧ Below w.heap.size w w' := by
 have HR0 := zm hr0;have HC0 := zm hc0;clear hr0 hc0;have HB := zm (Below.refl w.heap.size w);have H : ((spec_DrawAreSegments.f k l0).bind fun t181 => (some t181)) = some r := h;clear h;obtain ⟨t181, A2, H⟩ := zI H;(try dsimp only at H);obtain rfl := Option.some.inj H;go_enter Tryd.func5, Tryd.ntmps5;go_wp2_with (first | ((with_reducible refine gate_callee (f := 22) rfl ?_); refine goesA_ (some 4) Tryd.func22 #[.slice A0 l0.length c0] rfl ?_; (with_reducible refine (spec_DrawAreSegments.calls k _ _ l0 t181 _ ?side1 ?side2 A2.out).mono ?_); (case side1 => exact zF HR0.out); (case side2 => exact HC0.out); rintro e w3 ⟨v182, rfl, ho0, hb⟩; refine ⟨_, rfl, ?_⟩; have HO183 := zm (Kd.R_lower ho0 (below_size zb)); replace HB := zm (below_step zb hb); (try clear hb); (try clear ho0)))
 go_ret
 exact ⟨_, zr, zP HO183.out, zb⟩
def impl_allSteps.l0 : Nat → Int → List (S35) → Int → Int → Option (Int)
  | 0, _, _, _, _ => none
  | k + 1, x3, x6, x7, x8 => if x8 < x7 then (if 0 ≤ x8 then (if x8 < (x6.length : Int) then (impl_allSteps.l0 k (wrap64 (x3 + ((rd_T35 x6 x8).f0))) x6 x7 (wrap64 (x8 + 1))) else (none)) else (none)) else (some x3)
def impl_allSteps.f (k : Nat) (l0 : List (S35)) : Option (Int) := impl_allSteps.l0 k 0 l0 (l0.length : Int) 0
set_option maxHeartbeats 8000000 in
set_option maxRecDepth 100000 in
theorem impl_allSteps.calls (k : Nat) (A0 : Option Addr) (c0 : Nat) (l0 : List (S35)) (r : Int) (w : World) (hr0 : Kd.C k35 w A0 l0.length l0) (hc0 : l0.length ≤ c0) (h : impl_allSteps.f k l0 = some r) :
  Calls Tryd.prog 35 #[.slice A0 l0.length c0] w fun e w' => e = .returned (.int .i64 r) ∧ Below w.heap.size w w' := by
 have hu35 := Tryd.underlying35;have HR0 := zm hr0;have HC0 := zm hc0;clear hr0 hc0;have HB := zm (Below.refl w.heap.size w);have H : (impl_allSteps.l0 k 0 l0 (l0.length : Int) 0) = some r := h;clear h;have H' := zm H;clear H;go_enter Tryd.func35, Tryd.ntmps35;go_wp2;go_loopg [3, 8] k (fun kq v3 v8 w' => ∃ (x3_1 : Int) (x8_1 : Int), v3 = .int .i64 x3_1 ∧ v8 = .int .i64 x8_1 ∧ Aside0 (impl_allSteps.l0 kq x3_1 l0 (l0.length : Int) x8_1 = some r) ∧ Aside0 (kq ≤ k) ∧ Aside0 (Below w.heap.size w w'))
 case atStart => exact ⟨(0), (0), zz, zz, H', ⟨Nat.le_refl _⟩, ⟨zb⟩⟩
 case round =>
  clear H';obtain ⟨x3_1, x8_1, rfl, rfl, HA, HK1, HB⟩ := hrel;cases gk with
  | zero => exact absurd HA.out (by simp [impl_allSteps.l0])
  | succ k1 =>
   have H := HA.out;clear HA;simp only [impl_allSteps.l0] at H;by_cases c2 : x8_1 < (l0.length : Int)
   rotate_left
   ·
    rw [if_neg c2] at H;have c2b0 := decide_eq_false c2;clear c2;obtain rfl := Option.some.inj H;go_wp2;go_ret
    exact ⟨zr, zb⟩
   rw [if_pos c2] at H;have c2b0 := decide_eq_true c2;clear c2;obtain ⟨c3, H⟩ := zJ H;have c3b0 := decide_eq_true c3;clear c3;obtain ⟨c4, H⟩ := zJ H;have c4b0 := decide_eq_true c4;clear c4;have H' := zm H;clear H;have p184 : 0 ≤ (x8_1 : Int) := zd;have q184 : x8_1 < (l0.length : Int) := zd;obtain ⟨ad184, e184, hx184_0, hx184_1⟩ := at_T35 HR0.out x8_1 p184 q184;cases e184;replace hx184_0 := zx HB.out hx184_0;replace hx184_1 := zx HB.out hx184_1;replace p184 := eq_true p184;replace q184 := eq_true q184;go_wp2_with (first | ((with_reducible refine gate_dst (N := 5) rfl ?_); refine box_event ?hg (N := 5) ?hd (cs := #[.int .i64 0, .int .i64 0]) (t := 35) ?hr ?_; (case hd => rfl); (case hg => rfl); (case hr => first | (go_simp; done) | (go_simp; rfl)); intro gb185 hg w5 hbox hb; have n0_ := zm (below_step zb hb); have BK185 := zm (hbox); have GW185 := zm (zs hg zb : w.heap.size ≤ gb185); have GE185 := zm (zs hg zb : w.heap.size ≤ gb185); replace HB := n0_; clear n0_; clear hb hbox hg; obtain ⟨hcz6_0, hcz6_1, hfz6_0, hfz6_1⟩ := zc2 BK185.out))
   go_roundg k1
   case measure => have := HK1.out; omega
   case rel => exact ⟨(wrap64 (x3_1 + ((rd_T35 l0 x8_1).f0))), (wrap64 (x8_1 + 1)), zz, zz, H', ⟨by have := HK1.out; omega⟩, ⟨zb⟩⟩
mutual
def impl_AreSegments.j0 : Nat → List (S35) → Bool → Option (Bool)
  | 0, _, _ => none
  | k + 1, x0, x12 => if x12 = true then (some false) else (impl_AreSegments.l0 k x0 x0 (x0.length : Int) 0)
def impl_AreSegments.l0 : Nat → List (S35) → List (S35) → Int → Int → Option (Bool)
  | 0, _, _, _, _ => none
  | k + 1, x0, x13, x14, x15 => if x15 < x14 then (if 0 ≤ x15 then (if x15 < (x13.length : Int) then (if ((rd_T35 x13 x15).f0) < 1 then (some false) else (if ((rd_T35 x13 x15).f0) > 500 then (some false) else (if ((rd_T35 x13 x15).f1) < 900 then (some false) else (if ((rd_T35 x13 x15).f1) > 1100 then (some false) else (impl_AreSegments.l0 k x0 x13 x14 (wrap64 (x15 + 1))))))) else (none)) else (none)) else ((impl_allSteps.f k x0).bind fun t188 => (some (decide (t188 ≤ 2000))))
end
def impl_AreSegments.f (k : Nat) (l0 : List (S35)) : Option (Bool) := if (l0.length : Int) < 1 then (impl_AreSegments.j0 k l0 true) else (impl_AreSegments.j0 k l0 (decide ((l0.length : Int) > 20)))
set_option maxHeartbeats 8000000 in
set_option maxRecDepth 100000 in
theorem impl_AreSegments.calls (k : Nat) (A0 : Option Addr) (c0 : Nat) (l0 : List (S35)) (r : Bool) (w : World) (hr0 : Kd.C k35 w A0 l0.length l0) (hc0 : l0.length ≤ c0) (h : impl_AreSegments.f k l0 = some r) :
  Calls Tryd.prog 13 #[.slice A0 l0.length c0] w fun e w' => e = .returned (.bool r) ∧ Below w.heap.size w w' := by
 have hu35 := Tryd.underlying35;have HR0 := zm hr0;have HC0 := zm hc0;clear hr0 hc0;have HB := zm (Below.refl w.heap.size w);have H : (if (l0.length : Int) < 1 then (impl_AreSegments.j0 k l0 true) else (impl_AreSegments.j0 k l0 (decide ((l0.length : Int) > 20)))) = some r := h;clear h;have HC2 := zm H;clear H;go_enter Tryd.func13, Tryd.ntmps13;go_upto_region 1 with (fail)
 go_cut [12] (fun v12 wc => ∃ (kq : Nat) (x12_1 : Bool), v12 = .bool x12_1 ∧ Aside0 (impl_AreSegments.j0 kq l0 x12_1 = some r) ∧ Aside0 (kq ≤ k) ∧ Aside0 (Below w.heap.size w wc))
 case first =>
  have H := HC2.out;clear HC2;by_cases c3 : (l0.length : Int) < 1
  rotate_left
  ·
   rw [if_neg c3] at H;have c3b0 := decide_eq_false c3;have c3b1 : decide (l0.length < 1) = false := decide_eq_false (by omega);clear c3;(first | rw [c3b0] | (simp only [i64_w, i32_w]; rw [c3b0]) | skip);have H' := zm H;clear H;go_wp2;go_meet
   case rel => exact ⟨_, (decide ((l0.length : Int) > 20)), zz, H', ⟨by first | omega | exact Nat.le_refl _⟩, ⟨zb⟩⟩
  rw [if_pos c3] at H;have c3b0 := decide_eq_true c3;have c3b1 : decide (l0.length < 1) = true := decide_eq_true (by omega);clear c3;(first | rw [c3b0] | (simp only [i64_w, i32_w]; rw [c3b0]) | skip);have H' := zm H;clear H;go_wp2;go_meet
  case rel => exact ⟨_, (true), zz, H', ⟨by first | omega | exact Nat.le_refl _⟩, ⟨zb⟩⟩
 case rest =>
  clear HC2;(try clear p2); (try clear c3b0); (try clear c3b1);obtain ⟨kq, x12_1, rfl, HA, HJ1, HB⟩ := hcut;cases kq with
  | zero => exact absurd HA.out (by simp [impl_AreSegments.j0])
  | succ kj1 =>
   have H := HA.out;clear HA;simp only [impl_AreSegments.j0] at H;by_cases c4 : x12_1 = true
   ·
    subst c4;rw [if_pos rfl] at H;obtain rfl := Option.some.inj H;go_wp2;go_ret
    exact ⟨zr, zb⟩
   replace c4 := Bool.eq_false_iff.mpr c4;subst c4;rw [if_neg (show ¬ (false = true) by decide)] at H;have H' := zm H;clear H;go_wp2;go_loopg [15] kj1 (fun kq v15 w' => ∃ (x15_2 : Int), v15 = .int .i64 x15_2 ∧ Aside0 (impl_AreSegments.l0 kq l0 l0 (l0.length : Int) x15_2 = some r) ∧ Aside0 (kq ≤ kj1) ∧ Aside0 (Below w.heap.size w w'))
   case atStart => exact ⟨(0), zz, H', ⟨Nat.le_refl _⟩, ⟨zb⟩⟩
   case round =>
    clear H';(try clear p2); (try clear c3b0); (try clear c3b1); (try clear p2);obtain ⟨x15_2, rfl, HA, HK2, HB⟩ := hrel;cases gk with
    | zero => exact absurd HA.out (by simp [impl_AreSegments.l0])
    | succ k2 =>
     have H := HA.out;clear HA;simp only [impl_AreSegments.l0] at H;by_cases c5 : x15_2 < (l0.length : Int)
     rotate_left
     ·
      rw [if_neg c5] at H;have c5b0 := decide_eq_false c5;clear c5;obtain ⟨t188, A22, H⟩ := zI H;(try dsimp only at H);obtain rfl := Option.some.inj H;go_wp2_with (first | ((with_reducible refine gate_callee (f := 35) rfl ?_); refine goesA_ (some 39) Tryd.func35 #[.slice A0 l0.length c0] rfl ?_; (with_reducible refine (impl_allSteps.calls k2 _ _ l0 t188 _ ?side1 ?side2 A22.out).mono ?_); (case side1 => exact zC HR0.out); (case side2 => exact HC0.out); rintro e w23 ⟨rfl, hb⟩; refine ⟨_, rfl, ?_⟩; replace HB := zm (below_step zb hb); (try clear hb)))
      go_ret
      exact ⟨zr, zb⟩
     rw [if_pos c5] at H;have c5b0 := decide_eq_true c5;clear c5;obtain ⟨c6, H⟩ := zJ H;have c6b0 := decide_eq_true c6;clear c6;obtain ⟨c7, H⟩ := zJ H;have c7b0 := decide_eq_true c7;clear c7;by_cases c8 : ((rd_T35 l0 x15_2).f0) < 1
     ·
      rw [if_pos c8] at H;have c8b0 := decide_eq_true c8;clear c8;obtain rfl := Option.some.inj H;have p186 : 0 ≤ (x15_2 : Int) := zd;have q186 : x15_2 < (l0.length : Int) := zd;obtain ⟨ad186, e186, hx186_0, hx186_1⟩ := at_T35 HR0.out x15_2 p186 q186;cases e186;replace hx186_0 := zx HB.out hx186_0;replace hx186_1 := zx HB.out hx186_1;replace p186 := eq_true p186;replace q186 := eq_true q186;go_wp2_with (first | ((with_reducible refine gate_dst (N := 4) rfl ?_); (try (refine gate_guard (by rfl) ?_; dsimp only)); refine box_event ?hg (N := 4) ?hd (cs := #[.int .i64 0, .int .i64 0]) (t := 35) ?hr ?_; (case hd => rfl); (case hg => rfl); (case hr => first | (go_simp; done) | (go_simp; rfl)); intro gb187 hg w9 hbox hb; have n0_ := zm (below_step zb hb); have BK187 := zm (hbox); have GW187 := zm (zs hg zb : w.heap.size ≤ gb187); have GE187 := zm (zs hg zb : w.heap.size ≤ gb187); replace HB := n0_; clear n0_; clear hb hbox hg; obtain ⟨hcz10_0, hcz10_1, hfz10_0, hfz10_1⟩ := zc2 BK187.out))
      go_ret
      exact ⟨zr, zb⟩
     rw [if_neg c8] at H;have c8b0 := decide_eq_false c8;clear c8;by_cases c11 : ((rd_T35 l0 x15_2).f0) > 500
     ·
      rw [if_pos c11] at H;have c11b0 : decide (500 < ((rd_T35 l0 x15_2).f0)) = true := decide_eq_true c11;clear c11;obtain rfl := Option.some.inj H;have p186 : 0 ≤ (x15_2 : Int) := zd;have q186 : x15_2 < (l0.length : Int) := zd;obtain ⟨ad186, e186, hx186_0, hx186_1⟩ := at_T35 HR0.out x15_2 p186 q186;cases e186;replace hx186_0 := zx HB.out hx186_0;replace hx186_1 := zx HB.out hx186_1;replace p186 := eq_true p186;replace q186 := eq_true q186;go_wp2_with (first | ((with_reducible refine gate_dst (N := 4) rfl ?_); (try (refine gate_guard (by rfl) ?_; dsimp only)); refine box_event ?hg (N := 4) ?hd (cs := #[.int .i64 0, .int .i64 0]) (t := 35) ?hr ?_; (case hd => rfl); (case hg => rfl); (case hr => first | (go_simp; done) | (go_simp; rfl)); intro gb187 hg w12 hbox hb; have n0_ := zm (below_step zb hb); have BK187 := zm (hbox); have GW187 := zm (zs hg zb : w.heap.size ≤ gb187); have GE187 := zm (zs hg zb : w.heap.size ≤ gb187); replace HB := n0_; clear n0_; clear hb hbox hg; obtain ⟨hcz13_0, hcz13_1, hfz13_0, hfz13_1⟩ := zc2 BK187.out))
      go_ret
      exact ⟨zr, zb⟩
     rw [if_neg c11] at H;have c11b0 : decide (500 < ((rd_T35 l0 x15_2).f0)) = false := decide_eq_false c11;clear c11;by_cases c14 : ((rd_T35 l0 x15_2).f1) < 900
     ·
      rw [if_pos c14] at H;have c14b0 := decide_eq_true c14;clear c14;obtain rfl := Option.some.inj H;have p186 : 0 ≤ (x15_2 : Int) := zd;have q186 : x15_2 < (l0.length : Int) := zd;obtain ⟨ad186, e186, hx186_0, hx186_1⟩ := at_T35 HR0.out x15_2 p186 q186;cases e186;replace hx186_0 := zx HB.out hx186_0;replace hx186_1 := zx HB.out hx186_1;replace p186 := eq_true p186;replace q186 := eq_true q186;go_wp2_with (first | ((with_reducible refine gate_dst (N := 4) rfl ?_); (try (refine gate_guard (by rfl) ?_; dsimp only)); refine box_event ?hg (N := 4) ?hd (cs := #[.int .i64 0, .int .i64 0]) (t := 35) ?hr ?_; (case hd => rfl); (case hg => rfl); (case hr => first | (go_simp; done) | (go_simp; rfl)); intro gb187 hg w15 hbox hb; have n0_ := zm (below_step zb hb); have BK187 := zm (hbox); have GW187 := zm (zs hg zb : w.heap.size ≤ gb187); have GE187 := zm (zs hg zb : w.heap.size ≤ gb187); replace HB := n0_; clear n0_; clear hb hbox hg; obtain ⟨hcz16_0, hcz16_1, hfz16_0, hfz16_1⟩ := zc2 BK187.out))
      go_ret
      exact ⟨zr, zb⟩
     rw [if_neg c14] at H;have c14b0 := decide_eq_false c14;clear c14;by_cases c17 : ((rd_T35 l0 x15_2).f1) > 1100
     ·
      rw [if_pos c17] at H;have c17b0 : decide (1100 < ((rd_T35 l0 x15_2).f1)) = true := decide_eq_true c17;clear c17;obtain rfl := Option.some.inj H;have p186 : 0 ≤ (x15_2 : Int) := zd;have q186 : x15_2 < (l0.length : Int) := zd;obtain ⟨ad186, e186, hx186_0, hx186_1⟩ := at_T35 HR0.out x15_2 p186 q186;cases e186;replace hx186_0 := zx HB.out hx186_0;replace hx186_1 := zx HB.out hx186_1;replace p186 := eq_true p186;replace q186 := eq_true q186;go_wp2_with (first | ((with_reducible refine gate_dst (N := 4) rfl ?_); (try (refine gate_guard (by rfl) ?_; dsimp only)); refine box_event ?hg (N := 4) ?hd (cs := #[.int .i64 0, .int .i64 0]) (t := 35) ?hr ?_; (case hd => rfl); (case hg => rfl); (case hr => first | (go_simp; done) | (go_simp; rfl)); intro gb187 hg w18 hbox hb; have n0_ := zm (below_step zb hb); have BK187 := zm (hbox); have GW187 := zm (zs hg zb : w.heap.size ≤ gb187); have GE187 := zm (zs hg zb : w.heap.size ≤ gb187); replace HB := n0_; clear n0_; clear hb hbox hg; obtain ⟨hcz19_0, hcz19_1, hfz19_0, hfz19_1⟩ := zc2 BK187.out))
      go_ret
      exact ⟨zr, zb⟩
     rw [if_neg c17] at H;have c17b0 : decide (1100 < ((rd_T35 l0 x15_2).f1)) = false := decide_eq_false c17;clear c17;have H' := zm H;clear H;have p186 : 0 ≤ (x15_2 : Int) := zd;have q186 : x15_2 < (l0.length : Int) := zd;obtain ⟨ad186, e186, hx186_0, hx186_1⟩ := at_T35 HR0.out x15_2 p186 q186;cases e186;replace hx186_0 := zx HB.out hx186_0;replace hx186_1 := zx HB.out hx186_1;replace p186 := eq_true p186;replace q186 := eq_true q186;go_wp2_with (first | ((with_reducible refine gate_dst (N := 4) rfl ?_); (try (refine gate_guard (by rfl) ?_; dsimp only)); refine box_event ?hg (N := 4) ?hd (cs := #[.int .i64 0, .int .i64 0]) (t := 35) ?hr ?_; (case hd => rfl); (case hg => rfl); (case hr => first | (go_simp; done) | (go_simp; rfl)); intro gb187 hg w20 hbox hb; have n0_ := zm (below_step zb hb); have BK187 := zm (hbox); have GW187 := zm (zs hg zb : w.heap.size ≤ gb187); have GE187 := zm (zs hg zb : w.heap.size ≤ gb187); replace HB := n0_; clear n0_; clear hb hbox hg; obtain ⟨hcz21_0, hcz21_1, hfz21_0, hfz21_1⟩ := zc2 BK187.out))
     go_roundg k2
     case measure => have := HJ1.out; have := HK2.out; omega
     case rel => exact ⟨(wrap64 (x15_2 + 1)), zz, H', ⟨by have := HJ1.out; have := HK2.out; omega⟩, ⟨zb⟩⟩
end Go.Proofs.YtbgbmjagcdnloaaDoor.PSg
