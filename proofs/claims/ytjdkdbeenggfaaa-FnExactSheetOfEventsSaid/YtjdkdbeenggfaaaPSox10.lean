-- Written for this claim by a program of this session (wip/tpl/patchprint.py), not by print.sh.
import Derived.Test.YtjdkdbeenggfaaaPSox0
import Derived.Test.YtjdkdbeenggfaaaPSox8
import Derived.Test.YtjdkdbeenggfaaaPSox9
namespace Go.Proofs.Ytjdkdbeenggfaaa.PSo
open Go.RowKit Go.Proofs.YtjdkdbeenggfaaaW.PrintWords Go.Proofs.YtjdkdbeenggfaaaW.PrintLast Go.Proofs.YtjdkdbeenggfaaaW.PrintMore
attribute [local go_sem] max2_int min2_int max_two min_two max_three min_three max_four min_four   -- for this text's walks alone
set_option linter.unusedVariables false
set_option linter.unusedSimpArgs false

/-! ### impl_IsSheet: function 76 -/
mutual
def impl_IsSheet.l0 : Nat → List (S87) → List (S87) → Int → Int → Option (Bool)
  | 0, _, _, _, _ => none
  | k + 1, x0, x10, x11, x12 => if x12 < x11 then (if 0 ≤ x12 then (if x12 < (x10.length : Int) then ((impl_IsHole.f ((rd_T87 x10 x12).f0) ((rd_T87 x10 x12).f1) ((rd_T87 x10 x12).f2)).bind fun t222 => (if t222 = true then (if x12 > 0 then (if 0 ≤ (wrap64 (x12 - 1)) then (if (wrap64 (x12 - 1)) < (x0.length : Int) then ((impl_holeLess.f ((rd_T87 x0 (wrap64 (x12 - 1))).f0) ((rd_T87 x0 (wrap64 (x12 - 1))).f1) ((rd_T87 x0 (wrap64 (x12 - 1))).f2) ((rd_T87 x10 x12).f0) ((rd_T87 x10 x12).f1) ((rd_T87 x10 x12).f2)).bind fun t224 => (impl_IsSheet.j1 k x0 x12 x10 x11 x12 (!t224) ((rd_T87 x10 x12).f0) ((rd_T87 x10 x12).f1) ((rd_T87 x10 x12).f2))) else (none)) else (none)) else (impl_IsSheet.j1 k x0 x12 x10 x11 x12 false ((rd_T87 x10 x12).f0) ((rd_T87 x10 x12).f1) ((rd_T87 x10 x12).f2))) else (impl_IsSheet.j1 k x0 x12 x10 x11 x12 true ((rd_T87 x10 x12).f0) ((rd_T87 x10 x12).f1) ((rd_T87 x10 x12).f2)))) else (none)) else (none)) else (some true)
def impl_IsSheet.j1 : Nat → List (S87) → Int → List (S87) → Int → Int → Bool → Int → Int → Int → Option (Bool)
  | 0, _, _, _, _, _, _, _, _, _ => none
  | k + 1, x0, x3, x10, x11, x12, x33, x222000, x222001, x222002 => if x33 = true then (some false) else (if 0 ≤ x3 then (if x3 ≤ (x0.length : Int) then ((some (x0.take (x3 : Int).toNat : List (S87))).bind fun y225 => (impl_IsSheet.l1 k x0 x10 x11 x12 y225 (y225.length : Int) 0 x222000 x222001 x222002)) else (none)) else (none))
def impl_IsSheet.l1 : Nat → List (S87) → List (S87) → Int → Int → List (S87) → Int → Int → Int → Int → Int → Option (Bool)
  | 0, _, _, _, _, _, _, _, _, _, _ => none
  | k + 1, x0, x10, x11, x12, x36, x37, x38, x222000, x222001, x222002 => if x38 < x37 then (if 0 ≤ x38 then (if x38 < (x36.length : Int) then (if ((rd_T87 x36 x38).f0) = x222000 then (if ((rd_T87 x36 x38).f2) ≥ x222001 then (some false) else (impl_IsSheet.l1 k x0 x10 x11 x12 x36 x37 (wrap64 (x38 + 1)) x222000 x222001 x222002)) else (impl_IsSheet.l1 k x0 x10 x11 x12 x36 x37 (wrap64 (x38 + 1)) x222000 x222001 x222002)) else (none)) else (none)) else (impl_IsSheet.l0 k x0 x10 x11 (wrap64 (x12 + 1)))
end
def impl_IsSheet.f (k : Nat) (l0 : List (S87)) : Option (Bool) := if (l0.length : Int) > 60 then (some false) else (impl_IsSheet.l0 k l0 l0 (l0.length : Int) 0)
theorem impl_IsSheet.mono_l : ∀ k, (∀ y0 y1 y2 y3, LeO (impl_IsSheet.l0 k y0 y1 y2 y3) (impl_IsSheet.l0 (k + 1) y0 y1 y2 y3)) ∧ (∀ y0 y1 y2 y3 y4 y5 y6 y7 y8, LeO (impl_IsSheet.j1 k y0 y1 y2 y3 y4 y5 y6 y7 y8) (impl_IsSheet.j1 (k + 1) y0 y1 y2 y3 y4 y5 y6 y7 y8)) ∧ (∀ y0 y1 y2 y3 y4 y5 y6 y7 y8 y9, LeO (impl_IsSheet.l1 k y0 y1 y2 y3 y4 y5 y6 y7 y8 y9) (impl_IsSheet.l1 (k + 1) y0 y1 y2 y3 y4 y5 y6 y7 y8 y9))
  | 0 => ⟨fun _ _ _ _ r h => by simp [impl_IsSheet.l0] at h, fun _ _ _ _ _ _ _ _ _ r h => by simp [impl_IsSheet.j1] at h, fun _ _ _ _ _ _ _ _ _ _ r h => by simp [impl_IsSheet.l1] at h⟩
  | k + 1 => by
    obtain ⟨ih0, ih1, ih2⟩ := impl_IsSheet.mono_l k
    refine ⟨?_, ?_, ?_⟩
    · intro y0 y1 y2 y3
      unfold impl_IsSheet.l0
      repeat' first
      | (with_reducible exact ih0 _ _ _ _)
      | (with_reducible exact ih1 _ _ _ _ _ _ _ _ _)
      | (with_reducible exact ih2 _ _ _ _ _ _ _ _ _ _)
      | (with_reducible exact LeO.refl _)
      | (with_reducible exact LeO.none _)
      | (with_reducible refine LeO.ite ?_ ?_)
      | (with_reducible refine LeO.bind ?_ (fun _ => ?_))
      | exact ih0 _ _ _ _
      | exact ih1 _ _ _ _ _ _ _ _ _
      | exact ih2 _ _ _ _ _ _ _ _ _ _
      | exact LeO.none _
      | refine LeO.ite ?_ ?_
      | refine LeO.bind ?_ (fun _ => ?_)
    · intro y0 y1 y2 y3 y4 y5 y6 y7 y8
      unfold impl_IsSheet.j1
      repeat' first
      | (with_reducible exact ih0 _ _ _ _)
      | (with_reducible exact ih1 _ _ _ _ _ _ _ _ _)
      | (with_reducible exact ih2 _ _ _ _ _ _ _ _ _ _)
      | (with_reducible exact LeO.refl _)
      | (with_reducible exact LeO.none _)
      | (with_reducible refine LeO.ite ?_ ?_)
      | (with_reducible refine LeO.bind ?_ (fun _ => ?_))
      | exact ih0 _ _ _ _
      | exact ih1 _ _ _ _ _ _ _ _ _
      | exact ih2 _ _ _ _ _ _ _ _ _ _
      | exact LeO.none _
      | refine LeO.ite ?_ ?_
      | refine LeO.bind ?_ (fun _ => ?_)
    · intro y0 y1 y2 y3 y4 y5 y6 y7 y8 y9
      unfold impl_IsSheet.l1
      repeat' first
      | (with_reducible exact ih0 _ _ _ _)
      | (with_reducible exact ih1 _ _ _ _ _ _ _ _ _)
      | (with_reducible exact ih2 _ _ _ _ _ _ _ _ _ _)
      | (with_reducible exact LeO.refl _)
      | (with_reducible exact LeO.none _)
      | (with_reducible refine LeO.ite ?_ ?_)
      | (with_reducible refine LeO.bind ?_ (fun _ => ?_))
      | exact ih0 _ _ _ _
      | exact ih1 _ _ _ _ _ _ _ _ _
      | exact ih2 _ _ _ _ _ _ _ _ _ _
      | exact LeO.none _
      | refine LeO.ite ?_ ?_
      | refine LeO.bind ?_ (fun _ => ?_)
theorem impl_IsSheet.mono : ∀ a0 k, LeO (impl_IsSheet.f k a0) (impl_IsSheet.f (k + 1) a0) := by
  intro a0 k
  obtain ⟨ih0, ih1, ih2⟩ := impl_IsSheet.mono_l k
  unfold impl_IsSheet.f
  repeat' first
      | (with_reducible exact ih0 _ _ _ _)
      | (with_reducible exact ih1 _ _ _ _ _ _ _ _ _)
      | (with_reducible exact ih2 _ _ _ _ _ _ _ _ _ _)
      | (with_reducible exact LeO.refl _)
      | (with_reducible exact LeO.none _)
      | (with_reducible refine LeO.ite ?_ ?_)
      | (with_reducible refine LeO.bind ?_ (fun _ => ?_))
      | exact ih0 _ _ _ _
      | exact ih1 _ _ _ _ _ _ _ _ _
      | exact ih2 _ _ _ _ _ _ _ _ _ _
      | exact LeO.none _
      | refine LeO.ite ?_ ?_
      | refine LeO.bind ?_ (fun _ => ?_)
def impl_IsSheet.T6 : Bool × List (List Nat × List Nat) := (true, [([], []), ([0], [0]), ([1], [1]), ([2, 1], [2]), ([3], [3]), ([4, 3], [3, 4]), ([5, 3, 3], [3, 5]), ([6], [6]), ([6], [6]), ([8, 6], [6, 8]), ([7, 9, 6], [6, 7, 9]), ([10, 6], [6, 10]), ([6], [6]), ([11, 12, 6, 6], [6, 11, 12]), ([13, 6], [6, 13]), ([6, 14, 3], [3, 6, 14]), ([3, 15], [3, 15])])
def impl_IsSheet.B6 : List Nat := [0, 1, 3, 7, 15, 31, 63, 127, 127, 383, 1023, 2047, 127, 8191, 16383, 32767, 65535]
theorem impl_IsSheet.tab6 : rtab .any (opsOf Try.f76 6) = impl_IsSheet.T6 := by kernel_rfl
theorem impl_IsSheet.bits6 : waitsOk impl_IsSheet.T6.2 impl_IsSheet.B6 = true := by kernel_rfl
set_option maxHeartbeats 8000000 in
set_option maxRecDepth 100000 in
theorem impl_IsSheet.calls (k : Nat) (A0 : Option Addr) (c0 : Nat) (l0 : List (S87)) (r : Bool) (w : World) (hr0 : Kd.C k87 w A0 l0.length l0) (hc0 : l0.length ≤ c0) (h : impl_IsSheet.f k l0 = some r) :
  Calls Try.prog 76 #[.slice A0 l0.length c0] w fun e w' => e = .returned (.bool r) ∧ Below w.heap.size w w' := by
 have hu87 := Try.underlying87
 have HR0 := zm hr0
 have HC0 := zm hc0
 clear hr0 hc0
 have HB := zm (Below.refl w.heap.size w)
 have H : (if (l0.length : Int) > 60 then (some false) else (impl_IsSheet.l0 k l0 l0 (l0.length : Int) 0)) = some r := h
 clear h
 by_cases c2 : (l0.length : Int) > 60
 ·
  rw [if_pos c2] at H
  have c2b0 : decide (60 < (l0.length : Int)) = true := decide_eq_true c2
  have c2b1 : decide (60 < l0.length) = true := decide_eq_true (by omega)
  clear c2
  obtain rfl := Option.some.inj H
  go_enter Try.func76, Try.ntmps76
  go_wp2
  go_ret
  exact ⟨zr, zb⟩
 rw [if_neg c2] at H
 have c2b0 : decide (60 < (l0.length : Int)) = false := decide_eq_false c2
 have c2b1 : decide (60 < l0.length) = false := decide_eq_false (by omega)
 clear c2
 have H' := zm H
 clear H
 go_enter Try.func76, Try.ntmps76
 go_wp2
 go_loopg [12] k (fun kq v12 w' => ∃ (x12_1 : Int), v12 = .int .i64 x12_1 ∧ Aside0 (impl_IsSheet.l0 kq l0 l0 (l0.length : Int) x12_1 = some r) ∧ Aside0 (kq ≤ k) ∧ Aside0 (Below w.heap.size w w'))
 case atStart => exact ⟨(0), (by first | rfl | (simp; done) | (simp [*]; done)), H', ⟨Nat.le_refl _⟩, ⟨zb⟩⟩
 case round =>
  clear H'
  (try clear c2); (try clear c2b0); (try clear c2b1); (try clear p2)
  obtain ⟨x12_1, rfl, HA, HK1, HB⟩ := hrel
  cases gk with
  | zero => exact absurd HA.out (by simp [impl_IsSheet.l0])
  | succ k1 =>
   have H := HA.out
   clear HA
   simp only [impl_IsSheet.l0] at H
   by_cases c3 : x12_1 < (l0.length : Int)
   rotate_left
   ·
    rw [if_neg c3] at H
    have c3b0 : decide (x12_1 < (l0.length : Int)) = false := decide_eq_false c3
    clear c3
    obtain rfl := Option.some.inj H
    go_wp2
    go_ret
    exact ⟨zr, zb⟩

   rw [if_pos c3] at H
   have c3b0 : decide (x12_1 < (l0.length : Int)) = true := decide_eq_true c3
   clear c3
   by_cases c4 : 0 ≤ x12_1
   rotate_left
   ·
    rw [if_neg c4] at H
    exact absurd H (by simp)
   rw [if_pos c4] at H
   have c4b0 : decide (0 ≤ x12_1) = true := decide_eq_true c4
   clear c4
   by_cases c5 : x12_1 < (l0.length : Int)
   rotate_left
   ·
    rw [if_neg c5] at H
    exact absurd H (by simp)
   rw [if_pos c5] at H
   have c5b0 : decide (x12_1 < (l0.length : Int)) = true := decide_eq_true c5
   clear c5
   have HC6 := zm H
   clear H
   have p220 : 0 ≤ (x12_1 : Int) := zd
   have q220 : x12_1 < (l0.length : Int) := zd
   obtain ⟨ad220, e220, hx220_0, hx220_1, hx220_2⟩ := at_T87 HR0.out x12_1 p220 q220
   cases e220
   replace hx220_0 := zx HB.out hx220_0
   replace hx220_1 := zx HB.out hx220_1
   replace hx220_2 := zx HB.out hx220_2
   replace p220 := eq_true p220
   replace q220 := eq_true q220
   go_upto_region 6 with (first | ((with_reducible refine gate_dst (N := 4) rfl ?_); refine box_event ?hg (N := 4) ?hd (cs := #[.int .i64 0, .int .i64 0, .int .i64 0]) (t := 87) ?hr ?_; (case hd => rfl); (case hg => rfl); (case hr => first | (go_simp; done) | (go_simp; rfl)); intro gb221 hg w7 hbox hb; have n0_ := zm (below_step zb hb); have BK221 := zm (hbox); have GW221 := zm (zs hg zb : w.heap.size ≤ gb221); have GE221 := zm (zs hg zb : w.heap.size ≤ gb221); replace HB := n0_; clear n0_; clear hb hbox hg; obtain ⟨hcz8_0, hcz8_1, hcz8_2, hfz8_0, hfz8_1, hfz8_2⟩ := zc3 BK221.out))
   (try simp only [Act.put, List.setIfInBounds_toArray, List.set_cons_zero, List.set_cons_succ])
   go_cut [33] (fun v33 wc => ∃ (kq : Nat) (x33_5 : Bool), v33 = .bool x33_5 ∧ Aside0 (impl_IsSheet.j1 kq l0 x12_1 l0 (l0.length : Int) x12_1 x33_5 ((rd_T87 l0 x12_1).f0) ((rd_T87 l0 x12_1).f1) ((rd_T87 l0 x12_1).f2) = some r) ∧ Aside0 (kq ≤ k1) ∧ Aside0 (wc.heap[gb221]? = some (.cells #[.int .i64 ((rd_T87 l0 x12_1).f0), .int .i64 ((rd_T87 l0 x12_1).f1), .int .i64 ((rd_T87 l0 x12_1).f2)] 87 (0, 0))) ∧ Aside0 (Below w.heap.size w wc))
   case first =>
    have H := HC6.out
    clear HC6
    replace H := Option.bind_eq_some_iff.mp H
    obtain ⟨t222, A90, H⟩ := H
    (try dsimp only at H)
    have A9 := zm A90
    clear A90
    by_cases c10 : t222 = true
    rotate_left
    ·
     replace c10 := Bool.eq_false_iff.mpr c10
     subst c10
     have H1 : (impl_IsSheet.j1 k1 l0 x12_1 l0 (l0.length : Int) x12_1 true ((rd_T87 l0 x12_1).f0) ((rd_T87 l0 x12_1).f1) ((rd_T87 l0 x12_1).f2)) = some r := by rw [if_neg (show ¬ (false = true) by decide)] at H; exact H
     clear H
     have H := H1
     clear H1
     have H' := zm H
     clear H
     try go_wp2
     have n0_ : Aside0 ((((w7.setCell ⟨gb221, 0, none⟩ (.int .i64 ((rd_T87 l0 x12_1).f0))).setCell ⟨gb221, 1, none⟩ (.int .i64 ((rd_T87 l0 x12_1).f1))).setCell ⟨gb221, 2, none⟩ (.int .i64 ((rd_T87 l0 x12_1).f2))).heap[gb221]? = some (.cells #[.int .i64 ((rd_T87 l0 x12_1).f0), .int .i64 ((rd_T87 l0 x12_1).f1), .int .i64 ((rd_T87 l0 x12_1).f2)] 87 (0, 0))) := ⟨by (with_reducible repeat (first | refine blk_drewN ?_ _ | refine blk_drew ?_ | refine blk_alloc ?_ _)); refine blk_put (cs := #[.int .i64 ((rd_T87 l0 x12_1).f0), .int .i64 ((rd_T87 l0 x12_1).f1), .int .i64 0]) ?_ 2 _ rfl; (with_reducible repeat (first | refine blk_drewN ?_ _ | refine blk_drew ?_ | refine blk_alloc ?_ _)); refine blk_put (cs := #[.int .i64 ((rd_T87 l0 x12_1).f0), .int .i64 0, .int .i64 0]) ?_ 1 _ rfl; (with_reducible repeat (first | refine blk_drewN ?_ _ | refine blk_drew ?_ | refine blk_alloc ?_ _)); refine blk_put (cs := #[.int .i64 0, .int .i64 0, .int .i64 0]) ?_ 0 _ rfl; (with_reducible repeat (first | refine blk_drewN ?_ _ | refine blk_drew ?_ | refine blk_alloc ?_ _)); exact BK221.out⟩
     have n1_ : Aside0 (Below w.heap.size w (((w7.setCell ⟨gb221, 0, none⟩ (.int .i64 ((rd_T87 l0 x12_1).f0))).setCell ⟨gb221, 1, none⟩ (.int .i64 ((rd_T87 l0 x12_1).f1))).setCell ⟨gb221, 2, none⟩ (.int .i64 ((rd_T87 l0 x12_1).f2)))) := ⟨zb⟩
     (try clear BK221)
     (try clear HB)
     generalize (((w7.setCell ⟨gb221, 0, none⟩ (.int .i64 ((rd_T87 l0 x12_1).f0))).setCell ⟨gb221, 1, none⟩ (.int .i64 ((rd_T87 l0 x12_1).f1))).setCell ⟨gb221, 2, none⟩ (.int .i64 ((rd_T87 l0 x12_1).f2))) = w23 at n0_ n1_ ⊢
     have BK221 := n0_
     have HB := n1_
     clear n0_ n1_
     have n0_ := zm (blk_drew BK221.out)
     have n1_ := zm (below_drew1 HB.out)
     clear BK221
     clear HB
     have BK221 := n0_
     have HB := n1_
     clear n0_ n1_
     refine start_ (n := 17) (S := fun w' => w'.cell? ⟨gb221, 0, none⟩ = some (.int .i64 ((rd_T87 l0 x12_1).f0)) ∧ w'.cell? ⟨gb221, 1, none⟩ = some (.int .i64 ((rd_T87 l0 x12_1).f1)) ∧ w'.cell? ⟨gb221, 2, none⟩ = some (.int .i64 ((rd_T87 l0 x12_1).f2))) (ds := []) #[false, false, false, false, false, false, false, false, false, false, false, false, false, false, false, false, false] (by kernel_rfl) rfl rfl ⟨(blk_cell BK221.out 0).trans rfl, (blk_cell BK221.out 1).trans rfl, (blk_cell BK221.out 2).trans rfl⟩ (fun hHeld => ?_); refine with_tabW impl_IsSheet.tab6 impl_IsSheet.bits6 (fun HT_ HW_ => ?_)
     generalize w23.drew = w24 at BK221 HB hHeld ⊢
     refine take_ (i := 0) (N := some 17) (v := ?_) (a' := ?_) #[true, false, false, false, false, false, false, false, false, false, false, false, false, false, false, false, false] rfl rfl (take_ofW HT_.out HW_.out (by kernel_rfl)) (fun _ _ _ h => h) (Or.inl ⟨by rfl, ?_⟩) hHeld ?_ ?_
     rotate_left
     ·
      rintro w' ⟨s0, s1, s2⟩
      go_simp
      with_reducible rfl
     rotate_left
     ·
      simp only [Act.put, zA, zB, zD, i64_w, i32_w]
      rfl
     refine one_ (i := 1) (N := some 18) #[true, true, false, false, false, false, false, false, false, false, false, false, false, false, false, false, false] rfl rfl (one_of HT_.out (by kernel_rfl)) (by decide) (fun K hK => ?_)
     refine goes_ Try.func118 (by kernel_rfl) rfl #[.agg #[.int .i64 ((rd_T87 l0 x12_1).f0), .int .i64 ((rd_T87 l0 x12_1).f1), .int .i64 ((rd_T87 l0 x12_1).f2)]] (by rfl) rfl rfl (by (try simp only [List.map_toArray, List.map_cons, List.map_nil]); first | done | rfl | (simp only [List.length_drop, List.length_take]; rfl)) ?_
     with_reducible refine (impl_IsHole.calls ((rd_T87 l0 x12_1).f0) ((rd_T87 l0 x12_1).f1) ((rd_T87 l0 x12_1).f2) false _ A9.out).mono ?_
     rintro e w25 ⟨rfl, hb⟩
     refine ⟨_, rfl, ?_⟩
     have n0_ := zm (blk_below (g := gb221) zk hb)
     have n1_ := zm (below_step zb hb)
     clear BK221
     clear HB
     have BK221 := n0_
     have HB := n1_
     clear n0_ n1_
     (try clear hb)
     (try clear hb2)
     (try clear hk)
     (try clear hi)
     refine hK.out _ _ ⟨(blk_cell BK221.out 0).trans rfl, (blk_cell BK221.out 1).trans rfl, (blk_cell BK221.out 2).trans rfl⟩ (fun hHeld => ?_)
     clear hK K
     refine norm_ (a' := ?_) ?_ ?_
     rotate_left
     ·
      show Act.put _ (some 18) _ = _
      simp only [Act.put, zA, zB, zD, i64_w, i32_w]
      rfl
     refine pure_ (i := 2) (N := some 19) (v := ?_) (a' := ?_) #[true, true, true, false, false, false, false, false, false, false, false, false, false, false, false, false, false] rfl rfl (any_of HT_.out (by kernel_rfl)) (fun _ _ _ h => h) (Or.inl ⟨by rfl, ?_⟩) ?_ ?_
     rotate_left
     ·
      intro w'
      go_simp
      with_reducible rfl
     rotate_left
     ·
      simp only [Act.put, zA, zB, zD, i64_w, i32_w]
      rfl
     refine pure_ (i := 3) (N := some 20) (v := ?_) (a' := ?_) #[true, true, true, true, false, false, false, false, false, false, false, false, false, false, false, false, false] rfl rfl (any_of HT_.out (by kernel_rfl)) (fun _ _ _ h => h) (Or.inl ⟨by rfl, ?_⟩) ?_ ?_
     rotate_left
     ·
      intro w'
      go_simp
      with_reducible rfl
     rotate_left
     ·
      simp only [Act.put, zA, zB, zD, i64_w, i32_w]
      rfl
     refine pure_ (i := 4) (N := some 21) (v := undef) (a' := ?_) #[true, true, true, true, true, false, false, false, false, false, false, false, false, false, false, false, false] rfl rfl (any_of HT_.out (by kernel_rfl)) (fun _ _ _ h => h) (Or.inr ⟨by rfl, rfl⟩) ?_ ?_
     rotate_left
     ·
      simp only [Act.put, zA, zB, zD, i64_w, i32_w]
      rfl
     refine pure_ (i := 5) (N := some 22) (v := undef) (a' := ?_) #[true, true, true, true, true, true, false, false, false, false, false, false, false, false, false, false, false] rfl rfl (any_of HT_.out (by kernel_rfl)) (fun _ _ _ h => h) (Or.inr ⟨by rfl, rfl⟩) ?_ ?_
     rotate_left
     ·
      simp only [Act.put, zA, zB, zD, i64_w, i32_w]
      rfl
     refine pure_ (i := 6) (N := some 23) (v := undef) (a' := ?_) #[true, true, true, true, true, true, true, false, false, false, false, false, false, false, false, false, false] rfl rfl (any_of HT_.out (by kernel_rfl)) (fun _ _ _ h => h) (Or.inr ⟨by rfl, rfl⟩) ?_ ?_
     rotate_left
     ·
      simp only [Act.put, zA, zB, zD, i64_w, i32_w]
      rfl
     refine pure_ (i := 7) (N := some 24) (v := undef) (a' := ?_) #[true, true, true, true, true, true, true, true, false, false, false, false, false, false, false, false, false] rfl rfl (any_of HT_.out (by kernel_rfl)) (fun _ _ _ h => h) (Or.inr ⟨by rfl, rfl⟩) ?_ ?_
     rotate_left
     ·
      simp only [Act.put, zA, zB, zD, i64_w, i32_w]
      rfl
     refine pure_ (i := 8) (N := some 25) (v := undef) (a' := ?_) #[true, true, true, true, true, true, true, true, true, false, false, false, false, false, false, false, false] rfl rfl (any_of HT_.out (by kernel_rfl)) (fun _ _ _ h => h) (Or.inr ⟨by rfl, rfl⟩) ?_ ?_
     rotate_left
     ·
      simp only [Act.put, zA, zB, zD, i64_w, i32_w]
      rfl
     refine pure_ (i := 9) (N := some 26) (v := undef) (a' := ?_) #[true, true, true, true, true, true, true, true, true, true, false, false, false, false, false, false, false] rfl rfl (any_of HT_.out (by kernel_rfl)) (fun _ _ _ h => h) (Or.inr ⟨by rfl, rfl⟩) ?_ ?_
     rotate_left
     ·
      simp only [Act.put, zA, zB, zD, i64_w, i32_w]
      rfl
     refine pure_ (i := 10) (N := some 27) (v := undef) (a' := ?_) #[true, true, true, true, true, true, true, true, true, true, true, false, false, false, false, false, false] rfl rfl (any_of HT_.out (by kernel_rfl)) (fun _ _ _ h => h) (Or.inr ⟨by rfl, rfl⟩) ?_ ?_
     rotate_left
     ·
      simp only [Act.put, zA, zB, zD, i64_w, i32_w]
      rfl
     refine pure_ (i := 11) (N := some 28) (v := undef) (a' := ?_) #[true, true, true, true, true, true, true, true, true, true, true, true, false, false, false, false, false] rfl rfl (any_of HT_.out (by kernel_rfl)) (fun _ _ _ h => h) (Or.inr ⟨by rfl, rfl⟩) ?_ ?_
     rotate_left
     ·
      simp only [Act.put, zA, zB, zD, i64_w, i32_w]
      rfl
     refine pure_ (i := 12) (N := some 29) (v := undef) (a' := ?_) #[true, true, true, true, true, true, true, true, true, true, true, true, true, false, false, false, false] rfl rfl (any_of HT_.out (by kernel_rfl)) (fun _ _ _ h => h) (Or.inr ⟨by rfl, rfl⟩) ?_ ?_
     rotate_left
     ·
      simp only [Act.put, zA, zB, zD, i64_w, i32_w]
      rfl
     refine pure_ (i := 13) (N := some 30) (v := undef) (a' := ?_) #[true, true, true, true, true, true, true, true, true, true, true, true, true, true, false, false, false] rfl rfl (any_of HT_.out (by kernel_rfl)) (fun _ _ _ h => h) (Or.inr ⟨by rfl, rfl⟩) ?_ ?_
     rotate_left
     ·
      simp only [Act.put, zA, zB, zD, i64_w, i32_w]
      rfl
     refine pure_ (i := 14) (N := some 31) (v := undef) (a' := ?_) #[true, true, true, true, true, true, true, true, true, true, true, true, true, true, true, false, false] rfl rfl (any_of HT_.out (by kernel_rfl)) (fun _ _ _ h => h) (Or.inr ⟨by rfl, rfl⟩) ?_ ?_
     rotate_left
     ·
      simp only [Act.put, zA, zB, zD, i64_w, i32_w]
      rfl
     refine pure_ (i := 15) (N := some 32) (v := undef) (a' := ?_) #[true, true, true, true, true, true, true, true, true, true, true, true, true, true, true, true, false] rfl rfl (any_of HT_.out (by kernel_rfl)) (fun _ _ _ h => h) (Or.inr ⟨by rfl, rfl⟩) ?_ ?_
     rotate_left
     ·
      simp only [Act.put, zA, zB, zD, i64_w, i32_w]
      rfl
     refine pure_ (i := 16) (N := some 33) (v := ?_) (a' := ?_) #[true, true, true, true, true, true, true, true, true, true, true, true, true, true, true, true, true] rfl rfl (any_of HT_.out (by kernel_rfl)) (fun _ _ _ h => h) (Or.inl ⟨by rfl, ?_⟩) ?_ ?_
     rotate_left
     ·
      intro w'
      go_simp
      with_reducible rfl
     rotate_left
     ·
      simp only [Act.put, zA, zB, zD, i64_w, i32_w]
      rfl
     refine done_ (done_of HT_.out (by kernel_rfl)) ?_
     try go_wp2
     go_meet
     case rel => exact ⟨_, (true), (by first | rfl | (simp; done) | (simp [*]; done)), H', ⟨by have := HK1.out; first | omega | exact Nat.le_refl _⟩, ⟨zk⟩, ⟨zb⟩⟩
    subst c10
    have H1 : (if x12_1 > 0 then (if 0 ≤ (wrap64 (x12_1 - 1)) then (if (wrap64 (x12_1 - 1)) < (l0.length : Int) then ((impl_holeLess.f ((rd_T87 l0 (wrap64 (x12_1 - 1))).f0) ((rd_T87 l0 (wrap64 (x12_1 - 1))).f1) ((rd_T87 l0 (wrap64 (x12_1 - 1))).f2) ((rd_T87 l0 x12_1).f0) ((rd_T87 l0 x12_1).f1) ((rd_T87 l0 x12_1).f2)).bind fun t224 => (impl_IsSheet.j1 k1 l0 x12_1 l0 (l0.length : Int) x12_1 (!t224) ((rd_T87 l0 x12_1).f0) ((rd_T87 l0 x12_1).f1) ((rd_T87 l0 x12_1).f2))) else (none)) else (none)) else (impl_IsSheet.j1 k1 l0 x12_1 l0 (l0.length : Int) x12_1 false ((rd_T87 l0 x12_1).f0) ((rd_T87 l0 x12_1).f1) ((rd_T87 l0 x12_1).f2))) = some r := by rw [if_pos rfl] at H; exact H
    clear H
    have H := H1
    clear H1
    by_cases c11 : x12_1 > 0
    rotate_left
    ·
     rw [if_neg c11] at H
     have c11b0 : decide (0 < x12_1) = false := decide_eq_false c11
     clear c11
     (first | rw [c11b0] | (simp only [i64_w, i32_w]; rw [c11b0]) | skip)
     have H' := zm H
     clear H
     try go_wp2
     have n0_ : Aside0 ((((w7.setCell ⟨gb221, 0, none⟩ (.int .i64 ((rd_T87 l0 x12_1).f0))).setCell ⟨gb221, 1, none⟩ (.int .i64 ((rd_T87 l0 x12_1).f1))).setCell ⟨gb221, 2, none⟩ (.int .i64 ((rd_T87 l0 x12_1).f2))).heap[gb221]? = some (.cells #[.int .i64 ((rd_T87 l0 x12_1).f0), .int .i64 ((rd_T87 l0 x12_1).f1), .int .i64 ((rd_T87 l0 x12_1).f2)] 87 (0, 0))) := ⟨by (with_reducible repeat (first | refine blk_drewN ?_ _ | refine blk_drew ?_ | refine blk_alloc ?_ _)); refine blk_put (cs := #[.int .i64 ((rd_T87 l0 x12_1).f0), .int .i64 ((rd_T87 l0 x12_1).f1), .int .i64 0]) ?_ 2 _ rfl; (with_reducible repeat (first | refine blk_drewN ?_ _ | refine blk_drew ?_ | refine blk_alloc ?_ _)); refine blk_put (cs := #[.int .i64 ((rd_T87 l0 x12_1).f0), .int .i64 0, .int .i64 0]) ?_ 1 _ rfl; (with_reducible repeat (first | refine blk_drewN ?_ _ | refine blk_drew ?_ | refine blk_alloc ?_ _)); refine blk_put (cs := #[.int .i64 0, .int .i64 0, .int .i64 0]) ?_ 0 _ rfl; (with_reducible repeat (first | refine blk_drewN ?_ _ | refine blk_drew ?_ | refine blk_alloc ?_ _)); exact BK221.out⟩
     have n1_ : Aside0 (Below w.heap.size w (((w7.setCell ⟨gb221, 0, none⟩ (.int .i64 ((rd_T87 l0 x12_1).f0))).setCell ⟨gb221, 1, none⟩ (.int .i64 ((rd_T87 l0 x12_1).f1))).setCell ⟨gb221, 2, none⟩ (.int .i64 ((rd_T87 l0 x12_1).f2)))) := ⟨zb⟩
     (try clear BK221)
     (try clear HB)
     generalize (((w7.setCell ⟨gb221, 0, none⟩ (.int .i64 ((rd_T87 l0 x12_1).f0))).setCell ⟨gb221, 1, none⟩ (.int .i64 ((rd_T87 l0 x12_1).f1))).setCell ⟨gb221, 2, none⟩ (.int .i64 ((rd_T87 l0 x12_1).f2))) = w20 at n0_ n1_ ⊢
     have BK221 := n0_
     have HB := n1_
     clear n0_ n1_
     have n0_ := zm (blk_drew BK221.out)
     have n1_ := zm (below_drew1 HB.out)
     clear BK221
     clear HB
     have BK221 := n0_
     have HB := n1_
     clear n0_ n1_
     refine start_ (n := 17) (S := fun w' => w'.cell? ⟨gb221, 0, none⟩ = some (.int .i64 ((rd_T87 l0 x12_1).f0)) ∧ w'.cell? ⟨gb221, 1, none⟩ = some (.int .i64 ((rd_T87 l0 x12_1).f1)) ∧ w'.cell? ⟨gb221, 2, none⟩ = some (.int .i64 ((rd_T87 l0 x12_1).f2))) (ds := []) #[false, false, false, false, false, false, false, false, false, false, false, false, false, false, false, false, false] (by kernel_rfl) rfl rfl ⟨(blk_cell BK221.out 0).trans rfl, (blk_cell BK221.out 1).trans rfl, (blk_cell BK221.out 2).trans rfl⟩ (fun hHeld => ?_); refine with_tabW impl_IsSheet.tab6 impl_IsSheet.bits6 (fun HT_ HW_ => ?_)
     generalize w20.drew = w21 at BK221 HB hHeld ⊢
     refine take_ (i := 0) (N := some 17) (v := ?_) (a' := ?_) #[true, false, false, false, false, false, false, false, false, false, false, false, false, false, false, false, false] rfl rfl (take_ofW HT_.out HW_.out (by kernel_rfl)) (fun _ _ _ h => h) (Or.inl ⟨by rfl, ?_⟩) hHeld ?_ ?_
     rotate_left
     ·
      rintro w' ⟨s0, s1, s2⟩
      go_simp
      with_reducible rfl
     rotate_left
     ·
      simp only [Act.put, zA, zB, zD, i64_w, i32_w]
      rfl
     refine one_ (i := 1) (N := some 18) #[true, true, false, false, false, false, false, false, false, false, false, false, false, false, false, false, false] rfl rfl (one_of HT_.out (by kernel_rfl)) (by decide) (fun K hK => ?_)
     refine goes_ Try.func118 (by kernel_rfl) rfl #[.agg #[.int .i64 ((rd_T87 l0 x12_1).f0), .int .i64 ((rd_T87 l0 x12_1).f1), .int .i64 ((rd_T87 l0 x12_1).f2)]] (by rfl) rfl rfl (by (try simp only [List.map_toArray, List.map_cons, List.map_nil]); first | done | rfl | (simp only [List.length_drop, List.length_take]; rfl)) ?_
     with_reducible refine (impl_IsHole.calls ((rd_T87 l0 x12_1).f0) ((rd_T87 l0 x12_1).f1) ((rd_T87 l0 x12_1).f2) true _ A9.out).mono ?_
     rintro e w22 ⟨rfl, hb⟩
     refine ⟨_, rfl, ?_⟩
     have n0_ := zm (blk_below (g := gb221) zk hb)
     have n1_ := zm (below_step zb hb)
     clear BK221
     clear HB
     have BK221 := n0_
     have HB := n1_
     clear n0_ n1_
     (try clear hb)
     (try clear hb2)
     (try clear hk)
     (try clear hi)
     refine hK.out _ _ ⟨(blk_cell BK221.out 0).trans rfl, (blk_cell BK221.out 1).trans rfl, (blk_cell BK221.out 2).trans rfl⟩ (fun hHeld => ?_)
     clear hK K
     refine norm_ (a' := ?_) ?_ ?_
     rotate_left
     ·
      show Act.put _ (some 18) _ = _
      simp only [Act.put, zA, zB, zD, i64_w, i32_w]
      rfl
     refine pure_ (i := 2) (N := some 19) (v := ?_) (a' := ?_) #[true, true, true, false, false, false, false, false, false, false, false, false, false, false, false, false, false] rfl rfl (any_of HT_.out (by kernel_rfl)) (fun _ _ _ h => h) (Or.inl ⟨by rfl, ?_⟩) ?_ ?_
     rotate_left
     ·
      intro w'
      go_simp
      with_reducible rfl
     rotate_left
     ·
      simp only [Act.put, zA, zB, zD, i64_w, i32_w]
      rfl
     refine pure_ (i := 3) (N := some 20) (v := ?_) (a' := ?_) #[true, true, true, true, false, false, false, false, false, false, false, false, false, false, false, false, false] rfl rfl (any_of HT_.out (by kernel_rfl)) (fun _ _ _ h => h) (Or.inl ⟨by rfl, ?_⟩) ?_ ?_
     rotate_left
     ·
      intro w'
      go_simp
      with_reducible rfl
     rotate_left
     ·
      simp only [Act.put, zA, zB, zD, i64_w, i32_w]
      rfl
     refine pure_ (i := 4) (N := some 21) (v := ?_) (a' := ?_) #[true, true, true, true, true, false, false, false, false, false, false, false, false, false, false, false, false] rfl rfl (any_of HT_.out (by kernel_rfl)) (fun _ _ _ h => h) (Or.inl ⟨by rfl, ?_⟩) ?_ ?_
     rotate_left
     ·
      intro w'
      go_simp
      with_reducible rfl
     rotate_left
     ·
      simp only [Act.put, zA, zB, zD, i64_w, i32_w]
      rfl
     refine pure_ (i := 5) (N := some 22) (v := ?_) (a' := ?_) #[true, true, true, true, true, true, false, false, false, false, false, false, false, false, false, false, false] rfl rfl (any_of HT_.out (by kernel_rfl)) (fun _ _ _ h => h) (Or.inl ⟨by rfl, ?_⟩) ?_ ?_
     rotate_left
     ·
      intro w'
      go_simp
      with_reducible rfl
     rotate_left
     ·
      simp only [Act.put, zA, zB, zD, i64_w, i32_w]
      rfl
     refine pure_ (i := 6) (N := some 23) (v := ?_) (a' := ?_) #[true, true, true, true, true, true, true, false, false, false, false, false, false, false, false, false, false] rfl rfl (any_of HT_.out (by kernel_rfl)) (fun _ _ _ h => h) (Or.inl ⟨by rfl, ?_⟩) ?_ ?_
     rotate_left
     ·
      intro w'
      go_simp
      with_reducible rfl
     rotate_left
     ·
      simp only [Act.put, zA, zB, zD, i64_w, i32_w]
      rfl
     refine pure_ (i := 7) (N := some 24) (v := undef) (a' := ?_) #[true, true, true, true, true, true, true, true, false, false, false, false, false, false, false, false, false] rfl rfl (any_of HT_.out (by kernel_rfl)) (fun _ _ _ h => h) (Or.inr ⟨by rfl, rfl⟩) ?_ ?_
     rotate_left
     ·
      simp only [Act.put, zA, zB, zD, i64_w, i32_w]
      rfl
     refine pure_ (i := 8) (N := some 25) (v := undef) (a' := ?_) #[true, true, true, true, true, true, true, true, true, false, false, false, false, false, false, false, false] rfl rfl (any_of HT_.out (by kernel_rfl)) (fun _ _ _ h => h) (Or.inr ⟨by rfl, rfl⟩) ?_ ?_
     rotate_left
     ·
      simp only [Act.put, zA, zB, zD, i64_w, i32_w]
      rfl
     refine pure_ (i := 9) (N := some 26) (v := undef) (a' := ?_) #[true, true, true, true, true, true, true, true, true, true, false, false, false, false, false, false, false] rfl rfl (any_of HT_.out (by kernel_rfl)) (fun _ _ _ h => h) (Or.inr ⟨by rfl, rfl⟩) ?_ ?_
     rotate_left
     ·
      simp only [Act.put, zA, zB, zD, i64_w, i32_w]
      rfl
     refine pure_ (i := 10) (N := some 27) (v := undef) (a' := ?_) #[true, true, true, true, true, true, true, true, true, true, true, false, false, false, false, false, false] rfl rfl (any_of HT_.out (by kernel_rfl)) (fun _ _ _ h => h) (Or.inr ⟨by rfl, rfl⟩) ?_ ?_
     rotate_left
     ·
      simp only [Act.put, zA, zB, zD, i64_w, i32_w]
      rfl
     refine pure_ (i := 11) (N := some 28) (v := undef) (a' := ?_) #[true, true, true, true, true, true, true, true, true, true, true, true, false, false, false, false, false] rfl rfl (any_of HT_.out (by kernel_rfl)) (fun _ _ _ h => h) (Or.inr ⟨by rfl, rfl⟩) ?_ ?_
     rotate_left
     ·
      simp only [Act.put, zA, zB, zD, i64_w, i32_w]
      rfl
     refine pure_ (i := 12) (N := some 29) (v := undef) (a' := ?_) #[true, true, true, true, true, true, true, true, true, true, true, true, true, false, false, false, false] rfl rfl (any_of HT_.out (by kernel_rfl)) (fun _ _ _ h => h) (Or.inr ⟨by rfl, rfl⟩) ?_ ?_
     rotate_left
     ·
      simp only [Act.put, zA, zB, zD, i64_w, i32_w]
      rfl
     refine pure_ (i := 13) (N := some 30) (v := undef) (a' := ?_) #[true, true, true, true, true, true, true, true, true, true, true, true, true, true, false, false, false] rfl rfl (any_of HT_.out (by kernel_rfl)) (fun _ _ _ h => h) (Or.inr ⟨by rfl, rfl⟩) ?_ ?_
     rotate_left
     ·
      simp only [Act.put, zA, zB, zD, i64_w, i32_w]
      rfl
     refine pure_ (i := 14) (N := some 31) (v := undef) (a' := ?_) #[true, true, true, true, true, true, true, true, true, true, true, true, true, true, true, false, false] rfl rfl (any_of HT_.out (by kernel_rfl)) (fun _ _ _ h => h) (Or.inr ⟨by rfl, rfl⟩) ?_ ?_
     rotate_left
     ·
      simp only [Act.put, zA, zB, zD, i64_w, i32_w]
      rfl
     refine pure_ (i := 15) (N := some 32) (v := ?_) (a' := ?_) #[true, true, true, true, true, true, true, true, true, true, true, true, true, true, true, true, false] rfl rfl (any_of HT_.out (by kernel_rfl)) (fun _ _ _ h => h) (Or.inl ⟨by rfl, ?_⟩) ?_ ?_
     rotate_left
     ·
      intro w'
      go_simp
      with_reducible rfl
     rotate_left
     ·
      simp only [Act.put, zA, zB, zD, i64_w, i32_w]
      rfl
     refine pure_ (i := 16) (N := some 33) (v := ?_) (a' := ?_) #[true, true, true, true, true, true, true, true, true, true, true, true, true, true, true, true, true] rfl rfl (any_of HT_.out (by kernel_rfl)) (fun _ _ _ h => h) (Or.inl ⟨by rfl, ?_⟩) ?_ ?_
     rotate_left
     ·
      intro w'
      go_simp
      with_reducible rfl
     rotate_left
     ·
      simp only [Act.put, zA, zB, zD, i64_w, i32_w]
      rfl
     refine done_ (done_of HT_.out (by kernel_rfl)) ?_
     try go_wp2
     go_meet
     case rel => exact ⟨_, (false), (by first | rfl | (simp; done) | (simp [*]; done)), H', ⟨by have := HK1.out; first | omega | exact Nat.le_refl _⟩, ⟨zk⟩, ⟨zb⟩⟩
    rw [if_pos c11] at H
    have c11b0 : decide (0 < x12_1) = true := decide_eq_true c11
    clear c11
    (first | rw [c11b0] | (simp only [i64_w, i32_w]; rw [c11b0]) | skip)
    obtain ⟨ji12, hji12⟩ : ∃ j_ : Int, (wrap64 (x12_1 - 1)) = j_ := ⟨_, rfl⟩
    replace H : (if 0 ≤ (ji12) then (if (ji12) < (l0.length : Int) then ((impl_holeLess.f ((rd_T87 l0 (ji12)).f0) ((rd_T87 l0 (ji12)).f1) ((rd_T87 l0 (ji12)).f2) ((rd_T87 l0 x12_1).f0) ((rd_T87 l0 x12_1).f1) ((rd_T87 l0 x12_1).f2)).bind fun t224 => (impl_IsSheet.j1 k1 l0 x12_1 l0 (l0.length : Int) x12_1 (!t224) ((rd_T87 l0 x12_1).f0) ((rd_T87 l0 x12_1).f1) ((rd_T87 l0 x12_1).f2))) else (none)) else (none)) = some r := by first | (rw [hji12] at H; exact H) | (simp only [hji12] at H ⊢; exact H)
    (try rw [hji12] at A9)
    have hji12w : (IntKind.i64.wrap (x12_1 - 1)) = ji12 := (i64_w _).trans hji12
    by_cases c13 : 0 ≤ (ji12)
    rotate_left
    ·
     rw [if_neg c13] at H
     exact absurd H (by simp)
    rw [if_pos c13] at H
    have c13b0 : decide (0 ≤ (ji12)) = true := decide_eq_true c13
    clear c13
    by_cases c14 : (ji12) < (l0.length : Int)
    rotate_left
    ·
     rw [if_neg c14] at H
     exact absurd H (by simp)
    rw [if_pos c14] at H
    have c14b0 : decide ((ji12) < (l0.length : Int)) = true := decide_eq_true c14
    clear c14
    replace H := Option.bind_eq_some_iff.mp H
    obtain ⟨t224, A150, H⟩ := H
    (try dsimp only at H)
    have A15 := zm A150
    clear A150
    have H' := zm H
    clear H
    try go_wp2
    have n0_ : Aside0 ((((w7.setCell ⟨gb221, 0, none⟩ (.int .i64 ((rd_T87 l0 x12_1).f0))).setCell ⟨gb221, 1, none⟩ (.int .i64 ((rd_T87 l0 x12_1).f1))).setCell ⟨gb221, 2, none⟩ (.int .i64 ((rd_T87 l0 x12_1).f2))).heap[gb221]? = some (.cells #[.int .i64 ((rd_T87 l0 x12_1).f0), .int .i64 ((rd_T87 l0 x12_1).f1), .int .i64 ((rd_T87 l0 x12_1).f2)] 87 (0, 0))) := ⟨by (with_reducible repeat (first | refine blk_drewN ?_ _ | refine blk_drew ?_ | refine blk_alloc ?_ _)); refine blk_put (cs := #[.int .i64 ((rd_T87 l0 x12_1).f0), .int .i64 ((rd_T87 l0 x12_1).f1), .int .i64 0]) ?_ 2 _ rfl; (with_reducible repeat (first | refine blk_drewN ?_ _ | refine blk_drew ?_ | refine blk_alloc ?_ _)); refine blk_put (cs := #[.int .i64 ((rd_T87 l0 x12_1).f0), .int .i64 0, .int .i64 0]) ?_ 1 _ rfl; (with_reducible repeat (first | refine blk_drewN ?_ _ | refine blk_drew ?_ | refine blk_alloc ?_ _)); refine blk_put (cs := #[.int .i64 0, .int .i64 0, .int .i64 0]) ?_ 0 _ rfl; (with_reducible repeat (first | refine blk_drewN ?_ _ | refine blk_drew ?_ | refine blk_alloc ?_ _)); exact BK221.out⟩
    have n1_ : Aside0 (Below w.heap.size w (((w7.setCell ⟨gb221, 0, none⟩ (.int .i64 ((rd_T87 l0 x12_1).f0))).setCell ⟨gb221, 1, none⟩ (.int .i64 ((rd_T87 l0 x12_1).f1))).setCell ⟨gb221, 2, none⟩ (.int .i64 ((rd_T87 l0 x12_1).f2)))) := ⟨zb⟩
    (try clear BK221)
    (try clear HB)
    generalize (((w7.setCell ⟨gb221, 0, none⟩ (.int .i64 ((rd_T87 l0 x12_1).f0))).setCell ⟨gb221, 1, none⟩ (.int .i64 ((rd_T87 l0 x12_1).f1))).setCell ⟨gb221, 2, none⟩ (.int .i64 ((rd_T87 l0 x12_1).f2))) = w16 at n0_ n1_ ⊢
    have BK221 := n0_
    have HB := n1_
    clear n0_ n1_
    have n0_ := zm (blk_drew BK221.out)
    have n1_ := zm (below_drew1 HB.out)
    clear BK221
    clear HB
    have BK221 := n0_
    have HB := n1_
    clear n0_ n1_
    have p223 : 0 ≤ ((ji12) : Int) := zd
    have q223 : (ji12) < (l0.length : Int) := zd
    obtain ⟨ad223, e223, hx223_0, hx223_1, hx223_2⟩ := at_T87 HR0.out (ji12) p223 q223
    have hw223_2 := hx223_2
    have hw223_1 := hx223_1
    have hw223_0 := hx223_0
    obtain rfl : ad220 = ad223 := (by injection e223)
    skip
    replace hx223_0 := zx HB.out hx223_0
    replace hx223_1 := zx HB.out hx223_1
    replace hx223_2 := zx HB.out hx223_2
    replace p223 := eq_true p223
    replace q223 := eq_true q223
    refine start_ (n := 17) (S := fun w' => w'.cell? ⟨gb221, 0, none⟩ = some (.int .i64 ((rd_T87 l0 x12_1).f0)) ∧ w'.cell? ⟨gb221, 1, none⟩ = some (.int .i64 ((rd_T87 l0 x12_1).f1)) ∧ w'.cell? ⟨gb221, 2, none⟩ = some (.int .i64 ((rd_T87 l0 x12_1).f2)) ∧ w'.cell? (ad220.add (((ji12)).toNat * 3)) = some (.int .i64 ((rd_T87 l0 (ji12)).f0)) ∧ w'.cell? ⟨(ad220.add (((ji12)).toNat * 3)).block, (ad220.add (((ji12)).toNat * 3)).off + 1, none⟩ = some (.int .i64 ((rd_T87 l0 (ji12)).f1)) ∧ w'.cell? ⟨(ad220.add (((ji12)).toNat * 3)).block, (ad220.add (((ji12)).toNat * 3)).off + 2, none⟩ = some (.int .i64 ((rd_T87 l0 (ji12)).f2))) (ds := []) #[false, false, false, false, false, false, false, false, false, false, false, false, false, false, false, false, false] (by kernel_rfl) rfl rfl ⟨(blk_cell BK221.out 0).trans rfl, (blk_cell BK221.out 1).trans rfl, (blk_cell BK221.out 2).trans rfl, ((HB.out.cell (World.block_lt_of_cell? w _ hw223_0)).trans hw223_0), ((HB.out.cell (World.block_lt_of_cell? w _ hw223_1)).trans hw223_1), ((HB.out.cell (World.block_lt_of_cell? w _ hw223_2)).trans hw223_2)⟩ (fun hHeld => ?_); refine with_tabW impl_IsSheet.tab6 impl_IsSheet.bits6 (fun HT_ HW_ => ?_)
    generalize w16.drew = w17 at BK221 HB hx223_0 hx223_1 hx223_2 hHeld ⊢
    refine take_ (i := 0) (N := some 17) (v := ?_) (a' := ?_) #[true, false, false, false, false, false, false, false, false, false, false, false, false, false, false, false, false] rfl rfl (take_ofW HT_.out HW_.out (by kernel_rfl)) (fun _ _ _ h => h) (Or.inl ⟨by rfl, ?_⟩) hHeld ?_ ?_
    rotate_left
    ·
     rintro w' ⟨s0, s1, s2, s3, s4, s5⟩
     go_simp
     with_reducible rfl
    rotate_left
    ·
     simp only [Act.put, zA, zB, zD, i64_w, i32_w]
     rfl
    refine one_ (i := 1) (N := some 18) #[true, true, false, false, false, false, false, false, false, false, false, false, false, false, false, false, false] rfl rfl (one_of HT_.out (by kernel_rfl)) (by decide) (fun K hK => ?_)
    refine goes_ Try.func118 (by kernel_rfl) rfl #[.agg #[.int .i64 ((rd_T87 l0 x12_1).f0), .int .i64 ((rd_T87 l0 x12_1).f1), .int .i64 ((rd_T87 l0 x12_1).f2)]] (by rfl) rfl rfl (by (try simp only [List.map_toArray, List.map_cons, List.map_nil]); first | done | rfl | (simp only [List.length_drop, List.length_take]; rfl)) ?_
    with_reducible refine (impl_IsHole.calls ((rd_T87 l0 x12_1).f0) ((rd_T87 l0 x12_1).f1) ((rd_T87 l0 x12_1).f2) true _ A9.out).mono ?_
    rintro e w18 ⟨rfl, hb⟩
    refine ⟨_, rfl, ?_⟩
    have n0_ := zm (blk_below (g := gb221) zk hb)
    have n1_ := zm (below_step zb hb)
    clear BK221
    clear HB
    have BK221 := n0_
    have HB := n1_
    clear n0_ n1_
    (try clear hb)
    (try clear hb2)
    (try clear hk)
    (try clear hi)
    refine hK.out _ _ ⟨(blk_cell BK221.out 0).trans rfl, (blk_cell BK221.out 1).trans rfl, (blk_cell BK221.out 2).trans rfl, ((HB.out.cell (World.block_lt_of_cell? w _ hw223_0)).trans hw223_0), ((HB.out.cell (World.block_lt_of_cell? w _ hw223_1)).trans hw223_1), ((HB.out.cell (World.block_lt_of_cell? w _ hw223_2)).trans hw223_2)⟩ (fun hHeld => ?_)
    clear hK K
    refine norm_ (a' := ?_) ?_ ?_
    rotate_left
    ·
     show Act.put _ (some 18) _ = _
     simp only [Act.put, zA, zB, zD, i64_w, i32_w]
     rfl
    refine pure_ (i := 2) (N := some 19) (v := ?_) (a' := ?_) #[true, true, true, false, false, false, false, false, false, false, false, false, false, false, false, false, false] rfl rfl (any_of HT_.out (by kernel_rfl)) (fun _ _ _ h => h) (Or.inl ⟨by rfl, ?_⟩) ?_ ?_
    rotate_left
    ·
     intro w'
     go_simp
     with_reducible rfl
    rotate_left
    ·
     simp only [Act.put, zA, zB, zD, i64_w, i32_w]
     rfl
    refine pure_ (i := 3) (N := some 20) (v := ?_) (a' := ?_) #[true, true, true, true, false, false, false, false, false, false, false, false, false, false, false, false, false] rfl rfl (any_of HT_.out (by kernel_rfl)) (fun _ _ _ h => h) (Or.inl ⟨by rfl, ?_⟩) ?_ ?_
    rotate_left
    ·
     intro w'
     go_simp
     with_reducible rfl
    rotate_left
    ·
     simp only [Act.put, zA, zB, zD, i64_w, i32_w]
     rfl
    refine pure_ (i := 4) (N := some 21) (v := ?_) (a' := ?_) #[true, true, true, true, true, false, false, false, false, false, false, false, false, false, false, false, false] rfl rfl (any_of HT_.out (by kernel_rfl)) (fun _ _ _ h => h) (Or.inl ⟨by rfl, ?_⟩) ?_ ?_
    rotate_left
    ·
     intro w'
     go_simp
     with_reducible rfl
    rotate_left
    ·
     simp only [Act.put, zA, zB, zD, i64_w, i32_w]
     rfl
    refine pure_ (i := 5) (N := some 22) (v := ?_) (a' := ?_) #[true, true, true, true, true, true, false, false, false, false, false, false, false, false, false, false, false] rfl rfl (any_of HT_.out (by kernel_rfl)) (fun _ _ _ h => h) (Or.inl ⟨by rfl, ?_⟩) ?_ ?_
    rotate_left
    ·
     intro w'
     go_simp
     with_reducible rfl
    rotate_left
    ·
     simp only [Act.put, zA, zB, zD, i64_w, i32_w]
     rfl
    refine pure_ (i := 6) (N := some 23) (v := ?_) (a' := ?_) #[true, true, true, true, true, true, true, false, false, false, false, false, false, false, false, false, false] rfl rfl (any_of HT_.out (by kernel_rfl)) (fun _ _ _ h => h) (Or.inl ⟨by rfl, ?_⟩) ?_ ?_
    rotate_left
    ·
     intro w'
     go_simp
     with_reducible rfl
    rotate_left
    ·
     simp only [Act.put, zA, zB, zD, i64_w, i32_w]
     rfl
    refine pure_ (i := 7) (N := some 24) (v := ?_) (a' := ?_) #[true, true, true, true, true, true, true, true, false, false, false, false, false, false, false, false, false] rfl rfl (any_of HT_.out (by kernel_rfl)) (fun _ _ _ h => h) (Or.inl ⟨by rfl, ?_⟩) ?_ ?_
    rotate_left
    ·
     intro w'
     go_simp
     with_reducible rfl
    rotate_left
    ·
     simp only [Act.put, zA, zB, zD, i64_w, i32_w]
     rfl
    refine pure_ (i := 8) (N := some 25) (v := ?_) (a' := ?_) #[true, true, true, true, true, true, true, true, true, false, false, false, false, false, false, false, false] rfl rfl (any_of HT_.out (by kernel_rfl)) (fun _ _ _ h => h) (Or.inl ⟨by rfl, ?_⟩) ?_ ?_
    rotate_left
    ·
     intro w'
     go_simp
     with_reducible rfl
    rotate_left
    ·
     simp only [Act.put, zA, zB, zD, i64_w, i32_w]
     rfl
    refine pure_ (i := 9) (N := some 26) (v := ?_) (a' := ?_) #[true, true, true, true, true, true, true, true, true, true, false, false, false, false, false, false, false] rfl rfl (any_of HT_.out (by kernel_rfl)) (fun _ _ _ h => h) (Or.inl ⟨by rfl, ?_⟩) ?_ ?_
    rotate_left
    ·
     intro w'
     go_simp
     with_reducible rfl
    rotate_left
    ·
     simp only [Act.put, zA, zB, zD, i64_w, i32_w]
     rfl
    refine pure_ (i := 10) (N := some 27) (v := ?_) (a' := ?_) #[true, true, true, true, true, true, true, true, true, true, true, false, false, false, false, false, false] rfl rfl (any_of HT_.out (by kernel_rfl)) (fun _ _ _ h => h) (Or.inl ⟨by rfl, ?_⟩) ?_ ?_
    rotate_left
    ·
     intro w'
     go_simp
     with_reducible rfl
    rotate_left
    ·
     simp only [Act.put, zA, zB, zD, i64_w, i32_w]
     rfl
    refine take_ (i := 11) (N := some 28) (v := ?_) (a' := ?_) #[true, true, true, true, true, true, true, true, true, true, true, true, false, false, false, false, false] rfl rfl (take_ofW HT_.out HW_.out (by kernel_rfl)) (fun _ _ _ h => h) (Or.inl ⟨by rfl, ?_⟩) hHeld ?_ ?_
    rotate_left
    ·
     rintro w' ⟨s0, s1, s2, s3, s4, s5⟩
     go_simp
     with_reducible rfl
    rotate_left
    ·
     simp only [Act.put, zA, zB, zD, i64_w, i32_w]
     rfl
    refine take_ (i := 12) (N := some 29) (v := ?_) (a' := ?_) #[true, true, true, true, true, true, true, true, true, true, true, true, true, false, false, false, false] rfl rfl (take_ofW HT_.out HW_.out (by kernel_rfl)) (fun _ _ _ h => h) (Or.inl ⟨by rfl, ?_⟩) hHeld ?_ ?_
    rotate_left
    ·
     rintro w' ⟨s0, s1, s2, s3, s4, s5⟩
     go_simp
     with_reducible rfl
    rotate_left
    ·
     simp only [Act.put, zA, zB, zD, i64_w, i32_w]
     rfl
    refine one_ (i := 13) (N := some 30) #[true, true, true, true, true, true, true, true, true, true, true, true, true, true, false, false, false] rfl rfl (one_of HT_.out (by kernel_rfl)) (by decide) (fun K hK => ?_)
    refine goes_ Try.func119 (by kernel_rfl) rfl #[.agg #[.int .i64 ((rd_T87 l0 (ji12)).f0), .int .i64 ((rd_T87 l0 (ji12)).f1), .int .i64 ((rd_T87 l0 (ji12)).f2)], .agg #[.int .i64 ((rd_T87 l0 x12_1).f0), .int .i64 ((rd_T87 l0 x12_1).f1), .int .i64 ((rd_T87 l0 x12_1).f2)]] (by rfl) rfl rfl (by (try simp only [List.map_toArray, List.map_cons, List.map_nil]); first | done | (simp only [hji12]; rfl) | rfl | (simp only [List.length_drop, List.length_take]; rfl)) ?_
    with_reducible refine (impl_holeLess.calls ((rd_T87 l0 (ji12)).f0) ((rd_T87 l0 (ji12)).f1) ((rd_T87 l0 (ji12)).f2) ((rd_T87 l0 x12_1).f0) ((rd_T87 l0 x12_1).f1) ((rd_T87 l0 x12_1).f2) t224 _ A15.out).mono ?_
    rintro e w19 ⟨rfl, hb⟩
    refine ⟨_, rfl, ?_⟩
    have n0_ := zm (blk_below (g := gb221) zk hb)
    have n1_ := zm (below_step zb hb)
    clear BK221
    clear HB
    have BK221 := n0_
    have HB := n1_
    clear n0_ n1_
    (try clear hb)
    (try clear hb2)
    (try clear hk)
    (try clear hi)
    refine hK.out _ _ ⟨(blk_cell BK221.out 0).trans rfl, (blk_cell BK221.out 1).trans rfl, (blk_cell BK221.out 2).trans rfl, ((HB.out.cell (World.block_lt_of_cell? w _ hw223_0)).trans hw223_0), ((HB.out.cell (World.block_lt_of_cell? w _ hw223_1)).trans hw223_1), ((HB.out.cell (World.block_lt_of_cell? w _ hw223_2)).trans hw223_2)⟩ (fun hHeld => ?_)
    clear hK K
    refine norm_ (a' := ?_) ?_ ?_
    rotate_left
    ·
     show Act.put _ (some 30) _ = _
     simp only [Act.put, zA, zB, zD, i64_w, i32_w]
     rfl
    refine pure_ (i := 14) (N := some 31) (v := ?_) (a' := ?_) #[true, true, true, true, true, true, true, true, true, true, true, true, true, true, true, false, false] rfl rfl (any_of HT_.out (by kernel_rfl)) (fun _ _ _ h => h) (Or.inl ⟨by rfl, ?_⟩) ?_ ?_
    rotate_left
    ·
     intro w'
     go_simp
     with_reducible rfl
    rotate_left
    ·
     simp only [Act.put, zA, zB, zD, i64_w, i32_w]
     rfl
    refine pure_ (i := 15) (N := some 32) (v := ?_) (a' := ?_) #[true, true, true, true, true, true, true, true, true, true, true, true, true, true, true, true, false] rfl rfl (any_of HT_.out (by kernel_rfl)) (fun _ _ _ h => h) (Or.inl ⟨by rfl, ?_⟩) ?_ ?_
    rotate_left
    ·
     intro w'
     go_simp
     with_reducible rfl
    rotate_left
    ·
     simp only [Act.put, zA, zB, zD, i64_w, i32_w]
     rfl
    refine pure_ (i := 16) (N := some 33) (v := ?_) (a' := ?_) #[true, true, true, true, true, true, true, true, true, true, true, true, true, true, true, true, true] rfl rfl (any_of HT_.out (by kernel_rfl)) (fun _ _ _ h => h) (Or.inl ⟨by rfl, ?_⟩) ?_ ?_
    rotate_left
    ·
     intro w'
     go_simp
     with_reducible rfl
    rotate_left
    ·
     simp only [Act.put, zA, zB, zD, i64_w, i32_w]
     rfl
    refine done_ (done_of HT_.out (by kernel_rfl)) ?_
    try go_wp2
    go_meet
    case rel => exact ⟨_, (!t224), (by first | rfl | (simp; done) | (simp [*]; done)), H', ⟨by have := HK1.out; first | omega | exact Nat.le_refl _⟩, ⟨zk⟩, ⟨zb⟩⟩
   case rest =>
    clear HC6
    (try clear c1); (try clear c2); (try clear c2b0); (try clear c2b1); (try clear p2); (try clear q2); (try clear hx2); (try clear c3); (try clear c3b0); (try clear c4); (try clear c4b0); (try clear c5); (try clear c5b0); (try clear p6); (try clear c7); (try clear c10); (try clear c11); (try clear c11b0); (try clear c13); (try clear c13b0); (try clear c14); (try clear c14b0); (try clear p22); (try clear q22); (try clear hx22); (try clear hcz8_0); (try clear hcz8_1); (try clear hcz8_2); (try clear hfz8_0); (try clear hfz8_1); (try clear hfz8_2); (try clear hx220_0); (try clear hx220_1); (try clear hx220_2); (try clear hx223_0); (try clear hx223_1); (try clear hx223_2); (try clear p2); (try clear p220); (try clear p223); (try clear q220); (try clear q223)
    obtain ⟨kq, x33_5, rfl, HA, HJ5, BK221, HB⟩ := hcut
    cases kq with
    | zero => exact absurd HA.out (by simp [impl_IsSheet.j1])
    | succ kj5 =>
     have H := HA.out
     clear HA
     simp only [impl_IsSheet.j1] at H
     by_cases c26 : x33_5 = true
     ·
      subst c26
      have H1 : (some false) = some r := by rw [if_pos rfl] at H; exact H
      clear H
      have H := H1
      clear H1
      obtain rfl := Option.some.inj H
      go_wp2
      go_ret
      exact ⟨zr, zb⟩
     replace c26 := Bool.eq_false_iff.mpr c26
     subst c26
     have H1 : (if 0 ≤ x12_1 then (if x12_1 ≤ (l0.length : Int) then ((some (l0.take (x12_1 : Int).toNat : List (S87))).bind fun y225 => (impl_IsSheet.l1 kj5 l0 l0 (l0.length : Int) x12_1 y225 (y225.length : Int) 0 ((rd_T87 l0 x12_1).f0) ((rd_T87 l0 x12_1).f1) ((rd_T87 l0 x12_1).f2))) else (none)) else (none)) = some r := by rw [if_neg (show ¬ (false = true) by decide)] at H; exact H
     clear H
     have H := H1
     clear H1
     by_cases c27 : 0 ≤ x12_1
     rotate_left
     ·
      rw [if_neg c27] at H
      exact absurd H (by simp)
     rw [if_pos c27] at H
     have c27b0 := eq_true c27
     have c27b1 : decide (0 ≤ x12_1) = true := decide_eq_true c27
     clear c27
     by_cases c28 : x12_1 ≤ (l0.length : Int)
     rotate_left
     ·
      rw [if_neg c28] at H
      exact absurd H (by simp)
     rw [if_pos c28] at H
     have c28b0 := eq_true c28
     have c28b1 : decide (x12_1 ≤ (l0.length : Int)) = true := decide_eq_true c28
     clear c28
     obtain ⟨y225, hy225⟩ : ∃ y_ : List (S87), y_ = (l0.take (x12_1 : Int).toNat) := ⟨_, rfl⟩
     replace H : (impl_IsSheet.l1 kj5 l0 l0 (l0.length : Int) x12_1 y225 (y225.length : Int) 0 ((rd_T87 l0 x12_1).f0) ((rd_T87 l0 x12_1).f1) ((rd_T87 l0 x12_1).f2)) = some r := by first | (rw [hy225]; with_reducible exact H) | (have H2_ := (Option.bind_some _ _).symm.trans H; rw [hy225]; with_reducible exact H2_) | (have H2_ := (Option.bind_some _ _).symm.trans H; with_reducible exact H2_) | with_reducible exact H | (rw [hy225]; exact H) | exact H
     have Ny225 := zm hy225
     clear hy225
     have H' := zm H
     clear H
     have q29 : (x12_1 : Int) ≤ ((l0.length : Int) : Int) := zd
     obtain ⟨i029, hi029, _, hsz29, _⟩ := info_parts info87
     have hroom29 : l0.length ≤ c0 := HC0.out
     have hC29 : Kd.C k87 _ (some ad220) l0.length l0 := HR0.out
     have hcut29 := cut_to (P := Try.prog) 39 87 .i64 Try.underlying39 hi029 (some ad220) l0.length c0 x12_1 (of_decide_eq_true (by first | (with_reducible assumption) | assumption)) q29 hroom29
     have hr29 := Kd.C_take (m := (x12_1 : Int).toNat) hC29 (by omega)
     have hy29 : y225.length = (x12_1 : Int).toNat := (by rw [Ny225.out, List.length_take]; omega)
     rw [← Ny225.out] at hr29
     rw [← hy29] at hcut29
     have HR228 := zm hr29
     have HC228 := zm (show y225.length ≤ c0 from by omega)
     clear hr29 hC29 hroom29 hi029 hsz29
     have KY29 := zm hy29
     clear hy29
     replace q29 := eq_true q29
     go_wp2
     go_loopg [38] kj5 (fun kq v38 w' => ∃ (x38_3 : Int), v38 = .int .i64 x38_3 ∧ Aside0 (impl_IsSheet.l1 kq l0 l0 (l0.length : Int) x12_1 y225 (y225.length : Int) x38_3 ((rd_T87 l0 x12_1).f0) ((rd_T87 l0 x12_1).f1) ((rd_T87 l0 x12_1).f2) = some r) ∧ Aside0 (kq ≤ kj5) ∧ Aside0 (w'.heap[gb221]? = some (.cells #[.int .i64 ((rd_T87 l0 x12_1).f0), .int .i64 ((rd_T87 l0 x12_1).f1), .int .i64 ((rd_T87 l0 x12_1).f2)] 87 (0, 0))) ∧ Aside0 (Below w.heap.size w w'))
     case atStart => exact ⟨(0), (by first | rfl | (simp; done) | (simp [*]; done)), H', ⟨Nat.le_refl _⟩, ⟨zk⟩, ⟨zb⟩⟩
     case round =>
      clear H'
      (try clear c1); (try clear c2); (try clear c2b0); (try clear c2b1); (try clear p2); (try clear q2); (try clear hx2); (try clear c3); (try clear c3b0); (try clear c4); (try clear c4b0); (try clear c5); (try clear c5b0); (try clear p6); (try clear c7); (try clear c10); (try clear c11); (try clear c11b0); (try clear c13); (try clear c13b0); (try clear c14); (try clear c14b0); (try clear p22); (try clear q22); (try clear hx22); (try clear c26); (try clear c27); (try clear c27b0); (try clear c27b1); (try clear c28); (try clear c28b0); (try clear c28b1); (try clear q29); (try clear hcz8_0); (try clear hcz8_1); (try clear hcz8_2); (try clear hfz8_0); (try clear hfz8_1); (try clear hfz8_2); (try clear hx220_0); (try clear hx220_1); (try clear hx220_2); (try clear hx223_0); (try clear hx223_1); (try clear hx223_2); (try clear p2); (try clear p22); (try clear p220); (try clear p223); (try clear p6); (try clear q2); (try clear q22); (try clear q220); (try clear q223); (try clear q29)
      obtain ⟨x38_3, rfl, HA, HK3, BK221, HB⟩ := hrel
      cases gk with
      | zero => exact absurd HA.out (by simp [impl_IsSheet.l1])
      | succ k3 =>
       have H := HA.out
       clear HA
       simp only [impl_IsSheet.l1] at H
       by_cases c30 : x38_3 < (y225.length : Int)
       rotate_left
       ·
        rw [if_neg c30] at H
        have c30b0 : decide (x38_3 < (y225.length : Int)) = false := decide_eq_false c30
        clear c30
        have H' := zm H
        clear H
        go_wp2
        go_roundg k3
        case measure => have := HK1.out; have := HJ5.out; have := HK3.out; omega
        case rel => exact ⟨(wrap64 (x12_1 + 1)), (by first | rfl | (simp; done) | (simp [*]; done)), H', ⟨by have := HK1.out; have := HJ5.out; have := HK3.out; omega⟩, ⟨zb⟩⟩
       rw [if_pos c30] at H
       have c30b0 : decide (x38_3 < (y225.length : Int)) = true := decide_eq_true c30
       clear c30
       by_cases c31 : 0 ≤ x38_3
       rotate_left
       ·
        rw [if_neg c31] at H
        exact absurd H (by simp)
       rw [if_pos c31] at H
       have c31b0 : decide (0 ≤ x38_3) = true := decide_eq_true c31
       clear c31
       by_cases c32 : x38_3 < (y225.length : Int)
       rotate_left
       ·
        rw [if_neg c32] at H
        exact absurd H (by simp)
       rw [if_pos c32] at H
       have c32b0 : decide (x38_3 < (y225.length : Int)) = true := decide_eq_true c32
       clear c32
       by_cases c33 : ((rd_T87 y225 x38_3).f0) = ((rd_T87 l0 x12_1).f0)
       rotate_left
       ·
        rw [if_neg c33] at H
        have c33b0 : (((rd_T87 y225 x38_3).f0) == ((rd_T87 l0 x12_1).f0)) = false := beq_eq_false_iff_ne.mpr c33
        have c33b1 : (((rd_T87 y225 x38_3).f0) != ((rd_T87 l0 x12_1).f0)) = true := bne_iff_ne.mpr c33
        have H' := zm H
        clear H
        have p229 : 0 ≤ (x38_3 : Int) := zd
        have q229 : x38_3 < (y225.length : Int) := zd
        obtain ⟨ad229, e229, hx229_0, hx229_1, hx229_2⟩ := at_T87 HR228.out x38_3 p229 q229
        obtain rfl : ad220 = ad229 := (by injection e229)
        skip
        replace hx229_0 := zx HB.out hx229_0
        replace hx229_1 := zx HB.out hx229_1
        replace hx229_2 := zx HB.out hx229_2
        replace p229 := eq_true p229
        replace q229 := eq_true q229
        go_wp2_with (first | ((with_reducible refine gate_dst (N := 6) rfl ?_); refine box_event ?hg (N := 6) ?hd (cs := #[.int .i64 0, .int .i64 0, .int .i64 0]) (t := 87) ?hr ?_; (case hd => rfl); (case hg => rfl); (case hr => first | (go_simp; done) | (go_simp; rfl)); intro gb230 hg w43 hbox hb; have n0_ := zm (blk_below (g := gb221) zk hb); have n1_ := zm (below_step zb hb); have BK230 := zm (hbox); have GW230 := zm (zs hg zb : w.heap.size ≤ gb230); have GE230 := zm (zs hg zb : w.heap.size ≤ gb230); have NB221_230 := zm (zl hg zk : gb221 ≠ gb230); have NB230_221 := zm (zg hg zk : gb230 ≠ gb221); replace BK221 := n0_; replace HB := n1_; clear n0_ n1_; clear hb hbox hg; have hnb44 := NB230_221.out; have hnc44 := NB221_230.out; obtain ⟨hcz45_0, hcz45_1, hcz45_2, hfz45_0, hfz45_1, hfz45_2⟩ := zc3 BK230.out; obtain ⟨hcz46_0, hcz46_1, hcz46_2, hfz46_0, hfz46_1, hfz46_2⟩ := zc3 BK221.out))
        go_roundg k3
        case measure => have := HK1.out; have := HJ5.out; have := HK3.out; omega
        case rel => exact ⟨(wrap64 (x38_3 + 1)), (by first | rfl | (simp; done) | (simp [*]; done)), H', ⟨by have := HK1.out; have := HJ5.out; have := HK3.out; omega⟩, ⟨zK⟩, ⟨zb⟩⟩
       rw [if_pos c33] at H
       have c33b0 : (((rd_T87 y225 x38_3).f0) == ((rd_T87 l0 x12_1).f0)) = true := beq_iff_eq.mpr c33
       have c33b1 : (((rd_T87 y225 x38_3).f0) != ((rd_T87 l0 x12_1).f0)) = false := bne_eq_false_iff_eq.mpr c33
       clear c33
       by_cases c34 : ((rd_T87 y225 x38_3).f2) ≥ ((rd_T87 l0 x12_1).f1)
       ·
        rw [if_pos c34] at H
        have c34b0 : decide (((rd_T87 l0 x12_1).f1) ≤ ((rd_T87 y225 x38_3).f2)) = true := decide_eq_true c34
        clear c34
        obtain rfl := Option.some.inj H
        have p229 : 0 ≤ (x38_3 : Int) := zd
        have q229 : x38_3 < (y225.length : Int) := zd
        obtain ⟨ad229, e229, hx229_0, hx229_1, hx229_2⟩ := at_T87 HR228.out x38_3 p229 q229
        have hq_ : ad229 = ad220 := (by injection e229 with z_; exact z_.symm)
        subst hq_
        replace hx229_0 := zx HB.out hx229_0
        replace hx229_1 := zx HB.out hx229_1
        replace hx229_2 := zx HB.out hx229_2
        replace p229 := eq_true p229
        replace q229 := eq_true q229
        go_wp2_with (first | ((with_reducible refine gate_dst (N := 6) rfl ?_); refine box_event ?hg (N := 6) ?hd (cs := #[.int .i64 0, .int .i64 0, .int .i64 0]) (t := 87) ?hr ?_; (case hd => rfl); (case hg => rfl); (case hr => first | (go_simp; done) | (go_simp; rfl)); intro gb230 hg w35 hbox hb; have n0_ := zm (blk_below (g := gb221) zk hb); have n1_ := zm (below_step zb hb); have BK230 := zm (hbox); have GW230 := zm (zs hg zb : w.heap.size ≤ gb230); have GE230 := zm (zs hg zb : w.heap.size ≤ gb230); have NB221_230 := zm (zl hg zk : gb221 ≠ gb230); have NB230_221 := zm (zg hg zk : gb230 ≠ gb221); replace BK221 := n0_; replace HB := n1_; clear n0_ n1_; clear hb hbox hg; have hnb36 := NB230_221.out; have hnc36 := NB221_230.out; obtain ⟨hcz37_0, hcz37_1, hcz37_2, hfz37_0, hfz37_1, hfz37_2⟩ := zc3 BK230.out; obtain ⟨hcz38_0, hcz38_1, hcz38_2, hfz38_0, hfz38_1, hfz38_2⟩ := zc3 BK221.out))
        go_ret
        exact ⟨zr, zb⟩
       rw [if_neg c34] at H
       have c34b0 : decide (((rd_T87 l0 x12_1).f1) ≤ ((rd_T87 y225 x38_3).f2)) = false := decide_eq_false c34
       clear c34
       have H' := zm H
       clear H
       have p229 : 0 ≤ (x38_3 : Int) := zd
       have q229 : x38_3 < (y225.length : Int) := zd
       obtain ⟨ad229, e229, hx229_0, hx229_1, hx229_2⟩ := at_T87 HR228.out x38_3 p229 q229
       have hq_ : ad229 = ad220 := (by injection e229 with z_; exact z_.symm)
       subst hq_
       replace hx229_0 := zx HB.out hx229_0
       replace hx229_1 := zx HB.out hx229_1
       replace hx229_2 := zx HB.out hx229_2
       replace p229 := eq_true p229
       replace q229 := eq_true q229
       go_wp2_with (first | ((with_reducible refine gate_dst (N := 6) rfl ?_); refine box_event ?hg (N := 6) ?hd (cs := #[.int .i64 0, .int .i64 0, .int .i64 0]) (t := 87) ?hr ?_; (case hd => rfl); (case hg => rfl); (case hr => first | (go_simp; done) | (go_simp; rfl)); intro gb230 hg w39 hbox hb; have n0_ := zm (blk_below (g := gb221) zk hb); have n1_ := zm (below_step zb hb); have BK230 := zm (hbox); have GW230 := zm (zs hg zb : w.heap.size ≤ gb230); have GE230 := zm (zs hg zb : w.heap.size ≤ gb230); have NB221_230 := zm (zl hg zk : gb221 ≠ gb230); have NB230_221 := zm (zg hg zk : gb230 ≠ gb221); replace BK221 := n0_; replace HB := n1_; clear n0_ n1_; clear hb hbox hg; have hnb40 := NB230_221.out; have hnc40 := NB221_230.out; obtain ⟨hcz41_0, hcz41_1, hcz41_2, hfz41_0, hfz41_1, hfz41_2⟩ := zc3 BK230.out; obtain ⟨hcz42_0, hcz42_1, hcz42_2, hfz42_0, hfz42_1, hfz42_2⟩ := zc3 BK221.out))
       go_roundg k3
       case measure => have := HK1.out; have := HJ5.out; have := HK3.out; omega
       case rel => exact ⟨(wrap64 (x38_3 + 1)), (by first | rfl | (simp; done) | (simp [*]; done)), H', ⟨by have := HK1.out; have := HJ5.out; have := HK3.out; omega⟩, ⟨zK⟩, ⟨zb⟩⟩
end Go.Proofs.Ytjdkdbeenggfaaa.PSo
