-- Written for this claim by a program of this session (wip/tpl/patchprint.py), not by print.sh.
import Derived.Test.YtioheacdldgaaaaPAllx0
import Derived.Test.YtioheacdldgaaaaPAllx7
import Derived.Test.YtioheacdldgaaaaPAllx18
namespace Go.Proofs.Ytioheacdldgaaaa.PAll
open Go.RowKit Go.Proofs.YtioheacdldgaaaaW.PrintWords Go.Proofs.YtioheacdldgaaaaW.PrintLast Go.Proofs.YtioheacdldgaaaaW.PrintMore
attribute [local go_sem] max2_int min2_int max_two min_two max_three min_three max_four min_four   -- for this text's walks alone
set_option linter.unusedVariables false
set_option linter.unusedSimpArgs false

/-! ### impl_isTrueTo: function 61 -/
def impl_isTrueTo.l0 : Nat → List (S79) → List (S83) → Int → Int → Int → Int → Int → Option (Bool)
  | 0, _, _, _, _, _, _, _ => none
  | k + 1, x0, x14, x15, x16, x580000, x580001, x580002 => if x16 < x15 then (if 0 ≤ x16 then (if x16 < (x14.length : Int) then (if x16 < (x0.length : Int) then (if ((rd_T79 x0 x16).f0) = ((rd_T83 x14 x16).f0) then (if ((rd_T79 x0 x16).f1) = (wrap64 ((wrap64 (2 * ((rd_T83 x14 x16).f1))) + x580000)) then (impl_isTrueTo.l0 k x0 x14 x15 (wrap64 (x16 + 1)) x580000 x580001 x580002) else (some false)) else (some false)) else (none)) else (none)) else (none)) else (some true)
def impl_isTrueTo.f (k : Nat) (l0 : List (S79)) (a1_0 : Int) (a1_1 : Int) (a1_2 : Int) (l2 : List (S83)) : Option (Bool) := if (l0.length : Int) = (l2.length : Int) then (impl_isTrueTo.l0 k l0 l2 (l2.length : Int) 0 a1_0 a1_1 a1_2) else (some false)
theorem impl_isTrueTo.mono_l : ∀ k, (∀ y0 y1 y2 y3 y4 y5 y6, LeO (impl_isTrueTo.l0 k y0 y1 y2 y3 y4 y5 y6) (impl_isTrueTo.l0 (k + 1) y0 y1 y2 y3 y4 y5 y6))
  | 0 => fun _ _ _ _ _ _ _ r h => by simp [impl_isTrueTo.l0] at h
  | k + 1 => by
    have ih0 := impl_isTrueTo.mono_l k
    · intro y0 y1 y2 y3 y4 y5 y6
      unfold impl_isTrueTo.l0
      repeat' first
      | (with_reducible exact ih0 _ _ _ _ _ _ _)
      | (with_reducible exact LeO.refl _)
      | (with_reducible exact LeO.none _)
      | (with_reducible refine LeO.ite ?_ ?_)
      | (with_reducible refine LeO.bind ?_ (fun _ => ?_))
      | exact ih0 _ _ _ _ _ _ _
      | exact LeO.none _
      | refine LeO.ite ?_ ?_
      | refine LeO.bind ?_ (fun _ => ?_)
theorem impl_isTrueTo.mono : ∀ a0 a1 a2 a3 a4 k, LeO (impl_isTrueTo.f k a0 a1 a2 a3 a4) (impl_isTrueTo.f (k + 1) a0 a1 a2 a3 a4) := by
  intro a0 a1 a2 a3 a4 k
  have ih0 := impl_isTrueTo.mono_l k
  unfold impl_isTrueTo.f
  repeat' first
      | (with_reducible exact ih0 _ _ _ _ _ _ _)
      | (with_reducible exact LeO.refl _)
      | (with_reducible exact LeO.none _)
      | (with_reducible refine LeO.ite ?_ ?_)
      | (with_reducible refine LeO.bind ?_ (fun _ => ?_))
      | exact ih0 _ _ _ _ _ _ _
      | exact LeO.none _
      | refine LeO.ite ?_ ?_
      | refine LeO.bind ?_ (fun _ => ?_)
theorem impl_isTrueTo.gq {P : Program} {i : Nat} {ops : Array Oper} {Q : Exit → Act → World → Prop} {a : Act} {W : World} (h : (Code.region i ops true).wp P Q a W) : (Code.region i ops true).wp P Q a W := h
set_option maxHeartbeats 8000000 in
set_option maxRecDepth 100000 in
theorem impl_isTrueTo.calls (k : Nat) (A0 : Option Addr) (c0 : Nat) (l0 : List (S79)) (a1_0 : Int) (a1_1 : Int) (a1_2 : Int) (A2 : Option Addr) (c2 : Nat) (l2 : List (S83)) (r : Bool) (w : World) (hr0 : Kd.C k79 w A0 l0.length l0) (hc0 : l0.length ≤ c0) (hr2 : Kd.C k83 w A2 l2.length l2) (hc2 : l2.length ≤ c2) (h : impl_isTrueTo.f k l0 a1_0 a1_1 a1_2 l2 = some r) :
  Calls Try.prog 61 #[.slice A0 l0.length c0, .agg #[.int .i64 a1_0, .int .i64 a1_1, .int .i64 a1_2], .slice A2 l2.length c2] w fun e w' => e = .returned (.bool r) ∧ Below w.heap.size w w' := by
 have hu36 := Try.underlying36
 have hu83 := Try.underlying83
 have HR0 := zm hr0
 have HC0 := zm hc0
 clear hr0 hc0
 have HR2 := zm hr2
 have HC2 := zm hc2
 clear hr2 hc2
 have HB := zm (Below.refl w.heap.size w)
 have H : (if (l0.length : Int) = (l2.length : Int) then (impl_isTrueTo.l0 k l0 l2 (l2.length : Int) 0 a1_0 a1_1 a1_2) else (some false)) = some r := h
 clear h
 by_cases c4 : (l0.length : Int) = (l2.length : Int)
 ·
  rw [if_pos c4] at H
  have c4b0 : ((l0.length : Int) == (l2.length : Int)) = true := beq_iff_eq.mpr c4
  have c4b1 : ((l0.length : Int) != (l2.length : Int)) = false := bne_eq_false_iff_eq.mpr c4
  have c4b2 : (l0.length == l2.length) = true := by first | simpa using c4 | (simp at c4 ⊢; omega)
  clear c4
  have H' := zm H
  clear H
  go_enter Try.func61, Try.ntmps61
  go_wp2_with (first | ((with_reducible refine gate_dst (N := 4) rfl ?_); refine box_event ?hg (N := 4) ?hd (cs := #[.int .i64 a1_0, .int .i64 a1_1, .int .i64 a1_2]) (t := 36) ?hr ?_; (case hd => rfl); (case hg => rfl); (case hr => first | (go_simp; done) | (go_simp; rfl)); intro gb579 hg w5 hbox hb; have n0_ := zm (below_step zb hb); have n1_ := zm (hbox); have n2_ := zm (zs hg zb : w.heap.size ≤ gb579); have n3_ := zm (zs hg zb : w.heap.size ≤ gb579); clear HB; have HB := n0_; have BK579 := n1_; have GW579 := n2_; have GE579 := n3_; clear n0_ n1_ n2_ n3_; clear hb hbox hg) | ((with_reducible refine impl_isTrueTo.gq ?_); go_quiet (fail)))
  go_loopg [16] k (fun kq v16 w' => ∃ (x16_1 : Int), v16 = .int .i64 x16_1 ∧ Aside0 (impl_isTrueTo.l0 kq l0 l2 (l2.length : Int) x16_1 a1_0 a1_1 a1_2 = some r) ∧ Aside0 (kq ≤ k) ∧ Aside0 (w'.heap[gb579]? = some (.cells #[.int .i64 a1_0, .int .i64 a1_1, .int .i64 a1_2] 36 (0, 0))) ∧ Aside0 (Below w.heap.size w w'))
  case atStart => exact ⟨(0), (by first | rfl | (simp; done) | (simp [*]; done)), H', ⟨Nat.le_refl _⟩, ⟨zk⟩, ⟨zb⟩⟩
  case round =>
   clear H'
   try clear c2
   try clear p2
   try clear c4
   try clear c4b0
   try clear c4b1
   try clear c4b2
   obtain ⟨x16_1, rfl, HA, HK1, BK579, HB⟩ := hrel
   cases gk with
   | zero => exact absurd HA.out (by simp [impl_isTrueTo.l0])
   | succ k1 =>
    have H := HA.out
    clear HA
    simp only [impl_isTrueTo.l0] at H
    by_cases c6 : x16_1 < (l2.length : Int)
    ·
     rw [if_pos c6] at H
     have c6b0 : decide (x16_1 < (l2.length : Int)) = true := decide_eq_true c6
     clear c6
     by_cases c7 : 0 ≤ x16_1
     ·
      rw [if_pos c7] at H
      have c7b0 : decide (0 ≤ x16_1) = true := decide_eq_true c7
      clear c7
      by_cases c8 : x16_1 < (l2.length : Int)
      ·
       rw [if_pos c8] at H
       have c8b0 : decide (x16_1 < (l2.length : Int)) = true := decide_eq_true c8
       clear c8
       by_cases c9 : x16_1 < (l0.length : Int)
       ·
        rw [if_pos c9] at H
        have c9b0 : decide (x16_1 < (l0.length : Int)) = true := decide_eq_true c9
        clear c9
        by_cases c10 : ((rd_T79 l0 x16_1).f0) = ((rd_T83 l2 x16_1).f0)
        ·
         rw [if_pos c10] at H
         have c10b0 : (((rd_T79 l0 x16_1).f0) == ((rd_T83 l2 x16_1).f0)) = true := beq_iff_eq.mpr c10
         have c10b1 : (((rd_T79 l0 x16_1).f0) != ((rd_T83 l2 x16_1).f0)) = false := bne_eq_false_iff_eq.mpr c10
         clear c10
         by_cases c11 : ((rd_T79 l0 x16_1).f1) = (wrap64 ((wrap64 (2 * ((rd_T83 l2 x16_1).f1))) + a1_0))
         ·
          rw [if_pos c11] at H
          have c11b0 : (((rd_T79 l0 x16_1).f1) == (wrap64 ((wrap64 (2 * ((rd_T83 l2 x16_1).f1))) + a1_0))) = true := beq_iff_eq.mpr c11
          have c11b1 : (((rd_T79 l0 x16_1).f1) != (wrap64 ((wrap64 (2 * ((rd_T83 l2 x16_1).f1))) + a1_0))) = false := bne_eq_false_iff_eq.mpr c11
          clear c11
          have H' := zm H
          clear H
          have p580 : 0 ≤ (x16_1 : Int) := zd
          have q580 : x16_1 < (l2.length : Int) := zd
          obtain ⟨ad580, e580, hx580_0, hx580_1, hx580_2⟩ := at_T83 HR2.out x16_1 p580 q580
          cases e580
          replace hx580_0 := zx HB.out hx580_0
          replace hx580_1 := zx HB.out hx580_1
          replace hx580_2 := zx HB.out hx580_2
          replace p580 := eq_true p580
          replace q580 := eq_true q580
          go_wp2_with (first | ((with_reducible refine gate_dst (N := 8) rfl ?_); refine box_event ?hg (N := 8) ?hd (cs := #[.int .i64 0, .int .i64 0, .int .i64 0]) (t := 83) ?hr ?_; (case hd => rfl); (case hg => rfl); (case hr => first | (go_simp; done) | (go_simp; rfl)); intro gb581 hg w12 hbox hb; have n0_ := zm (blk_below (g := gb579) zk hb); have n1_ := zm (below_step zb hb); have n2_ := zm (hbox); have n3_ := zm (zs hg zb : w.heap.size ≤ gb581); have n4_ := zm (zs hg zb : w.heap.size ≤ gb581); have n5_ := zm (zl hg zk : gb579 ≠ gb581); have n6_ := zm (zg hg zk : gb581 ≠ gb579); clear BK579; clear HB; have BK579 := n0_; have HB := n1_; have BK581 := n2_; have GW581 := n3_; have GE581 := n4_; have NB579_581 := n5_; have NB581_579 := n6_; clear n0_ n1_ n2_ n3_ n4_ n5_ n6_; clear hb hbox hg; have hnb13 := NB581_579.out; have hnc13 := NB579_581.out; obtain ⟨hcz14_0, hcz14_1, hcz14_2, hfz14_0, hfz14_1, hfz14_2⟩ := zc3 BK581.out; have p582 : 0 ≤ (x16_1 : Int) := zd; have q582 : x16_1 < (l0.length : Int) := zd; obtain ⟨ad582, e582, hx582_0, hx582_1, hx582_2⟩ := at_T79 HR0.out x16_1 p582 q582; cases e582; have hn582_0 : ad582.block ≠ gb581 := Nat.ne_of_lt (Nat.lt_of_lt_of_le (by have := World.block_lt_of_cell? _ _ hx582_0; first | rwa [add_block] at this | exact this) GW581.out); have hn582_1 : ad582.block ≠ gb581 := Nat.ne_of_lt (Nat.lt_of_lt_of_le (by have := World.block_lt_of_cell? _ _ hx582_0; first | rwa [add_block] at this | exact this) GW581.out); have hn582_2 : ad582.block ≠ gb581 := Nat.ne_of_lt (Nat.lt_of_lt_of_le (by have := World.block_lt_of_cell? _ _ hx582_0; first | rwa [add_block] at this | exact this) GW581.out); replace hx582_0 := zx HB.out hx582_0; replace hx582_1 := zx HB.out hx582_1; replace hx582_2 := zx HB.out hx582_2; replace hx582_0 := zf (p := ⟨gb581, 0, none⟩) (.int .i64 ((rd_T83 l2 x16_1).f0)) hx582_0; replace hx582_1 := zf (p := ⟨gb581, 0, none⟩) (.int .i64 ((rd_T83 l2 x16_1).f0)) hx582_1; replace hx582_2 := zf (p := ⟨gb581, 0, none⟩) (.int .i64 ((rd_T83 l2 x16_1).f0)) hx582_2; replace hx582_0 := zf (p := ⟨gb581, 1, none⟩) (.int .i64 ((rd_T83 l2 x16_1).f1)) hx582_0; replace hx582_1 := zf (p := ⟨gb581, 1, none⟩) (.int .i64 ((rd_T83 l2 x16_1).f1)) hx582_1; replace hx582_2 := zf (p := ⟨gb581, 1, none⟩) (.int .i64 ((rd_T83 l2 x16_1).f1)) hx582_2; replace hx582_0 := zf (p := ⟨gb581, 2, none⟩) (.int .i64 ((rd_T83 l2 x16_1).f2)) hx582_0; replace hx582_1 := zf (p := ⟨gb581, 2, none⟩) (.int .i64 ((rd_T83 l2 x16_1).f2)) hx582_1; replace hx582_2 := zf (p := ⟨gb581, 2, none⟩) (.int .i64 ((rd_T83 l2 x16_1).f2)) hx582_2; (try have hy582_0 := fun (n_ : Nat) => (show (((((w12.drewN n_).setCell ⟨gb581, 0, none⟩ (.int .i64 ((rd_T83 l2 x16_1).f0))).setCell ⟨gb581, 1, none⟩ (.int .i64 ((rd_T83 l2 x16_1).f1))).setCell ⟨gb581, 2, none⟩ (.int .i64 ((rd_T83 l2 x16_1).f2)))).cell? _ = some _ from hx582_0)); (try have hy582_1 := fun (n_ : Nat) => (show (((((w12.drewN n_).setCell ⟨gb581, 0, none⟩ (.int .i64 ((rd_T83 l2 x16_1).f0))).setCell ⟨gb581, 1, none⟩ (.int .i64 ((rd_T83 l2 x16_1).f1))).setCell ⟨gb581, 2, none⟩ (.int .i64 ((rd_T83 l2 x16_1).f2)))).cell? _ = some _ from hx582_1)); (try have hy582_2 := fun (n_ : Nat) => (show (((((w12.drewN n_).setCell ⟨gb581, 0, none⟩ (.int .i64 ((rd_T83 l2 x16_1).f0))).setCell ⟨gb581, 1, none⟩ (.int .i64 ((rd_T83 l2 x16_1).f1))).setCell ⟨gb581, 2, none⟩ (.int .i64 ((rd_T83 l2 x16_1).f2)))).cell? _ = some _ from hx582_2)); clear hn582_0; clear hn582_1; clear hn582_2; replace p582 := eq_true p582; replace q582 := eq_true q582; have p583 : 0 ≤ (x16_1 : Int) := zd; have q583 : x16_1 < (l0.length : Int) := zd; obtain ⟨ad583, e583, hx583_0, hx583_1, hx583_2⟩ := at_T79 HR0.out x16_1 p583 q583; obtain rfl : ad582 = ad583 := (by injection e583); have hn583_0 : ad582.block ≠ gb581 := Nat.ne_of_lt (Nat.lt_of_lt_of_le (by have := World.block_lt_of_cell? _ _ hx583_0; first | rwa [add_block] at this | exact this) GW581.out); have hn583_1 : ad582.block ≠ gb581 := Nat.ne_of_lt (Nat.lt_of_lt_of_le (by have := World.block_lt_of_cell? _ _ hx583_0; first | rwa [add_block] at this | exact this) GW581.out); have hn583_2 : ad582.block ≠ gb581 := Nat.ne_of_lt (Nat.lt_of_lt_of_le (by have := World.block_lt_of_cell? _ _ hx583_0; first | rwa [add_block] at this | exact this) GW581.out); replace hx583_0 := zx HB.out hx583_0; replace hx583_1 := zx HB.out hx583_1; replace hx583_2 := zx HB.out hx583_2; replace hx583_0 := zf (p := ⟨gb581, 0, none⟩) (.int .i64 ((rd_T83 l2 x16_1).f0)) hx583_0; replace hx583_1 := zf (p := ⟨gb581, 0, none⟩) (.int .i64 ((rd_T83 l2 x16_1).f0)) hx583_1; replace hx583_2 := zf (p := ⟨gb581, 0, none⟩) (.int .i64 ((rd_T83 l2 x16_1).f0)) hx583_2; replace hx583_0 := zf (p := ⟨gb581, 1, none⟩) (.int .i64 ((rd_T83 l2 x16_1).f1)) hx583_0; replace hx583_1 := zf (p := ⟨gb581, 1, none⟩) (.int .i64 ((rd_T83 l2 x16_1).f1)) hx583_1; replace hx583_2 := zf (p := ⟨gb581, 1, none⟩) (.int .i64 ((rd_T83 l2 x16_1).f1)) hx583_2; replace hx583_0 := zf (p := ⟨gb581, 2, none⟩) (.int .i64 ((rd_T83 l2 x16_1).f2)) hx583_0; replace hx583_1 := zf (p := ⟨gb581, 2, none⟩) (.int .i64 ((rd_T83 l2 x16_1).f2)) hx583_1; replace hx583_2 := zf (p := ⟨gb581, 2, none⟩) (.int .i64 ((rd_T83 l2 x16_1).f2)) hx583_2; (try have hy583_0 := fun (n_ : Nat) => (show (((((w12.drewN n_).setCell ⟨gb581, 0, none⟩ (.int .i64 ((rd_T83 l2 x16_1).f0))).setCell ⟨gb581, 1, none⟩ (.int .i64 ((rd_T83 l2 x16_1).f1))).setCell ⟨gb581, 2, none⟩ (.int .i64 ((rd_T83 l2 x16_1).f2)))).cell? _ = some _ from hx583_0)); (try have hy583_1 := fun (n_ : Nat) => (show (((((w12.drewN n_).setCell ⟨gb581, 0, none⟩ (.int .i64 ((rd_T83 l2 x16_1).f0))).setCell ⟨gb581, 1, none⟩ (.int .i64 ((rd_T83 l2 x16_1).f1))).setCell ⟨gb581, 2, none⟩ (.int .i64 ((rd_T83 l2 x16_1).f2)))).cell? _ = some _ from hx583_1)); (try have hy583_2 := fun (n_ : Nat) => (show (((((w12.drewN n_).setCell ⟨gb581, 0, none⟩ (.int .i64 ((rd_T83 l2 x16_1).f0))).setCell ⟨gb581, 1, none⟩ (.int .i64 ((rd_T83 l2 x16_1).f1))).setCell ⟨gb581, 2, none⟩ (.int .i64 ((rd_T83 l2 x16_1).f2)))).cell? _ = some _ from hx583_2)); clear hn583_0; clear hn583_1; clear hn583_2; replace p583 := eq_true p583; replace q583 := eq_true q583; obtain ⟨hcz15_0, hcz15_1, hcz15_2, hfz15_0, hfz15_1, hfz15_2⟩ := zc3 BK579.out) | ((with_reducible refine impl_isTrueTo.gq ?_); go_quiet (fail)))
          go_roundg k1
          case measure => have := HK1.out; omega
          case rel => exact ⟨(wrap64 (x16_1 + 1)), (by first | rfl | (simp; done) | (simp [*]; done)), H', ⟨by have := HK1.out; omega⟩, ⟨zK⟩, ⟨zb⟩⟩
         ·
          rw [if_neg c11] at H
          have c11b0 : (((rd_T79 l0 x16_1).f1) == (wrap64 ((wrap64 (2 * ((rd_T83 l2 x16_1).f1))) + a1_0))) = false := beq_eq_false_iff_ne.mpr c11
          have c11b1 : (((rd_T79 l0 x16_1).f1) != (wrap64 ((wrap64 (2 * ((rd_T83 l2 x16_1).f1))) + a1_0))) = true := bne_iff_ne.mpr c11
          obtain rfl := Option.some.inj H
          have p580 : 0 ≤ (x16_1 : Int) := zd
          have q580 : x16_1 < (l2.length : Int) := zd
          obtain ⟨ad580, e580, hx580_0, hx580_1, hx580_2⟩ := at_T83 HR2.out x16_1 p580 q580
          cases e580
          replace hx580_0 := zx HB.out hx580_0
          replace hx580_1 := zx HB.out hx580_1
          replace hx580_2 := zx HB.out hx580_2
          replace p580 := eq_true p580
          replace q580 := eq_true q580
          go_wp2_with (first | ((with_reducible refine gate_dst (N := 8) rfl ?_); refine box_event ?hg (N := 8) ?hd (cs := #[.int .i64 0, .int .i64 0, .int .i64 0]) (t := 83) ?hr ?_; (case hd => rfl); (case hg => rfl); (case hr => first | (go_simp; done) | (go_simp; rfl)); intro gb581 hg w16 hbox hb; have n0_ := zm (blk_below (g := gb579) zk hb); have n1_ := zm (below_step zb hb); have n2_ := zm (hbox); have n3_ := zm (zs hg zb : w.heap.size ≤ gb581); have n4_ := zm (zs hg zb : w.heap.size ≤ gb581); have n5_ := zm (zl hg zk : gb579 ≠ gb581); have n6_ := zm (zg hg zk : gb581 ≠ gb579); clear BK579; clear HB; have BK579 := n0_; have HB := n1_; have BK581 := n2_; have GW581 := n3_; have GE581 := n4_; have NB579_581 := n5_; have NB581_579 := n6_; clear n0_ n1_ n2_ n3_ n4_ n5_ n6_; clear hb hbox hg; have hnb17 := NB581_579.out; have hnc17 := NB579_581.out; obtain ⟨hcz18_0, hcz18_1, hcz18_2, hfz18_0, hfz18_1, hfz18_2⟩ := zc3 BK581.out; have p582 : 0 ≤ (x16_1 : Int) := zd; have q582 : x16_1 < (l0.length : Int) := zd; obtain ⟨ad582, e582, hx582_0, hx582_1, hx582_2⟩ := at_T79 HR0.out x16_1 p582 q582; cases e582; have hn582_0 : ad582.block ≠ gb581 := Nat.ne_of_lt (Nat.lt_of_lt_of_le (by have := World.block_lt_of_cell? _ _ hx582_0; first | rwa [add_block] at this | exact this) GW581.out); have hn582_1 : ad582.block ≠ gb581 := Nat.ne_of_lt (Nat.lt_of_lt_of_le (by have := World.block_lt_of_cell? _ _ hx582_0; first | rwa [add_block] at this | exact this) GW581.out); have hn582_2 : ad582.block ≠ gb581 := Nat.ne_of_lt (Nat.lt_of_lt_of_le (by have := World.block_lt_of_cell? _ _ hx582_0; first | rwa [add_block] at this | exact this) GW581.out); replace hx582_0 := zx HB.out hx582_0; replace hx582_1 := zx HB.out hx582_1; replace hx582_2 := zx HB.out hx582_2; replace hx582_0 := zf (p := ⟨gb581, 0, none⟩) (.int .i64 ((rd_T83 l2 x16_1).f0)) hx582_0; replace hx582_1 := zf (p := ⟨gb581, 0, none⟩) (.int .i64 ((rd_T83 l2 x16_1).f0)) hx582_1; replace hx582_2 := zf (p := ⟨gb581, 0, none⟩) (.int .i64 ((rd_T83 l2 x16_1).f0)) hx582_2; replace hx582_0 := zf (p := ⟨gb581, 1, none⟩) (.int .i64 ((rd_T83 l2 x16_1).f1)) hx582_0; replace hx582_1 := zf (p := ⟨gb581, 1, none⟩) (.int .i64 ((rd_T83 l2 x16_1).f1)) hx582_1; replace hx582_2 := zf (p := ⟨gb581, 1, none⟩) (.int .i64 ((rd_T83 l2 x16_1).f1)) hx582_2; replace hx582_0 := zf (p := ⟨gb581, 2, none⟩) (.int .i64 ((rd_T83 l2 x16_1).f2)) hx582_0; replace hx582_1 := zf (p := ⟨gb581, 2, none⟩) (.int .i64 ((rd_T83 l2 x16_1).f2)) hx582_1; replace hx582_2 := zf (p := ⟨gb581, 2, none⟩) (.int .i64 ((rd_T83 l2 x16_1).f2)) hx582_2; (try have hy582_0 := fun (n_ : Nat) => (show (((((w16.drewN n_).setCell ⟨gb581, 0, none⟩ (.int .i64 ((rd_T83 l2 x16_1).f0))).setCell ⟨gb581, 1, none⟩ (.int .i64 ((rd_T83 l2 x16_1).f1))).setCell ⟨gb581, 2, none⟩ (.int .i64 ((rd_T83 l2 x16_1).f2)))).cell? _ = some _ from hx582_0)); (try have hy582_1 := fun (n_ : Nat) => (show (((((w16.drewN n_).setCell ⟨gb581, 0, none⟩ (.int .i64 ((rd_T83 l2 x16_1).f0))).setCell ⟨gb581, 1, none⟩ (.int .i64 ((rd_T83 l2 x16_1).f1))).setCell ⟨gb581, 2, none⟩ (.int .i64 ((rd_T83 l2 x16_1).f2)))).cell? _ = some _ from hx582_1)); (try have hy582_2 := fun (n_ : Nat) => (show (((((w16.drewN n_).setCell ⟨gb581, 0, none⟩ (.int .i64 ((rd_T83 l2 x16_1).f0))).setCell ⟨gb581, 1, none⟩ (.int .i64 ((rd_T83 l2 x16_1).f1))).setCell ⟨gb581, 2, none⟩ (.int .i64 ((rd_T83 l2 x16_1).f2)))).cell? _ = some _ from hx582_2)); clear hn582_0; clear hn582_1; clear hn582_2; replace p582 := eq_true p582; replace q582 := eq_true q582; have p583 : 0 ≤ (x16_1 : Int) := zd; have q583 : x16_1 < (l0.length : Int) := zd; obtain ⟨ad583, e583, hx583_0, hx583_1, hx583_2⟩ := at_T79 HR0.out x16_1 p583 q583; obtain rfl : ad582 = ad583 := (by injection e583); have hn583_0 : ad582.block ≠ gb581 := Nat.ne_of_lt (Nat.lt_of_lt_of_le (by have := World.block_lt_of_cell? _ _ hx583_0; first | rwa [add_block] at this | exact this) GW581.out); have hn583_1 : ad582.block ≠ gb581 := Nat.ne_of_lt (Nat.lt_of_lt_of_le (by have := World.block_lt_of_cell? _ _ hx583_0; first | rwa [add_block] at this | exact this) GW581.out); have hn583_2 : ad582.block ≠ gb581 := Nat.ne_of_lt (Nat.lt_of_lt_of_le (by have := World.block_lt_of_cell? _ _ hx583_0; first | rwa [add_block] at this | exact this) GW581.out); replace hx583_0 := zx HB.out hx583_0; replace hx583_1 := zx HB.out hx583_1; replace hx583_2 := zx HB.out hx583_2; replace hx583_0 := zf (p := ⟨gb581, 0, none⟩) (.int .i64 ((rd_T83 l2 x16_1).f0)) hx583_0; replace hx583_1 := zf (p := ⟨gb581, 0, none⟩) (.int .i64 ((rd_T83 l2 x16_1).f0)) hx583_1; replace hx583_2 := zf (p := ⟨gb581, 0, none⟩) (.int .i64 ((rd_T83 l2 x16_1).f0)) hx583_2; replace hx583_0 := zf (p := ⟨gb581, 1, none⟩) (.int .i64 ((rd_T83 l2 x16_1).f1)) hx583_0; replace hx583_1 := zf (p := ⟨gb581, 1, none⟩) (.int .i64 ((rd_T83 l2 x16_1).f1)) hx583_1; replace hx583_2 := zf (p := ⟨gb581, 1, none⟩) (.int .i64 ((rd_T83 l2 x16_1).f1)) hx583_2; replace hx583_0 := zf (p := ⟨gb581, 2, none⟩) (.int .i64 ((rd_T83 l2 x16_1).f2)) hx583_0; replace hx583_1 := zf (p := ⟨gb581, 2, none⟩) (.int .i64 ((rd_T83 l2 x16_1).f2)) hx583_1; replace hx583_2 := zf (p := ⟨gb581, 2, none⟩) (.int .i64 ((rd_T83 l2 x16_1).f2)) hx583_2; (try have hy583_0 := fun (n_ : Nat) => (show (((((w16.drewN n_).setCell ⟨gb581, 0, none⟩ (.int .i64 ((rd_T83 l2 x16_1).f0))).setCell ⟨gb581, 1, none⟩ (.int .i64 ((rd_T83 l2 x16_1).f1))).setCell ⟨gb581, 2, none⟩ (.int .i64 ((rd_T83 l2 x16_1).f2)))).cell? _ = some _ from hx583_0)); (try have hy583_1 := fun (n_ : Nat) => (show (((((w16.drewN n_).setCell ⟨gb581, 0, none⟩ (.int .i64 ((rd_T83 l2 x16_1).f0))).setCell ⟨gb581, 1, none⟩ (.int .i64 ((rd_T83 l2 x16_1).f1))).setCell ⟨gb581, 2, none⟩ (.int .i64 ((rd_T83 l2 x16_1).f2)))).cell? _ = some _ from hx583_1)); (try have hy583_2 := fun (n_ : Nat) => (show (((((w16.drewN n_).setCell ⟨gb581, 0, none⟩ (.int .i64 ((rd_T83 l2 x16_1).f0))).setCell ⟨gb581, 1, none⟩ (.int .i64 ((rd_T83 l2 x16_1).f1))).setCell ⟨gb581, 2, none⟩ (.int .i64 ((rd_T83 l2 x16_1).f2)))).cell? _ = some _ from hx583_2)); clear hn583_0; clear hn583_1; clear hn583_2; replace p583 := eq_true p583; replace q583 := eq_true q583; obtain ⟨hcz19_0, hcz19_1, hcz19_2, hfz19_0, hfz19_1, hfz19_2⟩ := zc3 BK579.out) | ((with_reducible refine impl_isTrueTo.gq ?_); go_quiet (fail)))
          go_ret
          exact ⟨zr, zb⟩
        ·
         rw [if_neg c10] at H
         have c10b0 : (((rd_T79 l0 x16_1).f0) == ((rd_T83 l2 x16_1).f0)) = false := beq_eq_false_iff_ne.mpr c10
         have c10b1 : (((rd_T79 l0 x16_1).f0) != ((rd_T83 l2 x16_1).f0)) = true := bne_iff_ne.mpr c10
         obtain rfl := Option.some.inj H
         have p580 : 0 ≤ (x16_1 : Int) := zd
         have q580 : x16_1 < (l2.length : Int) := zd
         obtain ⟨ad580, e580, hx580_0, hx580_1, hx580_2⟩ := at_T83 HR2.out x16_1 p580 q580
         cases e580
         replace hx580_0 := zx HB.out hx580_0
         replace hx580_1 := zx HB.out hx580_1
         replace hx580_2 := zx HB.out hx580_2
         replace p580 := eq_true p580
         replace q580 := eq_true q580
         go_wp2_with (first | ((with_reducible refine gate_dst (N := 8) rfl ?_); refine box_event ?hg (N := 8) ?hd (cs := #[.int .i64 0, .int .i64 0, .int .i64 0]) (t := 83) ?hr ?_; (case hd => rfl); (case hg => rfl); (case hr => first | (go_simp; done) | (go_simp; rfl)); intro gb581 hg w20 hbox hb; have n0_ := zm (blk_below (g := gb579) zk hb); have n1_ := zm (below_step zb hb); have n2_ := zm (hbox); have n3_ := zm (zs hg zb : w.heap.size ≤ gb581); have n4_ := zm (zs hg zb : w.heap.size ≤ gb581); have n5_ := zm (zl hg zk : gb579 ≠ gb581); have n6_ := zm (zg hg zk : gb581 ≠ gb579); clear BK579; clear HB; have BK579 := n0_; have HB := n1_; have BK581 := n2_; have GW581 := n3_; have GE581 := n4_; have NB579_581 := n5_; have NB581_579 := n6_; clear n0_ n1_ n2_ n3_ n4_ n5_ n6_; clear hb hbox hg; have hnb21 := NB581_579.out; have hnc21 := NB579_581.out; obtain ⟨hcz22_0, hcz22_1, hcz22_2, hfz22_0, hfz22_1, hfz22_2⟩ := zc3 BK581.out; have p582 : 0 ≤ (x16_1 : Int) := zd; have q582 : x16_1 < (l0.length : Int) := zd; obtain ⟨ad582, e582, hx582_0, hx582_1, hx582_2⟩ := at_T79 HR0.out x16_1 p582 q582; cases e582; have hn582_0 : ad582.block ≠ gb581 := Nat.ne_of_lt (Nat.lt_of_lt_of_le (by have := World.block_lt_of_cell? _ _ hx582_0; first | rwa [add_block] at this | exact this) GW581.out); have hn582_1 : ad582.block ≠ gb581 := Nat.ne_of_lt (Nat.lt_of_lt_of_le (by have := World.block_lt_of_cell? _ _ hx582_0; first | rwa [add_block] at this | exact this) GW581.out); have hn582_2 : ad582.block ≠ gb581 := Nat.ne_of_lt (Nat.lt_of_lt_of_le (by have := World.block_lt_of_cell? _ _ hx582_0; first | rwa [add_block] at this | exact this) GW581.out); replace hx582_0 := zx HB.out hx582_0; replace hx582_1 := zx HB.out hx582_1; replace hx582_2 := zx HB.out hx582_2; replace hx582_0 := zf (p := ⟨gb581, 0, none⟩) (.int .i64 ((rd_T83 l2 x16_1).f0)) hx582_0; replace hx582_1 := zf (p := ⟨gb581, 0, none⟩) (.int .i64 ((rd_T83 l2 x16_1).f0)) hx582_1; replace hx582_2 := zf (p := ⟨gb581, 0, none⟩) (.int .i64 ((rd_T83 l2 x16_1).f0)) hx582_2; replace hx582_0 := zf (p := ⟨gb581, 1, none⟩) (.int .i64 ((rd_T83 l2 x16_1).f1)) hx582_0; replace hx582_1 := zf (p := ⟨gb581, 1, none⟩) (.int .i64 ((rd_T83 l2 x16_1).f1)) hx582_1; replace hx582_2 := zf (p := ⟨gb581, 1, none⟩) (.int .i64 ((rd_T83 l2 x16_1).f1)) hx582_2; replace hx582_0 := zf (p := ⟨gb581, 2, none⟩) (.int .i64 ((rd_T83 l2 x16_1).f2)) hx582_0; replace hx582_1 := zf (p := ⟨gb581, 2, none⟩) (.int .i64 ((rd_T83 l2 x16_1).f2)) hx582_1; replace hx582_2 := zf (p := ⟨gb581, 2, none⟩) (.int .i64 ((rd_T83 l2 x16_1).f2)) hx582_2; (try have hy582_0 := fun (n_ : Nat) => (show (((((w20.drewN n_).setCell ⟨gb581, 0, none⟩ (.int .i64 ((rd_T83 l2 x16_1).f0))).setCell ⟨gb581, 1, none⟩ (.int .i64 ((rd_T83 l2 x16_1).f1))).setCell ⟨gb581, 2, none⟩ (.int .i64 ((rd_T83 l2 x16_1).f2)))).cell? _ = some _ from hx582_0)); (try have hy582_1 := fun (n_ : Nat) => (show (((((w20.drewN n_).setCell ⟨gb581, 0, none⟩ (.int .i64 ((rd_T83 l2 x16_1).f0))).setCell ⟨gb581, 1, none⟩ (.int .i64 ((rd_T83 l2 x16_1).f1))).setCell ⟨gb581, 2, none⟩ (.int .i64 ((rd_T83 l2 x16_1).f2)))).cell? _ = some _ from hx582_1)); (try have hy582_2 := fun (n_ : Nat) => (show (((((w20.drewN n_).setCell ⟨gb581, 0, none⟩ (.int .i64 ((rd_T83 l2 x16_1).f0))).setCell ⟨gb581, 1, none⟩ (.int .i64 ((rd_T83 l2 x16_1).f1))).setCell ⟨gb581, 2, none⟩ (.int .i64 ((rd_T83 l2 x16_1).f2)))).cell? _ = some _ from hx582_2)); clear hn582_0; clear hn582_1; clear hn582_2; replace p582 := eq_true p582; replace q582 := eq_true q582) | ((with_reducible refine impl_isTrueTo.gq ?_); go_quiet (fail)))
         go_ret
         exact ⟨zr, zb⟩
       ·
        rw [if_neg c9] at H
        exact absurd H (by simp)
      ·
       rw [if_neg c8] at H
       exact absurd H (by simp)
     ·
      rw [if_neg c7] at H
      exact absurd H (by simp)
    ·
     rw [if_neg c6] at H
     have c6b0 : decide (x16_1 < (l2.length : Int)) = false := decide_eq_false c6
     clear c6
     obtain rfl := Option.some.inj H
     go_wp2
     repeat (go_quiet (fail); try go_wp2)
     go_ret
     exact ⟨zr, zb⟩
 ·
  rw [if_neg c4] at H
  have c4b0 : ((l0.length : Int) == (l2.length : Int)) = false := beq_eq_false_iff_ne.mpr c4
  have c4b1 : ((l0.length : Int) != (l2.length : Int)) = true := bne_iff_ne.mpr c4
  have c4b2 : (l0.length == l2.length) = false := by first | simpa using c4 | (simp at c4 ⊢; omega)
  obtain rfl := Option.some.inj H
  go_enter Try.func61, Try.ntmps61
  go_wp2_with (first | ((with_reducible refine gate_dst (N := 4) rfl ?_); refine box_event ?hg (N := 4) ?hd (cs := #[.int .i64 a1_0, .int .i64 a1_1, .int .i64 a1_2]) (t := 36) ?hr ?_; (case hd => rfl); (case hg => rfl); (case hr => first | (go_simp; done) | (go_simp; rfl)); intro gb579 hg w23 hbox hb; have n0_ := zm (below_step zb hb); have n1_ := zm (hbox); have n2_ := zm (zs hg zb : w.heap.size ≤ gb579); have n3_ := zm (zs hg zb : w.heap.size ≤ gb579); clear HB; have HB := n0_; have BK579 := n1_; have GW579 := n2_; have GE579 := n3_; clear n0_ n1_ n2_ n3_; clear hb hbox hg) | ((with_reducible refine impl_isTrueTo.gq ?_); go_quiet (fail)))
  go_ret
  exact ⟨zr, zb⟩

/-! ### impl_IsTrueTo: function 40 -/
def impl_IsTrueTo.j0 : Nat → List (S73) → List (S83) → Bool → List Int → Int → Int → Int → Int → Option (Bool × Bool)
  | 0, _, _, _, _, _, _, _, _ => none
  | k + 1, x1, x3, x21, x585000, x585001, x586000, x586001, x586002 => if x21 = true then (some (false, false)) else ((impl_spoken.f k x585000 x585001 x1 x586000 x586001 x586002).bind fun bt588 => ((impl_isTrueTo.f k bt588.1 x586000 x586001 x586002 x3).bind fun t594 => (some (t594, true))))
def impl_IsTrueTo.f (k : Nat) (l0_0 : List Int) (a0_1 : Int) (l1 : List (S73)) (a2_0 : Int) (a2_1 : Int) (a2_2 : Int) (l3 : List (S83)) : Option (Bool × Bool) := (impl_canBePlayed.f k l0_0 a0_1 l1 a2_0 a2_1 a2_2).bind fun t586 => (if t586 = true then ((impl_IsScore.f k l3).bind fun t587 => (impl_IsTrueTo.j0 k l1 l3 (!t587) l0_0 a0_1 a2_0 a2_1 a2_2)) else (impl_IsTrueTo.j0 k l1 l3 true l0_0 a0_1 a2_0 a2_1 a2_2))
theorem impl_IsTrueTo.mono_l : ∀ k, (∀ y0 y1 y2 y3 y4 y5 y6 y7, LeO (impl_IsTrueTo.j0 k y0 y1 y2 y3 y4 y5 y6 y7) (impl_IsTrueTo.j0 (k + 1) y0 y1 y2 y3 y4 y5 y6 y7))
  | 0 => fun _ _ _ _ _ _ _ _ r h => by simp [impl_IsTrueTo.j0] at h
  | k + 1 => by
    have ih0 := impl_IsTrueTo.mono_l k
    · intro y0 y1 y2 y3 y4 y5 y6 y7
      unfold impl_IsTrueTo.j0
      repeat' first
      | (with_reducible exact ih0 _ _ _ _ _ _ _ _)
      | (with_reducible exact impl_IsScore.mono _ _)
      | (with_reducible exact impl_canBePlayed.mono _ _ _ _ _ _ _)
      | (with_reducible exact impl_isTrueTo.mono _ _ _ _ _ _)
      | (with_reducible exact impl_spoken.mono _ _ _ _ _ _ _)
      | (with_reducible exact LeO.refl _)
      | (with_reducible exact LeO.none _)
      | (with_reducible refine LeO.ite ?_ ?_)
      | (with_reducible refine LeO.bind ?_ (fun _ => ?_))
      | exact ih0 _ _ _ _ _ _ _ _
      | exact impl_IsScore.mono _ _
      | exact impl_canBePlayed.mono _ _ _ _ _ _ _
      | exact impl_isTrueTo.mono _ _ _ _ _ _
      | exact impl_spoken.mono _ _ _ _ _ _ _
      | exact LeO.none _
      | refine LeO.ite ?_ ?_
      | refine LeO.bind ?_ (fun _ => ?_)
theorem impl_IsTrueTo.mono : ∀ a0 a1 a2 a3 a4 a5 a6 k, LeO (impl_IsTrueTo.f k a0 a1 a2 a3 a4 a5 a6) (impl_IsTrueTo.f (k + 1) a0 a1 a2 a3 a4 a5 a6) := by
  intro a0 a1 a2 a3 a4 a5 a6 k
  have ih0 := impl_IsTrueTo.mono_l k
  unfold impl_IsTrueTo.f
  repeat' first
      | (with_reducible exact ih0 _ _ _ _ _ _ _ _)
      | (with_reducible exact impl_IsScore.mono _ _)
      | (with_reducible exact impl_canBePlayed.mono _ _ _ _ _ _ _)
      | (with_reducible exact impl_isTrueTo.mono _ _ _ _ _ _)
      | (with_reducible exact impl_spoken.mono _ _ _ _ _ _ _)
      | (with_reducible exact LeO.refl _)
      | (with_reducible exact LeO.none _)
      | (with_reducible refine LeO.ite ?_ ?_)
      | (with_reducible refine LeO.bind ?_ (fun _ => ?_))
      | exact ih0 _ _ _ _ _ _ _ _
      | exact impl_IsScore.mono _ _
      | exact impl_canBePlayed.mono _ _ _ _ _ _ _
      | exact impl_isTrueTo.mono _ _ _ _ _ _
      | exact impl_spoken.mono _ _ _ _ _ _ _
      | exact LeO.none _
      | refine LeO.ite ?_ ?_
      | refine LeO.bind ?_ (fun _ => ?_)
set_option maxHeartbeats 8000000 in
set_option maxRecDepth 100000 in
theorem impl_IsTrueTo.calls (k : Nat) (A0_0 : Option Addr) (c0_0 : Nat) (l0_0 : List Int) (a0_1 : Int) (A1 : Option Addr) (c1 : Nat) (l1 : List (S73)) (a2_0 : Int) (a2_1 : Int) (a2_2 : Int) (A3 : Option Addr) (c3 : Nat) (l3 : List (S83)) (r1 : Bool) (r2 : Bool) (w : World) (hr0_0 : Kd.C (Kd.int .i64) w A0_0 l0_0.length l0_0) (hc0_0 : l0_0.length ≤ c0_0) (hr1 : Kd.C k73 w A1 l1.length l1) (hc1 : l1.length ≤ c1) (hr3 : Kd.C k83 w A3 l3.length l3) (hc3 : l3.length ≤ c3) (h : impl_IsTrueTo.f k l0_0 a0_1 l1 a2_0 a2_1 a2_2 l3 = some (r1, r2)) :
  Calls Try.prog 40 #[.agg #[.slice A0_0 l0_0.length c0_0, .int .i64 a0_1], .slice A1 l1.length c1, .agg #[.int .i64 a2_0, .int .i64 a2_1, .int .i64 a2_2], .slice A3 l3.length c3] w fun e w' => e = .returned (.tuple #[.bool r1, .bool r2]) ∧ Below w.heap.size w w' := by
 have hu32 := Try.underlying32
 have hu36 := Try.underlying36
 have HR0_0 := zm hr0_0
 have HC0_0 := zm hc0_0
 clear hr0_0 hc0_0
 have HR1 := zm hr1
 have HC1 := zm hc1
 clear hr1 hc1
 have HR3 := zm hr3
 have HC3 := zm hc3
 clear hr3 hc3
 have HB := zm (Below.refl w.heap.size w)
 have H : ((impl_canBePlayed.f k l0_0 a0_1 l1 a2_0 a2_1 a2_2).bind fun t586 => (if t586 = true then ((impl_IsScore.f k l3).bind fun t587 => (impl_IsTrueTo.j0 k l1 l3 (!t587) l0_0 a0_1 a2_0 a2_1 a2_2)) else (impl_IsTrueTo.j0 k l1 l3 true l0_0 a0_1 a2_0 a2_1 a2_2))) = some (r1, r2) := h
 clear h
 have HC5 := zm H
 clear H
 go_enter Try.func40, Try.ntmps40
 go_upto_region 1 with (first | ((with_reducible refine gate_dst (N := 4) rfl ?_); refine box_event ?hg (N := 4) ?hd (cs := #[.slice A0_0 l0_0.length c0_0, .int .i64 a0_1]) (t := 32) ?hr ?_; (case hd => rfl); (case hg => rfl); (case hr => first | (go_simp; done) | (go_simp; rfl)); intro gb584 hg w6 hbox hb; have n0_ := zm (below_step zb hb); have n1_ := zm (hbox); have n2_ := zm (zs hg zb : w.heap.size ≤ gb584); have n3_ := zm (zs hg zb : w.heap.size ≤ gb584); clear HB; have HB := n0_; have BK584 := n1_; have GW584 := n2_; have GE584 := n3_; clear n0_ n1_ n2_ n3_; clear hb hbox hg) | ((with_reducible refine gate_dst (N := 6) rfl ?_); refine box_event ?hg (N := 6) ?hd (cs := #[.int .i64 a2_0, .int .i64 a2_1, .int .i64 a2_2]) (t := 36) ?hr ?_; (case hd => rfl); (case hg => rfl); (case hr => first | (go_simp; done) | (go_simp; rfl)); intro gb585 hg w7 hbox hb; have n0_ := zm (blk_below (g := gb584) zk hb); have n1_ := zm (below_step zb hb); have n2_ := zm (hbox); have n3_ := zm (zs hg zb : w.heap.size ≤ gb585); have n4_ := zm (zs hg zb : w.heap.size ≤ gb585); have n5_ := zm (zl hg zk : gb584 ≠ gb585); have n6_ := zm (zg hg zk : gb585 ≠ gb584); clear BK584; clear HB; have BK584 := n0_; have HB := n1_; have BK585 := n2_; have GW585 := n3_; have GE585 := n4_; have NB584_585 := n5_; have NB585_584 := n6_; clear n0_ n1_ n2_ n3_ n4_ n5_ n6_; clear hb hbox hg))
 (try simp only [Act.put, List.setIfInBounds_toArray, List.set_cons_zero, List.set_cons_succ])
 go_cut [21] (fun v21 wc => ∃ (kq : Nat) (x21_4 : Bool), v21 = .bool x21_4 ∧ Aside0 (impl_IsTrueTo.j0 kq l1 l3 x21_4 l0_0 a0_1 a2_0 a2_1 a2_2 = some (r1, r2)) ∧ Aside0 (kq ≤ k) ∧ Aside0 (wc.heap[gb584]? = some (.cells #[(.slice A0_0 l0_0.length c0_0), .int .i64 a0_1] 32 (0, 0))) ∧ Aside0 (wc.heap[gb585]? = some (.cells #[.int .i64 a2_0, .int .i64 a2_1, .int .i64 a2_2] 36 (0, 0))) ∧ Aside0 (Below w.heap.size w wc))
 case first =>
  have H := HC5.out
  clear HC5
  replace H := Option.bind_eq_some_iff.mp H
  obtain ⟨t586, A80, H⟩ := H
  replace H : (if t586 = true then ((impl_IsScore.f k l3).bind fun t587 => (impl_IsTrueTo.j0 k l1 l3 (!t587) l0_0 a0_1 a2_0 a2_1 a2_2)) else (impl_IsTrueTo.j0 k l1 l3 true l0_0 a0_1 a2_0 a2_1 a2_2)) = some (r1, r2) := H
  have A8 := zm A80
  clear A80
  by_cases c9 : t586 = true
  ·
   subst c9
   have H1 : ((impl_IsScore.f k l3).bind fun t587 => (impl_IsTrueTo.j0 k l1 l3 (!t587) l0_0 a0_1 a2_0 a2_1 a2_2)) = some (r1, r2) := by rw [if_pos rfl] at H; exact H
   clear H
   have H := H1
   clear H1
   replace H := Option.bind_eq_some_iff.mp H
   obtain ⟨t587, A100, H⟩ := H
   replace H : (impl_IsTrueTo.j0 k l1 l3 (!t587) l0_0 a0_1 a2_0 a2_1 a2_2) = some (r1, r2) := H
   have A10 := zm A100
   clear A100
   have H' := zm H
   clear H
   have hnb11 := NB584_585.out
   have hnc11 := NB585_584.out
   obtain ⟨hcz12_0, hcz12_1, hfz12_0, hfz12_1⟩ := zc2 BK584.out
   obtain ⟨hcz13_0, hcz13_1, hcz13_2, hfz13_0, hfz13_1, hfz13_2⟩ := zc3 BK585.out
   go_wp2_with (first | ((with_reducible refine gate_callee (f := 53) rfl ?_); refine goesL_ (some 15) rfl rfl Try.func53 (by kernel_rfl) rfl #[.agg #[.slice A0_0 l0_0.length c0_0, .int .i64 a0_1], .slice A1 l1.length c1, .agg #[.int .i64 a2_0, .int .i64 a2_1, .int .i64 a2_2]] rfl (by (try simp only [List.map_toArray, List.map_cons, List.map_nil]); first | done | rfl | (simp only [List.length_drop, List.length_take]; rfl)) ?_; (with_reducible refine (impl_canBePlayed.calls k _ _ l0_0 a0_1 _ _ l1 a2_0 a2_1 a2_2 true _ ?side1 ?side2 ?side3 ?side4 A8.out).mono ?_); (case side1 => repeat (first | exact (Kd.C_below HR0_0.out HB.out) | (with_reducible refine Kd.C_alloc ?_ _) | (with_reducible refine Kd.C_drewN ?_ _) | (with_reducible refine Kd.C_drew ?_))); (case side2 => exact HC0_0.out); (case side3 => repeat (first | exact (Kd.C_below HR1.out HB.out) | (with_reducible refine Kd.C_alloc ?_ _) | (with_reducible refine Kd.C_drewN ?_ _) | (with_reducible refine Kd.C_drew ?_))); (case side4 => exact HC1.out); rintro e w14 ⟨rfl, hb⟩; refine ⟨_, rfl, ?_⟩; have n0_ := zm (blk_below (g := gb584) zk hb); have n1_ := zm (blk_below (g := gb585) zk hb); have n2_ := zm (below_step zb hb); clear BK584; clear BK585; clear HB; have BK584 := n0_; have BK585 := n1_; have HB := n2_; clear n0_ n1_ n2_; (try clear hb); (try clear hb2); (try clear hk); (try clear hi)) | (go_at_call 60; (with_reducible refine (impl_IsScore.calls k _ _ l3 t587 _ ?side1 ?side2 A10.out).mono ?_); (case side1 => repeat (first | exact (Kd.C_below HR3.out HB.out) | (with_reducible refine Kd.C_alloc ?_ _) | (with_reducible refine Kd.C_drewN ?_ _) | (with_reducible refine Kd.C_drew ?_))); (case side2 => exact HC3.out); rintro e w15 ⟨rfl, hb⟩; have n0_ := zm (blk_below (g := gb584) zk hb); have n1_ := zm (blk_below (g := gb585) zk hb); have n2_ := zm (below_step zb hb); clear BK584; clear BK585; clear HB; have BK584 := n0_; have BK585 := n1_; have HB := n2_; clear n0_ n1_ n2_; (try clear hb); (try clear hb2); (try clear hk); (try clear hi)))
   go_meet
   case rel => exact ⟨_, (!t587), (by first | rfl | (simp; done) | (simp [*]; done)), H', ⟨by first | omega | exact Nat.le_refl _⟩, ⟨zk⟩, ⟨zk⟩, ⟨zb⟩⟩
  ·
   replace c9 := Bool.eq_false_iff.mpr c9
   subst c9
   have H1 : (impl_IsTrueTo.j0 k l1 l3 true l0_0 a0_1 a2_0 a2_1 a2_2) = some (r1, r2) := by rw [if_neg (show ¬ (false = true) by decide)] at H; exact H
   clear H
   have H := H1
   clear H1
   have H' := zm H
   clear H
   have hnb16 := NB584_585.out
   have hnc16 := NB585_584.out
   obtain ⟨hcz17_0, hcz17_1, hfz17_0, hfz17_1⟩ := zc2 BK584.out
   obtain ⟨hcz18_0, hcz18_1, hcz18_2, hfz18_0, hfz18_1, hfz18_2⟩ := zc3 BK585.out
   go_wp2_with (first | ((with_reducible refine gate_callee (f := 53) rfl ?_); refine goesL_ (some 15) rfl rfl Try.func53 (by kernel_rfl) rfl #[.agg #[.slice A0_0 l0_0.length c0_0, .int .i64 a0_1], .slice A1 l1.length c1, .agg #[.int .i64 a2_0, .int .i64 a2_1, .int .i64 a2_2]] rfl (by (try simp only [List.map_toArray, List.map_cons, List.map_nil]); first | done | rfl | (simp only [List.length_drop, List.length_take]; rfl)) ?_; (with_reducible refine (impl_canBePlayed.calls k _ _ l0_0 a0_1 _ _ l1 a2_0 a2_1 a2_2 false _ ?side1 ?side2 ?side3 ?side4 A8.out).mono ?_); (case side1 => repeat (first | exact (Kd.C_below HR0_0.out HB.out) | (with_reducible refine Kd.C_alloc ?_ _) | (with_reducible refine Kd.C_drewN ?_ _) | (with_reducible refine Kd.C_drew ?_))); (case side2 => exact HC0_0.out); (case side3 => repeat (first | exact (Kd.C_below HR1.out HB.out) | (with_reducible refine Kd.C_alloc ?_ _) | (with_reducible refine Kd.C_drewN ?_ _) | (with_reducible refine Kd.C_drew ?_))); (case side4 => exact HC1.out); rintro e w19 ⟨rfl, hb⟩; refine ⟨_, rfl, ?_⟩; have n0_ := zm (blk_below (g := gb584) zk hb); have n1_ := zm (blk_below (g := gb585) zk hb); have n2_ := zm (below_step zb hb); clear BK584; clear BK585; clear HB; have BK584 := n0_; have BK585 := n1_; have HB := n2_; clear n0_ n1_ n2_; (try clear hb); (try clear hb2); (try clear hk); (try clear hi)))
   go_meet
   case rel => exact ⟨_, (true), (by first | rfl | (simp; done) | (simp [*]; done)), H', ⟨by first | omega | exact Nat.le_refl _⟩, ⟨zk⟩, ⟨zk⟩, ⟨zb⟩⟩
 case rest =>
  clear HC5
  try clear c1
  try clear p2
  try clear c3
  try clear c4
  try clear c5
  try clear c9
  try clear c11
  try clear c16
  try clear hcz12_0
  try clear hcz12_1
  try clear hcz13_0
  try clear hcz13_1
  try clear hcz13_2
  try clear hcz17_0
  try clear hcz17_1
  try clear hcz18_0
  try clear hcz18_1
  try clear hcz18_2
  try clear hfz12_0
  try clear hfz12_1
  try clear hfz13_0
  try clear hfz13_1
  try clear hfz13_2
  try clear hfz17_0
  try clear hfz17_1
  try clear hfz18_0
  try clear hfz18_1
  try clear hfz18_2
  obtain ⟨kq, x21_4, rfl, HA, HJ4, BK584, BK585, HB⟩ := hcut
  cases kq with
  | zero => exact absurd HA.out (by simp [impl_IsTrueTo.j0])
  | succ kj4 =>
   have H := HA.out
   clear HA
   simp only [impl_IsTrueTo.j0] at H
   by_cases c20 : x21_4 = true
   ·
    subst c20
    have H1 : (some (false, false)) = some (r1, r2) := by rw [if_pos rfl] at H; exact H
    clear H
    have H := H1
    clear H1
    simp only [Option.some.injEq, Prod.mk.injEq] at H
    obtain ⟨rfl, rfl⟩ := H
    go_wp2
    go_ret2
    exact ⟨zr, zb⟩
   ·
    replace c20 := Bool.eq_false_iff.mpr c20
    subst c20
    have H1 : ((impl_spoken.f kj4 l0_0 a0_1 l1 a2_0 a2_1 a2_2).bind fun bt588 => ((impl_isTrueTo.f kj4 bt588.1 a2_0 a2_1 a2_2 l3).bind fun t594 => (some (t594, true)))) = some (r1, r2) := by rw [if_neg (show ¬ (false = true) by decide)] at H; exact H
    clear H
    have H := H1
    clear H1
    replace H := Option.bind_eq_some_iff.mp H
    obtain ⟨⟨t588, t591⟩, A210, H⟩ := H
    replace H : ((impl_isTrueTo.f kj4 t588 a2_0 a2_1 a2_2 l3).bind fun t594 => (some (t594, true))) = some (r1, r2) := H
    have A21 := zm A210
    clear A210
    replace H := Option.bind_eq_some_iff.mp H
    obtain ⟨t594, A220, H⟩ := H
    replace H : (some (t594, true)) = some (r1, r2) := H
    have A22 := zm A220
    clear A220
    simp only [Option.some.injEq, Prod.mk.injEq] at H
    obtain ⟨rfl, rfl⟩ := H
    have hnb23 := NB584_585.out
    have hnc23 := NB585_584.out
    obtain ⟨hcz24_0, hcz24_1, hfz24_0, hfz24_1⟩ := zc2 BK584.out
    obtain ⟨hcz25_0, hcz25_1, hcz25_2, hfz25_0, hfz25_1, hfz25_2⟩ := zc3 BK585.out
    go_wp2_with (first | ((with_reducible refine gate_callee (f := 54) rfl ?_); refine goesL_ (some 26) rfl rfl Try.func54 (by kernel_rfl) rfl #[.agg #[.slice A0_0 l0_0.length c0_0, .int .i64 a0_1], .slice A1 l1.length c1, .agg #[.int .i64 a2_0, .int .i64 a2_1, .int .i64 a2_2]] rfl (by (try simp only [List.map_toArray, List.map_cons, List.map_nil]); first | done | rfl | (simp only [List.length_drop, List.length_take]; rfl)) ?_; (with_reducible refine (impl_spoken.calls kj4 _ _ l0_0 a0_1 _ _ l1 a2_0 a2_1 a2_2 t588 t591 _ ?side1 ?side2 ?side3 ?side4 A21.out).mono ?_); (case side1 => repeat (first | exact (Kd.C_below HR0_0.out HB.out) | (with_reducible refine Kd.C_alloc ?_ _) | (with_reducible refine Kd.C_drewN ?_ _) | (with_reducible refine Kd.C_drew ?_))); (case side2 => exact HC0_0.out); (case side3 => repeat (first | exact (Kd.C_below HR1.out HB.out) | (with_reducible refine Kd.C_alloc ?_ _) | (with_reducible refine Kd.C_drewN ?_ _) | (with_reducible refine Kd.C_drew ?_))); (case side4 => exact HC1.out); rintro e w26 ⟨v589, v592, rfl, ho0, ho1, hb⟩; refine ⟨_, rfl, ?_⟩; have n0_ := zm (Kd.R_lower ho0 (below_size zb)); have n1_ := zm (Kd.R_lower ho1 (below_size zb)); have n2_ := zm (blk_below (g := gb584) zk hb); have n3_ := zm (blk_below (g := gb585) zk hb); have n4_ := zm (below_step zb hb); clear BK584; clear BK585; clear HB; have HO590 := n0_; have HO593 := n1_; have BK584 := n2_; have BK585 := n3_; have HB := n4_; clear n0_ n1_ n2_ n3_ n4_; (try clear hb); (try clear hb2); (try clear hk); (try clear hi); (try clear ho0); (try clear ho1); obtain ⟨hcz27_0, hcz27_1, hcz27_2, hfz27_0, hfz27_1, hfz27_2⟩ := zc3 BK585.out; obtain ⟨Ao28, co28, eo28⟩ := Kd.R_slice HO590.out; subst eo28) | ((with_reducible refine gate_callee (f := 61) rfl ?_); refine goesL_ (some 32) rfl rfl Try.func61 (by kernel_rfl) rfl #[.slice Ao28 t588.length co28, .agg #[.int .i64 a2_0, .int .i64 a2_1, .int .i64 a2_2], .slice A3 l3.length c3] rfl (by (try simp only [List.map_toArray, List.map_cons, List.map_nil]); first | done | rfl | (simp only [List.length_drop, List.length_take]; rfl)) ?_; (with_reducible refine (impl_isTrueTo.calls kj4 _ _ t588 a2_0 a2_1 a2_2 _ _ l3 t594 _ ?side1 ?side2 ?side3 ?side4 A22.out).mono ?_); (case side1 => repeat (first | exact (Kd.R_reads' HO590.out).2.2 | (with_reducible refine Kd.C_alloc ?_ _) | (with_reducible refine Kd.C_drewN ?_ _) | (with_reducible refine Kd.C_drew ?_))); (case side2 => exact (Kd.R_reads' HO590.out).2.1); (case side3 => repeat (first | exact (Kd.C_below HR3.out HB.out) | (with_reducible refine Kd.C_alloc ?_ _) | (with_reducible refine Kd.C_drewN ?_ _) | (with_reducible refine Kd.C_drew ?_))); (case side4 => exact HC3.out); rintro e w29 ⟨rfl, hb⟩; refine ⟨_, rfl, ?_⟩; have n0_ := zm (Kd.R_below (by (with_reducible repeat (first | apply Kd.R_alloc | apply Kd.R_drewN | apply Kd.R_drew)); exact HO590.out) hb); have n1_ := zm (Kd.R_below (by (with_reducible repeat (first | apply Kd.R_alloc | apply Kd.R_drewN | apply Kd.R_drew)); exact HO593.out) hb); have n2_ := zm (blk_below (g := gb584) zk hb); have n3_ := zm (blk_below (g := gb585) zk hb); have n4_ := zm (below_step zb hb); clear HO590; clear HO593; clear BK584; clear BK585; clear HB; have HO590 := n0_; have HO593 := n1_; have BK584 := n2_; have BK585 := n3_; have HB := n4_; clear n0_ n1_ n2_ n3_ n4_; (try clear hb); (try clear hb2); (try clear hk); (try clear hi)))
    go_ret2
    exact ⟨zr, zb⟩

/-! ### laws_eqNote: function 62 -/
def laws_eqNote.f (a0_0 : Int) (a0_1 : Int) (a0_2 : Int) (a1_0 : Int) (a1_1 : Int) (a1_2 : Int) : Option (Bool) := if a0_0 = a1_0 then (if a0_1 = a1_1 then (if a0_2 = a1_2 then (some true) else (some false)) else (some false)) else (some false)
set_option maxHeartbeats 8000000 in
set_option maxRecDepth 100000 in
theorem laws_eqNote.calls (a0_0 : Int) (a0_1 : Int) (a0_2 : Int) (a1_0 : Int) (a1_1 : Int) (a1_2 : Int) (r : Bool) (w : World) (h : laws_eqNote.f a0_0 a0_1 a0_2 a1_0 a1_1 a1_2 = some r) :
  Calls Try.prog 62 #[.agg #[.int .i64 a0_0, .int .i64 a0_1, .int .i64 a0_2], .agg #[.int .i64 a1_0, .int .i64 a1_1, .int .i64 a1_2]] w fun e w' => e = .returned (.bool r) ∧ Below w.heap.size w w' := by
 have hu83 := Try.underlying83
 have HB := zm (Below.refl w.heap.size w)
 have H : (if a0_0 = a1_0 then (if a0_1 = a1_1 then (if a0_2 = a1_2 then (some true) else (some false)) else (some false)) else (some false)) = some r := h
 clear h
 by_cases c3 : a0_0 = a1_0
 ·
  rw [if_pos c3] at H
  have c3b0 : (a0_0 == a1_0) = true := beq_iff_eq.mpr c3
  have c3b1 : (a0_0 != a1_0) = false := bne_eq_false_iff_eq.mpr c3
  clear c3
  by_cases c4 : a0_1 = a1_1
  ·
   rw [if_pos c4] at H
   have c4b0 : (a0_1 == a1_1) = true := beq_iff_eq.mpr c4
   have c4b1 : (a0_1 != a1_1) = false := bne_eq_false_iff_eq.mpr c4
   clear c4
   by_cases c5 : a0_2 = a1_2
   ·
    rw [if_pos c5] at H
    have c5b0 : (a0_2 == a1_2) = true := beq_iff_eq.mpr c5
    have c5b1 : (a0_2 != a1_2) = false := bne_eq_false_iff_eq.mpr c5
    clear c5
    obtain rfl := Option.some.inj H
    go_enter Try.func62, Try.ntmps62
    go_wp2_with (first | ((with_reducible refine gate_dst (N := 2) rfl ?_); refine box_event ?hg (N := 2) ?hd (cs := #[.int .i64 a0_0, .int .i64 a0_1, .int .i64 a0_2]) (t := 83) ?hr ?_; (case hd => rfl); (case hg => rfl); (case hr => first | (go_simp; done) | (go_simp; rfl)); intro gb595 hg w6 hbox hb; have n0_ := zm (below_step zb hb); have n1_ := zm (hbox); have n2_ := zm (zs hg zb : w.heap.size ≤ gb595); have n3_ := zm (zs hg zb : w.heap.size ≤ gb595); clear HB; have HB := n0_; have BK595 := n1_; have GW595 := n2_; have GE595 := n3_; clear n0_ n1_ n2_ n3_; clear hb hbox hg) | ((with_reducible refine gate_dst (N := 3) rfl ?_); refine box_event ?hg (N := 3) ?hd (cs := #[.int .i64 a1_0, .int .i64 a1_1, .int .i64 a1_2]) (t := 83) ?hr ?_; (case hd => rfl); (case hg => rfl); (case hr => first | (go_simp; done) | (go_simp; rfl)); intro gb596 hg w7 hbox hb; have n0_ := zm (blk_below (g := gb595) zk hb); have n1_ := zm (below_step zb hb); have n2_ := zm (hbox); have n3_ := zm (zs hg zb : w.heap.size ≤ gb596); have n4_ := zm (zs hg zb : w.heap.size ≤ gb596); have n5_ := zm (zl hg zk : gb595 ≠ gb596); have n6_ := zm (zg hg zk : gb596 ≠ gb595); clear BK595; clear HB; have BK595 := n0_; have HB := n1_; have BK596 := n2_; have GW596 := n3_; have GE596 := n4_; have NB595_596 := n5_; have NB596_595 := n6_; clear n0_ n1_ n2_ n3_ n4_ n5_ n6_; clear hb hbox hg; have hnb8 := NB595_596.out; have hnc8 := NB596_595.out; obtain ⟨hcz9_0, hcz9_1, hcz9_2, hfz9_0, hfz9_1, hfz9_2⟩ := zc3 BK595.out; obtain ⟨hcz10_0, hcz10_1, hcz10_2, hfz10_0, hfz10_1, hfz10_2⟩ := zc3 BK596.out))
    go_ret
    exact ⟨zr, zb⟩
   ·
    rw [if_neg c5] at H
    have c5b0 : (a0_2 == a1_2) = false := beq_eq_false_iff_ne.mpr c5
    have c5b1 : (a0_2 != a1_2) = true := bne_iff_ne.mpr c5
    obtain rfl := Option.some.inj H
    go_enter Try.func62, Try.ntmps62
    go_wp2_with (first | ((with_reducible refine gate_dst (N := 2) rfl ?_); refine box_event ?hg (N := 2) ?hd (cs := #[.int .i64 a0_0, .int .i64 a0_1, .int .i64 a0_2]) (t := 83) ?hr ?_; (case hd => rfl); (case hg => rfl); (case hr => first | (go_simp; done) | (go_simp; rfl)); intro gb595 hg w11 hbox hb; have n0_ := zm (below_step zb hb); have n1_ := zm (hbox); have n2_ := zm (zs hg zb : w.heap.size ≤ gb595); have n3_ := zm (zs hg zb : w.heap.size ≤ gb595); clear HB; have HB := n0_; have BK595 := n1_; have GW595 := n2_; have GE595 := n3_; clear n0_ n1_ n2_ n3_; clear hb hbox hg) | ((with_reducible refine gate_dst (N := 3) rfl ?_); refine box_event ?hg (N := 3) ?hd (cs := #[.int .i64 a1_0, .int .i64 a1_1, .int .i64 a1_2]) (t := 83) ?hr ?_; (case hd => rfl); (case hg => rfl); (case hr => first | (go_simp; done) | (go_simp; rfl)); intro gb596 hg w12 hbox hb; have n0_ := zm (blk_below (g := gb595) zk hb); have n1_ := zm (below_step zb hb); have n2_ := zm (hbox); have n3_ := zm (zs hg zb : w.heap.size ≤ gb596); have n4_ := zm (zs hg zb : w.heap.size ≤ gb596); have n5_ := zm (zl hg zk : gb595 ≠ gb596); have n6_ := zm (zg hg zk : gb596 ≠ gb595); clear BK595; clear HB; have BK595 := n0_; have HB := n1_; have BK596 := n2_; have GW596 := n3_; have GE596 := n4_; have NB595_596 := n5_; have NB596_595 := n6_; clear n0_ n1_ n2_ n3_ n4_ n5_ n6_; clear hb hbox hg; have hnb13 := NB595_596.out; have hnc13 := NB596_595.out; obtain ⟨hcz14_0, hcz14_1, hcz14_2, hfz14_0, hfz14_1, hfz14_2⟩ := zc3 BK595.out; obtain ⟨hcz15_0, hcz15_1, hcz15_2, hfz15_0, hfz15_1, hfz15_2⟩ := zc3 BK596.out))
    go_ret
    exact ⟨zr, zb⟩
  ·
   rw [if_neg c4] at H
   have c4b0 : (a0_1 == a1_1) = false := beq_eq_false_iff_ne.mpr c4
   have c4b1 : (a0_1 != a1_1) = true := bne_iff_ne.mpr c4
   obtain rfl := Option.some.inj H
   go_enter Try.func62, Try.ntmps62
   go_wp2_with (first | ((with_reducible refine gate_dst (N := 2) rfl ?_); refine box_event ?hg (N := 2) ?hd (cs := #[.int .i64 a0_0, .int .i64 a0_1, .int .i64 a0_2]) (t := 83) ?hr ?_; (case hd => rfl); (case hg => rfl); (case hr => first | (go_simp; done) | (go_simp; rfl)); intro gb595 hg w16 hbox hb; have n0_ := zm (below_step zb hb); have n1_ := zm (hbox); have n2_ := zm (zs hg zb : w.heap.size ≤ gb595); have n3_ := zm (zs hg zb : w.heap.size ≤ gb595); clear HB; have HB := n0_; have BK595 := n1_; have GW595 := n2_; have GE595 := n3_; clear n0_ n1_ n2_ n3_; clear hb hbox hg) | ((with_reducible refine gate_dst (N := 3) rfl ?_); refine box_event ?hg (N := 3) ?hd (cs := #[.int .i64 a1_0, .int .i64 a1_1, .int .i64 a1_2]) (t := 83) ?hr ?_; (case hd => rfl); (case hg => rfl); (case hr => first | (go_simp; done) | (go_simp; rfl)); intro gb596 hg w17 hbox hb; have n0_ := zm (blk_below (g := gb595) zk hb); have n1_ := zm (below_step zb hb); have n2_ := zm (hbox); have n3_ := zm (zs hg zb : w.heap.size ≤ gb596); have n4_ := zm (zs hg zb : w.heap.size ≤ gb596); have n5_ := zm (zl hg zk : gb595 ≠ gb596); have n6_ := zm (zg hg zk : gb596 ≠ gb595); clear BK595; clear HB; have BK595 := n0_; have HB := n1_; have BK596 := n2_; have GW596 := n3_; have GE596 := n4_; have NB595_596 := n5_; have NB596_595 := n6_; clear n0_ n1_ n2_ n3_ n4_ n5_ n6_; clear hb hbox hg; have hnb18 := NB595_596.out; have hnc18 := NB596_595.out; obtain ⟨hcz19_0, hcz19_1, hcz19_2, hfz19_0, hfz19_1, hfz19_2⟩ := zc3 BK595.out; obtain ⟨hcz20_0, hcz20_1, hcz20_2, hfz20_0, hfz20_1, hfz20_2⟩ := zc3 BK596.out))
   go_ret
   exact ⟨zr, zb⟩
 ·
  rw [if_neg c3] at H
  have c3b0 : (a0_0 == a1_0) = false := beq_eq_false_iff_ne.mpr c3
  have c3b1 : (a0_0 != a1_0) = true := bne_iff_ne.mpr c3
  obtain rfl := Option.some.inj H
  go_enter Try.func62, Try.ntmps62
  go_wp2_with (first | ((with_reducible refine gate_dst (N := 2) rfl ?_); refine box_event ?hg (N := 2) ?hd (cs := #[.int .i64 a0_0, .int .i64 a0_1, .int .i64 a0_2]) (t := 83) ?hr ?_; (case hd => rfl); (case hg => rfl); (case hr => first | (go_simp; done) | (go_simp; rfl)); intro gb595 hg w21 hbox hb; have n0_ := zm (below_step zb hb); have n1_ := zm (hbox); have n2_ := zm (zs hg zb : w.heap.size ≤ gb595); have n3_ := zm (zs hg zb : w.heap.size ≤ gb595); clear HB; have HB := n0_; have BK595 := n1_; have GW595 := n2_; have GE595 := n3_; clear n0_ n1_ n2_ n3_; clear hb hbox hg) | ((with_reducible refine gate_dst (N := 3) rfl ?_); refine box_event ?hg (N := 3) ?hd (cs := #[.int .i64 a1_0, .int .i64 a1_1, .int .i64 a1_2]) (t := 83) ?hr ?_; (case hd => rfl); (case hg => rfl); (case hr => first | (go_simp; done) | (go_simp; rfl)); intro gb596 hg w22 hbox hb; have n0_ := zm (blk_below (g := gb595) zk hb); have n1_ := zm (below_step zb hb); have n2_ := zm (hbox); have n3_ := zm (zs hg zb : w.heap.size ≤ gb596); have n4_ := zm (zs hg zb : w.heap.size ≤ gb596); have n5_ := zm (zl hg zk : gb595 ≠ gb596); have n6_ := zm (zg hg zk : gb596 ≠ gb595); clear BK595; clear HB; have BK595 := n0_; have HB := n1_; have BK596 := n2_; have GW596 := n3_; have GE596 := n4_; have NB595_596 := n5_; have NB596_595 := n6_; clear n0_ n1_ n2_ n3_ n4_ n5_ n6_; clear hb hbox hg; have hnb23 := NB595_596.out; have hnc23 := NB596_595.out; obtain ⟨hcz24_0, hcz24_1, hcz24_2, hfz24_0, hfz24_1, hfz24_2⟩ := zc3 BK595.out; obtain ⟨hcz25_0, hcz25_1, hcz25_2, hfz25_0, hfz25_1, hfz25_2⟩ := zc3 BK596.out))
  go_ret
  exact ⟨zr, zb⟩

end Go.Proofs.Ytioheacdldgaaaa.PAll
