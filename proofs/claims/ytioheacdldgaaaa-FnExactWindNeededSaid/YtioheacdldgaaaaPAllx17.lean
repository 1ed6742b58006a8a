-- Written for this claim by a program of this session (wip/tpl/patchprint.py), not by print.sh.
import Derived.Test.YtioheacdldgaaaaPAllx0
import Derived.Test.YtioheacdldgaaaaPAllx4
import Derived.Test.YtioheacdldgaaaaPAllx16
namespace Go.Proofs.Ytioheacdldgaaaa.PAll
open Go.RowKit Go.Proofs.YtioheacdldgaaaaW.PrintWords Go.Proofs.YtioheacdldgaaaaW.PrintLast Go.Proofs.YtioheacdldgaaaaW.PrintMore
attribute [local go_sem] max2_int min2_int max_two min_two max_three min_three max_four min_four   -- for this text's walks alone
set_option linter.unusedVariables false
set_option linter.unusedSimpArgs false

/-! ### spec_pyTrue: function 58 -/
def spec_pyTrue.l0 : Nat → List (S83) → List (S79) → Int → Int → Int → Int → Int → Option (Bool)
  | 0, _, _, _, _, _, _, _ => none
  | k + 1, x2, x14, x15, x16, x537000, x537001, x537002 => if x16 < x15 then (if 0 ≤ x16 then (if x16 < (x14.length : Int) then (if x16 < (x2.length : Int) then (if ((rd_T79 x14 x16).f0) = ((rd_T83 x2 x16).f0) then (if ((rd_T79 x14 x16).f1) = (wrap64 ((wrap64 (2 * ((rd_T83 x2 x16).f1))) + x537000)) then (spec_pyTrue.l0 k x2 x14 x15 (wrap64 (x16 + 1)) x537000 x537001 x537002) else (some false)) else (some false)) else (none)) else (none)) else (none)) else (some true)
def spec_pyTrue.f (k : Nat) (l0 : List (S79)) (a1_0 : Int) (a1_1 : Int) (a1_2 : Int) (l2 : List (S83)) : Option (Bool) := if (l0.length : Int) = (l2.length : Int) then (spec_pyTrue.l0 k l2 l0 (l0.length : Int) 0 a1_0 a1_1 a1_2) else (some false)
theorem spec_pyTrue.mono_l : ∀ k, (∀ y0 y1 y2 y3 y4 y5 y6, LeO (spec_pyTrue.l0 k y0 y1 y2 y3 y4 y5 y6) (spec_pyTrue.l0 (k + 1) y0 y1 y2 y3 y4 y5 y6))
  | 0 => fun _ _ _ _ _ _ _ r h => by simp [spec_pyTrue.l0] at h
  | k + 1 => by
    have ih0 := spec_pyTrue.mono_l k
    · intro y0 y1 y2 y3 y4 y5 y6
      unfold spec_pyTrue.l0
      repeat' first
      | (with_reducible exact ih0 _ _ _ _ _ _ _)
      | (with_reducible exact LeO.refl _)
      | (with_reducible exact LeO.none _)
      | (with_reducible refine LeO.ite ?_ ?_)
      | (with_reducible refine LeO.bind ?_ (fun _ => ?_))
      | exact ih0 _ _ _ _ _ _ _
      | exact LeO.none _
      | refine LeO.ite ?_ ?_
      | refine LeO.bind ?_ (fun _ => ?_)
theorem spec_pyTrue.mono : ∀ a0 a1 a2 a3 a4 k, LeO (spec_pyTrue.f k a0 a1 a2 a3 a4) (spec_pyTrue.f (k + 1) a0 a1 a2 a3 a4) := by
  intro a0 a1 a2 a3 a4 k
  have ih0 := spec_pyTrue.mono_l k
  unfold spec_pyTrue.f
  repeat' first
      | (with_reducible exact ih0 _ _ _ _ _ _ _)
      | (with_reducible exact LeO.refl _)
      | (with_reducible exact LeO.none _)
      | (with_reducible refine LeO.ite ?_ ?_)
      | (with_reducible refine LeO.bind ?_ (fun _ => ?_))
      | exact ih0 _ _ _ _ _ _ _
      | exact LeO.none _
      | refine LeO.ite ?_ ?_
      | refine LeO.bind ?_ (fun _ => ?_)
theorem spec_pyTrue.gq {P : Program} {i : Nat} {ops : Array Oper} {Q : Exit → Act → World → Prop} {a : Act} {W : World} (h : (Code.region i ops true).wp P Q a W) : (Code.region i ops true).wp P Q a W := h
set_option maxHeartbeats 8000000 in
set_option maxRecDepth 100000 in
theorem spec_pyTrue.calls (k : Nat) (A0 : Option Addr) (c0 : Nat) (l0 : List (S79)) (a1_0 : Int) (a1_1 : Int) (a1_2 : Int) (A2 : Option Addr) (c2 : Nat) (l2 : List (S83)) (r : Bool) (w : World) (hr0 : Kd.C k79 w A0 l0.length l0) (hc0 : l0.length ≤ c0) (hr2 : Kd.C k83 w A2 l2.length l2) (hc2 : l2.length ≤ c2) (h : spec_pyTrue.f k l0 a1_0 a1_1 a1_2 l2 = some r) :
  Calls Try.prog 58 #[.slice A0 l0.length c0, .agg #[.int .i64 a1_0, .int .i64 a1_1, .int .i64 a1_2], .slice A2 l2.length c2] w fun e w' => e = .returned (.bool r) ∧ Below w.heap.size w w' := by
 have hu36 := Try.underlying36
 have hu79 := Try.underlying79
 have HR0 := zm hr0
 have HC0 := zm hc0
 clear hr0 hc0
 have HR2 := zm hr2
 have HC2 := zm hc2
 clear hr2 hc2
 have HB := zm (Below.refl w.heap.size w)
 have H : (if (l0.length : Int) = (l2.length : Int) then (spec_pyTrue.l0 k l2 l0 (l0.length : Int) 0 a1_0 a1_1 a1_2) else (some false)) = some r := h
 clear h
 by_cases c4 : (l0.length : Int) = (l2.length : Int)
 ·
  rw [if_pos c4] at H
  have c4b0 : ((l0.length : Int) == (l2.length : Int)) = true := beq_iff_eq.mpr c4
  have c4b1 : ((l0.length : Int) != (l2.length : Int)) = false := bne_eq_false_iff_eq.mpr c4
  have c4b2 : (l0.length == l2.length) = true := by first | simpa using c4 | (simp at c4 ⊢; omega)
  clear c4
  have H' := zm H
  clear H
  go_enter Try.func58, Try.ntmps58
  go_wp2_with (first | ((with_reducible refine gate_dst (N := 4) rfl ?_); refine box_event ?hg (N := 4) ?hd (cs := #[.int .i64 a1_0, .int .i64 a1_1, .int .i64 a1_2]) (t := 36) ?hr ?_; (case hd => rfl); (case hg => rfl); (case hr => first | (go_simp; done) | (go_simp; rfl)); intro gb536 hg w5 hbox hb; have n0_ := zm (below_step zb hb); have n1_ := zm (hbox); have n2_ := zm (zs hg zb : w.heap.size ≤ gb536); have n3_ := zm (zs hg zb : w.heap.size ≤ gb536); clear HB; have HB := n0_; have BK536 := n1_; have GW536 := n2_; have GE536 := n3_; clear n0_ n1_ n2_ n3_; clear hb hbox hg) | ((with_reducible refine spec_pyTrue.gq ?_); go_quiet (fail)))
  go_loopg [16] k (fun kq v16 w' => ∃ (x16_1 : Int), v16 = .int .i64 x16_1 ∧ Aside0 (spec_pyTrue.l0 kq l2 l0 (l0.length : Int) x16_1 a1_0 a1_1 a1_2 = some r) ∧ Aside0 (kq ≤ k) ∧ Aside0 (w'.heap[gb536]? = some (.cells #[.int .i64 a1_0, .int .i64 a1_1, .int .i64 a1_2] 36 (0, 0))) ∧ Aside0 (Below w.heap.size w w'))
  case atStart => exact ⟨(0), (by first | rfl | (simp; done) | (simp [*]; done)), H', ⟨Nat.le_refl _⟩, ⟨zk⟩, ⟨zb⟩⟩
  case round =>
   clear H'
   try clear c2
   try clear p2
   try clear c4
   try clear c4b0
   try clear c4b1
   try clear c4b2
   try clear c5
   obtain ⟨x16_1, rfl, HA, HK1, BK536, HB⟩ := hrel
   cases gk with
   | zero => exact absurd HA.out (by simp [spec_pyTrue.l0])
   | succ k1 =>
    have H := HA.out
    clear HA
    simp only [spec_pyTrue.l0] at H
    by_cases c6 : x16_1 < (l0.length : Int)
    ·
     rw [if_pos c6] at H
     have c6b0 : decide (x16_1 < (l0.length : Int)) = true := decide_eq_true c6
     clear c6
     by_cases c7 : 0 ≤ x16_1
     ·
      rw [if_pos c7] at H
      have c7b0 : decide (0 ≤ x16_1) = true := decide_eq_true c7
      clear c7
      by_cases c8 : x16_1 < (l0.length : Int)
      ·
       rw [if_pos c8] at H
       have c8b0 : decide (x16_1 < (l0.length : Int)) = true := decide_eq_true c8
       clear c8
       by_cases c9 : x16_1 < (l2.length : Int)
       ·
        rw [if_pos c9] at H
        have c9b0 : decide (x16_1 < (l2.length : Int)) = true := decide_eq_true c9
        clear c9
        by_cases c10 : ((rd_T79 l0 x16_1).f0) = ((rd_T83 l2 x16_1).f0)
        ·
         rw [if_pos c10] at H
         have c10b0 : (((rd_T79 l0 x16_1).f0) == ((rd_T83 l2 x16_1).f0)) = true := beq_iff_eq.mpr c10
         have c10b1 : (((rd_T79 l0 x16_1).f0) != ((rd_T83 l2 x16_1).f0)) = false := bne_eq_false_iff_eq.mpr c10
         clear c10
         by_cases c11 : ((rd_T79 l0 x16_1).f1) = (wrap64 ((wrap64 (2 * ((rd_T83 l2 x16_1).f1))) + a1_0))
         ·
          rw [if_pos c11] at H
          have c11b0 : (((rd_T79 l0 x16_1).f1) == (wrap64 ((wrap64 (2 * ((rd_T83 l2 x16_1).f1))) + a1_0))) = true := beq_iff_eq.mpr c11
          have c11b1 : (((rd_T79 l0 x16_1).f1) != (wrap64 ((wrap64 (2 * ((rd_T83 l2 x16_1).f1))) + a1_0))) = false := bne_eq_false_iff_eq.mpr c11
          clear c11
          have H' := zm H
          clear H
          have p537 : 0 ≤ (x16_1 : Int) := zd
          have q537 : x16_1 < (l0.length : Int) := zd
          obtain ⟨ad537, e537, hx537_0, hx537_1, hx537_2⟩ := at_T79 HR0.out x16_1 p537 q537
          cases e537
          replace hx537_0 := zx HB.out hx537_0
          replace hx537_1 := zx HB.out hx537_1
          replace hx537_2 := zx HB.out hx537_2
          replace p537 := eq_true p537
          replace q537 := eq_true q537
          go_wp2_with (first | ((with_reducible refine gate_dst (N := 8) rfl ?_); refine box_event ?hg (N := 8) ?hd (cs := #[.int .i64 0, .int .i64 0, .int .i64 0]) (t := 79) ?hr ?_; (case hd => rfl); (case hg => rfl); (case hr => first | (go_simp; done) | (go_simp; rfl)); intro gb538 hg w12 hbox hb; have n0_ := zm (blk_below (g := gb536) zk hb); have n1_ := zm (below_step zb hb); have n2_ := zm (hbox); have n3_ := zm (zs hg zb : w.heap.size ≤ gb538); have n4_ := zm (zs hg zb : w.heap.size ≤ gb538); have n5_ := zm (zl hg zk : gb536 ≠ gb538); have n6_ := zm (zg hg zk : gb538 ≠ gb536); clear BK536; clear HB; have BK536 := n0_; have HB := n1_; have BK538 := n2_; have GW538 := n3_; have GE538 := n4_; have NB536_538 := n5_; have NB538_536 := n6_; clear n0_ n1_ n2_ n3_ n4_ n5_ n6_; clear hb hbox hg; have hnb13 := NB538_536.out; have hnc13 := NB536_538.out; obtain ⟨hcz14_0, hcz14_1, hcz14_2, hfz14_0, hfz14_1, hfz14_2⟩ := zc3 BK538.out; have p539 : 0 ≤ (x16_1 : Int) := zd; have q539 : x16_1 < (l2.length : Int) := zd; obtain ⟨ad539, e539, hx539_0, hx539_1, hx539_2⟩ := at_T83 HR2.out x16_1 p539 q539; cases e539; have hn539_0 : ad539.block ≠ gb538 := Nat.ne_of_lt (Nat.lt_of_lt_of_le (by have := World.block_lt_of_cell? _ _ hx539_0; first | rwa [add_block] at this | exact this) GW538.out); have hn539_1 : ad539.block ≠ gb538 := Nat.ne_of_lt (Nat.lt_of_lt_of_le (by have := World.block_lt_of_cell? _ _ hx539_0; first | rwa [add_block] at this | exact this) GW538.out); have hn539_2 : ad539.block ≠ gb538 := Nat.ne_of_lt (Nat.lt_of_lt_of_le (by have := World.block_lt_of_cell? _ _ hx539_0; first | rwa [add_block] at this | exact this) GW538.out); replace hx539_0 := zx HB.out hx539_0; replace hx539_1 := zx HB.out hx539_1; replace hx539_2 := zx HB.out hx539_2; replace hx539_0 := zf (p := ⟨gb538, 0, none⟩) (.int .i64 ((rd_T79 l0 x16_1).f0)) hx539_0; replace hx539_1 := zf (p := ⟨gb538, 0, none⟩) (.int .i64 ((rd_T79 l0 x16_1).f0)) hx539_1; replace hx539_2 := zf (p := ⟨gb538, 0, none⟩) (.int .i64 ((rd_T79 l0 x16_1).f0)) hx539_2; replace hx539_0 := zf (p := ⟨gb538, 1, none⟩) (.int .i64 ((rd_T79 l0 x16_1).f1)) hx539_0; replace hx539_1 := zf (p := ⟨gb538, 1, none⟩) (.int .i64 ((rd_T79 l0 x16_1).f1)) hx539_1; replace hx539_2 := zf (p := ⟨gb538, 1, none⟩) (.int .i64 ((rd_T79 l0 x16_1).f1)) hx539_2; replace hx539_0 := zf (p := ⟨gb538, 2, none⟩) (.int .i64 ((rd_T79 l0 x16_1).f2)) hx539_0; replace hx539_1 := zf (p := ⟨gb538, 2, none⟩) (.int .i64 ((rd_T79 l0 x16_1).f2)) hx539_1; replace hx539_2 := zf (p := ⟨gb538, 2, none⟩) (.int .i64 ((rd_T79 l0 x16_1).f2)) hx539_2; (try have hy539_0 := fun (n_ : Nat) => (show (((((w12.drewN n_).setCell ⟨gb538, 0, none⟩ (.int .i64 ((rd_T79 l0 x16_1).f0))).setCell ⟨gb538, 1, none⟩ (.int .i64 ((rd_T79 l0 x16_1).f1))).setCell ⟨gb538, 2, none⟩ (.int .i64 ((rd_T79 l0 x16_1).f2)))).cell? _ = some _ from hx539_0)); (try have hy539_1 := fun (n_ : Nat) => (show (((((w12.drewN n_).setCell ⟨gb538, 0, none⟩ (.int .i64 ((rd_T79 l0 x16_1).f0))).setCell ⟨gb538, 1, none⟩ (.int .i64 ((rd_T79 l0 x16_1).f1))).setCell ⟨gb538, 2, none⟩ (.int .i64 ((rd_T79 l0 x16_1).f2)))).cell? _ = some _ from hx539_1)); (try have hy539_2 := fun (n_ : Nat) => (show (((((w12.drewN n_).setCell ⟨gb538, 0, none⟩ (.int .i64 ((rd_T79 l0 x16_1).f0))).setCell ⟨gb538, 1, none⟩ (.int .i64 ((rd_T79 l0 x16_1).f1))).setCell ⟨gb538, 2, none⟩ (.int .i64 ((rd_T79 l0 x16_1).f2)))).cell? _ = some _ from hx539_2)); clear hn539_0; clear hn539_1; clear hn539_2; replace p539 := eq_true p539; replace q539 := eq_true q539; have p540 : 0 ≤ (x16_1 : Int) := zd; have q540 : x16_1 < (l2.length : Int) := zd; obtain ⟨ad540, e540, hx540_0, hx540_1, hx540_2⟩ := at_T83 HR2.out x16_1 p540 q540; obtain rfl : ad539 = ad540 := (by injection e540); have hn540_0 : ad539.block ≠ gb538 := Nat.ne_of_lt (Nat.lt_of_lt_of_le (by have := World.block_lt_of_cell? _ _ hx540_0; first | rwa [add_block] at this | exact this) GW538.out); have hn540_1 : ad539.block ≠ gb538 := Nat.ne_of_lt (Nat.lt_of_lt_of_le (by have := World.block_lt_of_cell? _ _ hx540_0; first | rwa [add_block] at this | exact this) GW538.out); have hn540_2 : ad539.block ≠ gb538 := Nat.ne_of_lt (Nat.lt_of_lt_of_le (by have := World.block_lt_of_cell? _ _ hx540_0; first | rwa [add_block] at this | exact this) GW538.out); replace hx540_0 := zx HB.out hx540_0; replace hx540_1 := zx HB.out hx540_1; replace hx540_2 := zx HB.out hx540_2; replace hx540_0 := zf (p := ⟨gb538, 0, none⟩) (.int .i64 ((rd_T79 l0 x16_1).f0)) hx540_0; replace hx540_1 := zf (p := ⟨gb538, 0, none⟩) (.int .i64 ((rd_T79 l0 x16_1).f0)) hx540_1; replace hx540_2 := zf (p := ⟨gb538, 0, none⟩) (.int .i64 ((rd_T79 l0 x16_1).f0)) hx540_2; replace hx540_0 := zf (p := ⟨gb538, 1, none⟩) (.int .i64 ((rd_T79 l0 x16_1).f1)) hx540_0; replace hx540_1 := zf (p := ⟨gb538, 1, none⟩) (.int .i64 ((rd_T79 l0 x16_1).f1)) hx540_1; replace hx540_2 := zf (p := ⟨gb538, 1, none⟩) (.int .i64 ((rd_T79 l0 x16_1).f1)) hx540_2; replace hx540_0 := zf (p := ⟨gb538, 2, none⟩) (.int .i64 ((rd_T79 l0 x16_1).f2)) hx540_0; replace hx540_1 := zf (p := ⟨gb538, 2, none⟩) (.int .i64 ((rd_T79 l0 x16_1).f2)) hx540_1; replace hx540_2 := zf (p := ⟨gb538, 2, none⟩) (.int .i64 ((rd_T79 l0 x16_1).f2)) hx540_2; (try have hy540_0 := fun (n_ : Nat) => (show (((((w12.drewN n_).setCell ⟨gb538, 0, none⟩ (.int .i64 ((rd_T79 l0 x16_1).f0))).setCell ⟨gb538, 1, none⟩ (.int .i64 ((rd_T79 l0 x16_1).f1))).setCell ⟨gb538, 2, none⟩ (.int .i64 ((rd_T79 l0 x16_1).f2)))).cell? _ = some _ from hx540_0)); (try have hy540_1 := fun (n_ : Nat) => (show (((((w12.drewN n_).setCell ⟨gb538, 0, none⟩ (.int .i64 ((rd_T79 l0 x16_1).f0))).setCell ⟨gb538, 1, none⟩ (.int .i64 ((rd_T79 l0 x16_1).f1))).setCell ⟨gb538, 2, none⟩ (.int .i64 ((rd_T79 l0 x16_1).f2)))).cell? _ = some _ from hx540_1)); (try have hy540_2 := fun (n_ : Nat) => (show (((((w12.drewN n_).setCell ⟨gb538, 0, none⟩ (.int .i64 ((rd_T79 l0 x16_1).f0))).setCell ⟨gb538, 1, none⟩ (.int .i64 ((rd_T79 l0 x16_1).f1))).setCell ⟨gb538, 2, none⟩ (.int .i64 ((rd_T79 l0 x16_1).f2)))).cell? _ = some _ from hx540_2)); clear hn540_0; clear hn540_1; clear hn540_2; replace p540 := eq_true p540; replace q540 := eq_true q540; obtain ⟨hcz15_0, hcz15_1, hcz15_2, hfz15_0, hfz15_1, hfz15_2⟩ := zc3 BK536.out) | ((with_reducible refine spec_pyTrue.gq ?_); go_quiet (fail)))
          go_roundg k1
          case measure => have := HK1.out; omega
          case rel => exact ⟨(wrap64 (x16_1 + 1)), (by first | rfl | (simp; done) | (simp [*]; done)), H', ⟨by have := HK1.out; omega⟩, ⟨zK⟩, ⟨zb⟩⟩
         ·
          rw [if_neg c11] at H
          have c11b0 : (((rd_T79 l0 x16_1).f1) == (wrap64 ((wrap64 (2 * ((rd_T83 l2 x16_1).f1))) + a1_0))) = false := beq_eq_false_iff_ne.mpr c11
          have c11b1 : (((rd_T79 l0 x16_1).f1) != (wrap64 ((wrap64 (2 * ((rd_T83 l2 x16_1).f1))) + a1_0))) = true := bne_iff_ne.mpr c11
          obtain rfl := Option.some.inj H
          have p537 : 0 ≤ (x16_1 : Int) := zd
          have q537 : x16_1 < (l0.length : Int) := zd
          obtain ⟨ad537, e537, hx537_0, hx537_1, hx537_2⟩ := at_T79 HR0.out x16_1 p537 q537
          cases e537
          replace hx537_0 := zx HB.out hx537_0
          replace hx537_1 := zx HB.out hx537_1
          replace hx537_2 := zx HB.out hx537_2
          replace p537 := eq_true p537
          replace q537 := eq_true q537
          go_wp2_with (first | ((with_reducible refine gate_dst (N := 8) rfl ?_); refine box_event ?hg (N := 8) ?hd (cs := #[.int .i64 0, .int .i64 0, .int .i64 0]) (t := 79) ?hr ?_; (case hd => rfl); (case hg => rfl); (case hr => first | (go_simp; done) | (go_simp; rfl)); intro gb538 hg w16 hbox hb; have n0_ := zm (blk_below (g := gb536) zk hb); have n1_ := zm (below_step zb hb); have n2_ := zm (hbox); have n3_ := zm (zs hg zb : w.heap.size ≤ gb538); have n4_ := zm (zs hg zb : w.heap.size ≤ gb538); have n5_ := zm (zl hg zk : gb536 ≠ gb538); have n6_ := zm (zg hg zk : gb538 ≠ gb536); clear BK536; clear HB; have BK536 := n0_; have HB := n1_; have BK538 := n2_; have GW538 := n3_; have GE538 := n4_; have NB536_538 := n5_; have NB538_536 := n6_; clear n0_ n1_ n2_ n3_ n4_ n5_ n6_; clear hb hbox hg; have hnb17 := NB538_536.out; have hnc17 := NB536_538.out; obtain ⟨hcz18_0, hcz18_1, hcz18_2, hfz18_0, hfz18_1, hfz18_2⟩ := zc3 BK538.out; have p539 : 0 ≤ (x16_1 : Int) := zd; have q539 : x16_1 < (l2.length : Int) := zd; obtain ⟨ad539, e539, hx539_0, hx539_1, hx539_2⟩ := at_T83 HR2.out x16_1 p539 q539; cases e539; have hn539_0 : ad539.block ≠ gb538 := Nat.ne_of_lt (Nat.lt_of_lt_of_le (by have := World.block_lt_of_cell? _ _ hx539_0; first | rwa [add_block] at this | exact this) GW538.out); have hn539_1 : ad539.block ≠ gb538 := Nat.ne_of_lt (Nat.lt_of_lt_of_le (by have := World.block_lt_of_cell? _ _ hx539_0; first | rwa [add_block] at this | exact this) GW538.out); have hn539_2 : ad539.block ≠ gb538 := Nat.ne_of_lt (Nat.lt_of_lt_of_le (by have := World.block_lt_of_cell? _ _ hx539_0; first | rwa [add_block] at this | exact this) GW538.out); replace hx539_0 := zx HB.out hx539_0; replace hx539_1 := zx HB.out hx539_1; replace hx539_2 := zx HB.out hx539_2; replace hx539_0 := zf (p := ⟨gb538, 0, none⟩) (.int .i64 ((rd_T79 l0 x16_1).f0)) hx539_0; replace hx539_1 := zf (p := ⟨gb538, 0, none⟩) (.int .i64 ((rd_T79 l0 x16_1).f0)) hx539_1; replace hx539_2 := zf (p := ⟨gb538, 0, none⟩) (.int .i64 ((rd_T79 l0 x16_1).f0)) hx539_2; replace hx539_0 := zf (p := ⟨gb538, 1, none⟩) (.int .i64 ((rd_T79 l0 x16_1).f1)) hx539_0; replace hx539_1 := zf (p := ⟨gb538, 1, none⟩) (.int .i64 ((rd_T79 l0 x16_1).f1)) hx539_1; replace hx539_2 := zf (p := ⟨gb538, 1, none⟩) (.int .i64 ((rd_T79 l0 x16_1).f1)) hx539_2; replace hx539_0 := zf (p := ⟨gb538, 2, none⟩) (.int .i64 ((rd_T79 l0 x16_1).f2)) hx539_0; replace hx539_1 := zf (p := ⟨gb538, 2, none⟩) (.int .i64 ((rd_T79 l0 x16_1).f2)) hx539_1; replace hx539_2 := zf (p := ⟨gb538, 2, none⟩) (.int .i64 ((rd_T79 l0 x16_1).f2)) hx539_2; (try have hy539_0 := fun (n_ : Nat) => (show (((((w16.drewN n_).setCell ⟨gb538, 0, none⟩ (.int .i64 ((rd_T79 l0 x16_1).f0))).setCell ⟨gb538, 1, none⟩ (.int .i64 ((rd_T79 l0 x16_1).f1))).setCell ⟨gb538, 2, none⟩ (.int .i64 ((rd_T79 l0 x16_1).f2)))).cell? _ = some _ from hx539_0)); (try have hy539_1 := fun (n_ : Nat) => (show (((((w16.drewN n_).setCell ⟨gb538, 0, none⟩ (.int .i64 ((rd_T79 l0 x16_1).f0))).setCell ⟨gb538, 1, none⟩ (.int .i64 ((rd_T79 l0 x16_1).f1))).setCell ⟨gb538, 2, none⟩ (.int .i64 ((rd_T79 l0 x16_1).f2)))).cell? _ = some _ from hx539_1)); (try have hy539_2 := fun (n_ : Nat) => (show (((((w16.drewN n_).setCell ⟨gb538, 0, none⟩ (.int .i64 ((rd_T79 l0 x16_1).f0))).setCell ⟨gb538, 1, none⟩ (.int .i64 ((rd_T79 l0 x16_1).f1))).setCell ⟨gb538, 2, none⟩ (.int .i64 ((rd_T79 l0 x16_1).f2)))).cell? _ = some _ from hx539_2)); clear hn539_0; clear hn539_1; clear hn539_2; replace p539 := eq_true p539; replace q539 := eq_true q539; have p540 : 0 ≤ (x16_1 : Int) := zd; have q540 : x16_1 < (l2.length : Int) := zd; obtain ⟨ad540, e540, hx540_0, hx540_1, hx540_2⟩ := at_T83 HR2.out x16_1 p540 q540; obtain rfl : ad539 = ad540 := (by injection e540); have hn540_0 : ad539.block ≠ gb538 := Nat.ne_of_lt (Nat.lt_of_lt_of_le (by have := World.block_lt_of_cell? _ _ hx540_0; first | rwa [add_block] at this | exact this) GW538.out); have hn540_1 : ad539.block ≠ gb538 := Nat.ne_of_lt (Nat.lt_of_lt_of_le (by have := World.block_lt_of_cell? _ _ hx540_0; first | rwa [add_block] at this | exact this) GW538.out); have hn540_2 : ad539.block ≠ gb538 := Nat.ne_of_lt (Nat.lt_of_lt_of_le (by have := World.block_lt_of_cell? _ _ hx540_0; first | rwa [add_block] at this | exact this) GW538.out); replace hx540_0 := zx HB.out hx540_0; replace hx540_1 := zx HB.out hx540_1; replace hx540_2 := zx HB.out hx540_2; replace hx540_0 := zf (p := ⟨gb538, 0, none⟩) (.int .i64 ((rd_T79 l0 x16_1).f0)) hx540_0; replace hx540_1 := zf (p := ⟨gb538, 0, none⟩) (.int .i64 ((rd_T79 l0 x16_1).f0)) hx540_1; replace hx540_2 := zf (p := ⟨gb538, 0, none⟩) (.int .i64 ((rd_T79 l0 x16_1).f0)) hx540_2; replace hx540_0 := zf (p := ⟨gb538, 1, none⟩) (.int .i64 ((rd_T79 l0 x16_1).f1)) hx540_0; replace hx540_1 := zf (p := ⟨gb538, 1, none⟩) (.int .i64 ((rd_T79 l0 x16_1).f1)) hx540_1; replace hx540_2 := zf (p := ⟨gb538, 1, none⟩) (.int .i64 ((rd_T79 l0 x16_1).f1)) hx540_2; replace hx540_0 := zf (p := ⟨gb538, 2, none⟩) (.int .i64 ((rd_T79 l0 x16_1).f2)) hx540_0; replace hx540_1 := zf (p := ⟨gb538, 2, none⟩) (.int .i64 ((rd_T79 l0 x16_1).f2)) hx540_1; replace hx540_2 := zf (p := ⟨gb538, 2, none⟩) (.int .i64 ((rd_T79 l0 x16_1).f2)) hx540_2; (try have hy540_0 := fun (n_ : Nat) => (show (((((w16.drewN n_).setCell ⟨gb538, 0, none⟩ (.int .i64 ((rd_T79 l0 x16_1).f0))).setCell ⟨gb538, 1, none⟩ (.int .i64 ((rd_T79 l0 x16_1).f1))).setCell ⟨gb538, 2, none⟩ (.int .i64 ((rd_T79 l0 x16_1).f2)))).cell? _ = some _ from hx540_0)); (try have hy540_1 := fun (n_ : Nat) => (show (((((w16.drewN n_).setCell ⟨gb538, 0, none⟩ (.int .i64 ((rd_T79 l0 x16_1).f0))).setCell ⟨gb538, 1, none⟩ (.int .i64 ((rd_T79 l0 x16_1).f1))).setCell ⟨gb538, 2, none⟩ (.int .i64 ((rd_T79 l0 x16_1).f2)))).cell? _ = some _ from hx540_1)); (try have hy540_2 := fun (n_ : Nat) => (show (((((w16.drewN n_).setCell ⟨gb538, 0, none⟩ (.int .i64 ((rd_T79 l0 x16_1).f0))).setCell ⟨gb538, 1, none⟩ (.int .i64 ((rd_T79 l0 x16_1).f1))).setCell ⟨gb538, 2, none⟩ (.int .i64 ((rd_T79 l0 x16_1).f2)))).cell? _ = some _ from hx540_2)); clear hn540_0; clear hn540_1; clear hn540_2; replace p540 := eq_true p540; replace q540 := eq_true q540; obtain ⟨hcz19_0, hcz19_1, hcz19_2, hfz19_0, hfz19_1, hfz19_2⟩ := zc3 BK536.out) | ((with_reducible refine spec_pyTrue.gq ?_); go_quiet (fail)))
          go_ret
          exact ⟨zr, zb⟩
        ·
         rw [if_neg c10] at H
         have c10b0 : (((rd_T79 l0 x16_1).f0) == ((rd_T83 l2 x16_1).f0)) = false := beq_eq_false_iff_ne.mpr c10
         have c10b1 : (((rd_T79 l0 x16_1).f0) != ((rd_T83 l2 x16_1).f0)) = true := bne_iff_ne.mpr c10
         obtain rfl := Option.some.inj H
         have p537 : 0 ≤ (x16_1 : Int) := zd
         have q537 : x16_1 < (l0.length : Int) := zd
         obtain ⟨ad537, e537, hx537_0, hx537_1, hx537_2⟩ := at_T79 HR0.out x16_1 p537 q537
         cases e537
         replace hx537_0 := zx HB.out hx537_0
         replace hx537_1 := zx HB.out hx537_1
         replace hx537_2 := zx HB.out hx537_2
         replace p537 := eq_true p537
         replace q537 := eq_true q537
         go_wp2_with (first | ((with_reducible refine gate_dst (N := 8) rfl ?_); refine box_event ?hg (N := 8) ?hd (cs := #[.int .i64 0, .int .i64 0, .int .i64 0]) (t := 79) ?hr ?_; (case hd => rfl); (case hg => rfl); (case hr => first | (go_simp; done) | (go_simp; rfl)); intro gb538 hg w20 hbox hb; have n0_ := zm (blk_below (g := gb536) zk hb); have n1_ := zm (below_step zb hb); have n2_ := zm (hbox); have n3_ := zm (zs hg zb : w.heap.size ≤ gb538); have n4_ := zm (zs hg zb : w.heap.size ≤ gb538); have n5_ := zm (zl hg zk : gb536 ≠ gb538); have n6_ := zm (zg hg zk : gb538 ≠ gb536); clear BK536; clear HB; have BK536 := n0_; have HB := n1_; have BK538 := n2_; have GW538 := n3_; have GE538 := n4_; have NB536_538 := n5_; have NB538_536 := n6_; clear n0_ n1_ n2_ n3_ n4_ n5_ n6_; clear hb hbox hg; have hnb21 := NB538_536.out; have hnc21 := NB536_538.out; obtain ⟨hcz22_0, hcz22_1, hcz22_2, hfz22_0, hfz22_1, hfz22_2⟩ := zc3 BK538.out; have p539 : 0 ≤ (x16_1 : Int) := zd; have q539 : x16_1 < (l2.length : Int) := zd; obtain ⟨ad539, e539, hx539_0, hx539_1, hx539_2⟩ := at_T83 HR2.out x16_1 p539 q539; cases e539; have hn539_0 : ad539.block ≠ gb538 := Nat.ne_of_lt (Nat.lt_of_lt_of_le (by have := World.block_lt_of_cell? _ _ hx539_0; first | rwa [add_block] at this | exact this) GW538.out); have hn539_1 : ad539.block ≠ gb538 := Nat.ne_of_lt (Nat.lt_of_lt_of_le (by have := World.block_lt_of_cell? _ _ hx539_0; first | rwa [add_block] at this | exact this) GW538.out); have hn539_2 : ad539.block ≠ gb538 := Nat.ne_of_lt (Nat.lt_of_lt_of_le (by have := World.block_lt_of_cell? _ _ hx539_0; first | rwa [add_block] at this | exact this) GW538.out); replace hx539_0 := zx HB.out hx539_0; replace hx539_1 := zx HB.out hx539_1; replace hx539_2 := zx HB.out hx539_2; replace hx539_0 := zf (p := ⟨gb538, 0, none⟩) (.int .i64 ((rd_T79 l0 x16_1).f0)) hx539_0; replace hx539_1 := zf (p := ⟨gb538, 0, none⟩) (.int .i64 ((rd_T79 l0 x16_1).f0)) hx539_1; replace hx539_2 := zf (p := ⟨gb538, 0, none⟩) (.int .i64 ((rd_T79 l0 x16_1).f0)) hx539_2; replace hx539_0 := zf (p := ⟨gb538, 1, none⟩) (.int .i64 ((rd_T79 l0 x16_1).f1)) hx539_0; replace hx539_1 := zf (p := ⟨gb538, 1, none⟩) (.int .i64 ((rd_T79 l0 x16_1).f1)) hx539_1; replace hx539_2 := zf (p := ⟨gb538, 1, none⟩) (.int .i64 ((rd_T79 l0 x16_1).f1)) hx539_2; replace hx539_0 := zf (p := ⟨gb538, 2, none⟩) (.int .i64 ((rd_T79 l0 x16_1).f2)) hx539_0; replace hx539_1 := zf (p := ⟨gb538, 2, none⟩) (.int .i64 ((rd_T79 l0 x16_1).f2)) hx539_1; replace hx539_2 := zf (p := ⟨gb538, 2, none⟩) (.int .i64 ((rd_T79 l0 x16_1).f2)) hx539_2; (try have hy539_0 := fun (n_ : Nat) => (show (((((w20.drewN n_).setCell ⟨gb538, 0, none⟩ (.int .i64 ((rd_T79 l0 x16_1).f0))).setCell ⟨gb538, 1, none⟩ (.int .i64 ((rd_T79 l0 x16_1).f1))).setCell ⟨gb538, 2, none⟩ (.int .i64 ((rd_T79 l0 x16_1).f2)))).cell? _ = some _ from hx539_0)); (try have hy539_1 := fun (n_ : Nat) => (show (((((w20.drewN n_).setCell ⟨gb538, 0, none⟩ (.int .i64 ((rd_T79 l0 x16_1).f0))).setCell ⟨gb538, 1, none⟩ (.int .i64 ((rd_T79 l0 x16_1).f1))).setCell ⟨gb538, 2, none⟩ (.int .i64 ((rd_T79 l0 x16_1).f2)))).cell? _ = some _ from hx539_1)); (try have hy539_2 := fun (n_ : Nat) => (show (((((w20.drewN n_).setCell ⟨gb538, 0, none⟩ (.int .i64 ((rd_T79 l0 x16_1).f0))).setCell ⟨gb538, 1, none⟩ (.int .i64 ((rd_T79 l0 x16_1).f1))).setCell ⟨gb538, 2, none⟩ (.int .i64 ((rd_T79 l0 x16_1).f2)))).cell? _ = some _ from hx539_2)); clear hn539_0; clear hn539_1; clear hn539_2; replace p539 := eq_true p539; replace q539 := eq_true q539) | ((with_reducible refine spec_pyTrue.gq ?_); go_quiet (fail)))
         go_ret
         exact ⟨zr, zb⟩
       ·
        rw [if_neg c9] at H
        exact absurd H (by simp)
      ·
       rw [if_neg c8] at H
       exact absurd H (by simp)
     ·
      rw [if_neg c7] at H
      exact absurd H (by simp)
    ·
     rw [if_neg c6] at H
     have c6b0 : decide (x16_1 < (l0.length : Int)) = false := decide_eq_false c6
     clear c6
     obtain rfl := Option.some.inj H
     go_wp2
     repeat (go_quiet (fail); try go_wp2)
     go_ret
     exact ⟨zr, zb⟩
 ·
  rw [if_neg c4] at H
  have c4b0 : ((l0.length : Int) == (l2.length : Int)) = false := beq_eq_false_iff_ne.mpr c4
  have c4b1 : ((l0.length : Int) != (l2.length : Int)) = true := bne_iff_ne.mpr c4
  have c4b2 : (l0.length == l2.length) = false := by first | simpa using c4 | (simp at c4 ⊢; omega)
  obtain rfl := Option.some.inj H
  go_enter Try.func58, Try.ntmps58
  go_wp2_with (first | ((with_reducible refine gate_dst (N := 4) rfl ?_); refine box_event ?hg (N := 4) ?hd (cs := #[.int .i64 a1_0, .int .i64 a1_1, .int .i64 a1_2]) (t := 36) ?hr ?_; (case hd => rfl); (case hg => rfl); (case hr => first | (go_simp; done) | (go_simp; rfl)); intro gb536 hg w23 hbox hb; have n0_ := zm (below_step zb hb); have n1_ := zm (hbox); have n2_ := zm (zs hg zb : w.heap.size ≤ gb536); have n3_ := zm (zs hg zb : w.heap.size ≤ gb536); clear HB; have HB := n0_; have BK536 := n1_; have GW536 := n2_; have GE536 := n3_; clear n0_ n1_ n2_ n3_; clear hb hbox hg) | ((with_reducible refine spec_pyTrue.gq ?_); go_quiet (fail)))
  go_ret
  exact ⟨zr, zb⟩

/-! ### spec_IsTrueTo: function 38 -/
def spec_IsTrueTo.j0 : Nat → List (S73) → List (S83) → Bool → List Int → Int → Int → Int → Int → Option (Bool × Bool)
  | 0, _, _, _, _, _, _, _, _ => none
  | k + 1, x1, x3, x21, x542000, x542001, x543000, x543001, x543002 => if x21 = true then (some (false, false)) else ((spec_pyAll.f k x542000 x542001 x1 x543000 x543001 x543002).bind fun bt545 => ((spec_pyTrue.f k bt545.1 x543000 x543001 x543002 x3).bind fun t551 => (some (t551, true))))
def spec_IsTrueTo.f (k : Nat) (l0_0 : List Int) (a0_1 : Int) (l1 : List (S73)) (a2_0 : Int) (a2_1 : Int) (a2_2 : Int) (l3 : List (S83)) : Option (Bool × Bool) := (spec_pyAsked.f k l0_0 a0_1 l1 a2_0 a2_1 a2_2).bind fun t543 => (if t543 = true then ((spec_ntGood.f k l3).bind fun t544 => (spec_IsTrueTo.j0 k l1 l3 (!t544) l0_0 a0_1 a2_0 a2_1 a2_2)) else (spec_IsTrueTo.j0 k l1 l3 true l0_0 a0_1 a2_0 a2_1 a2_2))
theorem spec_IsTrueTo.mono_l : ∀ k, (∀ y0 y1 y2 y3 y4 y5 y6 y7, LeO (spec_IsTrueTo.j0 k y0 y1 y2 y3 y4 y5 y6 y7) (spec_IsTrueTo.j0 (k + 1) y0 y1 y2 y3 y4 y5 y6 y7))
  | 0 => fun _ _ _ _ _ _ _ _ r h => by simp [spec_IsTrueTo.j0] at h
  | k + 1 => by
    have ih0 := spec_IsTrueTo.mono_l k
    · intro y0 y1 y2 y3 y4 y5 y6 y7
      unfold spec_IsTrueTo.j0
      repeat' first
      | (with_reducible exact ih0 _ _ _ _ _ _ _ _)
      | (with_reducible exact spec_ntGood.mono _ _)
      | (with_reducible exact spec_pyAll.mono _ _ _ _ _ _ _)
      | (with_reducible exact spec_pyAsked.mono _ _ _ _ _ _ _)
      | (with_reducible exact spec_pyTrue.mono _ _ _ _ _ _)
      | (with_reducible exact LeO.refl _)
      | (with_reducible exact LeO.none _)
      | (with_reducible refine LeO.ite ?_ ?_)
      | (with_reducible refine LeO.bind ?_ (fun _ => ?_))
      | exact ih0 _ _ _ _ _ _ _ _
      | exact spec_ntGood.mono _ _
      | exact spec_pyAll.mono _ _ _ _ _ _ _
      | exact spec_pyAsked.mono _ _ _ _ _ _ _
      | exact spec_pyTrue.mono _ _ _ _ _ _
      | exact LeO.none _
      | refine LeO.ite ?_ ?_
      | refine LeO.bind ?_ (fun _ => ?_)
theorem spec_IsTrueTo.mono : ∀ a0 a1 a2 a3 a4 a5 a6 k, LeO (spec_IsTrueTo.f k a0 a1 a2 a3 a4 a5 a6) (spec_IsTrueTo.f (k + 1) a0 a1 a2 a3 a4 a5 a6) := by
  intro a0 a1 a2 a3 a4 a5 a6 k
  have ih0 := spec_IsTrueTo.mono_l k
  unfold spec_IsTrueTo.f
  repeat' first
      | (with_reducible exact ih0 _ _ _ _ _ _ _ _)
      | (with_reducible exact spec_ntGood.mono _ _)
      | (with_reducible exact spec_pyAll.mono _ _ _ _ _ _ _)
      | (with_reducible exact spec_pyAsked.mono _ _ _ _ _ _ _)
      | (with_reducible exact spec_pyTrue.mono _ _ _ _ _ _)
      | (with_reducible exact LeO.refl _)
      | (with_reducible exact LeO.none _)
      | (with_reducible refine LeO.ite ?_ ?_)
      | (with_reducible refine LeO.bind ?_ (fun _ => ?_))
      | exact ih0 _ _ _ _ _ _ _ _
      | exact spec_ntGood.mono _ _
      | exact spec_pyAll.mono _ _ _ _ _ _ _
      | exact spec_pyAsked.mono _ _ _ _ _ _ _
      | exact spec_pyTrue.mono _ _ _ _ _ _
      | exact LeO.none _
      | refine LeO.ite ?_ ?_
      | refine LeO.bind ?_ (fun _ => ?_)
set_option maxHeartbeats 8000000 in
set_option maxRecDepth 100000 in
theorem spec_IsTrueTo.calls (k : Nat) (A0_0 : Option Addr) (c0_0 : Nat) (l0_0 : List Int) (a0_1 : Int) (A1 : Option Addr) (c1 : Nat) (l1 : List (S73)) (a2_0 : Int) (a2_1 : Int) (a2_2 : Int) (A3 : Option Addr) (c3 : Nat) (l3 : List (S83)) (r1 : Bool) (r2 : Bool) (w : World) (hr0_0 : Kd.C (Kd.int .i64) w A0_0 l0_0.length l0_0) (hc0_0 : l0_0.length ≤ c0_0) (hr1 : Kd.C k73 w A1 l1.length l1) (hc1 : l1.length ≤ c1) (hr3 : Kd.C k83 w A3 l3.length l3) (hc3 : l3.length ≤ c3) (h : spec_IsTrueTo.f k l0_0 a0_1 l1 a2_0 a2_1 a2_2 l3 = some (r1, r2)) :
  Calls Try.prog 38 #[.agg #[.slice A0_0 l0_0.length c0_0, .int .i64 a0_1], .slice A1 l1.length c1, .agg #[.int .i64 a2_0, .int .i64 a2_1, .int .i64 a2_2], .slice A3 l3.length c3] w fun e w' => e = .returned (.tuple #[.bool r1, .bool r2]) ∧ Below w.heap.size w w' := by
 have hu32 := Try.underlying32
 have hu36 := Try.underlying36
 have HR0_0 := zm hr0_0
 have HC0_0 := zm hc0_0
 clear hr0_0 hc0_0
 have HR1 := zm hr1
 have HC1 := zm hc1
 clear hr1 hc1
 have HR3 := zm hr3
 have HC3 := zm hc3
 clear hr3 hc3
 have HB := zm (Below.refl w.heap.size w)
 have H : ((spec_pyAsked.f k l0_0 a0_1 l1 a2_0 a2_1 a2_2).bind fun t543 => (if t543 = true then ((spec_ntGood.f k l3).bind fun t544 => (spec_IsTrueTo.j0 k l1 l3 (!t544) l0_0 a0_1 a2_0 a2_1 a2_2)) else (spec_IsTrueTo.j0 k l1 l3 true l0_0 a0_1 a2_0 a2_1 a2_2))) = some (r1, r2) := h
 clear h
 have HC5 := zm H
 clear H
 go_enter Try.func38, Try.ntmps38
 go_upto_region 1 with (first | ((with_reducible refine gate_dst (N := 4) rfl ?_); refine box_event ?hg (N := 4) ?hd (cs := #[.slice A0_0 l0_0.length c0_0, .int .i64 a0_1]) (t := 32) ?hr ?_; (case hd => rfl); (case hg => rfl); (case hr => first | (go_simp; done) | (go_simp; rfl)); intro gb541 hg w6 hbox hb; have n0_ := zm (below_step zb hb); have n1_ := zm (hbox); have n2_ := zm (zs hg zb : w.heap.size ≤ gb541); have n3_ := zm (zs hg zb : w.heap.size ≤ gb541); clear HB; have HB := n0_; have BK541 := n1_; have GW541 := n2_; have GE541 := n3_; clear n0_ n1_ n2_ n3_; clear hb hbox hg) | ((with_reducible refine gate_dst (N := 6) rfl ?_); refine box_event ?hg (N := 6) ?hd (cs := #[.int .i64 a2_0, .int .i64 a2_1, .int .i64 a2_2]) (t := 36) ?hr ?_; (case hd => rfl); (case hg => rfl); (case hr => first | (go_simp; done) | (go_simp; rfl)); intro gb542 hg w7 hbox hb; have n0_ := zm (blk_below (g := gb541) zk hb); have n1_ := zm (below_step zb hb); have n2_ := zm (hbox); have n3_ := zm (zs hg zb : w.heap.size ≤ gb542); have n4_ := zm (zs hg zb : w.heap.size ≤ gb542); have n5_ := zm (zl hg zk : gb541 ≠ gb542); have n6_ := zm (zg hg zk : gb542 ≠ gb541); clear BK541; clear HB; have BK541 := n0_; have HB := n1_; have BK542 := n2_; have GW542 := n3_; have GE542 := n4_; have NB541_542 := n5_; have NB542_541 := n6_; clear n0_ n1_ n2_ n3_ n4_ n5_ n6_; clear hb hbox hg))
 (try simp only [Act.put, List.setIfInBounds_toArray, List.set_cons_zero, List.set_cons_succ])
 go_cut [21] (fun v21 wc => ∃ (kq : Nat) (x21_4 : Bool), v21 = .bool x21_4 ∧ Aside0 (spec_IsTrueTo.j0 kq l1 l3 x21_4 l0_0 a0_1 a2_0 a2_1 a2_2 = some (r1, r2)) ∧ Aside0 (kq ≤ k) ∧ Aside0 (wc.heap[gb541]? = some (.cells #[(.slice A0_0 l0_0.length c0_0), .int .i64 a0_1] 32 (0, 0))) ∧ Aside0 (wc.heap[gb542]? = some (.cells #[.int .i64 a2_0, .int .i64 a2_1, .int .i64 a2_2] 36 (0, 0))) ∧ Aside0 (Below w.heap.size w wc))
 case first =>
  have H := HC5.out
  clear HC5
  replace H := Option.bind_eq_some_iff.mp H
  obtain ⟨t543, A80, H⟩ := H
  replace H : (if t543 = true then ((spec_ntGood.f k l3).bind fun t544 => (spec_IsTrueTo.j0 k l1 l3 (!t544) l0_0 a0_1 a2_0 a2_1 a2_2)) else (spec_IsTrueTo.j0 k l1 l3 true l0_0 a0_1 a2_0 a2_1 a2_2)) = some (r1, r2) := H
  have A8 := zm A80
  clear A80
  by_cases c9 : t543 = true
  ·
   subst c9
   have H1 : ((spec_ntGood.f k l3).bind fun t544 => (spec_IsTrueTo.j0 k l1 l3 (!t544) l0_0 a0_1 a2_0 a2_1 a2_2)) = some (r1, r2) := by rw [if_pos rfl] at H; exact H
   clear H
   have H := H1
   clear H1
   replace H := Option.bind_eq_some_iff.mp H
   obtain ⟨t544, A100, H⟩ := H
   replace H : (spec_IsTrueTo.j0 k l1 l3 (!t544) l0_0 a0_1 a2_0 a2_1 a2_2) = some (r1, r2) := H
   have A10 := zm A100
   clear A100
   have H' := zm H
   clear H
   have hnb11 := NB541_542.out
   have hnc11 := NB542_541.out
   obtain ⟨hcz12_0, hcz12_1, hfz12_0, hfz12_1⟩ := zc2 BK541.out
   obtain ⟨hcz13_0, hcz13_1, hcz13_2, hfz13_0, hfz13_1, hfz13_2⟩ := zc3 BK542.out
   go_wp2_with (first | ((with_reducible refine gate_callee (f := 49) rfl ?_); refine goesL_ (some 15) rfl rfl Try.func49 (by kernel_rfl) rfl #[.agg #[.slice A0_0 l0_0.length c0_0, .int .i64 a0_1], .slice A1 l1.length c1, .agg #[.int .i64 a2_0, .int .i64 a2_1, .int .i64 a2_2]] rfl (by (try simp only [List.map_toArray, List.map_cons, List.map_nil]); first | done | rfl | (simp only [List.length_drop, List.length_take]; rfl)) ?_; (with_reducible refine (spec_pyAsked.calls k _ _ l0_0 a0_1 _ _ l1 a2_0 a2_1 a2_2 true _ ?side1 ?side2 ?side3 ?side4 A8.out).mono ?_); (case side1 => repeat (first | exact (Kd.C_below HR0_0.out HB.out) | (with_reducible refine Kd.C_alloc ?_ _) | (with_reducible refine Kd.C_drewN ?_ _) | (with_reducible refine Kd.C_drew ?_))); (case side2 => exact HC0_0.out); (case side3 => repeat (first | exact (Kd.C_below HR1.out HB.out) | (with_reducible refine Kd.C_alloc ?_ _) | (with_reducible refine Kd.C_drewN ?_ _) | (with_reducible refine Kd.C_drew ?_))); (case side4 => exact HC1.out); rintro e w14 ⟨rfl, hb⟩; refine ⟨_, rfl, ?_⟩; have n0_ := zm (blk_below (g := gb541) zk hb); have n1_ := zm (blk_below (g := gb542) zk hb); have n2_ := zm (below_step zb hb); clear BK541; clear BK542; clear HB; have BK541 := n0_; have BK542 := n1_; have HB := n2_; clear n0_ n1_ n2_; (try clear hb); (try clear hb2); (try clear hk); (try clear hi)) | (go_at_call 57; (with_reducible refine (spec_ntGood.calls k _ _ l3 t544 _ ?side1 ?side2 A10.out).mono ?_); (case side1 => repeat (first | exact (Kd.C_below HR3.out HB.out) | (with_reducible refine Kd.C_alloc ?_ _) | (with_reducible refine Kd.C_drewN ?_ _) | (with_reducible refine Kd.C_drew ?_))); (case side2 => exact HC3.out); rintro e w15 ⟨rfl, hb⟩; have n0_ := zm (blk_below (g := gb541) zk hb); have n1_ := zm (blk_below (g := gb542) zk hb); have n2_ := zm (below_step zb hb); clear BK541; clear BK542; clear HB; have BK541 := n0_; have BK542 := n1_; have HB := n2_; clear n0_ n1_ n2_; (try clear hb); (try clear hb2); (try clear hk); (try clear hi)))
   go_meet
   case rel => exact ⟨_, (!t544), (by first | rfl | (simp; done) | (simp [*]; done)), H', ⟨by first | omega | exact Nat.le_refl _⟩, ⟨zk⟩, ⟨zk⟩, ⟨zb⟩⟩
  ·
   replace c9 := Bool.eq_false_iff.mpr c9
   subst c9
   have H1 : (spec_IsTrueTo.j0 k l1 l3 true l0_0 a0_1 a2_0 a2_1 a2_2) = some (r1, r2) := by rw [if_neg (show ¬ (false = true) by decide)] at H; exact H
   clear H
   have H := H1
   clear H1
   have H' := zm H
   clear H
   have hnb16 := NB541_542.out
   have hnc16 := NB542_541.out
   obtain ⟨hcz17_0, hcz17_1, hfz17_0, hfz17_1⟩ := zc2 BK541.out
   obtain ⟨hcz18_0, hcz18_1, hcz18_2, hfz18_0, hfz18_1, hfz18_2⟩ := zc3 BK542.out
   go_wp2_with (first | ((with_reducible refine gate_callee (f := 49) rfl ?_); refine goesL_ (some 15) rfl rfl Try.func49 (by kernel_rfl) rfl #[.agg #[.slice A0_0 l0_0.length c0_0, .int .i64 a0_1], .slice A1 l1.length c1, .agg #[.int .i64 a2_0, .int .i64 a2_1, .int .i64 a2_2]] rfl (by (try simp only [List.map_toArray, List.map_cons, List.map_nil]); first | done | rfl | (simp only [List.length_drop, List.length_take]; rfl)) ?_; (with_reducible refine (spec_pyAsked.calls k _ _ l0_0 a0_1 _ _ l1 a2_0 a2_1 a2_2 false _ ?side1 ?side2 ?side3 ?side4 A8.out).mono ?_); (case side1 => repeat (first | exact (Kd.C_below HR0_0.out HB.out) | (with_reducible refine Kd.C_alloc ?_ _) | (with_reducible refine Kd.C_drewN ?_ _) | (with_reducible refine Kd.C_drew ?_))); (case side2 => exact HC0_0.out); (case side3 => repeat (first | exact (Kd.C_below HR1.out HB.out) | (with_reducible refine Kd.C_alloc ?_ _) | (with_reducible refine Kd.C_drewN ?_ _) | (with_reducible refine Kd.C_drew ?_))); (case side4 => exact HC1.out); rintro e w19 ⟨rfl, hb⟩; refine ⟨_, rfl, ?_⟩; have n0_ := zm (blk_below (g := gb541) zk hb); have n1_ := zm (blk_below (g := gb542) zk hb); have n2_ := zm (below_step zb hb); clear BK541; clear BK542; clear HB; have BK541 := n0_; have BK542 := n1_; have HB := n2_; clear n0_ n1_ n2_; (try clear hb); (try clear hb2); (try clear hk); (try clear hi)))
   go_meet
   case rel => exact ⟨_, (true), (by first | rfl | (simp; done) | (simp [*]; done)), H', ⟨by first | omega | exact Nat.le_refl _⟩, ⟨zk⟩, ⟨zk⟩, ⟨zb⟩⟩
 case rest =>
  clear HC5
  try clear c1
  try clear p2
  try clear c3
  try clear c4
  try clear c9
  try clear c11
  try clear c16
  try clear hcz12_0
  try clear hcz12_1
  try clear hcz13_0
  try clear hcz13_1
  try clear hcz13_2
  try clear hcz17_0
  try clear hcz17_1
  try clear hcz18_0
  try clear hcz18_1
  try clear hcz18_2
  try clear hfz12_0
  try clear hfz12_1
  try clear hfz13_0
  try clear hfz13_1
  try clear hfz13_2
  try clear hfz17_0
  try clear hfz17_1
  try clear hfz18_0
  try clear hfz18_1
  try clear hfz18_2
  obtain ⟨kq, x21_4, rfl, HA, HJ4, BK541, BK542, HB⟩ := hcut
  cases kq with
  | zero => exact absurd HA.out (by simp [spec_IsTrueTo.j0])
  | succ kj4 =>
   have H := HA.out
   clear HA
   simp only [spec_IsTrueTo.j0] at H
   by_cases c20 : x21_4 = true
   ·
    subst c20
    have H1 : (some (false, false)) = some (r1, r2) := by rw [if_pos rfl] at H; exact H
    clear H
    have H := H1
    clear H1
    simp only [Option.some.injEq, Prod.mk.injEq] at H
    obtain ⟨rfl, rfl⟩ := H
    go_wp2
    go_ret2
    exact ⟨zr, zb⟩
   ·
    replace c20 := Bool.eq_false_iff.mpr c20
    subst c20
    have H1 : ((spec_pyAll.f kj4 l0_0 a0_1 l1 a2_0 a2_1 a2_2).bind fun bt545 => ((spec_pyTrue.f kj4 bt545.1 a2_0 a2_1 a2_2 l3).bind fun t551 => (some (t551, true)))) = some (r1, r2) := by rw [if_neg (show ¬ (false = true) by decide)] at H; exact H
    clear H
    have H := H1
    clear H1
    replace H := Option.bind_eq_some_iff.mp H
    obtain ⟨⟨t545, t548⟩, A210, H⟩ := H
    replace H : ((spec_pyTrue.f kj4 t545 a2_0 a2_1 a2_2 l3).bind fun t551 => (some (t551, true))) = some (r1, r2) := H
    have A21 := zm A210
    clear A210
    replace H := Option.bind_eq_some_iff.mp H
    obtain ⟨t551, A220, H⟩ := H
    replace H : (some (t551, true)) = some (r1, r2) := H
    have A22 := zm A220
    clear A220
    simp only [Option.some.injEq, Prod.mk.injEq] at H
    obtain ⟨rfl, rfl⟩ := H
    have hnb23 := NB541_542.out
    have hnc23 := NB542_541.out
    obtain ⟨hcz24_0, hcz24_1, hfz24_0, hfz24_1⟩ := zc2 BK541.out
    obtain ⟨hcz25_0, hcz25_1, hcz25_2, hfz25_0, hfz25_1, hfz25_2⟩ := zc3 BK542.out
    go_wp2_with (first | ((with_reducible refine gate_callee (f := 50) rfl ?_); refine goesL_ (some 26) rfl rfl Try.func50 (by kernel_rfl) rfl #[.agg #[.slice A0_0 l0_0.length c0_0, .int .i64 a0_1], .slice A1 l1.length c1, .agg #[.int .i64 a2_0, .int .i64 a2_1, .int .i64 a2_2]] rfl (by (try simp only [List.map_toArray, List.map_cons, List.map_nil]); first | done | rfl | (simp only [List.length_drop, List.length_take]; rfl)) ?_; (with_reducible refine (spec_pyAll.calls kj4 _ _ l0_0 a0_1 _ _ l1 a2_0 a2_1 a2_2 t545 t548 _ ?side1 ?side2 ?side3 ?side4 A21.out).mono ?_); (case side1 => repeat (first | exact (Kd.C_below HR0_0.out HB.out) | (with_reducible refine Kd.C_alloc ?_ _) | (with_reducible refine Kd.C_drewN ?_ _) | (with_reducible refine Kd.C_drew ?_))); (case side2 => exact HC0_0.out); (case side3 => repeat (first | exact (Kd.C_below HR1.out HB.out) | (with_reducible refine Kd.C_alloc ?_ _) | (with_reducible refine Kd.C_drewN ?_ _) | (with_reducible refine Kd.C_drew ?_))); (case side4 => exact HC1.out); rintro e w26 ⟨v546, v549, rfl, ho0, ho1, hb⟩; refine ⟨_, rfl, ?_⟩; have n0_ := zm (Kd.R_lower ho0 (below_size zb)); have n1_ := zm (Kd.R_lower ho1 (below_size zb)); have n2_ := zm (blk_below (g := gb541) zk hb); have n3_ := zm (blk_below (g := gb542) zk hb); have n4_ := zm (below_step zb hb); clear BK541; clear BK542; clear HB; have HO547 := n0_; have HO550 := n1_; have BK541 := n2_; have BK542 := n3_; have HB := n4_; clear n0_ n1_ n2_ n3_ n4_; (try clear hb); (try clear hb2); (try clear hk); (try clear hi); (try clear ho0); (try clear ho1); obtain ⟨hcz27_0, hcz27_1, hcz27_2, hfz27_0, hfz27_1, hfz27_2⟩ := zc3 BK542.out; obtain ⟨Ao28, co28, eo28⟩ := Kd.R_slice HO547.out; subst eo28) | ((with_reducible refine gate_callee (f := 58) rfl ?_); refine goesL_ (some 32) rfl rfl Try.func58 (by kernel_rfl) rfl #[.slice Ao28 t545.length co28, .agg #[.int .i64 a2_0, .int .i64 a2_1, .int .i64 a2_2], .slice A3 l3.length c3] rfl (by (try simp only [List.map_toArray, List.map_cons, List.map_nil]); first | done | rfl | (simp only [List.length_drop, List.length_take]; rfl)) ?_; (with_reducible refine (spec_pyTrue.calls kj4 _ _ t545 a2_0 a2_1 a2_2 _ _ l3 t551 _ ?side1 ?side2 ?side3 ?side4 A22.out).mono ?_); (case side1 => repeat (first | exact (Kd.R_reads' HO547.out).2.2 | (with_reducible refine Kd.C_alloc ?_ _) | (with_reducible refine Kd.C_drewN ?_ _) | (with_reducible refine Kd.C_drew ?_))); (case side2 => exact (Kd.R_reads' HO547.out).2.1); (case side3 => repeat (first | exact (Kd.C_below HR3.out HB.out) | (with_reducible refine Kd.C_alloc ?_ _) | (with_reducible refine Kd.C_drewN ?_ _) | (with_reducible refine Kd.C_drew ?_))); (case side4 => exact HC3.out); rintro e w29 ⟨rfl, hb⟩; refine ⟨_, rfl, ?_⟩; have n0_ := zm (Kd.R_below (by (with_reducible repeat (first | apply Kd.R_alloc | apply Kd.R_drewN | apply Kd.R_drew)); exact HO547.out) hb); have n1_ := zm (Kd.R_below (by (with_reducible repeat (first | apply Kd.R_alloc | apply Kd.R_drewN | apply Kd.R_drew)); exact HO550.out) hb); have n2_ := zm (blk_below (g := gb541) zk hb); have n3_ := zm (blk_below (g := gb542) zk hb); have n4_ := zm (below_step zb hb); clear HO547; clear HO550; clear BK541; clear BK542; clear HB; have HO547 := n0_; have HO550 := n1_; have BK541 := n2_; have BK542 := n3_; have HB := n4_; clear n0_ n1_ n2_ n3_ n4_; (try clear hb); (try clear hb2); (try clear hk); (try clear hi)))
    go_ret2
    exact ⟨zr, zb⟩

/-! ### laws_toNote: function 59 -/
def laws_toNote.f (a0_0 : Int) (a0_1 : Int) (a0_2 : Int) : Option (Int × Int × Int) := some (a0_0, a0_1, a0_2)
set_option maxHeartbeats 8000000 in
set_option maxRecDepth 100000 in
theorem laws_toNote.calls (a0_0 : Int) (a0_1 : Int) (a0_2 : Int) (r1 : Int) (r2 : Int) (r3 : Int) (w : World) (h : laws_toNote.f a0_0 a0_1 a0_2 = some (r1, r2, r3)) :
  Calls Try.prog 59 #[.agg #[.int .i64 a0_0, .int .i64 a0_1, .int .i64 a0_2]] w fun e w' => e = .returned (.agg #[.int .i64 r1, .int .i64 r2, .int .i64 r3]) ∧ Below w.heap.size w w' := by
 have hu85 := Try.underlying85
 have hu83 := Try.underlying83
 have HB := zm (Below.refl w.heap.size w)
 have H : (some (a0_0, a0_1, a0_2)) = some (r1, r2, r3) := h
 clear h
 simp only [Option.some.injEq, Prod.mk.injEq] at H
 obtain ⟨rfl, rfl, rfl⟩ := H
 go_enter Try.func59, Try.ntmps59
 go_wp2_with (first | ((with_reducible refine gate_dst (N := 1) rfl ?_); refine box_event ?hg (N := 1) ?hd (cs := #[.int .i64 a0_0, .int .i64 a0_1, .int .i64 a0_2]) (t := 85) ?hr ?_; (case hd => rfl); (case hg => rfl); (case hr => first | (go_simp; done) | (go_simp; rfl)); intro gb552 hg w2 hbox hb; have n0_ := zm (below_step zb hb); have n1_ := zm (hbox); have n2_ := zm (zs hg zb : w.heap.size ≤ gb552); have n3_ := zm (zs hg zb : w.heap.size ≤ gb552); clear HB; have HB := n0_; have BK552 := n1_; have GW552 := n2_; have GE552 := n3_; clear n0_ n1_ n2_ n3_; clear hb hbox hg) | ((with_reducible refine gate_dst (N := 2) rfl ?_); refine box_event ?hg (N := 2) ?hd (cs := #[.int .i64 0, .int .i64 0, .int .i64 0]) (t := 83) ?hr ?_; (case hd => rfl); (case hg => rfl); (case hr => first | (go_simp; done) | (go_simp; rfl)); intro gb553 hg w3 hbox hb; have n0_ := zm (blk_below (g := gb552) zk hb); have n1_ := zm (below_step zb hb); have n2_ := zm (hbox); have n3_ := zm (zs hg zb : w.heap.size ≤ gb553); have n4_ := zm (zs hg zb : w.heap.size ≤ gb553); have n5_ := zm (zl hg zk : gb552 ≠ gb553); have n6_ := zm (zg hg zk : gb553 ≠ gb552); clear BK552; clear HB; have BK552 := n0_; have HB := n1_; have BK553 := n2_; have GW553 := n3_; have GE553 := n4_; have NB552_553 := n5_; have NB553_552 := n6_; clear n0_ n1_ n2_ n3_ n4_ n5_ n6_; clear hb hbox hg) | ((with_reducible refine gate_dst (N := 3) rfl ?_); refine box_event ?hg (N := 3) ?hd (cs := #[.int .i64 0, .int .i64 0, .int .i64 0]) (t := 83) ?hr ?_; (case hd => rfl); (case hg => rfl); (case hr => first | (go_simp; done) | (go_simp; rfl)); intro gb554 hg w4 hbox hb; have n0_ := zm (blk_below (g := gb552) zk hb); have n1_ := zm (blk_below (g := gb553) zk hb); have n2_ := zm (below_step zb hb); have n3_ := zm (hbox); have n4_ := zm (zs hg zb : w.heap.size ≤ gb554); have n5_ := zm (zs hg zb : w.heap.size ≤ gb554); have n6_ := zm (zl hg zk : gb552 ≠ gb554); have n7_ := zm (zg hg zk : gb554 ≠ gb552); have n8_ := zm (zl hg zk : gb553 ≠ gb554); have n9_ := zm (zg hg zk : gb554 ≠ gb553); clear BK552; clear BK553; clear HB; have BK552 := n0_; have BK553 := n1_; have HB := n2_; have BK554 := n3_; have GW554 := n4_; have GE554 := n5_; have NB552_554 := n6_; have NB554_552 := n7_; have NB553_554 := n8_; have NB554_553 := n9_; clear n0_ n1_ n2_ n3_ n4_ n5_ n6_ n7_ n8_ n9_; clear hb hbox hg; have hnb5 := NB552_553.out; have hnc5 := NB553_552.out; have hnb6 := NB552_554.out; have hnc6 := NB554_552.out; obtain ⟨hcz7_0, hcz7_1, hcz7_2, hfz7_0, hfz7_1, hfz7_2⟩ := zc3 BK552.out; have hnb8 := NB554_553.out; have hnc8 := NB553_554.out; obtain ⟨hcz9_0, hcz9_1, hcz9_2, hfz9_0, hfz9_1, hfz9_2⟩ := zc3 BK554.out; obtain ⟨hcz10_0, hcz10_1, hcz10_2, hfz10_0, hfz10_1, hfz10_2⟩ := zc3 BK553.out))
 refine bodyPost_ret (results_cell_row rfl _ _ gb553 83 #[.int .i64 a0_0, .int .i64 a0_1, .int .i64 a0_2] (0, 0) _ rfl (by (with_reducible repeat (first | refine blk_drewN ?_ _ | refine blk_drew ?_ | refine blk_alloc ?_ _)); refine blk_put (cs := #[.int .i64 a0_0, .int .i64 a0_1, .int .i64 0]) ?_ 2 _ rfl; (with_reducible repeat (first | refine blk_drewN ?_ _ | refine blk_drew ?_ | refine blk_alloc ?_ _)); refine blk_put (cs := #[.int .i64 a0_0, .int .i64 0, .int .i64 0]) ?_ 1 _ rfl; (with_reducible repeat (first | refine blk_drewN ?_ _ | refine blk_drew ?_ | refine blk_alloc ?_ _)); refine blk_put (cs := #[.int .i64 0, .int .i64 0, .int .i64 0]) ?_ 0 _ rfl; (with_reducible repeat (first | refine blk_drewN ?_ _ | refine blk_drew ?_ | refine blk_alloc ?_ _)); refine blk_far ?_ NB553_554.out _; (with_reducible repeat (first | refine blk_drewN ?_ _ | refine blk_drew ?_ | refine blk_alloc ?_ _)); refine blk_far ?_ NB553_554.out _; (with_reducible repeat (first | refine blk_drewN ?_ _ | refine blk_drew ?_ | refine blk_alloc ?_ _)); refine blk_far ?_ NB553_554.out _; (with_reducible repeat (first | refine blk_drewN ?_ _ | refine blk_drew ?_ | refine blk_alloc ?_ _)); exact BK553.out) Try.underlying83 rfl (by kernel_rfl)) rfl ?_
 exact ⟨zr, zb⟩

/-! ### laws_toNoteS: function 39 -/
def laws_toNoteS.l0 : Nat → List (S85) → List (S83) → Int → Option ((List (S83)))
  | 0, _, _, _ => none
  | k + 1, x0, x3, x4 => if x4 < (x0.length : Int) then (if 0 ≤ x4 then ((laws_toNote.f ((rd_T85 x0 x4).f0) ((rd_T85 x0 x4).f1) ((rd_T85 x0 x4).f2)).bind fun bt559 => (if x4 < (x3.length : Int) then (laws_toNoteS.l0 k x0 (x3.set (x4 : Int).toNat (⟨bt559.1, bt559.2.1, bt559.2.2⟩ : S83)) (wrap64 (x4 + 1))) else (none))) else (none)) else (some x3)
def laws_toNoteS.f (k : Nat) (l0 : List (S85)) : Option ((List (S83))) := if 0 ≤ (l0.length : Int) then (if ((l0.length : Int) : Int).toNat ≤ 11728124029610 then (laws_toNoteS.l0 k l0 (List.replicate ((l0.length : Int) : Int).toNat z83) 0) else (none)) else (none)
theorem laws_toNoteS.mono_l : ∀ k, (∀ y0 y1 y2, LeO (laws_toNoteS.l0 k y0 y1 y2) (laws_toNoteS.l0 (k + 1) y0 y1 y2))
  | 0 => fun _ _ _ r h => by simp [laws_toNoteS.l0] at h
  | k + 1 => by
    have ih0 := laws_toNoteS.mono_l k
    · intro y0 y1 y2
      unfold laws_toNoteS.l0
      repeat' first
      | (with_reducible exact ih0 _ _ _)
      | (with_reducible exact LeO.refl _)
      | (with_reducible exact LeO.none _)
      | (with_reducible refine LeO.ite ?_ ?_)
      | (with_reducible refine LeO.bind ?_ (fun _ => ?_))
      | exact ih0 _ _ _
      | exact LeO.none _
      | refine LeO.ite ?_ ?_
      | refine LeO.bind ?_ (fun _ => ?_)
theorem laws_toNoteS.mono : ∀ a0 k, LeO (laws_toNoteS.f k a0) (laws_toNoteS.f (k + 1) a0) := by
  intro a0 k
  have ih0 := laws_toNoteS.mono_l k
  unfold laws_toNoteS.f
  repeat' first
      | (with_reducible exact ih0 _ _ _)
      | (with_reducible exact LeO.refl _)
      | (with_reducible exact LeO.none _)
      | (with_reducible refine LeO.ite ?_ ?_)
      | (with_reducible refine LeO.bind ?_ (fun _ => ?_))
      | exact ih0 _ _ _
      | exact LeO.none _
      | refine LeO.ite ?_ ?_
      | refine LeO.bind ?_ (fun _ => ?_)
set_option maxHeartbeats 8000000 in
set_option maxRecDepth 100000 in
theorem laws_toNoteS.calls (k : Nat) (A0 : Option Addr) (c0 : Nat) (l0 : List (S85)) (r : List (S83)) (w : World) (hr0 : Kd.C k85 w A0 l0.length l0) (hc0 : l0.length ≤ c0) (h : laws_toNoteS.f k l0 = some r) :
  Calls Try.prog 39 #[.slice A0 l0.length c0] w fun e w' => ∃ v0_ : Value, e = .returned (v0_) ∧ Kd.R k83 83 w' w.heap.size (fun _ => True) v0_ r ∧ Below w.heap.size w w' := by
 have hu85 := Try.underlying85
 have hu83 := Try.underlying83
 have HR0 := zm hr0
 have HC0 := zm hc0
 clear hr0 hc0
 have HB := zm (Below.refl w.heap.size w)
 have H : (if 0 ≤ (l0.length : Int) then (if ((l0.length : Int) : Int).toNat ≤ 11728124029610 then (laws_toNoteS.l0 k l0 (List.replicate ((l0.length : Int) : Int).toNat z83) 0) else (none)) else (none)) = some r := h
 clear h
 by_cases c2 : 0 ≤ (l0.length : Int)
 ·
  rw [if_pos c2] at H
  have c2b0 := eq_true c2
  have c2b1 : decide (0 ≤ (l0.length : Int)) = true := decide_eq_true c2
  clear c2
  by_cases c3 : ((l0.length : Int) : Int).toNat ≤ 11728124029610
  ·
   rw [if_pos c3] at H
   have c3b0 := eq_true c3
   have c3b1 : decide (((l0.length : Int) : Int).toNat ≤ 11728124029610) = true := decide_eq_true c3
   clear c3
   obtain ⟨y555, hy555⟩ : ∃ y_ : List (S83), y_ = (List.replicate ((l0.length : Int) : Int).toNat z83) := ⟨_, rfl⟩
   replace H : (laws_toNoteS.l0 k l0 y555 0) = some r := by first | (rw [hy555]; with_reducible exact H) | (have H2_ := (Option.bind_some _ _).symm.trans H; rw [hy555]; with_reducible exact H2_) | (have H2_ := (Option.bind_some _ _).symm.trans H; with_reducible exact H2_) | with_reducible exact H | (rw [hy555]; exact H) | exact H
   have Ny555 := zm hy555
   clear hy555
   have H' := zm H
   clear H
   go_enter Try.func39, Try.ntmps39
   go_wp2_with (first | ((with_reducible refine gate_dst (N := 7) rfl ?_); refine Kd.R_make k83 _ 83 rfl (N := 7) rfl 61 _ _ rfl (l0.length : Int) rfl rfl Try.underlying61 (.agg #[(.int .i64 0), (.int .i64 0), (.int .i64 0)]) 24 info83 rfl (by decide) (by omega) z83 (ok := fun _ => True) (okp := fun _ => True) (k83_mkM _ _ _ z83 ) (fun _ hk => hk) trivial (of_decide_eq_true (by first | (with_reducible assumption) | assumption)) (Nat.le_trans (Nat.mul_le_mul_right _ (of_decide_eq_true (by first | (with_reducible assumption) | assumption) : (l0.length : Int).toNat ≤ 11728124029610)) (by omega)) (Below.refl _ _) (Nat.le_refl _) ?_; intro v556 w4 ho5 hb hg_ hnew_; clear hg_ hnew_; (first | rw [← Ny555.out] at ho5 | (simp only [Int.reduceToNat] at ho5; rw [← Ny555.out] at ho5)); have n0_ := zm (Kd.R_lower ho5 (below_size zb)); have n1_ := zm (below_step zb hb); clear HB; have HO557 := n0_; have HB := n1_; clear n0_ n1_; clear hb ho5))
   go_loopg [4] k (fun kq v4 w' => ∃ (x3_1 : List (S83)) (x4_1 : Int), v4 = .int .i64 x4_1 ∧ Aside0 (laws_toNoteS.l0 kq l0 x3_1 x4_1 = some r) ∧ Aside0 (kq ≤ k) ∧ Aside0 (Kd.R k83 83 w' w.heap.size (fun _ => True) v556 x3_1) ∧ Aside0 (Below w.heap.size w w'))
   case atStart => exact ⟨(y555), (0), (by first | rfl | (simp; done) | (simp [*]; done)), H', ⟨Nat.le_refl _⟩, ⟨by (with_reducible repeat (first | apply Kd.R_alloc | apply Kd.R_drewN | apply Kd.R_drew)); exact HO557.out⟩, ⟨zb⟩⟩
   case round =>
    clear H'
    try clear c2
    try clear c2b0
    try clear c2b1
    try clear p2
    try clear c3
    try clear c3b0
    try clear c3b1
    obtain ⟨x3_1, x4_1, rfl, HA, HK1, HO_3, HB⟩ := hrel
    cases gk with
    | zero => exact absurd HA.out (by simp [laws_toNoteS.l0])
    | succ k1 =>
     have H := HA.out
     clear HA
     simp only [laws_toNoteS.l0] at H
     by_cases c6 : x4_1 < (l0.length : Int)
     ·
      rw [if_pos c6] at H
      have c6b0 : decide (x4_1 < (l0.length : Int)) = true := decide_eq_true c6
      clear c6
      by_cases c7 : 0 ≤ x4_1
      ·
       rw [if_pos c7] at H
       have c7b0 : decide (0 ≤ x4_1) = true := decide_eq_true c7
       clear c7
       replace H := Option.bind_eq_some_iff.mp H
       obtain ⟨⟨t559, t560, t561⟩, A80, H⟩ := H
       replace H : (if x4_1 < (x3_1.length : Int) then (laws_toNoteS.l0 k1 l0 (x3_1.set (x4_1 : Int).toNat (⟨t559, t560, t561⟩ : S83)) (wrap64 (x4_1 + 1))) else (none)) = some r := H
       have A8 := zm A80
       clear A80
       by_cases c9 : x4_1 < (x3_1.length : Int)
       ·
        rw [if_pos c9] at H
        have c9b0 : decide (x4_1 < (x3_1.length : Int)) = true := decide_eq_true c9
        clear c9
        obtain ⟨y562, hy562⟩ : ∃ y_ : List (S83), y_ = (x3_1.set (x4_1 : Int).toNat (⟨t559, t560, t561⟩ : S83)) := ⟨_, rfl⟩
        replace H : (laws_toNoteS.l0 k1 l0 y562 (wrap64 (x4_1 + 1))) = some r := by first | (rw [hy562]; with_reducible exact H) | (have H2_ := (Option.bind_some _ _).symm.trans H; rw [hy562]; with_reducible exact H2_) | (have H2_ := (Option.bind_some _ _).symm.trans H; with_reducible exact H2_) | with_reducible exact H | (rw [hy562]; exact H) | exact H
        have Ny562 := zm hy562
        clear hy562
        have H' := zm H
        clear H
        have p558 : 0 ≤ (x4_1 : Int) := zd
        have q558 : x4_1 < (l0.length : Int) := zd
        obtain ⟨ad558, e558, hx558_0, hx558_1, hx558_2⟩ := at_T85 HR0.out x4_1 p558 q558
        cases e558
        replace hx558_0 := zx HB.out hx558_0
        replace hx558_1 := zx HB.out hx558_1
        replace hx558_2 := zx HB.out hx558_2
        replace p558 := eq_true p558
        replace q558 := eq_true q558
        go_wp2_with (first | ((with_reducible refine gate_callee (f := 59) rfl ?_); refine goesL_ (some 20) rfl rfl Try.func59 (by kernel_rfl) rfl #[.agg #[.int .i64 ((rd_T85 l0 x4_1).f0), .int .i64 ((rd_T85 l0 x4_1).f1), .int .i64 ((rd_T85 l0 x4_1).f2)]] rfl (by (try simp only [List.map_toArray, List.map_cons, List.map_nil]); first | done | rfl | (simp only [List.length_drop, List.length_take]; rfl)) ?_; (with_reducible refine (laws_toNote.calls ((rd_T85 l0 x4_1).f0) ((rd_T85 l0 x4_1).f1) ((rd_T85 l0 x4_1).f2) t559 t560 t561 _ A8.out).mono ?_); rintro e w11 ⟨rfl, hb⟩; refine ⟨_, rfl, ?_⟩; have n0_ := zm (Kd.R_below (by (with_reducible repeat (first | apply Kd.R_alloc | apply Kd.R_drewN | apply Kd.R_drew)); exact HO_3.out) hb); have n1_ := zm (below_step zb hb); clear HO_3; clear HB; have HO_3 := n0_; have HB := n1_; clear n0_ n1_; (try clear hb); (try clear hb2); (try clear hk); (try clear hi); have p10 : 0 ≤ (x4_1 : Int) := zd; have q10 : (x4_1 : Int) < ((x3_1.length : Int) : Int) := zd; obtain ⟨go10, co10, eo10, gb10, gl10, cl10, HG10⟩ := Kd.R_form HO_3.out (by omega); (first | cases eo10 | (injection eo10 with ea_ en_ ec_; (first | subst ea_ | (injection ea_ with ea_; subst ea_)); subst ec_; clear en_)); have GB10 := zm gb10; have GG10 := zm HG10; clear gb10 gl10 HG10; obtain ⟨ce10, hcl10, hM10, hcc10, hfr10⟩ := Kd.R_elem HO_3.out z83 (x4_1 : Int) p10 q10; obtain rfl := k83_openM hM10; have hx10_0 : w11.cell? ⟨go10, (x4_1 : Int).toNat * 3, none⟩ = some (.int .i64 ((rd_T83 x3_1 x4_1).f0)) := hcc10 0 _ rfl; have hx10_1 : w11.cell? ⟨go10, (x4_1 : Int).toNat * 3 + 1, none⟩ = some (.int .i64 ((rd_T83 x3_1 x4_1).f1)) := hcc10 1 _ rfl; have hx10_2 : w11.cell? ⟨go10, (x4_1 : Int).toNat * 3 + 2, none⟩ = some (.int .i64 ((rd_T83 x3_1 x4_1).f2)) := hcc10 2 _ rfl; have hf10_0 : w11.frozen? ⟨go10, (x4_1 : Int).toNat * 3, none⟩ = false := hfr10 0; have hf10_1 : w11.frozen? ⟨go10, (x4_1 : Int).toNat * 3 + 1, none⟩ = false := hfr10 1; have hf10_2 : w11.frozen? ⟨go10, (x4_1 : Int).toNat * 3 + 2, none⟩ = false := hfr10 2; clear hcl10 hcc10 hfr10 hM10; replace p10 := eq_true p10; replace q10 := eq_true q10; have HX12 := zm (show Kd.R k83 83 w11 w.heap.size (fun _ => True) (.slice (some ⟨go10, 0, none⟩) x3_1.length co10) x3_1 from (by (with_reducible repeat (first | apply Kd.R_alloc | apply Kd.R_drewN | apply Kd.R_drew)); exact HO_3.out)); obtain ⟨ce12, hcl12, hM12, hcc12, hfr12⟩ := Kd.R_elem HX12.out z83 (x4_1 : Int) (of_decide_eq_true (by first | (with_reducible assumption) | assumption)) (by have h_ : (x4_1 : Int) < ((x3_1.length : Int) : Int) := of_decide_eq_true (by first | (with_reducible assumption) | assumption); first | exact h_ | (have e_ := (Kd.R_reads' HO_3.out).1; omega) | simpa using h_); obtain rfl := k83_openM hM12; have HP12 := Kd.R_seg HX12.out (x4_1 : Int) (of_decide_eq_true (by first | (with_reducible assumption) | assumption)) (by have h_ : (x4_1 : Int) < ((x3_1.length : Int) : Int) := of_decide_eq_true (by first | (with_reducible assumption) | assumption); first | exact h_ | (have e_ := (Kd.R_reads' HO_3.out).1; omega) | simpa using h_) (seg := [.int .i64 t559, .int .i64 t560, .int .i64 t561]) (j := 0) hcl12 hcc12 (show 3 ≤ 3 from by decide) (x' := (⟨t559, t560, t561⟩ : S83)) (k83_mkM _ _ _ (⟨t559, t560, t561⟩ : S83) ) (fun _ hk => hk); have hx12_0 := hcc12 0 _ rfl; (try simp only [show (k83).sz = 3 from rfl, Nat.mul_one, Nat.add_zero] at hx12_0); have hf12_0 := hfr12 0; (try simp only [show (k83).sz = 3 from rfl, Nat.mul_one, Nat.add_zero] at hf12_0); have hx12_1 := hcc12 1 _ rfl; (try simp only [show (k83).sz = 3 from rfl, Nat.mul_one, Nat.add_zero] at hx12_1); have hf12_1 := hfr12 1; (try simp only [show (k83).sz = 3 from rfl, Nat.mul_one, Nat.add_zero] at hf12_1); have hx12_2 := hcc12 2 _ rfl; (try simp only [show (k83).sz = 3 from rfl, Nat.mul_one, Nat.add_zero] at hx12_2); have hf12_2 := hfr12 2; (try simp only [show (k83).sz = 3 from rfl, Nat.mul_one, Nat.add_zero] at hf12_2); clear hcl12 hcc12 hfr12 hM12) | ((with_reducible refine gate_store (t := 83) (p := 21) rfl ?_); refine store_event (t := 83) (p := 21) (v := ?vo_w13) (w1 := (((w11.setCell ⟨go10, (x4_1 : Int).toNat * 3, none⟩ (.int .i64 t559)).setCell ⟨go10, (x4_1 : Int).toNat * 3 + 1, none⟩ (.int .i64 t560)).setCell ⟨go10, (x4_1 : Int).toNat * 3 + 2, none⟩ (.int .i64 t561))) ?hg ?ho ?hn ?hr ?_; (case ho => rfl); (case hg => rfl); (case hn => rfl); (case hr => first | (go_simp; done) | (go_simp; rfl)); intro w13 hw; have hg : w11.grownBy w13 (some go10) := (by rw [hw]; exact HP12.2); have hp_ : Kd.R k83 83 w13 w.heap.size (fun _ => True) (.slice (some ⟨go10, 0, none⟩) x3_1.length co10) y562 := (by rw [hw, Ny562.out]; exact HP12.1); clear HP12; have n0_ := zm (hp_); have n1_ := zm ((by rw [hw]; exact below_set (below_set (below_set (HB.out) GB10.out) GB10.out) GB10.out : Below w.heap.size w w13)); clear HO_3; clear HB; have HO_3 := n0_; have HB := n1_; clear n0_ n1_; clear hg hw hp_))
        go_roundg k1
        case measure => have := HK1.out; omega
        case rel => exact ⟨(y562), (wrap64 (x4_1 + 1)), (by first | rfl | (simp; done) | (simp [*]; done)), H', ⟨by have := HK1.out; omega⟩, ⟨by (with_reducible repeat (first | apply Kd.R_alloc | apply Kd.R_drewN | apply Kd.R_drew)); exact HO_3.out⟩, ⟨zb⟩⟩
       ·
        rw [if_neg c9] at H
        exact absurd H (by simp)
      ·
       rw [if_neg c7] at H
       exact absurd H (by simp)
     ·
      rw [if_neg c6] at H
      have c6b0 : decide (x4_1 < (l0.length : Int)) = false := decide_eq_false c6
      clear c6
      obtain rfl := Option.some.inj H
      go_wp2
      go_ret
      exact ⟨_, zr, by (with_reducible repeat (first | apply Kd.R_alloc | apply Kd.R_drewN | apply Kd.R_drew)); exact HO_3.out, zb⟩
  ·
   rw [if_neg c3] at H
   exact absurd H (by simp)
 ·
  rw [if_neg c2] at H
  exact absurd H (by simp)

/-! ### impl_noteEnd: function 66 -/
def impl_noteEnd.f (a0_0 : Int) (a0_1 : Int) (a0_2 : Int) : Option (Int) := some (wrap64 (a0_1 + a0_2))
set_option maxHeartbeats 8000000 in
set_option maxRecDepth 100000 in
theorem impl_noteEnd.calls (a0_0 : Int) (a0_1 : Int) (a0_2 : Int) (r : Int) (w : World) (h : impl_noteEnd.f a0_0 a0_1 a0_2 = some r) :
  Calls Try.prog 66 #[.agg #[.int .i64 a0_0, .int .i64 a0_1, .int .i64 a0_2]] w fun e w' => e = .returned (.int .i64 r) ∧ Below w.heap.size w w' := by
 have hu83 := Try.underlying83
 have HB := zm (Below.refl w.heap.size w)
 have H : (some (wrap64 (a0_1 + a0_2))) = some r := h
 clear h
 obtain rfl := Option.some.inj H
 go_enter Try.func66, Try.ntmps66
 go_wp2_with (first | ((with_reducible refine gate_dst (N := 1) rfl ?_); refine box_event ?hg (N := 1) ?hd (cs := #[.int .i64 a0_0, .int .i64 a0_1, .int .i64 a0_2]) (t := 83) ?hr ?_; (case hd => rfl); (case hg => rfl); (case hr => first | (go_simp; done) | (go_simp; rfl)); intro gb563 hg w2 hbox hb; have n0_ := zm (below_step zb hb); have n1_ := zm (hbox); have n2_ := zm (zs hg zb : w.heap.size ≤ gb563); have n3_ := zm (zs hg zb : w.heap.size ≤ gb563); clear HB; have HB := n0_; have BK563 := n1_; have GW563 := n2_; have GE563 := n3_; clear n0_ n1_ n2_ n3_; clear hb hbox hg; obtain ⟨hcz3_0, hcz3_1, hcz3_2, hfz3_0, hfz3_1, hfz3_2⟩ := zc3 BK563.out))
 go_ret
 exact ⟨zr, zb⟩

/-! ### impl_IsNote: function 77 -/
def impl_IsNote.f (a0_0 : Int) (a0_1 : Int) (a0_2 : Int) : Option (Bool) := if a0_0 ≥ 24 then (if a0_0 ≤ 96 then (if a0_1 ≥ 0 then (if a0_1 ≤ 999 then (if a0_2 ≥ 1 then (some (decide (a0_2 ≤ 99))) else (some false)) else (some false)) else (some false)) else (some false)) else (some false)
set_option maxHeartbeats 8000000 in
set_option maxRecDepth 100000 in
theorem impl_IsNote.calls (a0_0 : Int) (a0_1 : Int) (a0_2 : Int) (r : Bool) (w : World) (h : impl_IsNote.f a0_0 a0_1 a0_2 = some r) :
  Calls Try.prog 77 #[.agg #[.int .i64 a0_0, .int .i64 a0_1, .int .i64 a0_2]] w fun e w' => e = .returned (.bool r) ∧ Below w.heap.size w w' := by
 have hu83 := Try.underlying83
 have HB := zm (Below.refl w.heap.size w)
 have H : (if a0_0 ≥ 24 then (if a0_0 ≤ 96 then (if a0_1 ≥ 0 then (if a0_1 ≤ 999 then (if a0_2 ≥ 1 then (some (decide (a0_2 ≤ 99))) else (some false)) else (some false)) else (some false)) else (some false)) else (some false)) = some r := h
 clear h
 by_cases c2 : a0_0 ≥ 24
 ·
  rw [if_pos c2] at H
  have c2b0 : decide (24 ≤ a0_0) = true := decide_eq_true c2
  clear c2
  by_cases c3 : a0_0 ≤ 96
  ·
   rw [if_pos c3] at H
   have c3b0 : decide (a0_0 ≤ 96) = true := decide_eq_true c3
   clear c3
   by_cases c4 : a0_1 ≥ 0
   ·
    rw [if_pos c4] at H
    have c4b0 : decide (0 ≤ a0_1) = true := decide_eq_true c4
    clear c4
    by_cases c5 : a0_1 ≤ 999
    ·
     rw [if_pos c5] at H
     have c5b0 : decide (a0_1 ≤ 999) = true := decide_eq_true c5
     clear c5
     by_cases c6 : a0_2 ≥ 1
     ·
      rw [if_pos c6] at H
      have c6b0 : decide (1 ≤ a0_2) = true := decide_eq_true c6
      clear c6
      obtain rfl := Option.some.inj H
      go_enter Try.func77, Try.ntmps77
      go_wp2_with (first | ((with_reducible refine gate_dst (N := 1) rfl ?_); refine box_event ?hg (N := 1) ?hd (cs := #[.int .i64 a0_0, .int .i64 a0_1, .int .i64 a0_2]) (t := 83) ?hr ?_; (case hd => rfl); (case hg => rfl); (case hr => first | (go_simp; done) | (go_simp; rfl)); intro gb564 hg w7 hbox hb; have n0_ := zm (below_step zb hb); have n1_ := zm (hbox); have n2_ := zm (zs hg zb : w.heap.size ≤ gb564); have n3_ := zm (zs hg zb : w.heap.size ≤ gb564); clear HB; have HB := n0_; have BK564 := n1_; have GW564 := n2_; have GE564 := n3_; clear n0_ n1_ n2_ n3_; clear hb hbox hg; obtain ⟨hcz8_0, hcz8_1, hcz8_2, hfz8_0, hfz8_1, hfz8_2⟩ := zc3 BK564.out))
      go_ret
      exact ⟨zr, zb⟩
     ·
      rw [if_neg c6] at H
      have c6b0 : decide (1 ≤ a0_2) = false := decide_eq_false c6
      clear c6
      obtain rfl := Option.some.inj H
      go_enter Try.func77, Try.ntmps77
      go_wp2_with (first | ((with_reducible refine gate_dst (N := 1) rfl ?_); refine box_event ?hg (N := 1) ?hd (cs := #[.int .i64 a0_0, .int .i64 a0_1, .int .i64 a0_2]) (t := 83) ?hr ?_; (case hd => rfl); (case hg => rfl); (case hr => first | (go_simp; done) | (go_simp; rfl)); intro gb564 hg w9 hbox hb; have n0_ := zm (below_step zb hb); have n1_ := zm (hbox); have n2_ := zm (zs hg zb : w.heap.size ≤ gb564); have n3_ := zm (zs hg zb : w.heap.size ≤ gb564); clear HB; have HB := n0_; have BK564 := n1_; have GW564 := n2_; have GE564 := n3_; clear n0_ n1_ n2_ n3_; clear hb hbox hg; obtain ⟨hcz10_0, hcz10_1, hcz10_2, hfz10_0, hfz10_1, hfz10_2⟩ := zc3 BK564.out))
      go_ret
      exact ⟨zr, zb⟩
    ·
     rw [if_neg c5] at H
     have c5b0 : decide (a0_1 ≤ 999) = false := decide_eq_false c5
     clear c5
     obtain rfl := Option.some.inj H
     go_enter Try.func77, Try.ntmps77
     go_wp2_with (first | ((with_reducible refine gate_dst (N := 1) rfl ?_); refine box_event ?hg (N := 1) ?hd (cs := #[.int .i64 a0_0, .int .i64 a0_1, .int .i64 a0_2]) (t := 83) ?hr ?_; (case hd => rfl); (case hg => rfl); (case hr => first | (go_simp; done) | (go_simp; rfl)); intro gb564 hg w11 hbox hb; have n0_ := zm (below_step zb hb); have n1_ := zm (hbox); have n2_ := zm (zs hg zb : w.heap.size ≤ gb564); have n3_ := zm (zs hg zb : w.heap.size ≤ gb564); clear HB; have HB := n0_; have BK564 := n1_; have GW564 := n2_; have GE564 := n3_; clear n0_ n1_ n2_ n3_; clear hb hbox hg; obtain ⟨hcz12_0, hcz12_1, hcz12_2, hfz12_0, hfz12_1, hfz12_2⟩ := zc3 BK564.out))
     go_ret
     exact ⟨zr, zb⟩
   ·
    rw [if_neg c4] at H
    have c4b0 : decide (0 ≤ a0_1) = false := decide_eq_false c4
    clear c4
    obtain rfl := Option.some.inj H
    go_enter Try.func77, Try.ntmps77
    go_wp2_with (first | ((with_reducible refine gate_dst (N := 1) rfl ?_); refine box_event ?hg (N := 1) ?hd (cs := #[.int .i64 a0_0, .int .i64 a0_1, .int .i64 a0_2]) (t := 83) ?hr ?_; (case hd => rfl); (case hg => rfl); (case hr => first | (go_simp; done) | (go_simp; rfl)); intro gb564 hg w13 hbox hb; have n0_ := zm (below_step zb hb); have n1_ := zm (hbox); have n2_ := zm (zs hg zb : w.heap.size ≤ gb564); have n3_ := zm (zs hg zb : w.heap.size ≤ gb564); clear HB; have HB := n0_; have BK564 := n1_; have GW564 := n2_; have GE564 := n3_; clear n0_ n1_ n2_ n3_; clear hb hbox hg; obtain ⟨hcz14_0, hcz14_1, hcz14_2, hfz14_0, hfz14_1, hfz14_2⟩ := zc3 BK564.out))
    go_ret
    exact ⟨zr, zb⟩
  ·
   rw [if_neg c3] at H
   have c3b0 : decide (a0_0 ≤ 96) = false := decide_eq_false c3
   clear c3
   obtain rfl := Option.some.inj H
   go_enter Try.func77, Try.ntmps77
   go_wp2_with (first | ((with_reducible refine gate_dst (N := 1) rfl ?_); refine box_event ?hg (N := 1) ?hd (cs := #[.int .i64 a0_0, .int .i64 a0_1, .int .i64 a0_2]) (t := 83) ?hr ?_; (case hd => rfl); (case hg => rfl); (case hr => first | (go_simp; done) | (go_simp; rfl)); intro gb564 hg w15 hbox hb; have n0_ := zm (below_step zb hb); have n1_ := zm (hbox); have n2_ := zm (zs hg zb : w.heap.size ≤ gb564); have n3_ := zm (zs hg zb : w.heap.size ≤ gb564); clear HB; have HB := n0_; have BK564 := n1_; have GW564 := n2_; have GE564 := n3_; clear n0_ n1_ n2_ n3_; clear hb hbox hg; obtain ⟨hcz16_0, hcz16_1, hcz16_2, hfz16_0, hfz16_1, hfz16_2⟩ := zc3 BK564.out))
   go_ret
   exact ⟨zr, zb⟩
 ·
  rw [if_neg c2] at H
  have c2b0 : decide (24 ≤ a0_0) = false := decide_eq_false c2
  clear c2
  obtain rfl := Option.some.inj H
  go_enter Try.func77, Try.ntmps77
  go_wp2_with (first | ((with_reducible refine gate_dst (N := 1) rfl ?_); refine box_event ?hg (N := 1) ?hd (cs := #[.int .i64 a0_0, .int .i64 a0_1, .int .i64 a0_2]) (t := 83) ?hr ?_; (case hd => rfl); (case hg => rfl); (case hr => first | (go_simp; done) | (go_simp; rfl)); intro gb564 hg w17 hbox hb; have n0_ := zm (below_step zb hb); have n1_ := zm (hbox); have n2_ := zm (zs hg zb : w.heap.size ≤ gb564); have n3_ := zm (zs hg zb : w.heap.size ≤ gb564); clear HB; have HB := n0_; have BK564 := n1_; have GW564 := n2_; have GE564 := n3_; clear n0_ n1_ n2_ n3_; clear hb hbox hg; obtain ⟨hcz18_0, hcz18_1, hcz18_2, hfz18_0, hfz18_1, hfz18_2⟩ := zc3 BK564.out))
  go_ret
  exact ⟨zr, zb⟩

/-! ### impl_noteLess: function 78 -/
def impl_noteLess.f (a0_0 : Int) (a0_1 : Int) (a0_2 : Int) (a1_0 : Int) (a1_1 : Int) (a1_2 : Int) : Option (Bool) := if a0_1 = a1_1 then (some (decide (a0_0 < a1_0))) else (some (decide (a0_1 < a1_1)))
set_option maxHeartbeats 8000000 in
set_option maxRecDepth 100000 in
theorem impl_noteLess.calls (a0_0 : Int) (a0_1 : Int) (a0_2 : Int) (a1_0 : Int) (a1_1 : Int) (a1_2 : Int) (r : Bool) (w : World) (h : impl_noteLess.f a0_0 a0_1 a0_2 a1_0 a1_1 a1_2 = some r) :
  Calls Try.prog 78 #[.agg #[.int .i64 a0_0, .int .i64 a0_1, .int .i64 a0_2], .agg #[.int .i64 a1_0, .int .i64 a1_1, .int .i64 a1_2]] w fun e w' => e = .returned (.bool r) ∧ Below w.heap.size w w' := by
 have hu83 := Try.underlying83
 have HB := zm (Below.refl w.heap.size w)
 have H : (if a0_1 = a1_1 then (some (decide (a0_0 < a1_0))) else (some (decide (a0_1 < a1_1)))) = some r := h
 clear h
 by_cases c3 : a0_1 = a1_1
 ·
  rw [if_pos c3] at H
  have c3b0 : (a0_1 == a1_1) = true := beq_iff_eq.mpr c3
  have c3b1 : (a0_1 != a1_1) = false := bne_eq_false_iff_eq.mpr c3
  clear c3
  obtain rfl := Option.some.inj H
  go_enter Try.func78, Try.ntmps78
  go_wp2_with (first | ((with_reducible refine gate_dst (N := 2) rfl ?_); refine box_event ?hg (N := 2) ?hd (cs := #[.int .i64 a0_0, .int .i64 a0_1, .int .i64 a0_2]) (t := 83) ?hr ?_; (case hd => rfl); (case hg => rfl); (case hr => first | (go_simp; done) | (go_simp; rfl)); intro gb565 hg w4 hbox hb; have n0_ := zm (below_step zb hb); have n1_ := zm (hbox); have n2_ := zm (zs hg zb : w.heap.size ≤ gb565); have n3_ := zm (zs hg zb : w.heap.size ≤ gb565); clear HB; have HB := n0_; have BK565 := n1_; have GW565 := n2_; have GE565 := n3_; clear n0_ n1_ n2_ n3_; clear hb hbox hg) | ((with_reducible refine gate_dst (N := 3) rfl ?_); refine box_event ?hg (N := 3) ?hd (cs := #[.int .i64 a1_0, .int .i64 a1_1, .int .i64 a1_2]) (t := 83) ?hr ?_; (case hd => rfl); (case hg => rfl); (case hr => first | (go_simp; done) | (go_simp; rfl)); intro gb566 hg w5 hbox hb; have n0_ := zm (blk_below (g := gb565) zk hb); have n1_ := zm (below_step zb hb); have n2_ := zm (hbox); have n3_ := zm (zs hg zb : w.heap.size ≤ gb566); have n4_ := zm (zs hg zb : w.heap.size ≤ gb566); have n5_ := zm (zl hg zk : gb565 ≠ gb566); have n6_ := zm (zg hg zk : gb566 ≠ gb565); clear BK565; clear HB; have BK565 := n0_; have HB := n1_; have BK566 := n2_; have GW566 := n3_; have GE566 := n4_; have NB565_566 := n5_; have NB566_565 := n6_; clear n0_ n1_ n2_ n3_ n4_ n5_ n6_; clear hb hbox hg; have hnb6 := NB565_566.out; have hnc6 := NB566_565.out; obtain ⟨hcz7_0, hcz7_1, hcz7_2, hfz7_0, hfz7_1, hfz7_2⟩ := zc3 BK565.out; obtain ⟨hcz8_0, hcz8_1, hcz8_2, hfz8_0, hfz8_1, hfz8_2⟩ := zc3 BK566.out))
  go_ret
  exact ⟨zr, zb⟩
 ·
  rw [if_neg c3] at H
  have c3b0 : (a0_1 == a1_1) = false := beq_eq_false_iff_ne.mpr c3
  have c3b1 : (a0_1 != a1_1) = true := bne_iff_ne.mpr c3
  obtain rfl := Option.some.inj H
  go_enter Try.func78, Try.ntmps78
  go_wp2_with (first | ((with_reducible refine gate_dst (N := 2) rfl ?_); refine box_event ?hg (N := 2) ?hd (cs := #[.int .i64 a0_0, .int .i64 a0_1, .int .i64 a0_2]) (t := 83) ?hr ?_; (case hd => rfl); (case hg => rfl); (case hr => first | (go_simp; done) | (go_simp; rfl)); intro gb565 hg w9 hbox hb; have n0_ := zm (below_step zb hb); have n1_ := zm (hbox); have n2_ := zm (zs hg zb : w.heap.size ≤ gb565); have n3_ := zm (zs hg zb : w.heap.size ≤ gb565); clear HB; have HB := n0_; have BK565 := n1_; have GW565 := n2_; have GE565 := n3_; clear n0_ n1_ n2_ n3_; clear hb hbox hg) | ((with_reducible refine gate_dst (N := 3) rfl ?_); refine box_event ?hg (N := 3) ?hd (cs := #[.int .i64 a1_0, .int .i64 a1_1, .int .i64 a1_2]) (t := 83) ?hr ?_; (case hd => rfl); (case hg => rfl); (case hr => first | (go_simp; done) | (go_simp; rfl)); intro gb566 hg w10 hbox hb; have n0_ := zm (blk_below (g := gb565) zk hb); have n1_ := zm (below_step zb hb); have n2_ := zm (hbox); have n3_ := zm (zs hg zb : w.heap.size ≤ gb566); have n4_ := zm (zs hg zb : w.heap.size ≤ gb566); have n5_ := zm (zl hg zk : gb565 ≠ gb566); have n6_ := zm (zg hg zk : gb566 ≠ gb565); clear BK565; clear HB; have BK565 := n0_; have HB := n1_; have BK566 := n2_; have GW566 := n3_; have GE566 := n4_; have NB565_566 := n5_; have NB566_565 := n6_; clear n0_ n1_ n2_ n3_ n4_ n5_ n6_; clear hb hbox hg; have hnb11 := NB565_566.out; have hnc11 := NB566_565.out; obtain ⟨hcz12_0, hcz12_1, hcz12_2, hfz12_0, hfz12_1, hfz12_2⟩ := zc3 BK565.out; obtain ⟨hcz13_0, hcz13_1, hcz13_2, hfz13_0, hfz13_1, hfz13_2⟩ := zc3 BK566.out))
  go_ret
  exact ⟨zr, zb⟩

end Go.Proofs.Ytioheacdldgaaaa.PAll
