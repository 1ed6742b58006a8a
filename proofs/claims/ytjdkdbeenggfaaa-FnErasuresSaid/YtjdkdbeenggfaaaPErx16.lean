import Derived.Test.YtjdkdbeenggfaaaPErx0
import Derived.Test.YtjdkdbeenggfaaaPErx15
namespace Go.Proofs.Ytjdkdbeenggfaaa.PEr
open Go.RowKit Go.Proofs.YtjdkdbeenggfaaaW.PrintWords Go.Proofs.YtjdkdbeenggfaaaW.PrintLast Go.Proofs.YtjdkdbeenggfaaaW.PrintMore
attribute [local go_sem] max2_int min2_int max_two min_two max_three min_three max_four min_four   -- for this text's walks alone
set_option linter.unusedVariables false
set_option linter.unusedSimpArgs false
mutual
def o9.l0 : Nat → List (S87) → List (S87) → Int → Int → Option (Bool)
  | 0, _, _, _, _ => none
  | k + 1, x0, x7, x8, x9 => if x9 < x8 then (if 0 ≤ x9 then (if x9 < (x7.length : Int) then ((P7.f ((q8 x7 x9).f0) ((q8 x7 x9).f1) ((q8 x7 x9).f2)).bind fun t449 => (if t449 = true then (if x9 > 0 then (if 0 ≤ (wrap64 (x9 - 1)) then (if (wrap64 (x9 - 1)) < (x0.length : Int) then ((D7.f ((q8 x0 (wrap64 (x9 - 1))).f0) ((q8 x0 (wrap64 (x9 - 1))).f1) ((q8 x0 (wrap64 (x9 - 1))).f2) ((q8 x7 x9).f0) ((q8 x7 x9).f1) ((q8 x7 x9).f2)).bind fun t451 => (o9.j1 k x0 x9 x7 x8 x9 (!t451) ((q8 x7 x9).f0) ((q8 x7 x9).f1) ((q8 x7 x9).f2))) else (none)) else (none)) else (o9.j1 k x0 x9 x7 x8 x9 false ((q8 x7 x9).f0) ((q8 x7 x9).f1) ((q8 x7 x9).f2))) else (o9.j1 k x0 x9 x7 x8 x9 true ((q8 x7 x9).f0) ((q8 x7 x9).f1) ((q8 x7 x9).f2)))) else (none)) else (none)) else (some (decide ((x0.length : Int) ≤ 60)))
def o9.j1 : Nat → List (S87) → Int → List (S87) → Int → Int → Bool → Int → Int → Int → Option (Bool)
  | 0, _, _, _, _, _, _, _, _, _ => none
  | k + 1, x0, x3, x7, x8, x9, x30, x449000, x449001, x449002 => if x30 = true then (some false) else (if 0 ≤ x3 then (if x3 ≤ (x0.length : Int) then ((some (x0.take (x3 : Int).toNat : List (S87))).bind fun y452 => (o9.l1 k x0 x7 x8 x9 y452 (y452.length : Int) 0 x449000 x449001 x449002)) else (none)) else (none))
def o9.l1 : Nat → List (S87) → List (S87) → Int → Int → List (S87) → Int → Int → Int → Int → Int → Option (Bool)
  | 0, _, _, _, _, _, _, _, _, _, _ => none
  | k + 1, x0, x7, x8, x9, x33, x34, x35, x449000, x449001, x449002 => if x35 < x34 then (if 0 ≤ x35 then (if x35 < (x33.length : Int) then (if x449000 = ((q8 x33 x35).f0) then (if ((q8 x33 x35).f2) ≥ x449001 then (some false) else (o9.l1 k x0 x7 x8 x9 x33 x34 (wrap64 (x35 + 1)) x449000 x449001 x449002)) else (o9.l1 k x0 x7 x8 x9 x33 x34 (wrap64 (x35 + 1)) x449000 x449001 x449002)) else (none)) else (none)) else (o9.l0 k x0 x7 x8 (wrap64 (x9 + 1)))
end
def o9.f (k : Nat) (l0 : List (S87)) : Option (Bool) := o9.l0 k l0 l0 (l0.length : Int) 0
def o9.T4 : Bool × List (List Nat × List Nat) := (true, [([], []), ([0], [0]), ([1], [1]), ([2, 1], [2]), ([3], [3]), ([4, 3], [3, 4]), ([5, 3, 3], [3, 5]), ([6], [6]), ([6], [6]), ([8, 6], [6, 8]), ([7, 9, 6], [6, 7, 9]), ([10, 6], [6, 10]), ([6], [6]), ([11, 12, 6, 6], [6, 11, 12]), ([13, 6], [6, 13]), ([6, 14, 3], [3, 6, 14]), ([3, 15], [3, 15])])
def o9.B4 : List Nat := [0, 1, 3, 7, 15, 31, 63, 127, 127, 383, 1023, 2047, 127, 8191, 16383, 32767, 65535]
theorem o9.q7g : rtab .any (opsOf Try.f73 4) = o9.T4 := by kernel_rfl
theorem o9.q5e : waitsOk o9.T4.2 o9.B4 = true := by kernel_rfl
set_option maxHeartbeats 8000000 in
set_option maxRecDepth 100000 in
theorem o9.calls (k : Nat) (A0 : Option Addr) (c0 : Nat) (l0 : List (S87)) (r : Bool) (w : World) (hr0 : Kd.C k87 w A0 l0.length l0) (hc0 : l0.length ≤ c0) (h : o9.f k l0 = some r) :
  Calls Try.prog 73 #[.slice A0 l0.length c0] w fun e w' => e = .returned (.bool r) ∧ Below w.heap.size w w' := by
 have hu87 := Try.underlying87;have HR0 := zm hr0;have HC0 := zm hc0;clear hr0 hc0;have HB := zm (Below.refl w.heap.size w);have H : (o9.l0 k l0 l0 (l0.length : Int) 0) = some r := h;clear h;have H' := zm H;clear H;go_enter Try.func73, Try.ntmps73;go_wp2;go_loopg [9] k (fun kq v9 w' => ∃ (x9_1 : Int), v9 = .int .i64 x9_1 ∧ Aside0 (o9.l0 kq l0 l0 (l0.length : Int) x9_1 = some r) ∧ Aside0 (kq ≤ k) ∧ Aside0 (Below w.heap.size w w'))
 case atStart => exact ⟨(0), zz, H', ⟨Nat.le_refl _⟩, ⟨zb⟩⟩
 case round =>
  clear H';obtain ⟨x9_1, rfl, HA, HK1, HB⟩ := hrel;cases gk with
  | zero => exact absurd HA.out (by simp [o9.l0])
  | succ k1 =>
   have H := HA.out;clear HA;simp only [o9.l0] at H;by_cases c2 : x9_1 < (l0.length : Int)
   rotate_left
   ·
    rw [if_neg c2] at H;have c2b0 := decide_eq_false c2;clear c2;obtain rfl := Option.some.inj H;go_wp2;go_ret
    exact ⟨zr, zb⟩
   rw [if_pos c2] at H;have c2b0 := decide_eq_true c2;clear c2;obtain ⟨c3, H⟩ := zJ H;have c3b0 := decide_eq_true c3;clear c3;obtain ⟨c4, H⟩ := zJ H;have c4b0 := decide_eq_true c4;clear c4;have HC5 := zm H;clear H;have p447 : 0 ≤ (x9_1 : Int) := zd;have q447 : x9_1 < (l0.length : Int) := zd;obtain ⟨ad447, e447, hx447_0, hx447_1, hx447_2⟩ := U5 HR0.out x9_1 p447 q447;cases e447;replace hx447_0 := zx HB.out hx447_0;replace hx447_1 := zx HB.out hx447_1;replace hx447_2 := zx HB.out hx447_2;replace p447 := eq_true p447;replace q447 := eq_true q447;go_upto_region 4 with (first | ((with_reducible refine gate_dst (N := 4) rfl ?_); refine box_event ?hg (N := 4) ?hd (cs := #[.int .i64 0, .int .i64 0, .int .i64 0]) (t := 87) ?hr ?_; (case hd => rfl); (case hg => rfl); (case hr => first | (go_simp; done) | (go_simp; rfl)); intro gb448 hg w6 hbox hb; have n0_ := zm (below_step zb hb); have BK448 := zm (hbox); have GW448 := zm (zs hg zb : w.heap.size ≤ gb448); have GE448 := zm (zs hg zb : w.heap.size ≤ gb448); replace HB := n0_; clear n0_; clear hb hbox hg; obtain ⟨hcz7_0, hcz7_1, hcz7_2, hfz7_0, hfz7_1, hfz7_2⟩ := zc3 BK448.out))
   (try simp only [Act.put, List.setIfInBounds_toArray, List.set_cons_zero, List.set_cons_succ]);go_cut [30] (fun v30 wc => ∃ (kq : Nat) (x30_4 : Bool), v30 = .bool x30_4 ∧ Aside0 (o9.j1 kq l0 x9_1 l0 (l0.length : Int) x9_1 x30_4 ((q8 l0 x9_1).f0) ((q8 l0 x9_1).f1) ((q8 l0 x9_1).f2) = some r) ∧ Aside0 (kq ≤ k1) ∧ Aside0 (wc.heap[gb448]? = some (.cells #[.int .i64 ((q8 l0 x9_1).f0), .int .i64 ((q8 l0 x9_1).f1), .int .i64 ((q8 l0 x9_1).f2)] 87 (0, 0))) ∧ Aside0 (Below w.heap.size w wc))
   case first =>
    have H := HC5.out;clear HC5;obtain ⟨t449, A8, H⟩ := zI H;(try dsimp only at H);by_cases c9 : t449 = true
    rotate_left
    ·
     replace c9 := Bool.eq_false_iff.mpr c9;subst c9;rw [if_neg (show ¬ (false = true) by decide)] at H;have H' := zm H;clear H;try go_wp2
     have n0_ : Aside0 ((((w6.setCell ⟨gb448, 0, none⟩ (.int .i64 ((q8 l0 x9_1).f0))).setCell ⟨gb448, 1, none⟩ (.int .i64 ((q8 l0 x9_1).f1))).setCell ⟨gb448, 2, none⟩ (.int .i64 ((q8 l0 x9_1).f2))).heap[gb448]? = some (.cells #[.int .i64 ((q8 l0 x9_1).f0), .int .i64 ((q8 l0 x9_1).f1), .int .i64 ((q8 l0 x9_1).f2)] 87 (0, 0))) := ⟨by (with_reducible repeat (first | refine blk_drewN ?_ _ | refine blk_drew ?_ | refine blk_alloc ?_ _)); refine blk_put (cs := #[.int .i64 ((q8 l0 x9_1).f0), .int .i64 ((q8 l0 x9_1).f1), .int .i64 0]) ?_ 2 _ rfl; (with_reducible repeat (first | refine blk_drewN ?_ _ | refine blk_drew ?_ | refine blk_alloc ?_ _)); refine blk_put (cs := #[.int .i64 ((q8 l0 x9_1).f0), .int .i64 0, .int .i64 0]) ?_ 1 _ rfl; (with_reducible repeat (first | refine blk_drewN ?_ _ | refine blk_drew ?_ | refine blk_alloc ?_ _)); refine blk_put (cs := #[.int .i64 0, .int .i64 0, .int .i64 0]) ?_ 0 _ rfl; (with_reducible repeat (first | refine blk_drewN ?_ _ | refine blk_drew ?_ | refine blk_alloc ?_ _)); exact BK448.out⟩
     have n1_ : Aside0 (Below w.heap.size w (((w6.setCell ⟨gb448, 0, none⟩ (.int .i64 ((q8 l0 x9_1).f0))).setCell ⟨gb448, 1, none⟩ (.int .i64 ((q8 l0 x9_1).f1))).setCell ⟨gb448, 2, none⟩ (.int .i64 ((q8 l0 x9_1).f2)))) := ⟨zb⟩
     (try clear BK448);(try clear HB);generalize (((w6.setCell ⟨gb448, 0, none⟩ (.int .i64 ((q8 l0 x9_1).f0))).setCell ⟨gb448, 1, none⟩ (.int .i64 ((q8 l0 x9_1).f1))).setCell ⟨gb448, 2, none⟩ (.int .i64 ((q8 l0 x9_1).f2))) = w22 at n0_ n1_ ⊢;have BK448 := n0_;have HB := n1_;clear n0_ n1_;have n0_ := zm (blk_drew BK448.out);have n1_ := zm (below_drew1 HB.out);clear BK448;clear HB;have BK448 := n0_;have HB := n1_;clear n0_ n1_;refine start_ (n := 17) (S := fun w' => w'.cell? ⟨gb448, 0, none⟩ = some (.int .i64 ((q8 l0 x9_1).f0)) ∧ w'.cell? ⟨gb448, 1, none⟩ = some (.int .i64 ((q8 l0 x9_1).f1)) ∧ w'.cell? ⟨gb448, 2, none⟩ = some (.int .i64 ((q8 l0 x9_1).f2))) (ds := []) #[F,F,F,F,F,F,F,F,F,F,F,F,F,F,F,F,F] (by kernel_rfl) rfl rfl ⟨(blk_cell BK448.out 0).trans rfl, (blk_cell BK448.out 1).trans rfl, (blk_cell BK448.out 2).trans rfl⟩ (fun hHeld => ?_); refine with_tabW o9.q7g o9.q5e (fun HT_ HW_ => ?_)
     generalize w22.drew = w23 at BK448 HB hHeld ⊢;refine take_ (i := 0) (N := some 14) (v := ?_) (a' := ?_) #[T,F,F,F,F,F,F,F,F,F,F,F,F,F,F,F,F] rfl rfl (take_ofW HT_.out HW_.out (by kernel_rfl)) (fun _ _ _ h => h) (Or.inl ⟨by rfl, ?_⟩) hHeld ?_ ?_
     rotate_left
     ·
      rintro w' ⟨s0, s1, s2⟩;go_simp
      with_reducible rfl
     rotate_left
     ·
      simp only [Act.put, zA, zB, zD, i64_w, i32_w]
      rfl
     refine one_ (i := 1) (N := some 15) #[T,T,F,F,F,F,F,F,F,F,F,F,F,F,F,F,F] rfl rfl (one_of HT_.out (by kernel_rfl)) (by decide) (fun K hK => ?_)
     refine goes_ Try.func115 (by kernel_rfl) rfl #[.agg #[.int .i64 ((q8 l0 x9_1).f0), .int .i64 ((q8 l0 x9_1).f1), .int .i64 ((q8 l0 x9_1).f2)]] (by rfl) rfl rfl (by (try simp only [List.map_toArray, List.map_cons, List.map_nil]); first | done | rfl | (simp only [List.length_drop, List.length_take]; rfl)) ?_
     with_reducible refine (P7.calls ((q8 l0 x9_1).f0) ((q8 l0 x9_1).f1) ((q8 l0 x9_1).f2) false _ A8.out).mono ?_
     rintro e w24 ⟨rfl, hb⟩;refine ⟨_, rfl, ?_⟩
     have n0_ := zm (blk_below (g := gb448) zk hb);have n1_ := zm (below_step zb hb);clear BK448;clear HB;have BK448 := n0_;have HB := n1_;clear n0_ n1_;(try clear hb);refine hK.out _ _ ⟨(blk_cell BK448.out 0).trans rfl, (blk_cell BK448.out 1).trans rfl, (blk_cell BK448.out 2).trans rfl⟩ (fun hHeld => ?_)
     clear hK K;refine norm_ (a' := ?_) ?_ ?_;rotate_left
     ·
      show Act.put _ (some 15) _ = _
      simp only [Act.put, zA, zB, zD, i64_w, i32_w]
      rfl
     refine zU 2 16 #[T,T,T,F,F,F,F,F,F,F,F,F,F,F,F,F,F] ?_;refine zU 3 17 #[T,T,T,T,F,F,F,F,F,F,F,F,F,F,F,F,F] ?_;refine zV 4 18 #[T,T,T,T,T,F,F,F,F,F,F,F,F,F,F,F,F] ?_;refine zV 5 19 #[T,T,T,T,T,T,F,F,F,F,F,F,F,F,F,F,F] ?_;refine zV 6 20 #[T,T,T,T,T,T,T,F,F,F,F,F,F,F,F,F,F] ?_;refine zV 7 21 #[T,T,T,T,T,T,T,T,F,F,F,F,F,F,F,F,F] ?_;refine zV 8 22 #[T,T,T,T,T,T,T,T,T,F,F,F,F,F,F,F,F] ?_;refine zV 9 23 #[T,T,T,T,T,T,T,T,T,T,F,F,F,F,F,F,F] ?_;refine zV 10 24 #[T,T,T,T,T,T,T,T,T,T,T,F,F,F,F,F,F] ?_;refine zV 11 25 #[T,T,T,T,T,T,T,T,T,T,T,T,F,F,F,F,F] ?_;refine zV 12 26 #[T,T,T,T,T,T,T,T,T,T,T,T,T,F,F,F,F] ?_;refine zV 13 27 #[T,T,T,T,T,T,T,T,T,T,T,T,T,T,F,F,F] ?_;refine zV 14 28 #[T,T,T,T,T,T,T,T,T,T,T,T,T,T,T,F,F] ?_;refine zV 15 29 #[T,T,T,T,T,T,T,T,T,T,T,T,T,T,T,T,F] ?_;refine zU 16 30 #[T,T,T,T,T,T,T,T,T,T,T,T,T,T,T,T,T] ?_;refine done_ (done_of HT_.out (by kernel_rfl)) ?_
     try go_wp2
     go_meet
     case rel => exact ⟨_, (true), zz, H', ⟨by have := HK1.out; first | omega | exact Nat.le_refl _⟩, ⟨zk⟩, ⟨zb⟩⟩
    subst c9;rw [if_pos rfl] at H;by_cases c10 : x9_1 > 0
    rotate_left
    ·
     rw [if_neg c10] at H;have c10b0 : decide (0 < x9_1) = false := decide_eq_false c10;clear c10;(first | rw [c10b0] | (simp only [i64_w, i32_w]; rw [c10b0]) | skip);have H' := zm H;clear H;try go_wp2
     have n0_ : Aside0 ((((w6.setCell ⟨gb448, 0, none⟩ (.int .i64 ((q8 l0 x9_1).f0))).setCell ⟨gb448, 1, none⟩ (.int .i64 ((q8 l0 x9_1).f1))).setCell ⟨gb448, 2, none⟩ (.int .i64 ((q8 l0 x9_1).f2))).heap[gb448]? = some (.cells #[.int .i64 ((q8 l0 x9_1).f0), .int .i64 ((q8 l0 x9_1).f1), .int .i64 ((q8 l0 x9_1).f2)] 87 (0, 0))) := ⟨by (with_reducible repeat (first | refine blk_drewN ?_ _ | refine blk_drew ?_ | refine blk_alloc ?_ _)); refine blk_put (cs := #[.int .i64 ((q8 l0 x9_1).f0), .int .i64 ((q8 l0 x9_1).f1), .int .i64 0]) ?_ 2 _ rfl; (with_reducible repeat (first | refine blk_drewN ?_ _ | refine blk_drew ?_ | refine blk_alloc ?_ _)); refine blk_put (cs := #[.int .i64 ((q8 l0 x9_1).f0), .int .i64 0, .int .i64 0]) ?_ 1 _ rfl; (with_reducible repeat (first | refine blk_drewN ?_ _ | refine blk_drew ?_ | refine blk_alloc ?_ _)); refine blk_put (cs := #[.int .i64 0, .int .i64 0, .int .i64 0]) ?_ 0 _ rfl; (with_reducible repeat (first | refine blk_drewN ?_ _ | refine blk_drew ?_ | refine blk_alloc ?_ _)); exact BK448.out⟩
     have n1_ : Aside0 (Below w.heap.size w (((w6.setCell ⟨gb448, 0, none⟩ (.int .i64 ((q8 l0 x9_1).f0))).setCell ⟨gb448, 1, none⟩ (.int .i64 ((q8 l0 x9_1).f1))).setCell ⟨gb448, 2, none⟩ (.int .i64 ((q8 l0 x9_1).f2)))) := ⟨zb⟩
     (try clear BK448);(try clear HB);generalize (((w6.setCell ⟨gb448, 0, none⟩ (.int .i64 ((q8 l0 x9_1).f0))).setCell ⟨gb448, 1, none⟩ (.int .i64 ((q8 l0 x9_1).f1))).setCell ⟨gb448, 2, none⟩ (.int .i64 ((q8 l0 x9_1).f2))) = w19 at n0_ n1_ ⊢;have BK448 := n0_;have HB := n1_;clear n0_ n1_;have n0_ := zm (blk_drew BK448.out);have n1_ := zm (below_drew1 HB.out);clear BK448;clear HB;have BK448 := n0_;have HB := n1_;clear n0_ n1_;refine start_ (n := 17) (S := fun w' => w'.cell? ⟨gb448, 0, none⟩ = some (.int .i64 ((q8 l0 x9_1).f0)) ∧ w'.cell? ⟨gb448, 1, none⟩ = some (.int .i64 ((q8 l0 x9_1).f1)) ∧ w'.cell? ⟨gb448, 2, none⟩ = some (.int .i64 ((q8 l0 x9_1).f2))) (ds := []) #[F,F,F,F,F,F,F,F,F,F,F,F,F,F,F,F,F] (by kernel_rfl) rfl rfl ⟨(blk_cell BK448.out 0).trans rfl, (blk_cell BK448.out 1).trans rfl, (blk_cell BK448.out 2).trans rfl⟩ (fun hHeld => ?_); refine with_tabW o9.q7g o9.q5e (fun HT_ HW_ => ?_)
     generalize w19.drew = w20 at BK448 HB hHeld ⊢;refine take_ (i := 0) (N := some 14) (v := ?_) (a' := ?_) #[T,F,F,F,F,F,F,F,F,F,F,F,F,F,F,F,F] rfl rfl (take_ofW HT_.out HW_.out (by kernel_rfl)) (fun _ _ _ h => h) (Or.inl ⟨by rfl, ?_⟩) hHeld ?_ ?_
     rotate_left
     ·
      rintro w' ⟨s0, s1, s2⟩;go_simp
      with_reducible rfl
     rotate_left
     ·
      simp only [Act.put, zA, zB, zD, i64_w, i32_w]
      rfl
     refine one_ (i := 1) (N := some 15) #[T,T,F,F,F,F,F,F,F,F,F,F,F,F,F,F,F] rfl rfl (one_of HT_.out (by kernel_rfl)) (by decide) (fun K hK => ?_)
     refine goes_ Try.func115 (by kernel_rfl) rfl #[.agg #[.int .i64 ((q8 l0 x9_1).f0), .int .i64 ((q8 l0 x9_1).f1), .int .i64 ((q8 l0 x9_1).f2)]] (by rfl) rfl rfl (by (try simp only [List.map_toArray, List.map_cons, List.map_nil]); first | done | rfl | (simp only [List.length_drop, List.length_take]; rfl)) ?_
     with_reducible refine (P7.calls ((q8 l0 x9_1).f0) ((q8 l0 x9_1).f1) ((q8 l0 x9_1).f2) true _ A8.out).mono ?_
     rintro e w21 ⟨rfl, hb⟩;refine ⟨_, rfl, ?_⟩
     have n0_ := zm (blk_below (g := gb448) zk hb);have n1_ := zm (below_step zb hb);clear BK448;clear HB;have BK448 := n0_;have HB := n1_;clear n0_ n1_;(try clear hb);refine hK.out _ _ ⟨(blk_cell BK448.out 0).trans rfl, (blk_cell BK448.out 1).trans rfl, (blk_cell BK448.out 2).trans rfl⟩ (fun hHeld => ?_)
     clear hK K;refine norm_ (a' := ?_) ?_ ?_;rotate_left
     ·
      show Act.put _ (some 15) _ = _
      simp only [Act.put, zA, zB, zD, i64_w, i32_w]
      rfl
     refine zU 2 16 #[T,T,T,F,F,F,F,F,F,F,F,F,F,F,F,F,F] ?_;refine zU 3 17 #[T,T,T,T,F,F,F,F,F,F,F,F,F,F,F,F,F] ?_;refine zU 4 18 #[T,T,T,T,T,F,F,F,F,F,F,F,F,F,F,F,F] ?_;refine zU 5 19 #[T,T,T,T,T,T,F,F,F,F,F,F,F,F,F,F,F] ?_;refine zU 6 20 #[T,T,T,T,T,T,T,F,F,F,F,F,F,F,F,F,F] ?_;refine zV 7 21 #[T,T,T,T,T,T,T,T,F,F,F,F,F,F,F,F,F] ?_;refine zV 8 22 #[T,T,T,T,T,T,T,T,T,F,F,F,F,F,F,F,F] ?_;refine zV 9 23 #[T,T,T,T,T,T,T,T,T,T,F,F,F,F,F,F,F] ?_;refine zV 10 24 #[T,T,T,T,T,T,T,T,T,T,T,F,F,F,F,F,F] ?_;refine zV 11 25 #[T,T,T,T,T,T,T,T,T,T,T,T,F,F,F,F,F] ?_;refine zV 12 26 #[T,T,T,T,T,T,T,T,T,T,T,T,T,F,F,F,F] ?_;refine zV 13 27 #[T,T,T,T,T,T,T,T,T,T,T,T,T,T,F,F,F] ?_;refine zV 14 28 #[T,T,T,T,T,T,T,T,T,T,T,T,T,T,T,F,F] ?_;refine zU 15 29 #[T,T,T,T,T,T,T,T,T,T,T,T,T,T,T,T,F] ?_;refine zU 16 30 #[T,T,T,T,T,T,T,T,T,T,T,T,T,T,T,T,T] ?_;refine done_ (done_of HT_.out (by kernel_rfl)) ?_
     try go_wp2
     go_meet
     case rel => exact ⟨_, (false), zz, H', ⟨by have := HK1.out; first | omega | exact Nat.le_refl _⟩, ⟨zk⟩, ⟨zb⟩⟩
    rw [if_pos c10] at H;have c10b0 : decide (0 < x9_1) = true := decide_eq_true c10;clear c10;(first | rw [c10b0] | (simp only [i64_w, i32_w]; rw [c10b0]) | skip);obtain ⟨ji11, hji11⟩ : ∃ j_ : Int, (wrap64 (x9_1 - 1)) = j_ := ⟨_, rfl⟩;replace H : (if 0 ≤ (ji11) then (if (ji11) < (l0.length : Int) then ((D7.f ((q8 l0 (ji11)).f0) ((q8 l0 (ji11)).f1) ((q8 l0 (ji11)).f2) ((q8 l0 x9_1).f0) ((q8 l0 x9_1).f1) ((q8 l0 x9_1).f2)).bind fun t451 => (o9.j1 k1 l0 x9_1 l0 (l0.length : Int) x9_1 (!t451) ((q8 l0 x9_1).f0) ((q8 l0 x9_1).f1) ((q8 l0 x9_1).f2))) else (none)) else (none)) = some r := by first | (rw [hji11] at H; exact H) | (simp only [hji11] at H ⊢; exact H)
    (try rw [hji11] at A8);have hji11w : (IntKind.i64.wrap (x9_1 - 1)) = ji11 := (i64_w _).trans hji11
    obtain ⟨c12, H⟩ := zJ H;have c12b0 := decide_eq_true c12;clear c12;obtain ⟨c13, H⟩ := zJ H;have c13b0 := decide_eq_true c13;clear c13;obtain ⟨t451, A14, H⟩ := zI H;(try dsimp only at H);have H' := zm H;clear H;try go_wp2
    have n0_ : Aside0 ((((w6.setCell ⟨gb448, 0, none⟩ (.int .i64 ((q8 l0 x9_1).f0))).setCell ⟨gb448, 1, none⟩ (.int .i64 ((q8 l0 x9_1).f1))).setCell ⟨gb448, 2, none⟩ (.int .i64 ((q8 l0 x9_1).f2))).heap[gb448]? = some (.cells #[.int .i64 ((q8 l0 x9_1).f0), .int .i64 ((q8 l0 x9_1).f1), .int .i64 ((q8 l0 x9_1).f2)] 87 (0, 0))) := ⟨by (with_reducible repeat (first | refine blk_drewN ?_ _ | refine blk_drew ?_ | refine blk_alloc ?_ _)); refine blk_put (cs := #[.int .i64 ((q8 l0 x9_1).f0), .int .i64 ((q8 l0 x9_1).f1), .int .i64 0]) ?_ 2 _ rfl; (with_reducible repeat (first | refine blk_drewN ?_ _ | refine blk_drew ?_ | refine blk_alloc ?_ _)); refine blk_put (cs := #[.int .i64 ((q8 l0 x9_1).f0), .int .i64 0, .int .i64 0]) ?_ 1 _ rfl; (with_reducible repeat (first | refine blk_drewN ?_ _ | refine blk_drew ?_ | refine blk_alloc ?_ _)); refine blk_put (cs := #[.int .i64 0, .int .i64 0, .int .i64 0]) ?_ 0 _ rfl; (with_reducible repeat (first | refine blk_drewN ?_ _ | refine blk_drew ?_ | refine blk_alloc ?_ _)); exact BK448.out⟩
    have n1_ : Aside0 (Below w.heap.size w (((w6.setCell ⟨gb448, 0, none⟩ (.int .i64 ((q8 l0 x9_1).f0))).setCell ⟨gb448, 1, none⟩ (.int .i64 ((q8 l0 x9_1).f1))).setCell ⟨gb448, 2, none⟩ (.int .i64 ((q8 l0 x9_1).f2)))) := ⟨zb⟩
    (try clear BK448);(try clear HB);generalize (((w6.setCell ⟨gb448, 0, none⟩ (.int .i64 ((q8 l0 x9_1).f0))).setCell ⟨gb448, 1, none⟩ (.int .i64 ((q8 l0 x9_1).f1))).setCell ⟨gb448, 2, none⟩ (.int .i64 ((q8 l0 x9_1).f2))) = w15 at n0_ n1_ ⊢;have BK448 := n0_;have HB := n1_;clear n0_ n1_;have n0_ := zm (blk_drew BK448.out);have n1_ := zm (below_drew1 HB.out);clear BK448;clear HB;have BK448 := n0_;have HB := n1_;clear n0_ n1_;have p450 : 0 ≤ ((ji11) : Int) := zd;have q450 : (ji11) < (l0.length : Int) := zd;obtain ⟨ad450, e450, hx450_0, hx450_1, hx450_2⟩ := U5 HR0.out (ji11) p450 q450;have hw450_2 := hx450_2;have hw450_1 := hx450_1;have hw450_0 := hx450_0;obtain rfl : ad447 = ad450 := (by injection e450)
    skip
    replace hx450_0 := zx HB.out hx450_0;replace hx450_1 := zx HB.out hx450_1;replace hx450_2 := zx HB.out hx450_2;replace p450 := eq_true p450;replace q450 := eq_true q450;refine start_ (n := 17) (S := fun w' => w'.cell? ⟨gb448, 0, none⟩ = some (.int .i64 ((q8 l0 x9_1).f0)) ∧ w'.cell? ⟨gb448, 1, none⟩ = some (.int .i64 ((q8 l0 x9_1).f1)) ∧ w'.cell? ⟨gb448, 2, none⟩ = some (.int .i64 ((q8 l0 x9_1).f2)) ∧ w'.cell? (ad447.add (((ji11)).toNat * 3)) = some (.int .i64 ((q8 l0 (ji11)).f0)) ∧ w'.cell? ⟨(ad447.add (((ji11)).toNat * 3)).block, (ad447.add (((ji11)).toNat * 3)).off + 1, none⟩ = some (.int .i64 ((q8 l0 (ji11)).f1)) ∧ w'.cell? ⟨(ad447.add (((ji11)).toNat * 3)).block, (ad447.add (((ji11)).toNat * 3)).off + 2, none⟩ = some (.int .i64 ((q8 l0 (ji11)).f2))) (ds := []) #[F,F,F,F,F,F,F,F,F,F,F,F,F,F,F,F,F] (by kernel_rfl) rfl rfl ⟨(blk_cell BK448.out 0).trans rfl, (blk_cell BK448.out 1).trans rfl, (blk_cell BK448.out 2).trans rfl, ((HB.out.cell (World.block_lt_of_cell? w _ hw450_0)).trans hw450_0), ((HB.out.cell (World.block_lt_of_cell? w _ hw450_1)).trans hw450_1), ((HB.out.cell (World.block_lt_of_cell? w _ hw450_2)).trans hw450_2)⟩ (fun hHeld => ?_); refine with_tabW o9.q7g o9.q5e (fun HT_ HW_ => ?_)
    generalize w15.drew = w16 at BK448 HB hx450_0 hx450_1 hx450_2 hHeld ⊢;refine take_ (i := 0) (N := some 14) (v := ?_) (a' := ?_) #[T,F,F,F,F,F,F,F,F,F,F,F,F,F,F,F,F] rfl rfl (take_ofW HT_.out HW_.out (by kernel_rfl)) (fun _ _ _ h => h) (Or.inl ⟨by rfl, ?_⟩) hHeld ?_ ?_
    rotate_left
    ·
     rintro w' ⟨s0, s1, s2, s3, s4, s5⟩;go_simp
     with_reducible rfl
    rotate_left
    ·
     simp only [Act.put, zA, zB, zD, i64_w, i32_w]
     rfl
    refine one_ (i := 1) (N := some 15) #[T,T,F,F,F,F,F,F,F,F,F,F,F,F,F,F,F] rfl rfl (one_of HT_.out (by kernel_rfl)) (by decide) (fun K hK => ?_)
    refine goes_ Try.func115 (by kernel_rfl) rfl #[.agg #[.int .i64 ((q8 l0 x9_1).f0), .int .i64 ((q8 l0 x9_1).f1), .int .i64 ((q8 l0 x9_1).f2)]] (by rfl) rfl rfl (by (try simp only [List.map_toArray, List.map_cons, List.map_nil]); first | done | rfl | (simp only [List.length_drop, List.length_take]; rfl)) ?_
    with_reducible refine (P7.calls ((q8 l0 x9_1).f0) ((q8 l0 x9_1).f1) ((q8 l0 x9_1).f2) true _ A8.out).mono ?_
    rintro e w17 ⟨rfl, hb⟩;refine ⟨_, rfl, ?_⟩
    have n0_ := zm (blk_below (g := gb448) zk hb);have n1_ := zm (below_step zb hb);clear BK448;clear HB;have BK448 := n0_;have HB := n1_;clear n0_ n1_;(try clear hb);refine hK.out _ _ ⟨(blk_cell BK448.out 0).trans rfl, (blk_cell BK448.out 1).trans rfl, (blk_cell BK448.out 2).trans rfl, ((HB.out.cell (World.block_lt_of_cell? w _ hw450_0)).trans hw450_0), ((HB.out.cell (World.block_lt_of_cell? w _ hw450_1)).trans hw450_1), ((HB.out.cell (World.block_lt_of_cell? w _ hw450_2)).trans hw450_2)⟩ (fun hHeld => ?_)
    clear hK K;refine norm_ (a' := ?_) ?_ ?_;rotate_left
    ·
     show Act.put _ (some 15) _ = _
     simp only [Act.put, zA, zB, zD, i64_w, i32_w]
     rfl
    refine zU 2 16 #[T,T,T,F,F,F,F,F,F,F,F,F,F,F,F,F,F] ?_;refine zU 3 17 #[T,T,T,T,F,F,F,F,F,F,F,F,F,F,F,F,F] ?_;refine zU 4 18 #[T,T,T,T,T,F,F,F,F,F,F,F,F,F,F,F,F] ?_;refine zU 5 19 #[T,T,T,T,T,T,F,F,F,F,F,F,F,F,F,F,F] ?_;refine zU 6 20 #[T,T,T,T,T,T,T,F,F,F,F,F,F,F,F,F,F] ?_;refine zU 7 21 #[T,T,T,T,T,T,T,T,F,F,F,F,F,F,F,F,F] ?_;refine zU 8 22 #[T,T,T,T,T,T,T,T,T,F,F,F,F,F,F,F,F] ?_;refine zU 9 23 #[T,T,T,T,T,T,T,T,T,T,F,F,F,F,F,F,F] ?_;refine zU 10 24 #[T,T,T,T,T,T,T,T,T,T,T,F,F,F,F,F,F] ?_;refine take_ (i := 11) (N := some 25) (v := ?_) (a' := ?_) #[T,T,T,T,T,T,T,T,T,T,T,T,F,F,F,F,F] rfl rfl (take_ofW HT_.out HW_.out (by kernel_rfl)) (fun _ _ _ h => h) (Or.inl ⟨by rfl, ?_⟩) hHeld ?_ ?_
    rotate_left
    ·
     rintro w' ⟨s0, s1, s2, s3, s4, s5⟩;go_simp
     with_reducible rfl
    rotate_left
    ·
     simp only [Act.put, zA, zB, zD, i64_w, i32_w]
     rfl
    refine take_ (i := 12) (N := some 26) (v := ?_) (a' := ?_) #[T,T,T,T,T,T,T,T,T,T,T,T,T,F,F,F,F] rfl rfl (take_ofW HT_.out HW_.out (by kernel_rfl)) (fun _ _ _ h => h) (Or.inl ⟨by rfl, ?_⟩) hHeld ?_ ?_
    rotate_left
    ·
     rintro w' ⟨s0, s1, s2, s3, s4, s5⟩;go_simp
     with_reducible rfl
    rotate_left
    ·
     simp only [Act.put, zA, zB, zD, i64_w, i32_w]
     rfl
    refine one_ (i := 13) (N := some 27) #[T,T,T,T,T,T,T,T,T,T,T,T,T,T,F,F,F] rfl rfl (one_of HT_.out (by kernel_rfl)) (by decide) (fun K hK => ?_)
    refine goes_ Try.func116 (by kernel_rfl) rfl #[.agg #[.int .i64 ((q8 l0 (ji11)).f0), .int .i64 ((q8 l0 (ji11)).f1), .int .i64 ((q8 l0 (ji11)).f2)], .agg #[.int .i64 ((q8 l0 x9_1).f0), .int .i64 ((q8 l0 x9_1).f1), .int .i64 ((q8 l0 x9_1).f2)]] (by rfl) rfl rfl (by (try simp only [List.map_toArray, List.map_cons, List.map_nil]); first | done | (simp only [hji11]; rfl) | rfl | (simp only [List.length_drop, List.length_take]; rfl)) ?_
    with_reducible refine (D7.calls ((q8 l0 (ji11)).f0) ((q8 l0 (ji11)).f1) ((q8 l0 (ji11)).f2) ((q8 l0 x9_1).f0) ((q8 l0 x9_1).f1) ((q8 l0 x9_1).f2) t451 _ A14.out).mono ?_
    rintro e w18 ⟨rfl, hb⟩;refine ⟨_, rfl, ?_⟩
    have n0_ := zm (blk_below (g := gb448) zk hb);have n1_ := zm (below_step zb hb);clear BK448;clear HB;have BK448 := n0_;have HB := n1_;clear n0_ n1_;(try clear hb);refine hK.out _ _ ⟨(blk_cell BK448.out 0).trans rfl, (blk_cell BK448.out 1).trans rfl, (blk_cell BK448.out 2).trans rfl, ((HB.out.cell (World.block_lt_of_cell? w _ hw450_0)).trans hw450_0), ((HB.out.cell (World.block_lt_of_cell? w _ hw450_1)).trans hw450_1), ((HB.out.cell (World.block_lt_of_cell? w _ hw450_2)).trans hw450_2)⟩ (fun hHeld => ?_)
    clear hK K;refine norm_ (a' := ?_) ?_ ?_;rotate_left
    ·
     show Act.put _ (some 27) _ = _
     simp only [Act.put, zA, zB, zD, i64_w, i32_w]
     rfl
    refine zU 14 28 #[T,T,T,T,T,T,T,T,T,T,T,T,T,T,T,F,F] ?_;refine zU 15 29 #[T,T,T,T,T,T,T,T,T,T,T,T,T,T,T,T,F] ?_;refine zU 16 30 #[T,T,T,T,T,T,T,T,T,T,T,T,T,T,T,T,T] ?_;refine done_ (done_of HT_.out (by kernel_rfl)) ?_
    try go_wp2
    go_meet
    case rel => exact ⟨_, (!t451), zz, H', ⟨by have := HK1.out; first | omega | exact Nat.le_refl _⟩, ⟨zk⟩, ⟨zb⟩⟩
   case rest =>
    clear HC5;(try clear c2b0); (try clear p2); (try clear c3b0); (try clear c4b0); (try clear p4); (try clear q4); (try clear hx4); (try clear p6); (try clear c10b0); (try clear c12b0); (try clear c13b0); (try clear hcz7_0); (try clear hcz7_1); (try clear hcz7_2); (try clear hfz7_0); (try clear hfz7_1); (try clear hfz7_2); (try clear hx447_0); (try clear hx447_1); (try clear hx447_2); (try clear hx450_0); (try clear hx450_1); (try clear hx450_2); (try clear p447); (try clear p450); (try clear q447); (try clear q450);obtain ⟨kq, x30_4, rfl, HA, HJ4, BK448, HB⟩ := hcut;cases kq with
    | zero => exact absurd HA.out (by simp [o9.j1])
    | succ kj4 =>
     have H := HA.out;clear HA;simp only [o9.j1] at H;by_cases c25 : x30_4 = true
     ·
      subst c25;rw [if_pos rfl] at H;obtain rfl := Option.some.inj H;go_wp2;go_ret
      exact ⟨zr, zb⟩
     replace c25 := Bool.eq_false_iff.mpr c25;subst c25;rw [if_neg (show ¬ (false = true) by decide)] at H;obtain ⟨c26, H⟩ := zJ H;have c26b0 := eq_true c26;have c26b1 := decide_eq_true c26;clear c26;obtain ⟨c27, H⟩ := zJ H;have c27b0 := eq_true c27;have c27b1 := decide_eq_true c27;clear c27;obtain ⟨y452, hy452⟩ : ∃ y_ : List (S87), y_ = (l0.take (x9_1 : Int).toNat) := ⟨_, rfl⟩;(first | (rw [← hy452] at H; with_reducible replace H := zO H) | rw [← hy452] at H);have Ny452 := zm hy452;clear hy452;have H' := zm H;clear H;have q28 : (x9_1 : Int) ≤ ((l0.length : Int) : Int) := zd;obtain ⟨i028, hi028, _, hsz28, _⟩ := info_parts H8;have hroom28 : l0.length ≤ c0 := HC0.out
     have hC28 : Kd.C k87 _ (some ad447) l0.length l0 := HR0.out
     have hcut28 := cut_to (P := Try.prog) 39 87 .i64 Try.underlying39 hi028 (some ad447) l0.length c0 x9_1 (of_decide_eq_true (by first | (with_reducible assumption) | assumption)) q28 hroom28;have hr28 := Kd.C_take (m := (x9_1 : Int).toNat) hC28 (by omega);have hy28 : y452.length = (x9_1 : Int).toNat := (by rw [Ny452.out, List.length_take]; omega)
     rw [← Ny452.out] at hr28;rw [← hy28] at hcut28;have HR455 := zm hr28;have HC455 := zm (show y452.length ≤ c0 from by omega);clear hr28 hC28 hroom28 hi028 hsz28;have KY28 := zm hy28;clear hy28;replace q28 := eq_true q28;go_wp2;go_loopg [35] kj4 (fun kq v35 w' => ∃ (x35_3 : Int), v35 = .int .i64 x35_3 ∧ Aside0 (o9.l1 kq l0 l0 (l0.length : Int) x9_1 y452 (y452.length : Int) x35_3 ((q8 l0 x9_1).f0) ((q8 l0 x9_1).f1) ((q8 l0 x9_1).f2) = some r) ∧ Aside0 (kq ≤ kj4) ∧ Aside0 (w'.heap[gb448]? = some (.cells #[.int .i64 ((q8 l0 x9_1).f0), .int .i64 ((q8 l0 x9_1).f1), .int .i64 ((q8 l0 x9_1).f2)] 87 (0, 0))) ∧ Aside0 (Below w.heap.size w w'))
     case atStart => exact ⟨(0), zz, H', ⟨Nat.le_refl _⟩, ⟨zk⟩, ⟨zb⟩⟩
     case round =>
      clear H';(try clear c2b0); (try clear p2); (try clear q2); (try clear c3b0); (try clear c4b0); (try clear p4); (try clear q4); (try clear hx4); (try clear p6); (try clear c10b0); (try clear c12b0); (try clear c13b0); (try clear c26b0); (try clear c26b1); (try clear c27b0); (try clear c27b1); (try clear q28); (try clear hcz7_0); (try clear hcz7_1); (try clear hcz7_2); (try clear hfz7_0); (try clear hfz7_1); (try clear hfz7_2); (try clear hx447_0); (try clear hx447_1); (try clear hx447_2); (try clear hx450_0); (try clear hx450_1); (try clear hx450_2); (try clear p2); (try clear p4); (try clear p447); (try clear p450); (try clear p6); (try clear q28); (try clear q4); (try clear q447); (try clear q450);obtain ⟨x35_3, rfl, HA, HK3, BK448, HB⟩ := hrel;cases gk with
      | zero => exact absurd HA.out (by simp [o9.l1])
      | succ k3 =>
       have H := HA.out;clear HA;simp only [o9.l1] at H;by_cases c29 : x35_3 < (y452.length : Int)
       rotate_left
       ·
        rw [if_neg c29] at H;have c29b0 := decide_eq_false c29;clear c29;have H' := zm H;clear H;go_wp2;go_roundg k3
        case measure => have := HK1.out; have := HJ4.out; have := HK3.out; omega
        case rel => exact ⟨(wrap64 (x9_1 + 1)), zz, H', ⟨by have := HK1.out; have := HJ4.out; have := HK3.out; omega⟩, ⟨zb⟩⟩
       rw [if_pos c29] at H;have c29b0 := decide_eq_true c29;clear c29;obtain ⟨c30, H⟩ := zJ H;have c30b0 := decide_eq_true c30;clear c30;obtain ⟨c31, H⟩ := zJ H;have c31b0 := decide_eq_true c31;clear c31;by_cases c32 : ((q8 l0 x9_1).f0) = ((q8 y452 x35_3).f0)
       rotate_left
       ·
        rw [if_neg c32] at H;have c32b0 : (((q8 l0 x9_1).f0) == ((q8 y452 x35_3).f0)) = false := beq_eq_false_iff_ne.mpr c32;have c32b1 : (((q8 l0 x9_1).f0) != ((q8 y452 x35_3).f0)) = true := bne_iff_ne.mpr c32;have H' := zm H;clear H;have p456 : 0 ≤ (x35_3 : Int) := zd;have q456 : x35_3 < (y452.length : Int) := zd;obtain ⟨ad456, e456, hx456_0, hx456_1, hx456_2⟩ := U5 HR455.out x35_3 p456 q456;obtain rfl : ad447 = ad456 := (by injection e456)
        skip
        replace hx456_0 := zx HB.out hx456_0;replace hx456_1 := zx HB.out hx456_1;replace hx456_2 := zx HB.out hx456_2;replace p456 := eq_true p456;replace q456 := eq_true q456;go_wp2_with (first | ((with_reducible refine gate_dst (N := 6) rfl ?_); refine box_event ?hg (N := 6) ?hd (cs := #[.int .i64 0, .int .i64 0, .int .i64 0]) (t := 87) ?hr ?_; (case hd => rfl); (case hg => rfl); (case hr => first | (go_simp; done) | (go_simp; rfl)); intro gb457 hg w42 hbox hb; have n0_ := zm (blk_below (g := gb448) zk hb); have n1_ := zm (below_step zb hb); have BK457 := zm (hbox); have GW457 := zm (zs hg zb : w.heap.size ≤ gb457); have GE457 := zm (zs hg zb : w.heap.size ≤ gb457); have NB448_457 := zm (zl hg zk : gb448 ≠ gb457); have NB457_448 := zm (zg hg zk : gb457 ≠ gb448); replace BK448 := n0_; replace HB := n1_; clear n0_ n1_; clear hb hbox hg; have hnb43 := NB457_448.out; have hnc43 := NB448_457.out; obtain ⟨hcz44_0, hcz44_1, hcz44_2, hfz44_0, hfz44_1, hfz44_2⟩ := zc3 BK457.out; obtain ⟨hcz45_0, hcz45_1, hcz45_2, hfz45_0, hfz45_1, hfz45_2⟩ := zc3 BK448.out))
        go_roundg k3
        case measure => have := HK1.out; have := HJ4.out; have := HK3.out; omega
        case rel => exact ⟨(wrap64 (x35_3 + 1)), zz, H', ⟨by have := HK1.out; have := HJ4.out; have := HK3.out; omega⟩, ⟨zK⟩, ⟨zb⟩⟩
       rw [if_pos c32] at H;have c32b0 : (((q8 l0 x9_1).f0) == ((q8 y452 x35_3).f0)) = true := beq_iff_eq.mpr c32;have c32b1 : (((q8 l0 x9_1).f0) != ((q8 y452 x35_3).f0)) = false := bne_eq_false_iff_eq.mpr c32;clear c32;by_cases c33 : ((q8 y452 x35_3).f2) ≥ ((q8 l0 x9_1).f1)
       ·
        rw [if_pos c33] at H;have c33b0 : decide (((q8 l0 x9_1).f1) ≤ ((q8 y452 x35_3).f2)) = true := decide_eq_true c33;clear c33;obtain rfl := Option.some.inj H;have p456 : 0 ≤ (x35_3 : Int) := zd;have q456 : x35_3 < (y452.length : Int) := zd;obtain ⟨ad456, e456, hx456_0, hx456_1, hx456_2⟩ := U5 HR455.out x35_3 p456 q456;have hq_ : ad456 = ad447 := (by injection e456 with z_; exact z_.symm)
        subst hq_;replace hx456_0 := zx HB.out hx456_0;replace hx456_1 := zx HB.out hx456_1;replace hx456_2 := zx HB.out hx456_2;replace p456 := eq_true p456;replace q456 := eq_true q456;go_wp2_with (first | ((with_reducible refine gate_dst (N := 6) rfl ?_); refine box_event ?hg (N := 6) ?hd (cs := #[.int .i64 0, .int .i64 0, .int .i64 0]) (t := 87) ?hr ?_; (case hd => rfl); (case hg => rfl); (case hr => first | (go_simp; done) | (go_simp; rfl)); intro gb457 hg w34 hbox hb; have n0_ := zm (blk_below (g := gb448) zk hb); have n1_ := zm (below_step zb hb); have BK457 := zm (hbox); have GW457 := zm (zs hg zb : w.heap.size ≤ gb457); have GE457 := zm (zs hg zb : w.heap.size ≤ gb457); have NB448_457 := zm (zl hg zk : gb448 ≠ gb457); have NB457_448 := zm (zg hg zk : gb457 ≠ gb448); replace BK448 := n0_; replace HB := n1_; clear n0_ n1_; clear hb hbox hg; have hnb35 := NB457_448.out; have hnc35 := NB448_457.out; obtain ⟨hcz36_0, hcz36_1, hcz36_2, hfz36_0, hfz36_1, hfz36_2⟩ := zc3 BK457.out; obtain ⟨hcz37_0, hcz37_1, hcz37_2, hfz37_0, hfz37_1, hfz37_2⟩ := zc3 BK448.out))
        go_ret
        exact ⟨zr, zb⟩
       rw [if_neg c33] at H;have c33b0 : decide (((q8 l0 x9_1).f1) ≤ ((q8 y452 x35_3).f2)) = false := decide_eq_false c33;clear c33;have H' := zm H;clear H;have p456 : 0 ≤ (x35_3 : Int) := zd;have q456 : x35_3 < (y452.length : Int) := zd;obtain ⟨ad456, e456, hx456_0, hx456_1, hx456_2⟩ := U5 HR455.out x35_3 p456 q456;have hq_ : ad456 = ad447 := (by injection e456 with z_; exact z_.symm)
       subst hq_;replace hx456_0 := zx HB.out hx456_0;replace hx456_1 := zx HB.out hx456_1;replace hx456_2 := zx HB.out hx456_2;replace p456 := eq_true p456;replace q456 := eq_true q456;go_wp2_with (first | ((with_reducible refine gate_dst (N := 6) rfl ?_); refine box_event ?hg (N := 6) ?hd (cs := #[.int .i64 0, .int .i64 0, .int .i64 0]) (t := 87) ?hr ?_; (case hd => rfl); (case hg => rfl); (case hr => first | (go_simp; done) | (go_simp; rfl)); intro gb457 hg w38 hbox hb; have n0_ := zm (blk_below (g := gb448) zk hb); have n1_ := zm (below_step zb hb); have BK457 := zm (hbox); have GW457 := zm (zs hg zb : w.heap.size ≤ gb457); have GE457 := zm (zs hg zb : w.heap.size ≤ gb457); have NB448_457 := zm (zl hg zk : gb448 ≠ gb457); have NB457_448 := zm (zg hg zk : gb457 ≠ gb448); replace BK448 := n0_; replace HB := n1_; clear n0_ n1_; clear hb hbox hg; have hnb39 := NB457_448.out; have hnc39 := NB448_457.out; obtain ⟨hcz40_0, hcz40_1, hcz40_2, hfz40_0, hfz40_1, hfz40_2⟩ := zc3 BK457.out; obtain ⟨hcz41_0, hcz41_1, hcz41_2, hfz41_0, hfz41_1, hfz41_2⟩ := zc3 BK448.out))
       go_roundg k3
       case measure => have := HK1.out; have := HJ4.out; have := HK3.out; omega
       case rel => exact ⟨(wrap64 (x35_3 + 1)), zz, H', ⟨by have := HK1.out; have := HJ4.out; have := HK3.out; omega⟩, ⟨zK⟩, ⟨zb⟩⟩
end Go.Proofs.Ytjdkdbeenggfaaa.PEr
