import Derived.Test.YtkfledgkhgcicaaGreatPFgx0
import Derived.Test.YtkfledgkhgcicaaGreatPFgx2
namespace Go.Proofs.YtkfledgkhgcicaaGreat.PFg
open Go.RowKit Go.Proofs.YtkfledgkhgcicaaGreatW.PrintWords Go.Proofs.YtkfledgkhgcicaaGreatW.PrintLast Go.Proofs.YtkfledgkhgcicaaGreatW.PrintMore
attribute [local go_sem] P8 P5 E5 E8 M4 M0 P6 P7   -- for this text's walks alone
set_option linter.unusedVariables false
set_option linter.unusedSimpArgs false
mutual
def Q7.l0 : Nat → List (S48) → List (S48) → Int → Int → Option (Bool)
  | 0, _, _, _, _ => none
  | k + 1, x0, x7, x8, x9 => if x9 < x8 then (if 0 ≤ x9 then (if x9 < (x7.length : Int) then ((q0v.f ((q8 x7 x9).f0) ((q8 x7 x9).f1) ((q8 x7 x9).f2)).bind fun t119 => (if t119 = true then (if x9 > 0 then (if 0 ≤ (wrap64 (x9 - 1)) then (if (wrap64 (x9 - 1)) < (x0.length : Int) then ((C8.f ((q8 x0 (wrap64 (x9 - 1))).f0) ((q8 x0 (wrap64 (x9 - 1))).f1) ((q8 x0 (wrap64 (x9 - 1))).f2) ((q8 x7 x9).f0) ((q8 x7 x9).f1) ((q8 x7 x9).f2)).bind fun t121 => (Q7.j1 k x0 x9 x7 x8 x9 (!t121) ((q8 x7 x9).f0) ((q8 x7 x9).f1) ((q8 x7 x9).f2))) else (none)) else (none)) else (Q7.j1 k x0 x9 x7 x8 x9 false ((q8 x7 x9).f0) ((q8 x7 x9).f1) ((q8 x7 x9).f2))) else (Q7.j1 k x0 x9 x7 x8 x9 true ((q8 x7 x9).f0) ((q8 x7 x9).f1) ((q8 x7 x9).f2)))) else (none)) else (none)) else (some (decide ((x0.length : Int) ≤ 60)))
def Q7.j1 : Nat → List (S48) → Int → List (S48) → Int → Int → Bool → Int → Int → Int → Option (Bool)
  | 0, _, _, _, _, _, _, _, _, _ => none
  | k + 1, x0, x3, x7, x8, x9, x30, x119000, x119001, x119002 => if x30 = true then (some false) else (if 0 ≤ x3 then (if x3 ≤ (x0.length : Int) then ((some (x0.take (x3 : Int).toNat : List (S48))).bind fun y122 => (Q7.l1 k x0 x7 x8 x9 y122 (y122.length : Int) 0 x119000 x119001 x119002)) else (none)) else (none))
def Q7.l1 : Nat → List (S48) → List (S48) → Int → Int → List (S48) → Int → Int → Int → Int → Int → Option (Bool)
  | 0, _, _, _, _, _, _, _, _, _, _ => none
  | k + 1, x0, x7, x8, x9, x33, x34, x35, x119000, x119001, x119002 => if x35 < x34 then (if 0 ≤ x35 then (if x35 < (x33.length : Int) then (if x119000 = ((q8 x33 x35).f0) then (if ((q8 x33 x35).f2) ≥ x119001 then (some false) else (Q7.l1 k x0 x7 x8 x9 x33 x34 (wrap64 (x35 + 1)) x119000 x119001 x119002)) else (Q7.l1 k x0 x7 x8 x9 x33 x34 (wrap64 (x35 + 1)) x119000 x119001 x119002)) else (none)) else (none)) else (Q7.l0 k x0 x7 x8 (wrap64 (x9 + 1)))
end
def Q7.f (k : Nat) (l0 : List (S48)) : Option (Bool) := Q7.l0 k l0 l0 (l0.length : Int) 0
def Q7.T4 : Bool × List (List Nat × List Nat) := (true, [([], []), ([0], [0]), ([1], [1]), ([2, 1], [2]), ([3], [3]), ([4, 3], [3, 4]), ([5, 3, 3], [3, 5]), ([6], [6]), ([6], [6]), ([8, 6], [6, 8]), ([7, 9, 6], [6, 7, 9]), ([10, 6], [6, 10]), ([6], [6]), ([11, 12, 6, 6], [6, 11, 12]), ([13, 6], [6, 13]), ([6, 14, 3], [3, 6, 14]), ([3, 15], [3, 15])])
def Q7.B4 : List Nat := [0, 1, 3, 7, 15, 31, 63, 127, 127, 383, 1023, 2047, 127, 8191, 16383, 32767, 65535]
theorem Q7.v5q : I5 .any (opsOf Tryz.f25 4) = Q7.T4 := by kernel_rfl
theorem Q7.v2v : q04 Q7.T4.2 Q7.B4 = true := by kernel_rfl
set_option maxHeartbeats 8000000 in
set_option maxRecDepth 100000 in
theorem Q7.calls (k : Nat) (A0 : Option Addr) (c0 : Nat) (l0 : List (S48)) (r : Bool) (w : World) (hr0 : Kd.C k48 w A0 l0.length l0) (hc0 : l0.length ≤ c0) (h : Q7.f k l0 = some r) :
  Calls Tryz.prog 25 #[.slice A0 l0.length c0] w fun e w' => e = .returned (.bool r) ∧ Below w.heap.size w w' := by
 have hu48 := Tryz.underlying48;have HR0 := zm hr0;have HC0 := zm hc0;clear hr0 hc0;have HB := zm (Below.refl w.heap.size w);have H : (Q7.l0 k l0 l0 (l0.length : Int) 0) = some r := h;clear h;have H' := zm H;clear H;go_enter Tryz.func25, Tryz.ntmps25;go_wp2;go_loopg [9] k (fun kq v9 w' => ∃ (x9_1 : Int), v9 = .int .i64 x9_1 ∧ z8 (Q7.l0 kq l0 l0 (l0.length : Int) x9_1 = some r) ∧ z8 (kq ≤ k) ∧ z8 (Below w.heap.size w w'))
 case atStart => exact ⟨(0), zz, H', ⟨Nat.le_refl _⟩, ⟨zb⟩⟩
 case round =>
  clear H';obtain ⟨x9_1, rfl, HA, HK1, HB⟩ := hrel;cases gk with
  | zero => exact absurd HA.out (by simp [Q7.l0])
  | succ k1 =>
   have H := HA.out;clear HA;simp only [Q7.l0] at H;by_cases c2 : x9_1 < (l0.length : Int)
   rotate_left
   ·
    rw [if_neg c2] at H;have c2b0 := decide_eq_false c2;clear c2;obtain rfl := Option.some.inj H;go_wp2;go_ret
    exact ⟨zr, zb⟩
   rw [if_pos c2] at H;have c2b0 := decide_eq_true c2;clear c2;obtain ⟨c3, H⟩ := zJ H;have c3b0 := decide_eq_true c3;clear c3;obtain ⟨c4, H⟩ := zJ H;have c4b0 := decide_eq_true c4;clear c4;have HC5 := zm H;clear H;have p117 : 0 ≤ (x9_1 : Int) := zd;have q117 : x9_1 < (l0.length : Int) := zd;obtain ⟨ad117, e117, hx117_0, hx117_1, hx117_2⟩ := H9 HR0.out x9_1 p117 q117;cases e117;replace hx117_0 := zx HB.out hx117_0;replace hx117_1 := zx HB.out hx117_1;replace hx117_2 := zx HB.out hx117_2;replace p117 := eq_true p117;replace q117 := eq_true q117;go_upto_region 4 with (first | ((with_reducible refine Q6 (N := 4) rfl ?_); refine V5 ?hg (N := 4) ?hd (cs := #[.int .i64 0, .int .i64 0, .int .i64 0]) (t := 48) ?hr ?_; (case hd => rfl); (case hg => rfl); (case hr => first | (go_simp; done) | (go_simp; rfl)); intro gb118 hg w6 hbox hb; have n0_ := zm (q9 zb hb); have BK118 := zm (hbox); have GW118 := zm (zs hg zb : w.heap.size ≤ gb118); have GE118 := zm (zs hg zb : w.heap.size ≤ gb118); replace HB := n0_; clear n0_; clear hb hbox hg; obtain ⟨hcz7_0, hcz7_1, hcz7_2, hfz7_0, hfz7_1, hfz7_2⟩ := zc3 BK118.out))
   (try simp only [Act.put, List.setIfInBounds_toArray, List.set_cons_zero, List.set_cons_succ]);go_cut [30] (fun v30 wc => ∃ (kq : Nat) (x30_4 : Bool), v30 = .bool x30_4 ∧ z8 (Q7.j1 kq l0 x9_1 l0 (l0.length : Int) x9_1 x30_4 ((q8 l0 x9_1).f0) ((q8 l0 x9_1).f1) ((q8 l0 x9_1).f2) = some r) ∧ z8 (kq ≤ k1) ∧ z8 (wc.heap[gb118]? = some (.cells #[.int .i64 ((q8 l0 x9_1).f0), .int .i64 ((q8 l0 x9_1).f1), .int .i64 ((q8 l0 x9_1).f2)] 48 (0, 0))) ∧ z8 (Below w.heap.size w wc))
   case first =>
    have H := HC5.out;clear HC5;obtain ⟨t119, A8, H⟩ := zI H;(try dsimp only at H);by_cases c9 : t119 = true
    rotate_left
    ·
     replace c9 := Bool.eq_false_iff.mpr c9;subst c9;rw [if_neg (show ¬ (false = true) by decide)] at H;have H' := zm H;clear H;try go_wp2
     have n0_ : z8 ((((w6.setCell ⟨gb118, 0, none⟩ (.int .i64 ((q8 l0 x9_1).f0))).setCell ⟨gb118, 1, none⟩ (.int .i64 ((q8 l0 x9_1).f1))).setCell ⟨gb118, 2, none⟩ (.int .i64 ((q8 l0 x9_1).f2))).heap[gb118]? = some (.cells #[.int .i64 ((q8 l0 x9_1).f0), .int .i64 ((q8 l0 x9_1).f1), .int .i64 ((q8 l0 x9_1).f2)] 48 (0, 0))) := ⟨by (with_reducible repeat (first | refine p9 ?_ _ | refine l6 ?_ | refine r9 ?_ _)); refine V3 (cs := #[.int .i64 ((q8 l0 x9_1).f0), .int .i64 ((q8 l0 x9_1).f1), .int .i64 0]) ?_ 2 _ rfl; (with_reducible repeat (first | refine p9 ?_ _ | refine l6 ?_ | refine r9 ?_ _)); refine V3 (cs := #[.int .i64 ((q8 l0 x9_1).f0), .int .i64 0, .int .i64 0]) ?_ 1 _ rfl; (with_reducible repeat (first | refine p9 ?_ _ | refine l6 ?_ | refine r9 ?_ _)); refine V3 (cs := #[.int .i64 0, .int .i64 0, .int .i64 0]) ?_ 0 _ rfl; (with_reducible repeat (first | refine p9 ?_ _ | refine l6 ?_ | refine r9 ?_ _)); exact BK118.out⟩
     have n1_ : z8 (Below w.heap.size w (((w6.setCell ⟨gb118, 0, none⟩ (.int .i64 ((q8 l0 x9_1).f0))).setCell ⟨gb118, 1, none⟩ (.int .i64 ((q8 l0 x9_1).f1))).setCell ⟨gb118, 2, none⟩ (.int .i64 ((q8 l0 x9_1).f2)))) := ⟨zb⟩
     (try clear BK118);(try clear HB);generalize (((w6.setCell ⟨gb118, 0, none⟩ (.int .i64 ((q8 l0 x9_1).f0))).setCell ⟨gb118, 1, none⟩ (.int .i64 ((q8 l0 x9_1).f1))).setCell ⟨gb118, 2, none⟩ (.int .i64 ((q8 l0 x9_1).f2))) = w22 at n0_ n1_ ⊢;have BK118 := n0_;have HB := n1_;clear n0_ n1_;have n0_ := zm (l6 BK118.out);have n1_ := zm (X3 HB.out);clear BK118;clear HB;have BK118 := n0_;have HB := n1_;clear n0_ n1_;refine F7 (n := 17) (S := fun w' => w'.cell? ⟨gb118, 0, none⟩ = some (.int .i64 ((q8 l0 x9_1).f0)) ∧ w'.cell? ⟨gb118, 1, none⟩ = some (.int .i64 ((q8 l0 x9_1).f1)) ∧ w'.cell? ⟨gb118, 2, none⟩ = some (.int .i64 ((q8 l0 x9_1).f2))) (ds := []) #[F,F,F,F,F,F,F,F,F,F,F,F,F,F,F,F,F] (by kernel_rfl) rfl rfl ⟨(l7 BK118.out 0).trans rfl, (l7 BK118.out 1).trans rfl, (l7 BK118.out 2).trans rfl⟩ (fun hHeld => ?_); refine H6 Q7.v5q Q7.v2v (fun HT_ HW_ => ?_)
     generalize w22.drew = w23 at BK118 HB hHeld ⊢;refine G9 (i := 0) (N := some 14) (v := ?_) (a' := ?_) #[T,F,F,F,F,F,F,F,F,F,F,F,F,F,F,F,F] rfl rfl (Z9 HT_.out HW_.out (by kernel_rfl)) (fun _ _ _ h => h) (Or.inl ⟨by rfl, ?_⟩) hHeld ?_ ?_
     rotate_left
     ·
      rintro w' ⟨s0, s1, s2⟩;go_simp
      with_reducible rfl
     rotate_left
     ·
      simp only [Act.put, zA, zB, zD, V7, V9]
      rfl
     refine U2 (i := 1) (N := some 15) #[T,T,F,F,F,F,F,F,F,F,F,F,F,F,F,F,F] rfl rfl (K3 HT_.out (by kernel_rfl)) (by decide) (fun K hK => ?_)
     refine O8 Tryz.func50 (by kernel_rfl) rfl #[.agg #[.int .i64 ((q8 l0 x9_1).f0), .int .i64 ((q8 l0 x9_1).f1), .int .i64 ((q8 l0 x9_1).f2)]] (by rfl) rfl rfl (by (try simp only [List.map_toArray, List.map_cons, List.map_nil]); first | done | rfl | (simp only [List.length_drop, List.length_take]; rfl)) ?_
     with_reducible refine (q0v.calls ((q8 l0 x9_1).f0) ((q8 l0 x9_1).f1) ((q8 l0 x9_1).f2) false _ A8.out).mono ?_
     rintro e w24 ⟨rfl, hb⟩;refine ⟨_, rfl, ?_⟩
     have n0_ := zm (o5 (g := gb118) zk hb);have n1_ := zm (q9 zb hb);clear BK118;clear HB;have BK118 := n0_;have HB := n1_;clear n0_ n1_;(try clear hb);refine hK.out _ _ ⟨(l7 BK118.out 0).trans rfl, (l7 BK118.out 1).trans rfl, (l7 BK118.out 2).trans rfl⟩ (fun hHeld => ?_)
     clear hK K;refine Y8 (a' := ?_) ?_ ?_;rotate_left
     ·
      show Act.put _ (some 15) _ = _
      simp only [Act.put, zA, zB, zD, V7, V9]
      rfl
     refine zU 2 16 #[T,T,T,F,F,F,F,F,F,F,F,F,F,F,F,F,F] ?_;refine zU 3 17 #[T,T,T,T,F,F,F,F,F,F,F,F,F,F,F,F,F] ?_;refine zV 4 18 #[T,T,T,T,T,F,F,F,F,F,F,F,F,F,F,F,F] ?_;refine zV 5 19 #[T,T,T,T,T,T,F,F,F,F,F,F,F,F,F,F,F] ?_;refine zV 6 20 #[T,T,T,T,T,T,T,F,F,F,F,F,F,F,F,F,F] ?_;refine zV 7 21 #[T,T,T,T,T,T,T,T,F,F,F,F,F,F,F,F,F] ?_;refine zV 8 22 #[T,T,T,T,T,T,T,T,T,F,F,F,F,F,F,F,F] ?_;refine zV 9 23 #[T,T,T,T,T,T,T,T,T,T,F,F,F,F,F,F,F] ?_;refine zV 10 24 #[T,T,T,T,T,T,T,T,T,T,T,F,F,F,F,F,F] ?_;refine zV 11 25 #[T,T,T,T,T,T,T,T,T,T,T,T,F,F,F,F,F] ?_;refine zV 12 26 #[T,T,T,T,T,T,T,T,T,T,T,T,T,F,F,F,F] ?_;refine zV 13 27 #[T,T,T,T,T,T,T,T,T,T,T,T,T,T,F,F,F] ?_;refine zV 14 28 #[T,T,T,T,T,T,T,T,T,T,T,T,T,T,T,F,F] ?_;refine zV 15 29 #[T,T,T,T,T,T,T,T,T,T,T,T,T,T,T,T,F] ?_;refine zU 16 30 #[T,T,T,T,T,T,T,T,T,T,T,T,T,T,T,T,T] ?_;refine O7 (U0 HT_.out (by kernel_rfl)) ?_
     try go_wp2
     go_meet
     case rel => exact ⟨_, (true), zz, H', ⟨by have := HK1.out; first | omega | exact Nat.le_refl _⟩, ⟨zk⟩, ⟨zb⟩⟩
    subst c9;rw [if_pos rfl] at H;by_cases c10 : x9_1 > 0
    rotate_left
    ·
     rw [if_neg c10] at H;have c10b0 : decide (0 < x9_1) = false := decide_eq_false c10;clear c10;(first | rw [c10b0] | (simp only [V7, V9]; rw [c10b0]) | skip);have H' := zm H;clear H;try go_wp2
     have n0_ : z8 ((((w6.setCell ⟨gb118, 0, none⟩ (.int .i64 ((q8 l0 x9_1).f0))).setCell ⟨gb118, 1, none⟩ (.int .i64 ((q8 l0 x9_1).f1))).setCell ⟨gb118, 2, none⟩ (.int .i64 ((q8 l0 x9_1).f2))).heap[gb118]? = some (.cells #[.int .i64 ((q8 l0 x9_1).f0), .int .i64 ((q8 l0 x9_1).f1), .int .i64 ((q8 l0 x9_1).f2)] 48 (0, 0))) := ⟨by (with_reducible repeat (first | refine p9 ?_ _ | refine l6 ?_ | refine r9 ?_ _)); refine V3 (cs := #[.int .i64 ((q8 l0 x9_1).f0), .int .i64 ((q8 l0 x9_1).f1), .int .i64 0]) ?_ 2 _ rfl; (with_reducible repeat (first | refine p9 ?_ _ | refine l6 ?_ | refine r9 ?_ _)); refine V3 (cs := #[.int .i64 ((q8 l0 x9_1).f0), .int .i64 0, .int .i64 0]) ?_ 1 _ rfl; (with_reducible repeat (first | refine p9 ?_ _ | refine l6 ?_ | refine r9 ?_ _)); refine V3 (cs := #[.int .i64 0, .int .i64 0, .int .i64 0]) ?_ 0 _ rfl; (with_reducible repeat (first | refine p9 ?_ _ | refine l6 ?_ | refine r9 ?_ _)); exact BK118.out⟩
     have n1_ : z8 (Below w.heap.size w (((w6.setCell ⟨gb118, 0, none⟩ (.int .i64 ((q8 l0 x9_1).f0))).setCell ⟨gb118, 1, none⟩ (.int .i64 ((q8 l0 x9_1).f1))).setCell ⟨gb118, 2, none⟩ (.int .i64 ((q8 l0 x9_1).f2)))) := ⟨zb⟩
     (try clear BK118);(try clear HB);generalize (((w6.setCell ⟨gb118, 0, none⟩ (.int .i64 ((q8 l0 x9_1).f0))).setCell ⟨gb118, 1, none⟩ (.int .i64 ((q8 l0 x9_1).f1))).setCell ⟨gb118, 2, none⟩ (.int .i64 ((q8 l0 x9_1).f2))) = w19 at n0_ n1_ ⊢;have BK118 := n0_;have HB := n1_;clear n0_ n1_;have n0_ := zm (l6 BK118.out);have n1_ := zm (X3 HB.out);clear BK118;clear HB;have BK118 := n0_;have HB := n1_;clear n0_ n1_;refine F7 (n := 17) (S := fun w' => w'.cell? ⟨gb118, 0, none⟩ = some (.int .i64 ((q8 l0 x9_1).f0)) ∧ w'.cell? ⟨gb118, 1, none⟩ = some (.int .i64 ((q8 l0 x9_1).f1)) ∧ w'.cell? ⟨gb118, 2, none⟩ = some (.int .i64 ((q8 l0 x9_1).f2))) (ds := []) #[F,F,F,F,F,F,F,F,F,F,F,F,F,F,F,F,F] (by kernel_rfl) rfl rfl ⟨(l7 BK118.out 0).trans rfl, (l7 BK118.out 1).trans rfl, (l7 BK118.out 2).trans rfl⟩ (fun hHeld => ?_); refine H6 Q7.v5q Q7.v2v (fun HT_ HW_ => ?_)
     generalize w19.drew = w20 at BK118 HB hHeld ⊢;refine G9 (i := 0) (N := some 14) (v := ?_) (a' := ?_) #[T,F,F,F,F,F,F,F,F,F,F,F,F,F,F,F,F] rfl rfl (Z9 HT_.out HW_.out (by kernel_rfl)) (fun _ _ _ h => h) (Or.inl ⟨by rfl, ?_⟩) hHeld ?_ ?_
     rotate_left
     ·
      rintro w' ⟨s0, s1, s2⟩;go_simp
      with_reducible rfl
     rotate_left
     ·
      simp only [Act.put, zA, zB, zD, V7, V9]
      rfl
     refine U2 (i := 1) (N := some 15) #[T,T,F,F,F,F,F,F,F,F,F,F,F,F,F,F,F] rfl rfl (K3 HT_.out (by kernel_rfl)) (by decide) (fun K hK => ?_)
     refine O8 Tryz.func50 (by kernel_rfl) rfl #[.agg #[.int .i64 ((q8 l0 x9_1).f0), .int .i64 ((q8 l0 x9_1).f1), .int .i64 ((q8 l0 x9_1).f2)]] (by rfl) rfl rfl (by (try simp only [List.map_toArray, List.map_cons, List.map_nil]); first | done | rfl | (simp only [List.length_drop, List.length_take]; rfl)) ?_
     with_reducible refine (q0v.calls ((q8 l0 x9_1).f0) ((q8 l0 x9_1).f1) ((q8 l0 x9_1).f2) true _ A8.out).mono ?_
     rintro e w21 ⟨rfl, hb⟩;refine ⟨_, rfl, ?_⟩
     have n0_ := zm (o5 (g := gb118) zk hb);have n1_ := zm (q9 zb hb);clear BK118;clear HB;have BK118 := n0_;have HB := n1_;clear n0_ n1_;(try clear hb);refine hK.out _ _ ⟨(l7 BK118.out 0).trans rfl, (l7 BK118.out 1).trans rfl, (l7 BK118.out 2).trans rfl⟩ (fun hHeld => ?_)
     clear hK K;refine Y8 (a' := ?_) ?_ ?_;rotate_left
     ·
      show Act.put _ (some 15) _ = _
      simp only [Act.put, zA, zB, zD, V7, V9]
      rfl
     refine zU 2 16 #[T,T,T,F,F,F,F,F,F,F,F,F,F,F,F,F,F] ?_;refine zU 3 17 #[T,T,T,T,F,F,F,F,F,F,F,F,F,F,F,F,F] ?_;refine zU 4 18 #[T,T,T,T,T,F,F,F,F,F,F,F,F,F,F,F,F] ?_;refine zU 5 19 #[T,T,T,T,T,T,F,F,F,F,F,F,F,F,F,F,F] ?_;refine zU 6 20 #[T,T,T,T,T,T,T,F,F,F,F,F,F,F,F,F,F] ?_;refine zV 7 21 #[T,T,T,T,T,T,T,T,F,F,F,F,F,F,F,F,F] ?_;refine zV 8 22 #[T,T,T,T,T,T,T,T,T,F,F,F,F,F,F,F,F] ?_;refine zV 9 23 #[T,T,T,T,T,T,T,T,T,T,F,F,F,F,F,F,F] ?_;refine zV 10 24 #[T,T,T,T,T,T,T,T,T,T,T,F,F,F,F,F,F] ?_;refine zV 11 25 #[T,T,T,T,T,T,T,T,T,T,T,T,F,F,F,F,F] ?_;refine zV 12 26 #[T,T,T,T,T,T,T,T,T,T,T,T,T,F,F,F,F] ?_;refine zV 13 27 #[T,T,T,T,T,T,T,T,T,T,T,T,T,T,F,F,F] ?_;refine zV 14 28 #[T,T,T,T,T,T,T,T,T,T,T,T,T,T,T,F,F] ?_;refine zU 15 29 #[T,T,T,T,T,T,T,T,T,T,T,T,T,T,T,T,F] ?_;refine zU 16 30 #[T,T,T,T,T,T,T,T,T,T,T,T,T,T,T,T,T] ?_;refine O7 (U0 HT_.out (by kernel_rfl)) ?_
     try go_wp2
     go_meet
     case rel => exact ⟨_, (false), zz, H', ⟨by have := HK1.out; first | omega | exact Nat.le_refl _⟩, ⟨zk⟩, ⟨zb⟩⟩
    rw [if_pos c10] at H;have c10b0 : decide (0 < x9_1) = true := decide_eq_true c10;clear c10;(first | rw [c10b0] | (simp only [V7, V9]; rw [c10b0]) | skip);obtain ⟨ji11, hji11⟩ : ∃ j_ : Int, (wrap64 (x9_1 - 1)) = j_ := ⟨_, rfl⟩;replace H : (if 0 ≤ (ji11) then (if (ji11) < (l0.length : Int) then ((C8.f ((q8 l0 (ji11)).f0) ((q8 l0 (ji11)).f1) ((q8 l0 (ji11)).f2) ((q8 l0 x9_1).f0) ((q8 l0 x9_1).f1) ((q8 l0 x9_1).f2)).bind fun t121 => (Q7.j1 k1 l0 x9_1 l0 (l0.length : Int) x9_1 (!t121) ((q8 l0 x9_1).f0) ((q8 l0 x9_1).f1) ((q8 l0 x9_1).f2))) else (none)) else (none)) = some r := by first | (rw [hji11] at H; exact H) | (simp only [hji11] at H ⊢; exact H)
    (try rw [hji11] at A8);have hji11w : (IntKind.i64.wrap (x9_1 - 1)) = ji11 := (V7 _).trans hji11
    obtain ⟨c12, H⟩ := zJ H;have c12b0 := decide_eq_true c12;clear c12;obtain ⟨c13, H⟩ := zJ H;have c13b0 := decide_eq_true c13;clear c13;obtain ⟨t121, A14, H⟩ := zI H;(try dsimp only at H);have H' := zm H;clear H;try go_wp2
    have n0_ : z8 ((((w6.setCell ⟨gb118, 0, none⟩ (.int .i64 ((q8 l0 x9_1).f0))).setCell ⟨gb118, 1, none⟩ (.int .i64 ((q8 l0 x9_1).f1))).setCell ⟨gb118, 2, none⟩ (.int .i64 ((q8 l0 x9_1).f2))).heap[gb118]? = some (.cells #[.int .i64 ((q8 l0 x9_1).f0), .int .i64 ((q8 l0 x9_1).f1), .int .i64 ((q8 l0 x9_1).f2)] 48 (0, 0))) := ⟨by (with_reducible repeat (first | refine p9 ?_ _ | refine l6 ?_ | refine r9 ?_ _)); refine V3 (cs := #[.int .i64 ((q8 l0 x9_1).f0), .int .i64 ((q8 l0 x9_1).f1), .int .i64 0]) ?_ 2 _ rfl; (with_reducible repeat (first | refine p9 ?_ _ | refine l6 ?_ | refine r9 ?_ _)); refine V3 (cs := #[.int .i64 ((q8 l0 x9_1).f0), .int .i64 0, .int .i64 0]) ?_ 1 _ rfl; (with_reducible repeat (first | refine p9 ?_ _ | refine l6 ?_ | refine r9 ?_ _)); refine V3 (cs := #[.int .i64 0, .int .i64 0, .int .i64 0]) ?_ 0 _ rfl; (with_reducible repeat (first | refine p9 ?_ _ | refine l6 ?_ | refine r9 ?_ _)); exact BK118.out⟩
    have n1_ : z8 (Below w.heap.size w (((w6.setCell ⟨gb118, 0, none⟩ (.int .i64 ((q8 l0 x9_1).f0))).setCell ⟨gb118, 1, none⟩ (.int .i64 ((q8 l0 x9_1).f1))).setCell ⟨gb118, 2, none⟩ (.int .i64 ((q8 l0 x9_1).f2)))) := ⟨zb⟩
    (try clear BK118);(try clear HB);generalize (((w6.setCell ⟨gb118, 0, none⟩ (.int .i64 ((q8 l0 x9_1).f0))).setCell ⟨gb118, 1, none⟩ (.int .i64 ((q8 l0 x9_1).f1))).setCell ⟨gb118, 2, none⟩ (.int .i64 ((q8 l0 x9_1).f2))) = w15 at n0_ n1_ ⊢;have BK118 := n0_;have HB := n1_;clear n0_ n1_;have n0_ := zm (l6 BK118.out);have n1_ := zm (X3 HB.out);clear BK118;clear HB;have BK118 := n0_;have HB := n1_;clear n0_ n1_;have p120 : 0 ≤ ((ji11) : Int) := zd;have q120 : (ji11) < (l0.length : Int) := zd;obtain ⟨ad120, e120, hx120_0, hx120_1, hx120_2⟩ := H9 HR0.out (ji11) p120 q120;have hw120_2 := hx120_2;have hw120_1 := hx120_1;have hw120_0 := hx120_0;obtain rfl : ad117 = ad120 := (by injection e120)
    skip
    replace hx120_0 := zx HB.out hx120_0;replace hx120_1 := zx HB.out hx120_1;replace hx120_2 := zx HB.out hx120_2;replace p120 := eq_true p120;replace q120 := eq_true q120;refine F7 (n := 17) (S := fun w' => w'.cell? ⟨gb118, 0, none⟩ = some (.int .i64 ((q8 l0 x9_1).f0)) ∧ w'.cell? ⟨gb118, 1, none⟩ = some (.int .i64 ((q8 l0 x9_1).f1)) ∧ w'.cell? ⟨gb118, 2, none⟩ = some (.int .i64 ((q8 l0 x9_1).f2)) ∧ w'.cell? (ad117.add (((ji11)).toNat * 3)) = some (.int .i64 ((q8 l0 (ji11)).f0)) ∧ w'.cell? ⟨(ad117.add (((ji11)).toNat * 3)).block, (ad117.add (((ji11)).toNat * 3)).off + 1, none⟩ = some (.int .i64 ((q8 l0 (ji11)).f1)) ∧ w'.cell? ⟨(ad117.add (((ji11)).toNat * 3)).block, (ad117.add (((ji11)).toNat * 3)).off + 2, none⟩ = some (.int .i64 ((q8 l0 (ji11)).f2))) (ds := []) #[F,F,F,F,F,F,F,F,F,F,F,F,F,F,F,F,F] (by kernel_rfl) rfl rfl ⟨(l7 BK118.out 0).trans rfl, (l7 BK118.out 1).trans rfl, (l7 BK118.out 2).trans rfl, ((HB.out.cell (World.block_lt_of_cell? w _ hw120_0)).trans hw120_0), ((HB.out.cell (World.block_lt_of_cell? w _ hw120_1)).trans hw120_1), ((HB.out.cell (World.block_lt_of_cell? w _ hw120_2)).trans hw120_2)⟩ (fun hHeld => ?_); refine H6 Q7.v5q Q7.v2v (fun HT_ HW_ => ?_)
    generalize w15.drew = w16 at BK118 HB hx120_0 hx120_1 hx120_2 hHeld ⊢;refine G9 (i := 0) (N := some 14) (v := ?_) (a' := ?_) #[T,F,F,F,F,F,F,F,F,F,F,F,F,F,F,F,F] rfl rfl (Z9 HT_.out HW_.out (by kernel_rfl)) (fun _ _ _ h => h) (Or.inl ⟨by rfl, ?_⟩) hHeld ?_ ?_
    rotate_left
    ·
     rintro w' ⟨s0, s1, s2, s3, s4, s5⟩;go_simp
     with_reducible rfl
    rotate_left
    ·
     simp only [Act.put, zA, zB, zD, V7, V9]
     rfl
    refine U2 (i := 1) (N := some 15) #[T,T,F,F,F,F,F,F,F,F,F,F,F,F,F,F,F] rfl rfl (K3 HT_.out (by kernel_rfl)) (by decide) (fun K hK => ?_)
    refine O8 Tryz.func50 (by kernel_rfl) rfl #[.agg #[.int .i64 ((q8 l0 x9_1).f0), .int .i64 ((q8 l0 x9_1).f1), .int .i64 ((q8 l0 x9_1).f2)]] (by rfl) rfl rfl (by (try simp only [List.map_toArray, List.map_cons, List.map_nil]); first | done | rfl | (simp only [List.length_drop, List.length_take]; rfl)) ?_
    with_reducible refine (q0v.calls ((q8 l0 x9_1).f0) ((q8 l0 x9_1).f1) ((q8 l0 x9_1).f2) true _ A8.out).mono ?_
    rintro e w17 ⟨rfl, hb⟩;refine ⟨_, rfl, ?_⟩
    have n0_ := zm (o5 (g := gb118) zk hb);have n1_ := zm (q9 zb hb);clear BK118;clear HB;have BK118 := n0_;have HB := n1_;clear n0_ n1_;(try clear hb);refine hK.out _ _ ⟨(l7 BK118.out 0).trans rfl, (l7 BK118.out 1).trans rfl, (l7 BK118.out 2).trans rfl, ((HB.out.cell (World.block_lt_of_cell? w _ hw120_0)).trans hw120_0), ((HB.out.cell (World.block_lt_of_cell? w _ hw120_1)).trans hw120_1), ((HB.out.cell (World.block_lt_of_cell? w _ hw120_2)).trans hw120_2)⟩ (fun hHeld => ?_)
    clear hK K;refine Y8 (a' := ?_) ?_ ?_;rotate_left
    ·
     show Act.put _ (some 15) _ = _
     simp only [Act.put, zA, zB, zD, V7, V9]
     rfl
    refine zU 2 16 #[T,T,T,F,F,F,F,F,F,F,F,F,F,F,F,F,F] ?_;refine zU 3 17 #[T,T,T,T,F,F,F,F,F,F,F,F,F,F,F,F,F] ?_;refine zU 4 18 #[T,T,T,T,T,F,F,F,F,F,F,F,F,F,F,F,F] ?_;refine zU 5 19 #[T,T,T,T,T,T,F,F,F,F,F,F,F,F,F,F,F] ?_;refine zU 6 20 #[T,T,T,T,T,T,T,F,F,F,F,F,F,F,F,F,F] ?_;refine zU 7 21 #[T,T,T,T,T,T,T,T,F,F,F,F,F,F,F,F,F] ?_;refine zU 8 22 #[T,T,T,T,T,T,T,T,T,F,F,F,F,F,F,F,F] ?_;refine zU 9 23 #[T,T,T,T,T,T,T,T,T,T,F,F,F,F,F,F,F] ?_;refine zU 10 24 #[T,T,T,T,T,T,T,T,T,T,T,F,F,F,F,F,F] ?_;refine G9 (i := 11) (N := some 25) (v := ?_) (a' := ?_) #[T,T,T,T,T,T,T,T,T,T,T,T,F,F,F,F,F] rfl rfl (Z9 HT_.out HW_.out (by kernel_rfl)) (fun _ _ _ h => h) (Or.inl ⟨by rfl, ?_⟩) hHeld ?_ ?_
    rotate_left
    ·
     rintro w' ⟨s0, s1, s2, s3, s4, s5⟩;go_simp
     with_reducible rfl
    rotate_left
    ·
     simp only [Act.put, zA, zB, zD, V7, V9]
     rfl
    refine G9 (i := 12) (N := some 26) (v := ?_) (a' := ?_) #[T,T,T,T,T,T,T,T,T,T,T,T,T,F,F,F,F] rfl rfl (Z9 HT_.out HW_.out (by kernel_rfl)) (fun _ _ _ h => h) (Or.inl ⟨by rfl, ?_⟩) hHeld ?_ ?_
    rotate_left
    ·
     rintro w' ⟨s0, s1, s2, s3, s4, s5⟩;go_simp
     with_reducible rfl
    rotate_left
    ·
     simp only [Act.put, zA, zB, zD, V7, V9]
     rfl
    refine U2 (i := 13) (N := some 27) #[T,T,T,T,T,T,T,T,T,T,T,T,T,T,F,F,F] rfl rfl (K3 HT_.out (by kernel_rfl)) (by decide) (fun K hK => ?_)
    refine O8 Tryz.func51 (by kernel_rfl) rfl #[.agg #[.int .i64 ((q8 l0 (ji11)).f0), .int .i64 ((q8 l0 (ji11)).f1), .int .i64 ((q8 l0 (ji11)).f2)], .agg #[.int .i64 ((q8 l0 x9_1).f0), .int .i64 ((q8 l0 x9_1).f1), .int .i64 ((q8 l0 x9_1).f2)]] (by rfl) rfl rfl (by (try simp only [List.map_toArray, List.map_cons, List.map_nil]); first | done | (simp only [hji11]; rfl) | rfl | (simp only [List.length_drop, List.length_take]; rfl)) ?_
    with_reducible refine (C8.calls ((q8 l0 (ji11)).f0) ((q8 l0 (ji11)).f1) ((q8 l0 (ji11)).f2) ((q8 l0 x9_1).f0) ((q8 l0 x9_1).f1) ((q8 l0 x9_1).f2) t121 _ A14.out).mono ?_
    rintro e w18 ⟨rfl, hb⟩;refine ⟨_, rfl, ?_⟩
    have n0_ := zm (o5 (g := gb118) zk hb);have n1_ := zm (q9 zb hb);clear BK118;clear HB;have BK118 := n0_;have HB := n1_;clear n0_ n1_;(try clear hb);refine hK.out _ _ ⟨(l7 BK118.out 0).trans rfl, (l7 BK118.out 1).trans rfl, (l7 BK118.out 2).trans rfl, ((HB.out.cell (World.block_lt_of_cell? w _ hw120_0)).trans hw120_0), ((HB.out.cell (World.block_lt_of_cell? w _ hw120_1)).trans hw120_1), ((HB.out.cell (World.block_lt_of_cell? w _ hw120_2)).trans hw120_2)⟩ (fun hHeld => ?_)
    clear hK K;refine Y8 (a' := ?_) ?_ ?_;rotate_left
    ·
     show Act.put _ (some 27) _ = _
     simp only [Act.put, zA, zB, zD, V7, V9]
     rfl
    refine zU 14 28 #[T,T,T,T,T,T,T,T,T,T,T,T,T,T,T,F,F] ?_;refine zU 15 29 #[T,T,T,T,T,T,T,T,T,T,T,T,T,T,T,T,F] ?_;refine zU 16 30 #[T,T,T,T,T,T,T,T,T,T,T,T,T,T,T,T,T] ?_;refine O7 (U0 HT_.out (by kernel_rfl)) ?_
    try go_wp2
    go_meet
    case rel => exact ⟨_, (!t121), zz, H', ⟨by have := HK1.out; first | omega | exact Nat.le_refl _⟩, ⟨zk⟩, ⟨zb⟩⟩
   case rest =>
    clear HC5;(try clear p1); (try clear q1); (try clear hx1); (try clear c2b0); (try clear p2); (try clear c3b0); (try clear c4b0); (try clear p6); (try clear c10b0); (try clear p11); (try clear q11); (try clear hx11); (try clear c12b0); (try clear p12); (try clear q12); (try clear hx12); (try clear c13b0); (try clear hcz7_0); (try clear hcz7_1); (try clear hcz7_2); (try clear hfz7_0); (try clear hfz7_1); (try clear hfz7_2); (try clear hx117_0); (try clear hx117_1); (try clear hx117_2); (try clear hx120_0); (try clear hx120_1); (try clear hx120_2); (try clear p117); (try clear p120); (try clear q117); (try clear q120);obtain ⟨kq, x30_4, rfl, HA, HJ4, BK118, HB⟩ := hcut;cases kq with
    | zero => exact absurd HA.out (by simp [Q7.j1])
    | succ kj4 =>
     have H := HA.out;clear HA;simp only [Q7.j1] at H;by_cases c25 : x30_4 = true
     ·
      subst c25;rw [if_pos rfl] at H;obtain rfl := Option.some.inj H;go_wp2;go_ret
      exact ⟨zr, zb⟩
     replace c25 := Bool.eq_false_iff.mpr c25;subst c25;rw [if_neg (show ¬ (false = true) by decide)] at H;obtain ⟨c26, H⟩ := zJ H;have c26b0 := eq_true c26;have c26b1 := decide_eq_true c26;clear c26;obtain ⟨c27, H⟩ := zJ H;have c27b0 := eq_true c27;have c27b1 := decide_eq_true c27;clear c27;obtain ⟨y122, hy122⟩ : ∃ y_ : List (S48), y_ = (l0.take (x9_1 : Int).toNat) := ⟨_, rfl⟩;(first | (rw [← hy122] at H; with_reducible replace H := zO H) | rw [← hy122] at H);have Ny122 := zm hy122;clear hy122;have H' := zm H;clear H;have q28 : (x9_1 : Int) ≤ ((l0.length : Int) : Int) := zd;obtain ⟨i028, hi028, _, hsz28, _⟩ := info_parts U1;have hroom28 : l0.length ≤ c0 := HC0.out
     have hC28 : Kd.C k48 _ (some ad117) l0.length l0 := HR0.out
     have hcut28 := q3g (P := Tryz.prog) 24 48 .i64 Tryz.underlying24 hi028 (some ad117) l0.length c0 x9_1 (of_decide_eq_true (by first | (with_reducible assumption) | assumption)) q28 hroom28;have hr28 := Kd.q0y (m := (x9_1 : Int).toNat) hC28 (by omega);have hy28 : y122.length = (x9_1 : Int).toNat := (by rw [Ny122.out, List.length_take]; omega)
     rw [← Ny122.out] at hr28;rw [← hy28] at hcut28;have HR125 := zm hr28;have HC125 := zm (show y122.length ≤ c0 from by omega);clear hr28 hC28 hroom28 hi028 hsz28;have KY28 := zm hy28;clear hy28;replace q28 := eq_true q28;go_wp2;go_loopg [35] kj4 (fun kq v35 w' => ∃ (x35_3 : Int), v35 = .int .i64 x35_3 ∧ z8 (Q7.l1 kq l0 l0 (l0.length : Int) x9_1 y122 (y122.length : Int) x35_3 ((q8 l0 x9_1).f0) ((q8 l0 x9_1).f1) ((q8 l0 x9_1).f2) = some r) ∧ z8 (kq ≤ kj4) ∧ z8 (w'.heap[gb118]? = some (.cells #[.int .i64 ((q8 l0 x9_1).f0), .int .i64 ((q8 l0 x9_1).f1), .int .i64 ((q8 l0 x9_1).f2)] 48 (0, 0))) ∧ z8 (Below w.heap.size w w'))
     case atStart => exact ⟨(0), zz, H', ⟨Nat.le_refl _⟩, ⟨zk⟩, ⟨zb⟩⟩
     case round =>
      clear H';(try clear p1); (try clear q1); (try clear hx1); (try clear c2b0); (try clear p2); (try clear q2); (try clear c3b0); (try clear c4b0); (try clear p6); (try clear c10b0); (try clear p11); (try clear q11); (try clear hx11); (try clear c12b0); (try clear p12); (try clear q12); (try clear hx12); (try clear c13b0); (try clear c26b0); (try clear c26b1); (try clear c27b0); (try clear c27b1); (try clear q28); (try clear hcz7_0); (try clear hcz7_1); (try clear hcz7_2); (try clear hfz7_0); (try clear hfz7_1); (try clear hfz7_2); (try clear hx117_0); (try clear hx117_1); (try clear hx117_2); (try clear hx120_0); (try clear hx120_1); (try clear hx120_2); (try clear p1); (try clear p11); (try clear p117); (try clear p12); (try clear p120); (try clear p2); (try clear p6); (try clear q1); (try clear q11); (try clear q117); (try clear q12); (try clear q120); (try clear q28);obtain ⟨x35_3, rfl, HA, HK3, BK118, HB⟩ := hrel;cases gk with
      | zero => exact absurd HA.out (by simp [Q7.l1])
      | succ k3 =>
       have H := HA.out;clear HA;simp only [Q7.l1] at H;by_cases c29 : x35_3 < (y122.length : Int)
       rotate_left
       ·
        rw [if_neg c29] at H;have c29b0 := decide_eq_false c29;clear c29;have H' := zm H;clear H;go_wp2;go_roundg k3
        case measure => have := HK1.out; have := HJ4.out; have := HK3.out; omega
        case rel => exact ⟨(wrap64 (x9_1 + 1)), zz, H', ⟨by have := HK1.out; have := HJ4.out; have := HK3.out; omega⟩, ⟨zb⟩⟩
       rw [if_pos c29] at H;have c29b0 := decide_eq_true c29;clear c29;obtain ⟨c30, H⟩ := zJ H;have c30b0 := decide_eq_true c30;clear c30;obtain ⟨c31, H⟩ := zJ H;have c31b0 := decide_eq_true c31;clear c31;by_cases c32 : ((q8 l0 x9_1).f0) = ((q8 y122 x35_3).f0)
       rotate_left
       ·
        rw [if_neg c32] at H;have c32b0 : (((q8 l0 x9_1).f0) == ((q8 y122 x35_3).f0)) = false := beq_eq_false_iff_ne.mpr c32;have c32b1 : (((q8 l0 x9_1).f0) != ((q8 y122 x35_3).f0)) = true := bne_iff_ne.mpr c32;have H' := zm H;clear H;have p126 : 0 ≤ (x35_3 : Int) := zd;have q126 : x35_3 < (y122.length : Int) := zd;obtain ⟨ad126, e126, hx126_0, hx126_1, hx126_2⟩ := H9 HR125.out x35_3 p126 q126;obtain rfl : ad117 = ad126 := (by injection e126)
        skip
        replace hx126_0 := zx HB.out hx126_0;replace hx126_1 := zx HB.out hx126_1;replace hx126_2 := zx HB.out hx126_2;replace p126 := eq_true p126;replace q126 := eq_true q126;go_wp2_with (first | ((with_reducible refine Q6 (N := 6) rfl ?_); refine V5 ?hg (N := 6) ?hd (cs := #[.int .i64 0, .int .i64 0, .int .i64 0]) (t := 48) ?hr ?_; (case hd => rfl); (case hg => rfl); (case hr => first | (go_simp; done) | (go_simp; rfl)); intro gb127 hg w42 hbox hb; have n0_ := zm (o5 (g := gb118) zk hb); have n1_ := zm (q9 zb hb); have BK127 := zm (hbox); have GW127 := zm (zs hg zb : w.heap.size ≤ gb127); have GE127 := zm (zs hg zb : w.heap.size ≤ gb127); have NB118_127 := zm (zl hg zk : gb118 ≠ gb127); have NB127_118 := zm (zg hg zk : gb127 ≠ gb118); replace BK118 := n0_; replace HB := n1_; clear n0_ n1_; clear hb hbox hg; have hnb43 := NB127_118.out; have hnc43 := NB118_127.out; obtain ⟨hcz44_0, hcz44_1, hcz44_2, hfz44_0, hfz44_1, hfz44_2⟩ := zc3 BK127.out; obtain ⟨hcz45_0, hcz45_1, hcz45_2, hfz45_0, hfz45_1, hfz45_2⟩ := zc3 BK118.out))
        go_roundg k3
        case measure => have := HK1.out; have := HJ4.out; have := HK3.out; omega
        case rel => exact ⟨(wrap64 (x35_3 + 1)), zz, H', ⟨by have := HK1.out; have := HJ4.out; have := HK3.out; omega⟩, ⟨zK⟩, ⟨zb⟩⟩
       rw [if_pos c32] at H;have c32b0 : (((q8 l0 x9_1).f0) == ((q8 y122 x35_3).f0)) = true := beq_iff_eq.mpr c32;have c32b1 : (((q8 l0 x9_1).f0) != ((q8 y122 x35_3).f0)) = false := bne_eq_false_iff_eq.mpr c32;clear c32;by_cases c33 : ((q8 y122 x35_3).f2) ≥ ((q8 l0 x9_1).f1)
       ·
        rw [if_pos c33] at H;have c33b0 : decide (((q8 l0 x9_1).f1) ≤ ((q8 y122 x35_3).f2)) = true := decide_eq_true c33;clear c33;obtain rfl := Option.some.inj H;have p126 : 0 ≤ (x35_3 : Int) := zd;have q126 : x35_3 < (y122.length : Int) := zd;obtain ⟨ad126, e126, hx126_0, hx126_1, hx126_2⟩ := H9 HR125.out x35_3 p126 q126;have hq_ : ad126 = ad117 := (by injection e126 with z_; exact z_.symm)
        subst hq_;replace hx126_0 := zx HB.out hx126_0;replace hx126_1 := zx HB.out hx126_1;replace hx126_2 := zx HB.out hx126_2;replace p126 := eq_true p126;replace q126 := eq_true q126;go_wp2_with (first | ((with_reducible refine Q6 (N := 6) rfl ?_); refine V5 ?hg (N := 6) ?hd (cs := #[.int .i64 0, .int .i64 0, .int .i64 0]) (t := 48) ?hr ?_; (case hd => rfl); (case hg => rfl); (case hr => first | (go_simp; done) | (go_simp; rfl)); intro gb127 hg w34 hbox hb; have n0_ := zm (o5 (g := gb118) zk hb); have n1_ := zm (q9 zb hb); have BK127 := zm (hbox); have GW127 := zm (zs hg zb : w.heap.size ≤ gb127); have GE127 := zm (zs hg zb : w.heap.size ≤ gb127); have NB118_127 := zm (zl hg zk : gb118 ≠ gb127); have NB127_118 := zm (zg hg zk : gb127 ≠ gb118); replace BK118 := n0_; replace HB := n1_; clear n0_ n1_; clear hb hbox hg; have hnb35 := NB127_118.out; have hnc35 := NB118_127.out; obtain ⟨hcz36_0, hcz36_1, hcz36_2, hfz36_0, hfz36_1, hfz36_2⟩ := zc3 BK127.out; obtain ⟨hcz37_0, hcz37_1, hcz37_2, hfz37_0, hfz37_1, hfz37_2⟩ := zc3 BK118.out))
        go_ret
        exact ⟨zr, zb⟩
       rw [if_neg c33] at H;have c33b0 : decide (((q8 l0 x9_1).f1) ≤ ((q8 y122 x35_3).f2)) = false := decide_eq_false c33;clear c33;have H' := zm H;clear H;have p126 : 0 ≤ (x35_3 : Int) := zd;have q126 : x35_3 < (y122.length : Int) := zd;obtain ⟨ad126, e126, hx126_0, hx126_1, hx126_2⟩ := H9 HR125.out x35_3 p126 q126;have hq_ : ad126 = ad117 := (by injection e126 with z_; exact z_.symm)
       subst hq_;replace hx126_0 := zx HB.out hx126_0;replace hx126_1 := zx HB.out hx126_1;replace hx126_2 := zx HB.out hx126_2;replace p126 := eq_true p126;replace q126 := eq_true q126;go_wp2_with (first | ((with_reducible refine Q6 (N := 6) rfl ?_); refine V5 ?hg (N := 6) ?hd (cs := #[.int .i64 0, .int .i64 0, .int .i64 0]) (t := 48) ?hr ?_; (case hd => rfl); (case hg => rfl); (case hr => first | (go_simp; done) | (go_simp; rfl)); intro gb127 hg w38 hbox hb; have n0_ := zm (o5 (g := gb118) zk hb); have n1_ := zm (q9 zb hb); have BK127 := zm (hbox); have GW127 := zm (zs hg zb : w.heap.size ≤ gb127); have GE127 := zm (zs hg zb : w.heap.size ≤ gb127); have NB118_127 := zm (zl hg zk : gb118 ≠ gb127); have NB127_118 := zm (zg hg zk : gb127 ≠ gb118); replace BK118 := n0_; replace HB := n1_; clear n0_ n1_; clear hb hbox hg; have hnb39 := NB127_118.out; have hnc39 := NB118_127.out; obtain ⟨hcz40_0, hcz40_1, hcz40_2, hfz40_0, hfz40_1, hfz40_2⟩ := zc3 BK127.out; obtain ⟨hcz41_0, hcz41_1, hcz41_2, hfz41_0, hfz41_1, hfz41_2⟩ := zc3 BK118.out))
       go_roundg k3
       case measure => have := HK1.out; have := HJ4.out; have := HK3.out; omega
       case rel => exact ⟨(wrap64 (x35_3 + 1)), zz, H', ⟨by have := HK1.out; have := HJ4.out; have := HK3.out; omega⟩, ⟨zK⟩, ⟨zb⟩⟩
end Go.Proofs.YtkfledgkhgcicaaGreat.PFg
