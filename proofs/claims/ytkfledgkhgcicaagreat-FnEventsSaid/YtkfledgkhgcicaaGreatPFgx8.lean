import Derived.Test.YtkfledgkhgcicaaGreatPFgx0
import Derived.Test.YtkfledgkhgcicaaGreatPFgx7
namespace Go.Proofs.YtkfledgkhgcicaaGreat.PFg
open Go.RowKit Go.Proofs.YtkfledgkhgcicaaGreatW.PrintWords Go.Proofs.YtkfledgkhgcicaaGreatW.PrintLast Go.Proofs.YtkfledgkhgcicaaGreatW.PrintMore
attribute [local go_sem] P8 P5 E5 E8 M4 M0 P6 P7   -- for this text's walks alone
set_option linter.unusedVariables false
set_option linter.unusedSimpArgs false
mutual
def Q3.l0 : Nat → List (S48) → List (S48) → Int → Int → Option (Bool)
  | 0, _, _, _, _ => none
  | k + 1, x0, x10, x11, x12 => if x12 < x11 then (if 0 ≤ x12 then (if x12 < (x10.length : Int) then ((q0u.f ((q8 x10 x12).f0) ((q8 x10 x12).f1) ((q8 x10 x12).f2)).bind fun t271 => (if t271 = true then (if x12 > 0 then (if 0 ≤ (wrap64 (x12 - 1)) then (if (wrap64 (x12 - 1)) < (x0.length : Int) then ((U9.f ((q8 x0 (wrap64 (x12 - 1))).f0) ((q8 x0 (wrap64 (x12 - 1))).f1) ((q8 x0 (wrap64 (x12 - 1))).f2) ((q8 x10 x12).f0) ((q8 x10 x12).f1) ((q8 x10 x12).f2)).bind fun t273 => (Q3.j1 k x0 x12 x10 x11 x12 (!t273) ((q8 x10 x12).f0) ((q8 x10 x12).f1) ((q8 x10 x12).f2))) else (none)) else (none)) else (Q3.j1 k x0 x12 x10 x11 x12 false ((q8 x10 x12).f0) ((q8 x10 x12).f1) ((q8 x10 x12).f2))) else (Q3.j1 k x0 x12 x10 x11 x12 true ((q8 x10 x12).f0) ((q8 x10 x12).f1) ((q8 x10 x12).f2)))) else (none)) else (none)) else (some true)
def Q3.j1 : Nat → List (S48) → Int → List (S48) → Int → Int → Bool → Int → Int → Int → Option (Bool)
  | 0, _, _, _, _, _, _, _, _, _ => none
  | k + 1, x0, x3, x10, x11, x12, x33, x271000, x271001, x271002 => if x33 = true then (some false) else (if 0 ≤ x3 then (if x3 ≤ (x0.length : Int) then ((some (x0.take (x3 : Int).toNat : List (S48))).bind fun y274 => (Q3.l1 k x0 x10 x11 x12 y274 (y274.length : Int) 0 x271000 x271001 x271002)) else (none)) else (none))
def Q3.l1 : Nat → List (S48) → List (S48) → Int → Int → List (S48) → Int → Int → Int → Int → Int → Option (Bool)
  | 0, _, _, _, _, _, _, _, _, _, _ => none
  | k + 1, x0, x10, x11, x12, x36, x37, x38, x271000, x271001, x271002 => if x38 < x37 then (if 0 ≤ x38 then (if x38 < (x36.length : Int) then (if ((q8 x36 x38).f0) = x271000 then (if ((q8 x36 x38).f2) ≥ x271001 then (some false) else (Q3.l1 k x0 x10 x11 x12 x36 x37 (wrap64 (x38 + 1)) x271000 x271001 x271002)) else (Q3.l1 k x0 x10 x11 x12 x36 x37 (wrap64 (x38 + 1)) x271000 x271001 x271002)) else (none)) else (none)) else (Q3.l0 k x0 x10 x11 (wrap64 (x12 + 1)))
end
def Q3.f (k : Nat) (l0 : List (S48)) : Option (Bool) := if (l0.length : Int) > 60 then (some false) else (Q3.l0 k l0 l0 (l0.length : Int) 0)
def Q3.T6 : Bool × List (List Nat × List Nat) := (true, [([], []), ([0], [0]), ([1], [1]), ([2, 1], [2]), ([3], [3]), ([4, 3], [3, 4]), ([5, 3, 3], [3, 5]), ([6], [6]), ([6], [6]), ([8, 6], [6, 8]), ([7, 9, 6], [6, 7, 9]), ([10, 6], [6, 10]), ([6], [6]), ([11, 12, 6, 6], [6, 11, 12]), ([13, 6], [6, 13]), ([6, 14, 3], [3, 6, 14]), ([3, 15], [3, 15])])
def Q3.B6 : List Nat := [0, 1, 3, 7, 15, 31, 63, 127, 127, 383, 1023, 2047, 127, 8191, 16383, 32767, 65535]
theorem Q3.q6i : I5 .any (opsOf Tryz.f23 6) = Q3.T6 := by kernel_rfl
theorem Q3.q5c : q04 Q3.T6.2 Q3.B6 = true := by kernel_rfl
set_option maxHeartbeats 8000000 in
set_option maxRecDepth 100000 in
theorem Q3.calls (k : Nat) (A0 : Option Addr) (c0 : Nat) (l0 : List (S48)) (r : Bool) (w : World) (hr0 : Kd.C k48 w A0 l0.length l0) (hc0 : l0.length ≤ c0) (h : Q3.f k l0 = some r) :
  Calls Tryz.prog 23 #[.slice A0 l0.length c0] w fun e w' => e = .returned (.bool r) ∧ Below w.heap.size w w' := by
 have hu48 := Tryz.underlying48;have HR0 := zm hr0;have HC0 := zm hc0;clear hr0 hc0;have HB := zm (Below.refl w.heap.size w);have H : (if (l0.length : Int) > 60 then (some false) else (Q3.l0 k l0 l0 (l0.length : Int) 0)) = some r := h;clear h;by_cases c2 : (l0.length : Int) > 60
 ·
  rw [if_pos c2] at H;have c2b0 : decide (60 < (l0.length : Int)) = true := decide_eq_true c2;have c2b1 : decide (60 < l0.length) = true := decide_eq_true (by omega);clear c2;obtain rfl := Option.some.inj H;go_enter Tryz.func23, Tryz.ntmps23;go_wp2;go_ret
  exact ⟨zr, zb⟩
 rw [if_neg c2] at H;have c2b0 : decide (60 < (l0.length : Int)) = false := decide_eq_false c2;have c2b1 : decide (60 < l0.length) = false := decide_eq_false (by omega);clear c2;have H' := zm H;clear H;go_enter Tryz.func23, Tryz.ntmps23;go_wp2;go_loopg [12] k (fun kq v12 w' => ∃ (x12_1 : Int), v12 = .int .i64 x12_1 ∧ z8 (Q3.l0 kq l0 l0 (l0.length : Int) x12_1 = some r) ∧ z8 (kq ≤ k) ∧ z8 (Below w.heap.size w w'))
 case atStart => exact ⟨(0), zz, H', ⟨Nat.le_refl _⟩, ⟨zb⟩⟩
 case round =>
  clear H';(try clear c2b0); (try clear c2b1); (try clear p2);obtain ⟨x12_1, rfl, HA, HK1, HB⟩ := hrel;cases gk with
  | zero => exact absurd HA.out (by simp [Q3.l0])
  | succ k1 =>
   have H := HA.out;clear HA;simp only [Q3.l0] at H;by_cases c3 : x12_1 < (l0.length : Int)
   rotate_left
   ·
    rw [if_neg c3] at H;have c3b0 := decide_eq_false c3;clear c3;obtain rfl := Option.some.inj H;go_wp2;go_ret
    exact ⟨zr, zb⟩
   rw [if_pos c3] at H;have c3b0 := decide_eq_true c3;clear c3;obtain ⟨c4, H⟩ := zJ H;have c4b0 := decide_eq_true c4;clear c4;obtain ⟨c5, H⟩ := zJ H;have c5b0 := decide_eq_true c5;clear c5;have HC6 := zm H;clear H;have p269 : 0 ≤ (x12_1 : Int) := zd;have q269 : x12_1 < (l0.length : Int) := zd;obtain ⟨ad269, e269, hx269_0, hx269_1, hx269_2⟩ := H9 HR0.out x12_1 p269 q269;cases e269;replace hx269_0 := zx HB.out hx269_0;replace hx269_1 := zx HB.out hx269_1;replace hx269_2 := zx HB.out hx269_2;replace p269 := eq_true p269;replace q269 := eq_true q269;go_upto_region 6 with (first | ((with_reducible refine Q6 (N := 4) rfl ?_); refine V5 ?hg (N := 4) ?hd (cs := #[.int .i64 0, .int .i64 0, .int .i64 0]) (t := 48) ?hr ?_; (case hd => rfl); (case hg => rfl); (case hr => first | (go_simp; done) | (go_simp; rfl)); intro gb270 hg w7 hbox hb; have n0_ := zm (q9 zb hb); have BK270 := zm (hbox); have GW270 := zm (zs hg zb : w.heap.size ≤ gb270); have GE270 := zm (zs hg zb : w.heap.size ≤ gb270); replace HB := n0_; clear n0_; clear hb hbox hg; obtain ⟨hcz8_0, hcz8_1, hcz8_2, hfz8_0, hfz8_1, hfz8_2⟩ := zc3 BK270.out))
   (try simp only [Act.put, List.setIfInBounds_toArray, List.set_cons_zero, List.set_cons_succ]);go_cut [33] (fun v33 wc => ∃ (kq : Nat) (x33_5 : Bool), v33 = .bool x33_5 ∧ z8 (Q3.j1 kq l0 x12_1 l0 (l0.length : Int) x12_1 x33_5 ((q8 l0 x12_1).f0) ((q8 l0 x12_1).f1) ((q8 l0 x12_1).f2) = some r) ∧ z8 (kq ≤ k1) ∧ z8 (wc.heap[gb270]? = some (.cells #[.int .i64 ((q8 l0 x12_1).f0), .int .i64 ((q8 l0 x12_1).f1), .int .i64 ((q8 l0 x12_1).f2)] 48 (0, 0))) ∧ z8 (Below w.heap.size w wc))
   case first =>
    have H := HC6.out;clear HC6;obtain ⟨t271, A9, H⟩ := zI H;(try dsimp only at H);by_cases c10 : t271 = true
    rotate_left
    ·
     replace c10 := Bool.eq_false_iff.mpr c10;subst c10;rw [if_neg (show ¬ (false = true) by decide)] at H;have H' := zm H;clear H;try go_wp2
     have n0_ : z8 ((((w7.setCell ⟨gb270, 0, none⟩ (.int .i64 ((q8 l0 x12_1).f0))).setCell ⟨gb270, 1, none⟩ (.int .i64 ((q8 l0 x12_1).f1))).setCell ⟨gb270, 2, none⟩ (.int .i64 ((q8 l0 x12_1).f2))).heap[gb270]? = some (.cells #[.int .i64 ((q8 l0 x12_1).f0), .int .i64 ((q8 l0 x12_1).f1), .int .i64 ((q8 l0 x12_1).f2)] 48 (0, 0))) := ⟨by (with_reducible repeat (first | refine p9 ?_ _ | refine l6 ?_ | refine r9 ?_ _)); refine V3 (cs := #[.int .i64 ((q8 l0 x12_1).f0), .int .i64 ((q8 l0 x12_1).f1), .int .i64 0]) ?_ 2 _ rfl; (with_reducible repeat (first | refine p9 ?_ _ | refine l6 ?_ | refine r9 ?_ _)); refine V3 (cs := #[.int .i64 ((q8 l0 x12_1).f0), .int .i64 0, .int .i64 0]) ?_ 1 _ rfl; (with_reducible repeat (first | refine p9 ?_ _ | refine l6 ?_ | refine r9 ?_ _)); refine V3 (cs := #[.int .i64 0, .int .i64 0, .int .i64 0]) ?_ 0 _ rfl; (with_reducible repeat (first | refine p9 ?_ _ | refine l6 ?_ | refine r9 ?_ _)); exact BK270.out⟩
     have n1_ : z8 (Below w.heap.size w (((w7.setCell ⟨gb270, 0, none⟩ (.int .i64 ((q8 l0 x12_1).f0))).setCell ⟨gb270, 1, none⟩ (.int .i64 ((q8 l0 x12_1).f1))).setCell ⟨gb270, 2, none⟩ (.int .i64 ((q8 l0 x12_1).f2)))) := ⟨zb⟩
     (try clear BK270);(try clear HB);generalize (((w7.setCell ⟨gb270, 0, none⟩ (.int .i64 ((q8 l0 x12_1).f0))).setCell ⟨gb270, 1, none⟩ (.int .i64 ((q8 l0 x12_1).f1))).setCell ⟨gb270, 2, none⟩ (.int .i64 ((q8 l0 x12_1).f2))) = w23 at n0_ n1_ ⊢;have BK270 := n0_;have HB := n1_;clear n0_ n1_;have n0_ := zm (l6 BK270.out);have n1_ := zm (X3 HB.out);clear BK270;clear HB;have BK270 := n0_;have HB := n1_;clear n0_ n1_;refine F7 (n := 17) (S := fun w' => w'.cell? ⟨gb270, 0, none⟩ = some (.int .i64 ((q8 l0 x12_1).f0)) ∧ w'.cell? ⟨gb270, 1, none⟩ = some (.int .i64 ((q8 l0 x12_1).f1)) ∧ w'.cell? ⟨gb270, 2, none⟩ = some (.int .i64 ((q8 l0 x12_1).f2))) (ds := []) #[F,F,F,F,F,F,F,F,F,F,F,F,F,F,F,F,F] (by kernel_rfl) rfl rfl ⟨(l7 BK270.out 0).trans rfl, (l7 BK270.out 1).trans rfl, (l7 BK270.out 2).trans rfl⟩ (fun hHeld => ?_); refine H6 Q3.q6i Q3.q5c (fun HT_ HW_ => ?_)
     generalize w23.drew = w24 at BK270 HB hHeld ⊢;refine G9 (i := 0) (N := some 17) (v := ?_) (a' := ?_) #[T,F,F,F,F,F,F,F,F,F,F,F,F,F,F,F,F] rfl rfl (Z9 HT_.out HW_.out (by kernel_rfl)) (fun _ _ _ h => h) (Or.inl ⟨by rfl, ?_⟩) hHeld ?_ ?_
     rotate_left
     ·
      rintro w' ⟨s0, s1, s2⟩;go_simp
      with_reducible rfl
     rotate_left
     ·
      simp only [Act.put, zA, zB, zD, V7, V9]
      rfl
     refine U2 (i := 1) (N := some 18) #[T,T,F,F,F,F,F,F,F,F,F,F,F,F,F,F,F] rfl rfl (K3 HT_.out (by kernel_rfl)) (by decide) (fun K hK => ?_)
     refine O8 Tryz.func46 (by kernel_rfl) rfl #[.agg #[.int .i64 ((q8 l0 x12_1).f0), .int .i64 ((q8 l0 x12_1).f1), .int .i64 ((q8 l0 x12_1).f2)]] (by rfl) rfl rfl (by (try simp only [List.map_toArray, List.map_cons, List.map_nil]); first | done | rfl | (simp only [List.length_drop, List.length_take]; rfl)) ?_
     with_reducible refine (q0u.calls ((q8 l0 x12_1).f0) ((q8 l0 x12_1).f1) ((q8 l0 x12_1).f2) false _ A9.out).mono ?_
     rintro e w25 ⟨rfl, hb⟩;refine ⟨_, rfl, ?_⟩
     have n0_ := zm (o5 (g := gb270) zk hb);have n1_ := zm (q9 zb hb);clear BK270;clear HB;have BK270 := n0_;have HB := n1_;clear n0_ n1_;(try clear hb);refine hK.out _ _ ⟨(l7 BK270.out 0).trans rfl, (l7 BK270.out 1).trans rfl, (l7 BK270.out 2).trans rfl⟩ (fun hHeld => ?_)
     clear hK K;refine Y8 (a' := ?_) ?_ ?_;rotate_left
     ·
      show Act.put _ (some 18) _ = _
      simp only [Act.put, zA, zB, zD, V7, V9]
      rfl
     refine zU 2 19 #[T,T,T,F,F,F,F,F,F,F,F,F,F,F,F,F,F] ?_;refine zU 3 20 #[T,T,T,T,F,F,F,F,F,F,F,F,F,F,F,F,F] ?_;refine zV 4 21 #[T,T,T,T,T,F,F,F,F,F,F,F,F,F,F,F,F] ?_;refine zV 5 22 #[T,T,T,T,T,T,F,F,F,F,F,F,F,F,F,F,F] ?_;refine zV 6 23 #[T,T,T,T,T,T,T,F,F,F,F,F,F,F,F,F,F] ?_;refine zV 7 24 #[T,T,T,T,T,T,T,T,F,F,F,F,F,F,F,F,F] ?_;refine zV 8 25 #[T,T,T,T,T,T,T,T,T,F,F,F,F,F,F,F,F] ?_;refine zV 9 26 #[T,T,T,T,T,T,T,T,T,T,F,F,F,F,F,F,F] ?_;refine zV 10 27 #[T,T,T,T,T,T,T,T,T,T,T,F,F,F,F,F,F] ?_;refine zV 11 28 #[T,T,T,T,T,T,T,T,T,T,T,T,F,F,F,F,F] ?_;refine zV 12 29 #[T,T,T,T,T,T,T,T,T,T,T,T,T,F,F,F,F] ?_;refine zV 13 30 #[T,T,T,T,T,T,T,T,T,T,T,T,T,T,F,F,F] ?_;refine zV 14 31 #[T,T,T,T,T,T,T,T,T,T,T,T,T,T,T,F,F] ?_;refine zV 15 32 #[T,T,T,T,T,T,T,T,T,T,T,T,T,T,T,T,F] ?_;refine zU 16 33 #[T,T,T,T,T,T,T,T,T,T,T,T,T,T,T,T,T] ?_;refine O7 (U0 HT_.out (by kernel_rfl)) ?_
     try go_wp2
     go_meet
     case rel => exact ⟨_, (true), zz, H', ⟨by have := HK1.out; first | omega | exact Nat.le_refl _⟩, ⟨zk⟩, ⟨zb⟩⟩
    subst c10;rw [if_pos rfl] at H;by_cases c11 : x12_1 > 0
    rotate_left
    ·
     rw [if_neg c11] at H;have c11b0 : decide (0 < x12_1) = false := decide_eq_false c11;clear c11;(first | rw [c11b0] | (simp only [V7, V9]; rw [c11b0]) | skip);have H' := zm H;clear H;try go_wp2
     have n0_ : z8 ((((w7.setCell ⟨gb270, 0, none⟩ (.int .i64 ((q8 l0 x12_1).f0))).setCell ⟨gb270, 1, none⟩ (.int .i64 ((q8 l0 x12_1).f1))).setCell ⟨gb270, 2, none⟩ (.int .i64 ((q8 l0 x12_1).f2))).heap[gb270]? = some (.cells #[.int .i64 ((q8 l0 x12_1).f0), .int .i64 ((q8 l0 x12_1).f1), .int .i64 ((q8 l0 x12_1).f2)] 48 (0, 0))) := ⟨by (with_reducible repeat (first | refine p9 ?_ _ | refine l6 ?_ | refine r9 ?_ _)); refine V3 (cs := #[.int .i64 ((q8 l0 x12_1).f0), .int .i64 ((q8 l0 x12_1).f1), .int .i64 0]) ?_ 2 _ rfl; (with_reducible repeat (first | refine p9 ?_ _ | refine l6 ?_ | refine r9 ?_ _)); refine V3 (cs := #[.int .i64 ((q8 l0 x12_1).f0), .int .i64 0, .int .i64 0]) ?_ 1 _ rfl; (with_reducible repeat (first | refine p9 ?_ _ | refine l6 ?_ | refine r9 ?_ _)); refine V3 (cs := #[.int .i64 0, .int .i64 0, .int .i64 0]) ?_ 0 _ rfl; (with_reducible repeat (first | refine p9 ?_ _ | refine l6 ?_ | refine r9 ?_ _)); exact BK270.out⟩
     have n1_ : z8 (Below w.heap.size w (((w7.setCell ⟨gb270, 0, none⟩ (.int .i64 ((q8 l0 x12_1).f0))).setCell ⟨gb270, 1, none⟩ (.int .i64 ((q8 l0 x12_1).f1))).setCell ⟨gb270, 2, none⟩ (.int .i64 ((q8 l0 x12_1).f2)))) := ⟨zb⟩
     (try clear BK270);(try clear HB);generalize (((w7.setCell ⟨gb270, 0, none⟩ (.int .i64 ((q8 l0 x12_1).f0))).setCell ⟨gb270, 1, none⟩ (.int .i64 ((q8 l0 x12_1).f1))).setCell ⟨gb270, 2, none⟩ (.int .i64 ((q8 l0 x12_1).f2))) = w20 at n0_ n1_ ⊢;have BK270 := n0_;have HB := n1_;clear n0_ n1_;have n0_ := zm (l6 BK270.out);have n1_ := zm (X3 HB.out);clear BK270;clear HB;have BK270 := n0_;have HB := n1_;clear n0_ n1_;refine F7 (n := 17) (S := fun w' => w'.cell? ⟨gb270, 0, none⟩ = some (.int .i64 ((q8 l0 x12_1).f0)) ∧ w'.cell? ⟨gb270, 1, none⟩ = some (.int .i64 ((q8 l0 x12_1).f1)) ∧ w'.cell? ⟨gb270, 2, none⟩ = some (.int .i64 ((q8 l0 x12_1).f2))) (ds := []) #[F,F,F,F,F,F,F,F,F,F,F,F,F,F,F,F,F] (by kernel_rfl) rfl rfl ⟨(l7 BK270.out 0).trans rfl, (l7 BK270.out 1).trans rfl, (l7 BK270.out 2).trans rfl⟩ (fun hHeld => ?_); refine H6 Q3.q6i Q3.q5c (fun HT_ HW_ => ?_)
     generalize w20.drew = w21 at BK270 HB hHeld ⊢;refine G9 (i := 0) (N := some 17) (v := ?_) (a' := ?_) #[T,F,F,F,F,F,F,F,F,F,F,F,F,F,F,F,F] rfl rfl (Z9 HT_.out HW_.out (by kernel_rfl)) (fun _ _ _ h => h) (Or.inl ⟨by rfl, ?_⟩) hHeld ?_ ?_
     rotate_left
     ·
      rintro w' ⟨s0, s1, s2⟩;go_simp
      with_reducible rfl
     rotate_left
     ·
      simp only [Act.put, zA, zB, zD, V7, V9]
      rfl
     refine U2 (i := 1) (N := some 18) #[T,T,F,F,F,F,F,F,F,F,F,F,F,F,F,F,F] rfl rfl (K3 HT_.out (by kernel_rfl)) (by decide) (fun K hK => ?_)
     refine O8 Tryz.func46 (by kernel_rfl) rfl #[.agg #[.int .i64 ((q8 l0 x12_1).f0), .int .i64 ((q8 l0 x12_1).f1), .int .i64 ((q8 l0 x12_1).f2)]] (by rfl) rfl rfl (by (try simp only [List.map_toArray, List.map_cons, List.map_nil]); first | done | rfl | (simp only [List.length_drop, List.length_take]; rfl)) ?_
     with_reducible refine (q0u.calls ((q8 l0 x12_1).f0) ((q8 l0 x12_1).f1) ((q8 l0 x12_1).f2) true _ A9.out).mono ?_
     rintro e w22 ⟨rfl, hb⟩;refine ⟨_, rfl, ?_⟩
     have n0_ := zm (o5 (g := gb270) zk hb);have n1_ := zm (q9 zb hb);clear BK270;clear HB;have BK270 := n0_;have HB := n1_;clear n0_ n1_;(try clear hb);refine hK.out _ _ ⟨(l7 BK270.out 0).trans rfl, (l7 BK270.out 1).trans rfl, (l7 BK270.out 2).trans rfl⟩ (fun hHeld => ?_)
     clear hK K;refine Y8 (a' := ?_) ?_ ?_;rotate_left
     ·
      show Act.put _ (some 18) _ = _
      simp only [Act.put, zA, zB, zD, V7, V9]
      rfl
     refine zU 2 19 #[T,T,T,F,F,F,F,F,F,F,F,F,F,F,F,F,F] ?_;refine zU 3 20 #[T,T,T,T,F,F,F,F,F,F,F,F,F,F,F,F,F] ?_;refine zU 4 21 #[T,T,T,T,T,F,F,F,F,F,F,F,F,F,F,F,F] ?_;refine zU 5 22 #[T,T,T,T,T,T,F,F,F,F,F,F,F,F,F,F,F] ?_;refine zU 6 23 #[T,T,T,T,T,T,T,F,F,F,F,F,F,F,F,F,F] ?_;refine zV 7 24 #[T,T,T,T,T,T,T,T,F,F,F,F,F,F,F,F,F] ?_;refine zV 8 25 #[T,T,T,T,T,T,T,T,T,F,F,F,F,F,F,F,F] ?_;refine zV 9 26 #[T,T,T,T,T,T,T,T,T,T,F,F,F,F,F,F,F] ?_;refine zV 10 27 #[T,T,T,T,T,T,T,T,T,T,T,F,F,F,F,F,F] ?_;refine zV 11 28 #[T,T,T,T,T,T,T,T,T,T,T,T,F,F,F,F,F] ?_;refine zV 12 29 #[T,T,T,T,T,T,T,T,T,T,T,T,T,F,F,F,F] ?_;refine zV 13 30 #[T,T,T,T,T,T,T,T,T,T,T,T,T,T,F,F,F] ?_;refine zV 14 31 #[T,T,T,T,T,T,T,T,T,T,T,T,T,T,T,F,F] ?_;refine zU 15 32 #[T,T,T,T,T,T,T,T,T,T,T,T,T,T,T,T,F] ?_;refine zU 16 33 #[T,T,T,T,T,T,T,T,T,T,T,T,T,T,T,T,T] ?_;refine O7 (U0 HT_.out (by kernel_rfl)) ?_
     try go_wp2
     go_meet
     case rel => exact ⟨_, (false), zz, H', ⟨by have := HK1.out; first | omega | exact Nat.le_refl _⟩, ⟨zk⟩, ⟨zb⟩⟩
    rw [if_pos c11] at H;have c11b0 : decide (0 < x12_1) = true := decide_eq_true c11;clear c11;(first | rw [c11b0] | (simp only [V7, V9]; rw [c11b0]) | skip);obtain ⟨ji12, hji12⟩ : ∃ j_ : Int, (wrap64 (x12_1 - 1)) = j_ := ⟨_, rfl⟩;replace H : (if 0 ≤ (ji12) then (if (ji12) < (l0.length : Int) then ((U9.f ((q8 l0 (ji12)).f0) ((q8 l0 (ji12)).f1) ((q8 l0 (ji12)).f2) ((q8 l0 x12_1).f0) ((q8 l0 x12_1).f1) ((q8 l0 x12_1).f2)).bind fun t273 => (Q3.j1 k1 l0 x12_1 l0 (l0.length : Int) x12_1 (!t273) ((q8 l0 x12_1).f0) ((q8 l0 x12_1).f1) ((q8 l0 x12_1).f2))) else (none)) else (none)) = some r := by first | (rw [hji12] at H; exact H) | (simp only [hji12] at H ⊢; exact H)
    (try rw [hji12] at A9);have hji12w : (IntKind.i64.wrap (x12_1 - 1)) = ji12 := (V7 _).trans hji12
    obtain ⟨c13, H⟩ := zJ H;have c13b0 := decide_eq_true c13;clear c13;obtain ⟨c14, H⟩ := zJ H;have c14b0 := decide_eq_true c14;clear c14;obtain ⟨t273, A15, H⟩ := zI H;(try dsimp only at H);have H' := zm H;clear H;try go_wp2
    have n0_ : z8 ((((w7.setCell ⟨gb270, 0, none⟩ (.int .i64 ((q8 l0 x12_1).f0))).setCell ⟨gb270, 1, none⟩ (.int .i64 ((q8 l0 x12_1).f1))).setCell ⟨gb270, 2, none⟩ (.int .i64 ((q8 l0 x12_1).f2))).heap[gb270]? = some (.cells #[.int .i64 ((q8 l0 x12_1).f0), .int .i64 ((q8 l0 x12_1).f1), .int .i64 ((q8 l0 x12_1).f2)] 48 (0, 0))) := ⟨by (with_reducible repeat (first | refine p9 ?_ _ | refine l6 ?_ | refine r9 ?_ _)); refine V3 (cs := #[.int .i64 ((q8 l0 x12_1).f0), .int .i64 ((q8 l0 x12_1).f1), .int .i64 0]) ?_ 2 _ rfl; (with_reducible repeat (first | refine p9 ?_ _ | refine l6 ?_ | refine r9 ?_ _)); refine V3 (cs := #[.int .i64 ((q8 l0 x12_1).f0), .int .i64 0, .int .i64 0]) ?_ 1 _ rfl; (with_reducible repeat (first | refine p9 ?_ _ | refine l6 ?_ | refine r9 ?_ _)); refine V3 (cs := #[.int .i64 0, .int .i64 0, .int .i64 0]) ?_ 0 _ rfl; (with_reducible repeat (first | refine p9 ?_ _ | refine l6 ?_ | refine r9 ?_ _)); exact BK270.out⟩
    have n1_ : z8 (Below w.heap.size w (((w7.setCell ⟨gb270, 0, none⟩ (.int .i64 ((q8 l0 x12_1).f0))).setCell ⟨gb270, 1, none⟩ (.int .i64 ((q8 l0 x12_1).f1))).setCell ⟨gb270, 2, none⟩ (.int .i64 ((q8 l0 x12_1).f2)))) := ⟨zb⟩
    (try clear BK270);(try clear HB);generalize (((w7.setCell ⟨gb270, 0, none⟩ (.int .i64 ((q8 l0 x12_1).f0))).setCell ⟨gb270, 1, none⟩ (.int .i64 ((q8 l0 x12_1).f1))).setCell ⟨gb270, 2, none⟩ (.int .i64 ((q8 l0 x12_1).f2))) = w16 at n0_ n1_ ⊢;have BK270 := n0_;have HB := n1_;clear n0_ n1_;have n0_ := zm (l6 BK270.out);have n1_ := zm (X3 HB.out);clear BK270;clear HB;have BK270 := n0_;have HB := n1_;clear n0_ n1_;have p272 : 0 ≤ ((ji12) : Int) := zd;have q272 : (ji12) < (l0.length : Int) := zd;obtain ⟨ad272, e272, hx272_0, hx272_1, hx272_2⟩ := H9 HR0.out (ji12) p272 q272;have hw272_2 := hx272_2;have hw272_1 := hx272_1;have hw272_0 := hx272_0;obtain rfl : ad269 = ad272 := (by injection e272)
    skip
    replace hx272_0 := zx HB.out hx272_0;replace hx272_1 := zx HB.out hx272_1;replace hx272_2 := zx HB.out hx272_2;replace p272 := eq_true p272;replace q272 := eq_true q272;refine F7 (n := 17) (S := fun w' => w'.cell? ⟨gb270, 0, none⟩ = some (.int .i64 ((q8 l0 x12_1).f0)) ∧ w'.cell? ⟨gb270, 1, none⟩ = some (.int .i64 ((q8 l0 x12_1).f1)) ∧ w'.cell? ⟨gb270, 2, none⟩ = some (.int .i64 ((q8 l0 x12_1).f2)) ∧ w'.cell? (ad269.add (((ji12)).toNat * 3)) = some (.int .i64 ((q8 l0 (ji12)).f0)) ∧ w'.cell? ⟨(ad269.add (((ji12)).toNat * 3)).block, (ad269.add (((ji12)).toNat * 3)).off + 1, none⟩ = some (.int .i64 ((q8 l0 (ji12)).f1)) ∧ w'.cell? ⟨(ad269.add (((ji12)).toNat * 3)).block, (ad269.add (((ji12)).toNat * 3)).off + 2, none⟩ = some (.int .i64 ((q8 l0 (ji12)).f2))) (ds := []) #[F,F,F,F,F,F,F,F,F,F,F,F,F,F,F,F,F] (by kernel_rfl) rfl rfl ⟨(l7 BK270.out 0).trans rfl, (l7 BK270.out 1).trans rfl, (l7 BK270.out 2).trans rfl, ((HB.out.cell (World.block_lt_of_cell? w _ hw272_0)).trans hw272_0), ((HB.out.cell (World.block_lt_of_cell? w _ hw272_1)).trans hw272_1), ((HB.out.cell (World.block_lt_of_cell? w _ hw272_2)).trans hw272_2)⟩ (fun hHeld => ?_); refine H6 Q3.q6i Q3.q5c (fun HT_ HW_ => ?_)
    generalize w16.drew = w17 at BK270 HB hx272_0 hx272_1 hx272_2 hHeld ⊢;refine G9 (i := 0) (N := some 17) (v := ?_) (a' := ?_) #[T,F,F,F,F,F,F,F,F,F,F,F,F,F,F,F,F] rfl rfl (Z9 HT_.out HW_.out (by kernel_rfl)) (fun _ _ _ h => h) (Or.inl ⟨by rfl, ?_⟩) hHeld ?_ ?_
    rotate_left
    ·
     rintro w' ⟨s0, s1, s2, s3, s4, s5⟩;go_simp
     with_reducible rfl
    rotate_left
    ·
     simp only [Act.put, zA, zB, zD, V7, V9]
     rfl
    refine U2 (i := 1) (N := some 18) #[T,T,F,F,F,F,F,F,F,F,F,F,F,F,F,F,F] rfl rfl (K3 HT_.out (by kernel_rfl)) (by decide) (fun K hK => ?_)
    refine O8 Tryz.func46 (by kernel_rfl) rfl #[.agg #[.int .i64 ((q8 l0 x12_1).f0), .int .i64 ((q8 l0 x12_1).f1), .int .i64 ((q8 l0 x12_1).f2)]] (by rfl) rfl rfl (by (try simp only [List.map_toArray, List.map_cons, List.map_nil]); first | done | rfl | (simp only [List.length_drop, List.length_take]; rfl)) ?_
    with_reducible refine (q0u.calls ((q8 l0 x12_1).f0) ((q8 l0 x12_1).f1) ((q8 l0 x12_1).f2) true _ A9.out).mono ?_
    rintro e w18 ⟨rfl, hb⟩;refine ⟨_, rfl, ?_⟩
    have n0_ := zm (o5 (g := gb270) zk hb);have n1_ := zm (q9 zb hb);clear BK270;clear HB;have BK270 := n0_;have HB := n1_;clear n0_ n1_;(try clear hb);refine hK.out _ _ ⟨(l7 BK270.out 0).trans rfl, (l7 BK270.out 1).trans rfl, (l7 BK270.out 2).trans rfl, ((HB.out.cell (World.block_lt_of_cell? w _ hw272_0)).trans hw272_0), ((HB.out.cell (World.block_lt_of_cell? w _ hw272_1)).trans hw272_1), ((HB.out.cell (World.block_lt_of_cell? w _ hw272_2)).trans hw272_2)⟩ (fun hHeld => ?_)
    clear hK K;refine Y8 (a' := ?_) ?_ ?_;rotate_left
    ·
     show Act.put _ (some 18) _ = _
     simp only [Act.put, zA, zB, zD, V7, V9]
     rfl
    refine zU 2 19 #[T,T,T,F,F,F,F,F,F,F,F,F,F,F,F,F,F] ?_;refine zU 3 20 #[T,T,T,T,F,F,F,F,F,F,F,F,F,F,F,F,F] ?_;refine zU 4 21 #[T,T,T,T,T,F,F,F,F,F,F,F,F,F,F,F,F] ?_;refine zU 5 22 #[T,T,T,T,T,T,F,F,F,F,F,F,F,F,F,F,F] ?_;refine zU 6 23 #[T,T,T,T,T,T,T,F,F,F,F,F,F,F,F,F,F] ?_;refine zU 7 24 #[T,T,T,T,T,T,T,T,F,F,F,F,F,F,F,F,F] ?_;refine zU 8 25 #[T,T,T,T,T,T,T,T,T,F,F,F,F,F,F,F,F] ?_;refine zU 9 26 #[T,T,T,T,T,T,T,T,T,T,F,F,F,F,F,F,F] ?_;refine zU 10 27 #[T,T,T,T,T,T,T,T,T,T,T,F,F,F,F,F,F] ?_;refine G9 (i := 11) (N := some 28) (v := ?_) (a' := ?_) #[T,T,T,T,T,T,T,T,T,T,T,T,F,F,F,F,F] rfl rfl (Z9 HT_.out HW_.out (by kernel_rfl)) (fun _ _ _ h => h) (Or.inl ⟨by rfl, ?_⟩) hHeld ?_ ?_
    rotate_left
    ·
     rintro w' ⟨s0, s1, s2, s3, s4, s5⟩;go_simp
     with_reducible rfl
    rotate_left
    ·
     simp only [Act.put, zA, zB, zD, V7, V9]
     rfl
    refine G9 (i := 12) (N := some 29) (v := ?_) (a' := ?_) #[T,T,T,T,T,T,T,T,T,T,T,T,T,F,F,F,F] rfl rfl (Z9 HT_.out HW_.out (by kernel_rfl)) (fun _ _ _ h => h) (Or.inl ⟨by rfl, ?_⟩) hHeld ?_ ?_
    rotate_left
    ·
     rintro w' ⟨s0, s1, s2, s3, s4, s5⟩;go_simp
     with_reducible rfl
    rotate_left
    ·
     simp only [Act.put, zA, zB, zD, V7, V9]
     rfl
    refine U2 (i := 13) (N := some 30) #[T,T,T,T,T,T,T,T,T,T,T,T,T,T,F,F,F] rfl rfl (K3 HT_.out (by kernel_rfl)) (by decide) (fun K hK => ?_)
    refine O8 Tryz.func47 (by kernel_rfl) rfl #[.agg #[.int .i64 ((q8 l0 (ji12)).f0), .int .i64 ((q8 l0 (ji12)).f1), .int .i64 ((q8 l0 (ji12)).f2)], .agg #[.int .i64 ((q8 l0 x12_1).f0), .int .i64 ((q8 l0 x12_1).f1), .int .i64 ((q8 l0 x12_1).f2)]] (by rfl) rfl rfl (by (try simp only [List.map_toArray, List.map_cons, List.map_nil]); first | done | (simp only [hji12]; rfl) | rfl | (simp only [List.length_drop, List.length_take]; rfl)) ?_
    with_reducible refine (U9.calls ((q8 l0 (ji12)).f0) ((q8 l0 (ji12)).f1) ((q8 l0 (ji12)).f2) ((q8 l0 x12_1).f0) ((q8 l0 x12_1).f1) ((q8 l0 x12_1).f2) t273 _ A15.out).mono ?_
    rintro e w19 ⟨rfl, hb⟩;refine ⟨_, rfl, ?_⟩
    have n0_ := zm (o5 (g := gb270) zk hb);have n1_ := zm (q9 zb hb);clear BK270;clear HB;have BK270 := n0_;have HB := n1_;clear n0_ n1_;(try clear hb);refine hK.out _ _ ⟨(l7 BK270.out 0).trans rfl, (l7 BK270.out 1).trans rfl, (l7 BK270.out 2).trans rfl, ((HB.out.cell (World.block_lt_of_cell? w _ hw272_0)).trans hw272_0), ((HB.out.cell (World.block_lt_of_cell? w _ hw272_1)).trans hw272_1), ((HB.out.cell (World.block_lt_of_cell? w _ hw272_2)).trans hw272_2)⟩ (fun hHeld => ?_)
    clear hK K;refine Y8 (a' := ?_) ?_ ?_;rotate_left
    ·
     show Act.put _ (some 30) _ = _
     simp only [Act.put, zA, zB, zD, V7, V9]
     rfl
    refine zU 14 31 #[T,T,T,T,T,T,T,T,T,T,T,T,T,T,T,F,F] ?_;refine zU 15 32 #[T,T,T,T,T,T,T,T,T,T,T,T,T,T,T,T,F] ?_;refine zU 16 33 #[T,T,T,T,T,T,T,T,T,T,T,T,T,T,T,T,T] ?_;refine O7 (U0 HT_.out (by kernel_rfl)) ?_
    try go_wp2
    go_meet
    case rel => exact ⟨_, (!t273), zz, H', ⟨by have := HK1.out; first | omega | exact Nat.le_refl _⟩, ⟨zk⟩, ⟨zb⟩⟩
   case rest =>
    clear HC6;(try clear c2b0); (try clear c2b1); (try clear p2); (try clear q2); (try clear hx2); (try clear c3b0); (try clear c4b0); (try clear c5b0); (try clear p6); (try clear c11b0); (try clear c13b0); (try clear c14b0); (try clear hcz8_0); (try clear hcz8_1); (try clear hcz8_2); (try clear hfz8_0); (try clear hfz8_1); (try clear hfz8_2); (try clear hx269_0); (try clear hx269_1); (try clear hx269_2); (try clear hx272_0); (try clear hx272_1); (try clear hx272_2); (try clear p2); (try clear p269); (try clear p272); (try clear q269); (try clear q272);obtain ⟨kq, x33_5, rfl, HA, HJ5, BK270, HB⟩ := hcut;cases kq with
    | zero => exact absurd HA.out (by simp [Q3.j1])
    | succ kj5 =>
     have H := HA.out;clear HA;simp only [Q3.j1] at H;by_cases c26 : x33_5 = true
     ·
      subst c26;rw [if_pos rfl] at H;obtain rfl := Option.some.inj H;go_wp2;go_ret
      exact ⟨zr, zb⟩
     replace c26 := Bool.eq_false_iff.mpr c26;subst c26;rw [if_neg (show ¬ (false = true) by decide)] at H;obtain ⟨c27, H⟩ := zJ H;have c27b0 := eq_true c27;have c27b1 := decide_eq_true c27;clear c27;obtain ⟨c28, H⟩ := zJ H;have c28b0 := eq_true c28;have c28b1 := decide_eq_true c28;clear c28;obtain ⟨y274, hy274⟩ : ∃ y_ : List (S48), y_ = (l0.take (x12_1 : Int).toNat) := ⟨_, rfl⟩;(first | (rw [← hy274] at H; with_reducible replace H := zO H) | rw [← hy274] at H);have Ny274 := zm hy274;clear hy274;have H' := zm H;clear H;have q29 : (x12_1 : Int) ≤ ((l0.length : Int) : Int) := zd;obtain ⟨i029, hi029, _, hsz29, _⟩ := info_parts U1;have hroom29 : l0.length ≤ c0 := HC0.out
     have hC29 : Kd.C k48 _ (some ad269) l0.length l0 := HR0.out
     have hcut29 := q3g (P := Tryz.prog) 24 48 .i64 Tryz.underlying24 hi029 (some ad269) l0.length c0 x12_1 (of_decide_eq_true (by first | (with_reducible assumption) | assumption)) q29 hroom29;have hr29 := Kd.q0y (m := (x12_1 : Int).toNat) hC29 (by omega);have hy29 : y274.length = (x12_1 : Int).toNat := (by rw [Ny274.out, List.length_take]; omega)
     rw [← Ny274.out] at hr29;rw [← hy29] at hcut29;have HR277 := zm hr29;have HC277 := zm (show y274.length ≤ c0 from by omega);clear hr29 hC29 hroom29 hi029 hsz29;have KY29 := zm hy29;clear hy29;replace q29 := eq_true q29;go_wp2;go_loopg [38] kj5 (fun kq v38 w' => ∃ (x38_3 : Int), v38 = .int .i64 x38_3 ∧ z8 (Q3.l1 kq l0 l0 (l0.length : Int) x12_1 y274 (y274.length : Int) x38_3 ((q8 l0 x12_1).f0) ((q8 l0 x12_1).f1) ((q8 l0 x12_1).f2) = some r) ∧ z8 (kq ≤ kj5) ∧ z8 (w'.heap[gb270]? = some (.cells #[.int .i64 ((q8 l0 x12_1).f0), .int .i64 ((q8 l0 x12_1).f1), .int .i64 ((q8 l0 x12_1).f2)] 48 (0, 0))) ∧ z8 (Below w.heap.size w w'))
     case atStart => exact ⟨(0), zz, H', ⟨Nat.le_refl _⟩, ⟨zk⟩, ⟨zb⟩⟩
     case round =>
      clear H';(try clear c2b0); (try clear c2b1); (try clear p2); (try clear q2); (try clear hx2); (try clear c3b0); (try clear c4b0); (try clear c5b0); (try clear p6); (try clear c11b0); (try clear c13b0); (try clear c14b0); (try clear p26); (try clear q26); (try clear hx26); (try clear c27b0); (try clear c27b1); (try clear p27); (try clear q27); (try clear hx27); (try clear c28b0); (try clear c28b1); (try clear q29); (try clear hcz8_0); (try clear hcz8_1); (try clear hcz8_2); (try clear hfz8_0); (try clear hfz8_1); (try clear hfz8_2); (try clear hx269_0); (try clear hx269_1); (try clear hx269_2); (try clear hx272_0); (try clear hx272_1); (try clear hx272_2); (try clear p2); (try clear p269); (try clear p272); (try clear p6); (try clear q2); (try clear q269); (try clear q272); (try clear q29);obtain ⟨x38_3, rfl, HA, HK3, BK270, HB⟩ := hrel;cases gk with
      | zero => exact absurd HA.out (by simp [Q3.l1])
      | succ k3 =>
       have H := HA.out;clear HA;simp only [Q3.l1] at H;by_cases c30 : x38_3 < (y274.length : Int)
       rotate_left
       ·
        rw [if_neg c30] at H;have c30b0 := decide_eq_false c30;clear c30;have H' := zm H;clear H;go_wp2;go_roundg k3
        case measure => have := HK1.out; have := HJ5.out; have := HK3.out; omega
        case rel => exact ⟨(wrap64 (x12_1 + 1)), zz, H', ⟨by have := HK1.out; have := HJ5.out; have := HK3.out; omega⟩, ⟨zb⟩⟩
       rw [if_pos c30] at H;have c30b0 := decide_eq_true c30;clear c30;obtain ⟨c31, H⟩ := zJ H;have c31b0 := decide_eq_true c31;clear c31;obtain ⟨c32, H⟩ := zJ H;have c32b0 := decide_eq_true c32;clear c32;by_cases c33 : ((q8 y274 x38_3).f0) = ((q8 l0 x12_1).f0)
       rotate_left
       ·
        rw [if_neg c33] at H;have c33b0 : (((q8 y274 x38_3).f0) == ((q8 l0 x12_1).f0)) = false := beq_eq_false_iff_ne.mpr c33;have c33b1 : (((q8 y274 x38_3).f0) != ((q8 l0 x12_1).f0)) = true := bne_iff_ne.mpr c33;have H' := zm H;clear H;have p278 : 0 ≤ (x38_3 : Int) := zd;have q278 : x38_3 < (y274.length : Int) := zd;obtain ⟨ad278, e278, hx278_0, hx278_1, hx278_2⟩ := H9 HR277.out x38_3 p278 q278;obtain rfl : ad269 = ad278 := (by injection e278)
        skip
        replace hx278_0 := zx HB.out hx278_0;replace hx278_1 := zx HB.out hx278_1;replace hx278_2 := zx HB.out hx278_2;replace p278 := eq_true p278;replace q278 := eq_true q278;go_wp2_with (first | ((with_reducible refine Q6 (N := 6) rfl ?_); refine V5 ?hg (N := 6) ?hd (cs := #[.int .i64 0, .int .i64 0, .int .i64 0]) (t := 48) ?hr ?_; (case hd => rfl); (case hg => rfl); (case hr => first | (go_simp; done) | (go_simp; rfl)); intro gb279 hg w43 hbox hb; have n0_ := zm (o5 (g := gb270) zk hb); have n1_ := zm (q9 zb hb); have BK279 := zm (hbox); have GW279 := zm (zs hg zb : w.heap.size ≤ gb279); have GE279 := zm (zs hg zb : w.heap.size ≤ gb279); have NB270_279 := zm (zl hg zk : gb270 ≠ gb279); have NB279_270 := zm (zg hg zk : gb279 ≠ gb270); replace BK270 := n0_; replace HB := n1_; clear n0_ n1_; clear hb hbox hg; have hnb44 := NB279_270.out; have hnc44 := NB270_279.out; obtain ⟨hcz45_0, hcz45_1, hcz45_2, hfz45_0, hfz45_1, hfz45_2⟩ := zc3 BK279.out; obtain ⟨hcz46_0, hcz46_1, hcz46_2, hfz46_0, hfz46_1, hfz46_2⟩ := zc3 BK270.out))
        go_roundg k3
        case measure => have := HK1.out; have := HJ5.out; have := HK3.out; omega
        case rel => exact ⟨(wrap64 (x38_3 + 1)), zz, H', ⟨by have := HK1.out; have := HJ5.out; have := HK3.out; omega⟩, ⟨zK⟩, ⟨zb⟩⟩
       rw [if_pos c33] at H;have c33b0 : (((q8 y274 x38_3).f0) == ((q8 l0 x12_1).f0)) = true := beq_iff_eq.mpr c33;have c33b1 : (((q8 y274 x38_3).f0) != ((q8 l0 x12_1).f0)) = false := bne_eq_false_iff_eq.mpr c33;clear c33;by_cases c34 : ((q8 y274 x38_3).f2) ≥ ((q8 l0 x12_1).f1)
       ·
        rw [if_pos c34] at H;have c34b0 : decide (((q8 l0 x12_1).f1) ≤ ((q8 y274 x38_3).f2)) = true := decide_eq_true c34;clear c34;obtain rfl := Option.some.inj H;have p278 : 0 ≤ (x38_3 : Int) := zd;have q278 : x38_3 < (y274.length : Int) := zd;obtain ⟨ad278, e278, hx278_0, hx278_1, hx278_2⟩ := H9 HR277.out x38_3 p278 q278;have hq_ : ad278 = ad269 := (by injection e278 with z_; exact z_.symm)
        subst hq_;replace hx278_0 := zx HB.out hx278_0;replace hx278_1 := zx HB.out hx278_1;replace hx278_2 := zx HB.out hx278_2;replace p278 := eq_true p278;replace q278 := eq_true q278;go_wp2_with (first | ((with_reducible refine Q6 (N := 6) rfl ?_); refine V5 ?hg (N := 6) ?hd (cs := #[.int .i64 0, .int .i64 0, .int .i64 0]) (t := 48) ?hr ?_; (case hd => rfl); (case hg => rfl); (case hr => first | (go_simp; done) | (go_simp; rfl)); intro gb279 hg w35 hbox hb; have n0_ := zm (o5 (g := gb270) zk hb); have n1_ := zm (q9 zb hb); have BK279 := zm (hbox); have GW279 := zm (zs hg zb : w.heap.size ≤ gb279); have GE279 := zm (zs hg zb : w.heap.size ≤ gb279); have NB270_279 := zm (zl hg zk : gb270 ≠ gb279); have NB279_270 := zm (zg hg zk : gb279 ≠ gb270); replace BK270 := n0_; replace HB := n1_; clear n0_ n1_; clear hb hbox hg; have hnb36 := NB279_270.out; have hnc36 := NB270_279.out; obtain ⟨hcz37_0, hcz37_1, hcz37_2, hfz37_0, hfz37_1, hfz37_2⟩ := zc3 BK279.out; obtain ⟨hcz38_0, hcz38_1, hcz38_2, hfz38_0, hfz38_1, hfz38_2⟩ := zc3 BK270.out))
        go_ret
        exact ⟨zr, zb⟩
       rw [if_neg c34] at H;have c34b0 : decide (((q8 l0 x12_1).f1) ≤ ((q8 y274 x38_3).f2)) = false := decide_eq_false c34;clear c34;have H' := zm H;clear H;have p278 : 0 ≤ (x38_3 : Int) := zd;have q278 : x38_3 < (y274.length : Int) := zd;obtain ⟨ad278, e278, hx278_0, hx278_1, hx278_2⟩ := H9 HR277.out x38_3 p278 q278;have hq_ : ad278 = ad269 := (by injection e278 with z_; exact z_.symm)
       subst hq_;replace hx278_0 := zx HB.out hx278_0;replace hx278_1 := zx HB.out hx278_1;replace hx278_2 := zx HB.out hx278_2;replace p278 := eq_true p278;replace q278 := eq_true q278;go_wp2_with (first | ((with_reducible refine Q6 (N := 6) rfl ?_); refine V5 ?hg (N := 6) ?hd (cs := #[.int .i64 0, .int .i64 0, .int .i64 0]) (t := 48) ?hr ?_; (case hd => rfl); (case hg => rfl); (case hr => first | (go_simp; done) | (go_simp; rfl)); intro gb279 hg w39 hbox hb; have n0_ := zm (o5 (g := gb270) zk hb); have n1_ := zm (q9 zb hb); have BK279 := zm (hbox); have GW279 := zm (zs hg zb : w.heap.size ≤ gb279); have GE279 := zm (zs hg zb : w.heap.size ≤ gb279); have NB270_279 := zm (zl hg zk : gb270 ≠ gb279); have NB279_270 := zm (zg hg zk : gb279 ≠ gb270); replace BK270 := n0_; replace HB := n1_; clear n0_ n1_; clear hb hbox hg; have hnb40 := NB279_270.out; have hnc40 := NB270_279.out; obtain ⟨hcz41_0, hcz41_1, hcz41_2, hfz41_0, hfz41_1, hfz41_2⟩ := zc3 BK279.out; obtain ⟨hcz42_0, hcz42_1, hcz42_2, hfz42_0, hfz42_1, hfz42_2⟩ := zc3 BK270.out))
       go_roundg k3
       case measure => have := HK1.out; have := HJ5.out; have := HK3.out; omega
       case rel => exact ⟨(wrap64 (x38_3 + 1)), zz, H', ⟨by have := HK1.out; have := HJ5.out; have := HK3.out; omega⟩, ⟨zK⟩, ⟨zb⟩⟩
end Go.Proofs.YtkfledgkhgcicaaGreat.PFg
