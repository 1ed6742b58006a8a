import Derived.Test.YtjdkdbeenggfaaaPErx0
import Derived.Test.YtjdkdbeenggfaaaPErx15
import Derived.Test.YtjdkdbeenggfaaaPErx16
namespace Go.Proofs.Ytjdkdbeenggfaaa.PEr
open Go.RowKit Go.Proofs.YtjdkdbeenggfaaaW.PrintWords Go.Proofs.YtjdkdbeenggfaaaW.PrintLast Go.Proofs.YtjdkdbeenggfaaaW.PrintMore
attribute [local go_sem] max2_int min2_int max_two min_two max_three min_three max_four min_four   -- for this text's walks alone
set_option linter.unusedVariables false
set_option linter.unusedSimpArgs false
mutual
def p8.l0 : Nat → List (S87) → List (S87) → List (S87) → Int → Int → Option ((List (S87)) × Bool)
  | 0, _, _, _, _, _ => none
  | k + 1, x0, x4, x8, x9, x10 => if x10 < x9 then (if 0 ≤ x10 then (if x10 < (x8.length : Int) then (p8.l1 k x0 x4 (x4.length : Int) x8 x9 x10 ((q8 x8 x10).f0) ((q8 x8 x10).f1) ((q8 x8 x10).f2)) else (none)) else (none)) else ((o9.f k x4).bind fun t458 => (if t458 = true then (some (x4, true)) else (some (([] : List (S87)), false))))
def p8.l1 : Nat → List (S87) → List (S87) → Int → List (S87) → Int → Int → Int → Int → Int → Option ((List (S87)) × Bool)
  | 0, _, _, _, _, _, _, _, _, _ => none
  | k + 1, x0, x4, x7, x8, x9, x10, x461000, x461001, x461002 => if x7 > 0 then (if 0 ≤ (wrap64 (x7 - 1)) then (if (wrap64 (x7 - 1)) < (x4.length : Int) then ((D7.f x461000 x461001 x461002 ((q8 x4 (wrap64 (x7 - 1))).f0) ((q8 x4 (wrap64 (x7 - 1))).f1) ((q8 x4 (wrap64 (x7 - 1))).f2)).bind fun t462 => (if t462 = true then (p8.l1 k x0 x4 (wrap64 (x7 - 1)) x8 x9 x10 x461000 x461001 x461002) else ((some (([] : List (S87)) : List (S87))).bind fun y463 => (if 0 ≤ x7 then (if x7 ≤ (x4.length : Int) then ((some (x4.take (x7 : Int).toNat : List (S87))).bind fun y466 => (if y463.length + y466.length < 5864062014805 then ((some (y463 ++ y466 : List (S87))).bind fun y470 => ((some (([(⟨x461000, x461001, x461002⟩ : S87)] : List (S87)) : List (S87))).bind fun y473 => (if y470.length + y473.length < 5864062014805 then ((some (y470 ++ y473 : List (S87))).bind fun y476 => ((some (x4.drop (x7 : Int).toNat : List (S87))).bind fun y479 => (if y476.length + y479.length < 5864062014805 then (p8.l0 k x0 (y476 ++ y479) x8 x9 (wrap64 (x10 + 1))) else (none)))) else (none)))) else (none))) else (none)) else (none))))) else (none)) else (none)) else ((some (([] : List (S87)) : List (S87))).bind fun y486 => (if 0 ≤ x7 then (if x7 ≤ (x4.length : Int) then ((some (x4.take (x7 : Int).toNat : List (S87))).bind fun y489 => (if y486.length + y489.length < 5864062014805 then ((some (y486 ++ y489 : List (S87))).bind fun y493 => ((some (([(⟨x461000, x461001, x461002⟩ : S87)] : List (S87)) : List (S87))).bind fun y496 => (if y493.length + y496.length < 5864062014805 then ((some (y493 ++ y496 : List (S87))).bind fun y499 => ((some (x4.drop (x7 : Int).toNat : List (S87))).bind fun y502 => (if y499.length + y502.length < 5864062014805 then (p8.l0 k x0 (y499 ++ y502) x8 x9 (wrap64 (x10 + 1))) else (none)))) else (none)))) else (none))) else (none)) else (none)))
end
def p8.f (k : Nat) (l0 : List (S87)) : Option ((List (S87)) × Bool) := p8.l0 k l0 ([] : List (S87)) l0 (l0.length : Int) 0
def p8.T6 : Bool × List (List Nat × List Nat) := (true, [([], []), ([0], [0]), ([1], [1]), ([2], [2]), ([2], [2]), ([2], [2]), ([5, 2], [2, 5]), ([4, 6, 2], [2, 4, 6]), ([7, 2], [2, 7]), ([3, 8, 2, 2], [2, 3, 8]), ([2, 9], [2, 9])])
def p8.B6 : List Nat := [0, 1, 3, 7, 7, 7, 39, 119, 247, 511, 1023]
theorem p8.q7a : rtab .any (opsOf Try.f101 6) = p8.T6 := by kernel_rfl
theorem p8.q5g : waitsOk p8.T6.2 p8.B6 = true := by kernel_rfl
def p8.T8 : Bool × List (List Nat × List Nat) := (true, [([], []), ([], []), ([], []), ([1, 2], [1, 2]), ([0, 3], [0, 3]), ([], []), ([5], [5]), ([4, 6, 4], [4, 6]), ([], []), ([], []), ([8, 9], [8, 9]), ([7, 10, 7], [7, 10]), ([11, 11, 0, 1, 2, 3, 4, 5, 6, 7, 8, 9, 10, 11], [1, 8, 11])])
def p8.B8 : List Nat := [0, 0, 0, 6, 15, 0, 32, 127, 0, 0, 768, 2047, 4095]
theorem p8.q5i : rtab .any (opsOf Try.f101 8) = p8.T8 := by kernel_rfl
theorem p8.q3n : waitsOk p8.T8.2 p8.B8 = true := by kernel_rfl
set_option maxHeartbeats 8000000 in
set_option maxRecDepth 100000 in
theorem p8.calls (k : Nat) (A0 : Option Addr) (c0 : Nat) (l0 : List (S87)) (r1 : List (S87)) (r2 : Bool) (w : World) (hr0 : Kd.C k87 w A0 l0.length l0) (hc0 : l0.length ≤ c0) (h : p8.f k l0 = some (r1, r2)) :
  Calls Try.prog 101 #[.slice A0 l0.length c0] w fun e w' => ∃ v0_ : Value, e = .returned (.tuple #[v0_, .bool r2]) ∧ Kd.R k87 87 w' w.heap.size (fun _ => True) v0_ r1 ∧ Below w.heap.size w w' := by
 have hu87 := Try.underlying87;have HR0 := zm hr0;have HC0 := zm hc0;clear hr0 hc0;have HB := zm (Below.refl w.heap.size w);have H : (p8.l0 k l0 ([] : List (S87)) l0 (l0.length : Int) 0) = some (r1, r2) := h;clear h;have H' := zm H;clear H;go_enter Try.func101, Try.ntmps101;go_wp2;go_loopg [4, 10] k (fun kq v4 v10 w' => ∃ (x4_1 : List (S87)) (x10_1 : Int), v10 = .int .i64 x10_1 ∧ Aside0 (p8.l0 kq l0 x4_1 l0 (l0.length : Int) x10_1 = some (r1, r2)) ∧ Aside0 (kq ≤ k) ∧ Aside0 (Kd.R k87 87 w' w.heap.size (fun _ => True) v4 x4_1) ∧ Aside0 (Below w.heap.size w w'))
 case atStart => exact ⟨(([] : List (S87))), (0), zz, H', ⟨Nat.le_refl _⟩, ⟨by first | exact Kd.R_nil _ _ _ _ _ | exact Kd.N_nil _ _ _ _ _ | exact Kd.V_nil _ _ _ _ _ | exact Kd.Q_nil _ _ _ _ _ | exact Kd.S_nil _ _ _ _ _⟩, ⟨zb⟩⟩
 case round =>
  clear H';obtain ⟨x4_1, x10_1, rfl, HA, HK1, HO_4, HB⟩ := hrel;cases gk with
  | zero => exact absurd HA.out (by simp [p8.l0])
  | succ k1 =>
   have H := HA.out;clear HA;simp only [p8.l0] at H;by_cases c2 : x10_1 < (l0.length : Int)
   rotate_left
   ·
    rw [if_neg c2] at H;have c2b0 := decide_eq_false c2;clear c2;obtain ⟨t458, A57, H⟩ := zI H;(try dsimp only at H);by_cases c58 : t458 = true
    ·
     subst c58;rw [if_pos rfl] at H;simp only [Option.some.injEq, Prod.mk.injEq] at H;obtain ⟨rfl, rfl⟩ := H;obtain ⟨Ao59, co59, eo59⟩ := Kd.R_slice HO_4.out;subst eo59;go_wp2_with (first | ((with_reducible refine gate_callee (f := 73) rfl ?_); refine goesA_ (some 43) Try.func73 #[.slice Ao59 x4_1.length co59] rfl ?_; (with_reducible refine (o9.calls k1 _ _ x4_1 true _ ?side1 ?side2 A57.out).mono ?_); (case side1 => exact (Kd.R_reads' (zP HO_4.out)).2.2); (case side2 => exact (Kd.R_reads' HO_4.out).2.1); rintro e w60 ⟨rfl, hb⟩; refine ⟨_, rfl, ?_⟩; replace HO_4 := zm (Kd.R_below (zP HO_4.out) hb); replace HB := zm (below_step zb hb); (try clear hb)))
     go_ret2
     exact ⟨_, zr, zP HO_4.out, zb⟩
    replace c58 := Bool.eq_false_iff.mpr c58;subst c58;rw [if_neg (show ¬ (false = true) by decide)] at H;simp only [Option.some.injEq, Prod.mk.injEq] at H;obtain ⟨rfl, rfl⟩ := H;obtain ⟨Ao61, co61, eo61⟩ := Kd.R_slice HO_4.out;subst eo61;go_wp2_with (first | ((with_reducible refine gate_callee (f := 73) rfl ?_); refine goesA_ (some 43) Try.func73 #[.slice Ao61 x4_1.length co61] rfl ?_; (with_reducible refine (o9.calls k1 _ _ x4_1 false _ ?side1 ?side2 A57.out).mono ?_); (case side1 => exact (Kd.R_reads' (zP HO_4.out)).2.2); (case side2 => exact (Kd.R_reads' HO_4.out).2.1); rintro e w62 ⟨rfl, hb⟩; refine ⟨_, rfl, ?_⟩; replace HO_4 := zm (Kd.R_below (zP HO_4.out) hb); replace HB := zm (below_step zb hb); (try clear hb)))
    go_ret2
    exact ⟨_, zr, by first | exact Kd.R_nil _ _ _ _ _ | exact Kd.N_nil _ _ _ _ _ | exact Kd.V_nil _ _ _ _ _ | exact Kd.Q_nil _ _ _ _ _ | exact Kd.S_nil _ _ _ _ _, zb⟩
   rw [if_pos c2] at H;have c2b0 := decide_eq_true c2;clear c2;obtain ⟨c3, H⟩ := zJ H;have c3b0 := decide_eq_true c3;clear c3;obtain ⟨c4, H⟩ := zJ H;have c4b0 := decide_eq_true c4;clear c4;have H' := zm H;clear H;have p459 : 0 ≤ (x10_1 : Int) := zd;have q459 : x10_1 < (l0.length : Int) := zd;obtain ⟨ad459, e459, hx459_0, hx459_1, hx459_2⟩ := U5 HR0.out x10_1 p459 q459;cases e459;replace hx459_0 := zx HB.out hx459_0;replace hx459_1 := zx HB.out hx459_1;replace hx459_2 := zx HB.out hx459_2;replace p459 := eq_true p459;replace q459 := eq_true q459;go_wp2_with (first | ((with_reducible refine gate_dst (N := 6) rfl ?_); refine box_event ?hg (N := 6) ?hd (cs := #[.int .i64 0, .int .i64 0, .int .i64 0]) (t := 87) ?hr ?_; (case hd => rfl); (case hg => rfl); (case hr => first | (go_simp; done) | (go_simp; rfl)); intro gb460 hg w5 hbox hb; replace HO_4 := zm (Kd.R_below (Kd.R_elderB (zP HO_4.out) gb460 (Nat.le_of_eq hg.symm)) hb); have n1_ := zm (below_step zb hb); have BK460 := zm (hbox); have GW460 := zm (zs hg zb : w.heap.size ≤ gb460); have GE460 := zm (zs hg zb : w.heap.size ≤ gb460); replace HB := n1_; clear n1_; clear hb hbox hg; obtain ⟨hcz6_0, hcz6_1, hcz6_2, hfz6_0, hfz6_1, hfz6_2⟩ := zc3 BK460.out; obtain ⟨Ao7, co7, eo7⟩ := Kd.R_slice HO_4.out; subst eo7))
   go_loopg [7] k1 (fun kq v7 w' => ∃ (x7_2 : Int), v7 = .int .i64 x7_2 ∧ Aside0 (p8.l1 kq l0 x4_1 x7_2 l0 (l0.length : Int) x10_1 ((q8 l0 x10_1).f0) ((q8 l0 x10_1).f1) ((q8 l0 x10_1).f2) = some (r1, r2)) ∧ Aside0 (kq ≤ k1) ∧ Aside0 (Kd.R k87 87 w' w.heap.size (fun k_ => k_ ≠ gb460) (.slice Ao7 x4_1.length co7) x4_1) ∧ Aside0 (w'.heap[gb460]? = some (.cells #[.int .i64 ((q8 l0 x10_1).f0), .int .i64 ((q8 l0 x10_1).f1), .int .i64 ((q8 l0 x10_1).f2)] 87 (0, 0))) ∧ Aside0 (Below w.heap.size w w'))
   case atStart => exact ⟨((x4_1.length : Int)), zz, H', ⟨Nat.le_refl _⟩, ⟨zP (Kd.R_mono (Kd.R_far (p := ⟨gb460, 2, none⟩) (Kd.R_far (p := ⟨gb460, 1, none⟩) (Kd.R_far (p := ⟨gb460, 0, none⟩) (Kd.R_mono HO_4.out (fun k_ hk => (⟨hk, hk.2⟩ : _ ∧ k_ ≠ gb460))) (fun _ hk => hk.2) (.int .i64 ((q8 l0 x10_1).f0))) (fun _ hk => hk.2) (.int .i64 ((q8 l0 x10_1).f1))) (fun _ hk => hk.2) (.int .i64 ((q8 l0 x10_1).f2))) (fun _ hk => hk.1.2))⟩, ⟨by (with_reducible repeat (first | refine blk_drewN ?_ _ | refine blk_drew ?_ | refine blk_alloc ?_ _)); refine blk_put (cs := #[.int .i64 ((q8 l0 x10_1).f0), .int .i64 ((q8 l0 x10_1).f1), .int .i64 0]) ?_ 2 _ rfl; (with_reducible repeat (first | refine blk_drewN ?_ _ | refine blk_drew ?_ | refine blk_alloc ?_ _)); refine blk_put (cs := #[.int .i64 ((q8 l0 x10_1).f0), .int .i64 0, .int .i64 0]) ?_ 1 _ rfl; (with_reducible repeat (first | refine blk_drewN ?_ _ | refine blk_drew ?_ | refine blk_alloc ?_ _)); refine blk_put (cs := #[.int .i64 0, .int .i64 0, .int .i64 0]) ?_ 0 _ rfl; (with_reducible repeat (first | refine blk_drewN ?_ _ | refine blk_drew ?_ | refine blk_alloc ?_ _)); exact BK460.out⟩, ⟨zb⟩⟩
   case round =>
    clear H';(try clear c2b0); (try clear p2); (try clear c3b0); (try clear c4b0); (try clear p4); (try clear q4); (try clear hx4); (try clear hcz6_0); (try clear hcz6_1); (try clear hcz6_2); (try clear hfz6_0); (try clear hfz6_1); (try clear hfz6_2); (try clear hx459_0); (try clear hx459_1); (try clear hx459_2); (try clear p459); (try clear q459);obtain ⟨x7_2, rfl, HA, HK2, HO_4, BK460, HB⟩ := hrel;cases gk with
    | zero => exact absurd HA.out (by simp [p8.l1])
    | succ k2 =>
     have H := HA.out;clear HA;simp only [p8.l1] at H;by_cases c8 : x7_2 > 0
     rotate_left
     ·
      rw [if_neg c8] at H;have c8b0 : decide (0 < x7_2) = false := decide_eq_false c8;clear c8;obtain ⟨y486, hy486⟩ : ∃ y_ : List (S87), y_ = (([] : List (S87))) := ⟨_, rfl⟩;replace H : (if 0 ≤ x7_2 then (if x7_2 ≤ (x4_1.length : Int) then ((some (x4_1.take (x7_2 : Int).toNat : List (S87))).bind fun y489 => (if y486.length + y489.length < 5864062014805 then ((some (y486 ++ y489 : List (S87))).bind fun y493 => ((some (([(⟨((q8 l0 x10_1).f0), ((q8 l0 x10_1).f1), ((q8 l0 x10_1).f2)⟩ : S87)] : List (S87)) : List (S87))).bind fun y496 => (if y493.length + y496.length < 5864062014805 then ((some (y493 ++ y496 : List (S87))).bind fun y499 => ((some (x4_1.drop (x7_2 : Int).toNat : List (S87))).bind fun y502 => (if y499.length + y502.length < 5864062014805 then (p8.l0 k2 l0 (y499 ++ y502) l0 (l0.length : Int) (wrap64 (x10_1 + 1))) else (none)))) else (none)))) else (none))) else (none)) else (none)) = some (r1, r2) := by first | (rw [hy486]; with_reducible exact H) | (have H2_ := (Option.bind_some _ _).symm.trans H; rw [hy486]; with_reducible exact H2_) | (have H2_ := (Option.bind_some _ _).symm.trans H; with_reducible exact H2_) | with_reducible exact H | (rw [hy486]; exact H) | exact H
      have Ny486 := zm hy486;clear hy486;obtain ⟨c37, H⟩ := zJ H;have c37b0 := eq_true c37;have c37b1 := decide_eq_true c37;clear c37;obtain ⟨c38, H⟩ := zJ H;have c38b0 := eq_true c38;have c38b1 := decide_eq_true c38;clear c38;obtain ⟨y489, hy489⟩ : ∃ y_ : List (S87), y_ = (x4_1.take (x7_2 : Int).toNat) := ⟨_, rfl⟩;(first | (rw [← hy489] at H; with_reducible replace H := zO H) | rw [← hy489] at H);have Ny489 := zm hy489;clear hy489;obtain ⟨c39, H⟩ := zJ H;have LMc39 := zm c39;clear c39;obtain ⟨y493, hy493⟩ : ∃ y_ : List (S87), y_ = (y486 ++ y489) := ⟨_, rfl⟩;(first | (rw [← hy493] at H; with_reducible replace H := zO H) | rw [← hy493] at H);have Ny493 := zm hy493;clear hy493;obtain ⟨y496, hy496⟩ : ∃ y_ : List (S87), y_ = (([(⟨((q8 l0 x10_1).f0), ((q8 l0 x10_1).f1), ((q8 l0 x10_1).f2)⟩ : S87)] : List (S87))) := ⟨_, rfl⟩;(first | (rw [← hy496] at H; with_reducible replace H := zO H) | rw [← hy496] at H);have Ny496 := zm hy496;clear hy496;obtain ⟨c40, H⟩ := zJ H;have LMc40 := zm c40;clear c40;obtain ⟨y499, hy499⟩ : ∃ y_ : List (S87), y_ = (y493 ++ y496) := ⟨_, rfl⟩;(first | (rw [← hy499] at H; with_reducible replace H := zO H) | rw [← hy499] at H);have Ny499 := zm hy499;clear hy499;have c41b0 := eq_true (of_decide_eq_true (by first | (with_reducible assumption) | assumption) : 0 ≤ x7_2);have c42b0 := eq_true (of_decide_eq_true (by first | (with_reducible assumption) | assumption) : x7_2 ≤ (x4_1.length : Int));obtain ⟨y502, hy502⟩ : ∃ y_ : List (S87), y_ = (x4_1.drop (x7_2 : Int).toNat) := ⟨_, rfl⟩;(first | (rw [← hy502] at H; with_reducible replace H := zO H) | rw [← hy502] at H);have Ny502 := zm hy502;clear hy502;obtain ⟨c43, H⟩ := zJ H;have LMc43 := zm c43;clear c43;obtain ⟨y506, hy506⟩ : ∃ y_ : List (S87), y_ = (y499 ++ y502) := ⟨_, rfl⟩;(first | (rw [← hy506] at H; with_reducible replace H := zO H) | rw [← hy506] at H);have Ny506 := zm hy506;clear hy506;have H' := zm H;clear H;try go_wp2
      have n0_ := zm (Kd.R_drew HO_4.out);have n1_ := zm (blk_drew BK460.out);have n2_ := zm (below_drew1 HB.out);clear HO_4;clear BK460;clear HB;have HO_4 := n0_;have BK460 := n1_;have HB := n2_;clear n0_ n1_ n2_;refine start_ (n := 11) (S := fun w' => True) (ds := []) #[F,F,F,F,F,F,F,F,F,F,F] (by kernel_rfl) rfl rfl trivial (fun hHeld => ?_); refine with_tabW p8.q7a p8.q5g (fun HT_ HW_ => ?_)
      generalize wr.drew = w44 at HO_4 BK460 HB hHeld ⊢;refine zU 0 16 #[T,F,F,F,F,F,F,F,F,F,F] ?_;refine zU 1 17 #[T,T,F,F,F,F,F,F,F,F,F] ?_;refine zU 2 18 #[T,T,T,F,F,F,F,F,F,F,F] ?_;refine zV 3 19 #[T,T,T,T,F,F,F,F,F,F,F] ?_;refine zV 4 20 #[T,T,T,T,T,F,F,F,F,F,F] ?_;refine zV 5 21 #[T,T,T,T,T,T,F,F,F,F,F] ?_;refine zV 6 22 #[T,T,T,T,T,T,T,F,F,F,F] ?_;refine zV 7 23 #[T,T,T,T,T,T,T,T,F,F,F] ?_;refine zV 8 24 #[T,T,T,T,T,T,T,T,T,F,F] ?_;refine zV 9 25 #[T,T,T,T,T,T,T,T,T,T,F] ?_;refine zU 10 26 #[T,T,T,T,T,T,T,T,T,T,T] ?_;refine done_ (done_of HT_.out (by kernel_rfl)) ?_
      try go_wp2
      have n0_ := zm (Kd.R_drew HO_4.out);have n1_ := zm (blk_drew BK460.out);have n2_ := zm (below_drew1 HB.out);clear HO_4;clear BK460;clear HB;have HO_4 := n0_;have BK460 := n1_;have HB := n2_;clear n0_ n1_ n2_;have q46 : (x7_2 : Int) ≤ ((x4_1.length : Int) : Int) := zd;obtain ⟨i046, hi046, _, hsz46, _⟩ := info_parts H8;have hroom46 : x4_1.length ≤ co7 := (Kd.R_reads' HO_4.out).2.1
      have hC46 : Kd.C k87 _ (Ao7) x4_1.length x4_1 := (Kd.R_reads' HO_4.out).2.2
      have hcut46 := cut_to (P := Try.prog) 39 87 .i64 Try.underlying39 hi046 (Ao7) x4_1.length co7 x7_2 (of_decide_eq_true (by first | (with_reducible assumption) | assumption)) q46 hroom46;have hr46 := Kd.C_take (m := (x7_2 : Int).toNat) hC46 (by omega);have hy46 : y489.length = (x7_2 : Int).toNat := (by rw [Ny489.out, List.length_take]; omega)
      rw [← Ny489.out] at hr46;rw [← hy46] at hcut46;have HR492 := zm hr46;have HT492 := zm (show ∀ (W : World) (ok : Nat → Prop), Kd.R k87 87 W w.heap.size ok (.slice Ao7 x4_1.length co7) x4_1 → Kd.C k87 W Ao7 y489.length y489 from fun W ok h => by have z_ := Kd.C_take (m := (x7_2 : Int).toNat) (Kd.R_reads' h).2.2 (by omega); rw [← Ny489.out] at z_; exact z_);have HC492 := zm (show y489.length ≤ co7 from by omega);clear hr46 hC46 hroom46 hi046 hsz46;have KY46 := zm hy46;clear hy46;replace q46 := eq_true q46;have q47 : (x7_2 : Int) ≤ ((x4_1.length : Int) : Int) := zd;obtain ⟨i047, hi047, _, hsz47, _⟩ := info_parts H8;have hroom47 : x4_1.length ≤ co7 := (Kd.R_reads' HO_4.out).2.1
      have hC47 : Kd.C k87 _ (Ao7) x4_1.length x4_1 := (Kd.R_reads' HO_4.out).2.2
      have q047 : (0 : Int) ≤ (x7_2 : Int) := zd;have hcut47 := cut_from (P := Try.prog) 39 87 .i64 Try.underlying39 hi047 3 hsz47 (Ao7) x4_1.length co7 x7_2 q047 q47;have hr47 := Kd.C_drop (m := (x7_2 : Int).toNat) (c := co7) hC47 (by omega) hroom47;obtain ⟨A47, hA47⟩ : ∃ A1, A1 = (if co7 = (x7_2 : Int).toNat then (Ao7) else ((Ao7) : Option Addr).map (·.add ((x7_2 : Int).toNat * 3))) := ⟨_, rfl⟩;obtain ⟨c47, hc47⟩ : ∃ c1, c1 = co7 - (x7_2 : Int).toNat := ⟨_, rfl⟩;have hy47 : y502.length = x4_1.length - (x7_2 : Int).toNat := (by rw [Ny502.out, List.length_drop] <;> omega)
      rw [show (x4_1).drop (x7_2 : Int).toNat = y502 from Ny502.out.symm] at hr47;replace hr47 : Kd.C k87 _ A47 y502.length y502 := (by rw [hA47]; exact hr47)
      rw [← hy47, ← hA47, ← hc47] at hcut47;have HR505 := zm hr47;have HT505 := zm (show ∀ (W : World) (ok : Nat → Prop), Kd.R k87 87 W w.heap.size ok (.slice Ao7 x4_1.length co7) x4_1 → Kd.C k87 W A47 y502.length y502 from fun W ok h => by have z_ := Kd.C_drop (m := (x7_2 : Int).toNat) (c := co7) (Kd.R_reads' h).2.2 (by omega) hroom47; rw [show (x4_1).drop ((x7_2 : Int).toNat) = y502 from Ny502.out.symm] at z_; rw [hA47]; exact z_);have HC505 := zm (show y502.length ≤ c47 from by rw [hy47, hc47]; exact Nat.sub_le_sub_right hroom47 _);clear hr47 hC47 hroom47 hi047 hsz47 hc47;have KY47 := zm hy47;have KA47 := zm hA47;clear hy47 hA47;replace q47 := eq_true q47;refine start_ (n := 13) (S := fun w' => w'.cell? ⟨gb460, 0, none⟩ = some (.int .i64 ((q8 l0 x10_1).f0)) ∧ w'.cell? ⟨gb460, 1, none⟩ = some (.int .i64 ((q8 l0 x10_1).f1)) ∧ w'.cell? ⟨gb460, 2, none⟩ = some (.int .i64 ((q8 l0 x10_1).f2))) (ds := []) #[F,F,F,F,F,F,F,F,F,F,F,F,F] (by kernel_rfl) rfl rfl ⟨(blk_cell BK460.out 0).trans rfl, (blk_cell BK460.out 1).trans rfl, (blk_cell BK460.out 2).trans rfl⟩ (fun hHeld => ?_); refine with_tabW p8.q5i p8.q3n (fun HT_ HW_ => ?_)
      generalize w44.drew = w45 at HO_4 BK460 HB HR492 HR505 hHeld ⊢;refine zU 1 30 #[F,T,F,F,F,F,F,F,F,F,F,F,F] ?_;refine zU 2 31 #[F,T,T,F,F,F,F,F,F,F,F,F,F] ?_;refine zU 3 32 #[F,T,T,T,F,F,F,F,F,F,F,F,F] ?_;refine zU 8 37 #[F,T,T,T,F,F,F,F,T,F,F,F,F] ?_;refine zU 9 38 #[F,T,T,T,F,F,F,F,T,T,F,F,F] ?_;refine zU 10 39 #[F,T,T,T,F,F,F,F,T,T,T,F,F] ?_;refine take_ (i := 5) (N := some 34) (v := ?_) (a' := ?_) #[F,T,T,T,F,T,F,F,T,T,T,F,F] rfl rfl (take_ofW HT_.out HW_.out (by kernel_rfl)) (fun _ _ _ h => h) (Or.inl ⟨by rfl, ?_⟩) hHeld ?_ ?_
      rotate_left
      ·
       rintro w' ⟨s0, s1, s2⟩;go_simp
       with_reducible rfl
      rotate_left
      ·
       simp only [Act.put, zA, zB, zD, i64_w, i32_w]
       rfl
      refine join_ (σ := Value × Value × Value) 3 #[T,T,T,T,T,T,T,F,T,T,T,F,F] (fun s_ => [(29, s_.1), (33, s_.2.1), (35, s_.2.2)]) (fun s_ w' => (w'.cell? ⟨gb460, 0, none⟩ = some (.int .i64 ((q8 l0 x10_1).f0)) ∧ w'.cell? ⟨gb460, 1, none⟩ = some (.int .i64 ((q8 l0 x10_1).f1)) ∧ w'.cell? ⟨gb460, 2, none⟩ = some (.int .i64 ((q8 l0 x10_1).f2))) ∧ (Kd.R k87 87 w' w.heap.size (fun k_ => some k_ ≠ (s_.2.2 : Value).ownBlock ∧ some k_ ≠ (.slice Ao7 x4_1.length co7 : Value).ownBlock ∧ k_ ≠ gb460) s_.2.1 y493) ∧ (Kd.R k87 87 w' w.heap.size (fun k_ => some k_ ≠ (s_.2.1 : Value).ownBlock ∧ some k_ ≠ (.slice Ao7 x4_1.length co7 : Value).ownBlock ∧ k_ ≠ gb460) s_.2.2 y496) ∧ (Kd.R k87 87 w' w.heap.size (fun k_ => some k_ ≠ (s_.2.1 : Value).ownBlock ∧ some k_ ≠ (s_.2.2 : Value).ownBlock ∧ k_ ≠ gb460) (.slice Ao7 x4_1.length co7) x4_1) ∧ (w'.heap[gb460]? = some (.cells #[.int .i64 ((q8 l0 x10_1).f0), .int .i64 ((q8 l0 x10_1).f1), .int .i64 ((q8 l0 x10_1).f2)] 87 (0, 0))) ∧ (Below w.heap.size w w')) ?_ ?_
      rotate_left
      ·
       intro hCont;refine two_ (i := 0) (j := 6) (Ni := some 29) (Nj := some 35) #[T,T,T,T,F,T,F,F,T,T,T,F,F] #[F,T,T,T,F,T,T,F,T,T,T,F,F] rfl rfl rfl rfl (two_of HT_.out (by kernel_rfl)) (by decide) (by decide) (fun K hK => ?_) (fun K hK => ?_)
       ·
        skip
        refine Kd.R_lit_step k87 _ 87 ?hg (N := 29) ?hd (xs := ([] : List (S87))) (inner := []) (ok := fun _ => True) (okp := fun _ => True) ?hr ?hp (fun _ hk => hk) trivial (Below.refl _ _) (Nat.le_refl _) (by simp) ?_; (case hd => rfl); (case hg => rfl); (case hr => first | (go_simp; done) | (go_simp; rfl)); (case hp => exact (Reps.none _ _))
        intro v487 w48 ho49 hb hg_ hnew_;clear hg_ hnew_;(first | rw [← Ny486.out] at ho49 | (simp only [Int.reduceToNat] at ho49; rw [← Ny486.out] at ho49));have n0_ := zm (Kd.R_elder' (zP HO_4.out) (Kd.R_base ho49) hb);have n1_ := zm (Kd.R_lower (Kd.R_newB (Kd.R_new' ho49 (Kd.R_lt (zP HO_4.out))) (g := gb460) (o := .cells #[.int .i64 ((q8 l0 x10_1).f0), .int .i64 ((q8 l0 x10_1).f1), .int .i64 ((q8 l0 x10_1).f2)] 87 (0, 0)) zk) (below_size zb));have n2_ := zm (blk_below (g := gb460) zk hb);have n3_ := zm (below_step zb hb);clear HO_4;clear BK460;clear HB;have HO_4 := n0_;have HO488 := n1_;have BK460 := n2_;have HB := n3_;clear n0_ n1_ n2_ n3_;clear hb ho49;refine hK.out _ _ ⟨(blk_cell BK460.out 0).trans rfl, (blk_cell BK460.out 1).trans rfl, (blk_cell BK460.out 2).trans rfl⟩ (fun hHeld => ?_)
        clear hK K;refine norm_ (a' := ?_) ?_ ?_;rotate_left
        ·
         show Act.put _ (some 29) _ = _
         simp only [Act.put, zA, zB, zD, i64_w, i32_w]
         rfl
        refine two_ (i := 4) (j := 6) (Ni := some 33) (Nj := some 35) #[T,T,T,T,T,T,F,F,T,T,T,F,F] #[T,T,T,T,F,T,T,F,T,T,T,F,F] rfl rfl rfl rfl (two_of HT_.out (by kernel_rfl)) (by decide) (by decide) (fun K hK => ?_) (fun K hK => ?_)
        ·
         skip
         refine Kd.R_append_rows_step k87 (w0 := w) w.heap.size (by rfl) (.tmp 29) (.tmp 32) 39 87 (.agg #[(.int .i64 0), (.int .i64 0), (.int .i64 0)]) 24 rfl Try.underlying39 H8 rfl (by decide) (by omega) v487 y486 y489 _ _ _ (fun k_ => some k_ ≠ (.slice Ao7 x4_1.length co7 : Value).ownBlock ∧ k_ ≠ gb460) (fun _ => False) rfl rfl ?aO ?aR (fun _ _ h => h) (fun _ h => h.elim) ?aF ?aB ?aS ?aL ?_
         (case aR => repeat (first | exact (HT492.out _ _ HO_4.out) | (with_reducible refine Kd.C_alloc ?_ _) | (with_reducible refine Kd.C_drewN ?_ _) | (with_reducible refine Kd.C_drew ?_)))
         (case aB => exact zb)
         (case aF => exact (fun k_ hk => ⟨Kd.fresh' (Kd.R_lt (zP HO_4.out)) k_ hk, Kd.freshB (g := gb460) (o := .cells #[.int .i64 ((q8 l0 x10_1).f0), .int .i64 ((q8 l0 x10_1).f1), .int .i64 ((q8 l0 x10_1).f2)] 87 (0, 0)) zk k_ hk⟩))
         (case aO => exact (zP (Kd.R_mono HO488.out (fun _ hk => ⟨hk.1.2, hk.2⟩))))
         (case aS => exact (below_size zb))
         (case aL => have := LMc39.out; omega)
         intro v494 w50 ho hb hg hat;rw [← Ny493.out] at ho;have n0_ := zm (Kd.R_after (ok := (fun k_ => k_ ≠ gb460)) (zP HO_4.out) hg hat);have n1_ := zm (blk_grown (g := gb460) (o := .cells #[.int .i64 ((q8 l0 x10_1).f0), .int .i64 ((q8 l0 x10_1).f1), .int .i64 ((q8 l0 x10_1).f2)] 87 (0, 0)) zk hg (Kd.R_away HO488.out (fun _ hk => hk.2)));have n2_ := zm (hb);have n3_ := zm (ho);clear HO_4;clear BK460;clear HB;clear HO488;have HO_4 := n0_;have BK460 := n1_;have HB := n2_;have HO495 := n3_;clear n0_ n1_ n2_ n3_;clear ho hb hg hat;refine hK.out _ _ ⟨(blk_cell BK460.out 0).trans rfl, (blk_cell BK460.out 1).trans rfl, (blk_cell BK460.out 2).trans rfl⟩ (fun hHeld => ?_)
         clear hK K;refine norm_ (a' := ?_) ?_ ?_;rotate_left
         ·
          show Act.put _ (some 33) _ = _
          simp only [Act.put, zA, zB, zD, i64_w, i32_w]
          rfl
         refine one_ (i := 6) (N := some 35) #[T,T,T,T,T,T,T,F,T,T,T,F,F] rfl rfl (one_of HT_.out (by kernel_rfl)) (by decide) (fun K hK => ?_)
         refine Kd.R_lit_step k87 _ 87 ?hg (N := 35) ?hd (xs := ([(⟨((q8 l0 x10_1).f0), ((q8 l0 x10_1).f1), ((q8 l0 x10_1).f2)⟩ : S87)] : List (S87))) (inner := [.int .i64 ((q8 l0 x10_1).f0), .int .i64 ((q8 l0 x10_1).f1), .int .i64 ((q8 l0 x10_1).f2)]) (ok := fun _ => True) (okp := fun _ => True) ?hr ?hp (fun _ hk => hk) trivial (Below.refl _ _) (Nat.le_refl _) (by simp) ?_; (case hd => rfl); (case hg => rfl); (case hr => first | (go_simp; done) | (go_simp; rfl)); (case hp => exact (Reps.c3 (show Kd.M k87 _ _ _ (⟨((q8 l0 x10_1).f0), ((q8 l0 x10_1).f1), ((q8 l0 x10_1).f2)⟩ : S87) [.int .i64 ((q8 l0 x10_1).f0), .int .i64 ((q8 l0 x10_1).f1), .int .i64 ((q8 l0 x10_1).f2)] from (T9 _ _ _ (⟨((q8 l0 x10_1).f0), ((q8 l0 x10_1).f1), ((q8 l0 x10_1).f2)⟩ : S87) )) (Reps.none _ _)))
         intro v497 w51 ho52 hb hg_ hnew_;clear hg_ hnew_;(first | rw [← Ny496.out] at ho52 | (simp only [Int.reduceToNat] at ho52; rw [← Ny496.out] at ho52));have n0_ := zm (Kd.R_elder' (zP HO_4.out) (Kd.R_base ho52) hb);have n1_ := zm (Kd.R_elder' (zP HO495.out) (Kd.R_base ho52) hb);have n2_ := zm (Kd.R_lower (Kd.R_newB (Kd.R_new' (Kd.R_new' ho52 (Kd.R_lt (zP HO_4.out))) (Kd.R_lt (zP HO495.out))) (g := gb460) (o := .cells #[.int .i64 ((q8 l0 x10_1).f0), .int .i64 ((q8 l0 x10_1).f1), .int .i64 ((q8 l0 x10_1).f2)] 87 (0, 0)) zk) (below_size zb));have n3_ := zm (blk_below (g := gb460) zk hb);have n4_ := zm (below_step zb hb);clear HO_4;clear HO495;clear BK460;clear HB;have HO_4 := n0_;have HO495 := n1_;have HO498 := n2_;have BK460 := n3_;have HB := n4_;clear n0_ n1_ n2_ n3_ n4_;clear hb ho52;refine hK.out _ _ ⟨(blk_cell BK460.out 0).trans rfl, (blk_cell BK460.out 1).trans rfl, (blk_cell BK460.out 2).trans rfl⟩ (fun hHeld => ?_)
         clear hK K;refine norm_ (a' := ?_) ?_ ?_;rotate_left
         ·
          show Act.put _ (some 35) _ = _
          simp only [Act.put, zA, zB, zD, i64_w, i32_w]
          rfl
         exact norm_ (by simp only [putAll, Act.put, List.setIfInBounds_toArray, List.set_cons_zero, List.set_cons_succ]) (hCont (v487, v494, v497) _ ⟨hHeld, (zP (Kd.R_mono HO495.out (fun _ hk => ⟨hk.2, ⟨hk.1.1, hk.1.2⟩⟩))), (zP (Kd.R_mono HO498.out (fun _ hk => ⟨hk.1.2, ⟨hk.1.1.2, hk.2⟩⟩))), (zP (Kd.R_mono HO_4.out (fun _ hk => ⟨hk.1.2, ⟨hk.2, hk.1.1⟩⟩))), zk, zb⟩)
        ·
         skip
         refine Kd.R_lit_step k87 _ 87 ?hg (N := 35) ?hd (xs := ([(⟨((q8 l0 x10_1).f0), ((q8 l0 x10_1).f1), ((q8 l0 x10_1).f2)⟩ : S87)] : List (S87))) (inner := [.int .i64 ((q8 l0 x10_1).f0), .int .i64 ((q8 l0 x10_1).f1), .int .i64 ((q8 l0 x10_1).f2)]) (ok := fun _ => True) (okp := fun _ => True) ?hr ?hp (fun _ hk => hk) trivial (Below.refl _ _) (Nat.le_refl _) (by simp) ?_; (case hd => rfl); (case hg => rfl); (case hr => first | (go_simp; done) | (go_simp; rfl)); (case hp => exact (Reps.c3 (show Kd.M k87 _ _ _ (⟨((q8 l0 x10_1).f0), ((q8 l0 x10_1).f1), ((q8 l0 x10_1).f2)⟩ : S87) [.int .i64 ((q8 l0 x10_1).f0), .int .i64 ((q8 l0 x10_1).f1), .int .i64 ((q8 l0 x10_1).f2)] from (T9 _ _ _ (⟨((q8 l0 x10_1).f0), ((q8 l0 x10_1).f1), ((q8 l0 x10_1).f2)⟩ : S87) )) (Reps.none _ _)))
         intro v497 w50 ho51 hb hg_ hnew_;clear hg_ hnew_;(first | rw [← Ny496.out] at ho51 | (simp only [Int.reduceToNat] at ho51; rw [← Ny496.out] at ho51));have n0_ := zm (Kd.R_elder' (zP HO_4.out) (Kd.R_base ho51) hb);have n1_ := zm (Kd.R_elder' (zP HO488.out) (Kd.R_base ho51) hb);have n2_ := zm (Kd.R_lower (Kd.R_newB (Kd.R_new' (Kd.R_new' ho51 (Kd.R_lt (zP HO_4.out))) (Kd.R_lt (zP HO488.out))) (g := gb460) (o := .cells #[.int .i64 ((q8 l0 x10_1).f0), .int .i64 ((q8 l0 x10_1).f1), .int .i64 ((q8 l0 x10_1).f2)] 87 (0, 0)) zk) (below_size zb));have n3_ := zm (blk_below (g := gb460) zk hb);have n4_ := zm (below_step zb hb);clear HO_4;clear HO488;clear BK460;clear HB;have HO_4 := n0_;have HO488 := n1_;have HO498 := n2_;have BK460 := n3_;have HB := n4_;clear n0_ n1_ n2_ n3_ n4_;clear hb ho51;refine hK.out _ _ ⟨(blk_cell BK460.out 0).trans rfl, (blk_cell BK460.out 1).trans rfl, (blk_cell BK460.out 2).trans rfl⟩ (fun hHeld => ?_)
         clear hK K;refine norm_ (a' := ?_) ?_ ?_;rotate_left
         ·
          show Act.put _ (some 35) _ = _
          simp only [Act.put, zA, zB, zD, i64_w, i32_w]
          rfl
         refine one_ (i := 4) (N := some 33) #[T,T,T,T,T,T,T,F,T,T,T,F,F] rfl rfl (one_of HT_.out (by kernel_rfl)) (by decide) (fun K hK => ?_)
         refine Kd.R_append_rows_step k87 (w0 := w) w.heap.size (by rfl) (.tmp 29) (.tmp 32) 39 87 (.agg #[(.int .i64 0), (.int .i64 0), (.int .i64 0)]) 24 rfl Try.underlying39 H8 rfl (by decide) (by omega) v487 y486 y489 _ _ _ (fun k_ => some k_ ≠ (.slice Ao7 x4_1.length co7 : Value).ownBlock ∧ some k_ ≠ (v497 : Value).ownBlock ∧ k_ ≠ gb460) (fun _ => False) rfl rfl ?aO ?aR (fun _ _ h => h) (fun _ h => h.elim) ?aF ?aB ?aS ?aL ?_
         (case aR => repeat (first | exact (HT492.out _ _ HO_4.out) | (with_reducible refine Kd.C_alloc ?_ _) | (with_reducible refine Kd.C_drewN ?_ _) | (with_reducible refine Kd.C_drew ?_)))
         (case aB => exact zb)
         (case aF => exact (fun k_ hk => ⟨Kd.fresh' (Kd.R_lt (zP HO_4.out)) k_ hk, Kd.fresh' (Kd.R_lt (zP HO498.out)) k_ hk, Kd.freshB (g := gb460) (o := .cells #[.int .i64 ((q8 l0 x10_1).f0), .int .i64 ((q8 l0 x10_1).f1), .int .i64 ((q8 l0 x10_1).f2)] 87 (0, 0)) zk k_ hk⟩))
         (case aO => exact (zP (Kd.R_mono HO488.out (fun _ hk => ⟨hk.1.1.2, ⟨hk.2, hk.1.2⟩⟩))))
         (case aS => exact (below_size zb))
         (case aL => have := LMc39.out; omega)
         intro v494 w52 ho hb hg hat;rw [← Ny493.out] at ho;have n0_ := zm (Kd.R_after (ok := (fun k_ => some k_ ≠ (v497 : Value).ownBlock ∧ k_ ≠ gb460)) (zP (Kd.R_mono HO_4.out (fun _ hk => ⟨⟨hk.2, hk.1.1⟩, hk.1.2⟩))) hg hat);have n1_ := zm (blk_grown (g := gb460) (o := .cells #[.int .i64 ((q8 l0 x10_1).f0), .int .i64 ((q8 l0 x10_1).f1), .int .i64 ((q8 l0 x10_1).f2)] 87 (0, 0)) zk hg (Kd.R_away HO488.out (fun _ hk => hk.1.2)));have n2_ := zm (Kd.R_after (ok := (fun k_ => some k_ ≠ (.slice Ao7 x4_1.length co7 : Value).ownBlock ∧ k_ ≠ gb460)) (zP (Kd.R_mono HO498.out (fun _ hk => ⟨⟨hk.1.1.2, hk.2⟩, hk.1.2⟩))) hg hat);have n3_ := zm (hb);have n4_ := zm (ho);clear HO_4;clear BK460;clear HO498;clear HB;clear HO488;have HO_4 := n0_;have BK460 := n1_;have HO498 := n2_;have HB := n3_;have HO495 := n4_;clear n0_ n1_ n2_ n3_ n4_;clear ho hb hg hat;refine hK.out _ _ ⟨(blk_cell BK460.out 0).trans rfl, (blk_cell BK460.out 1).trans rfl, (blk_cell BK460.out 2).trans rfl⟩ (fun hHeld => ?_)
         clear hK K;refine norm_ (a' := ?_) ?_ ?_;rotate_left
         ·
          show Act.put _ (some 33) _ = _
          simp only [Act.put, zA, zB, zD, i64_w, i32_w]
          rfl
         exact norm_ (by simp only [putAll, Act.put, List.setIfInBounds_toArray, List.set_cons_zero, List.set_cons_succ]) (hCont (v487, v494, v497) _ ⟨hHeld, (zP (Kd.R_mono HO495.out (fun _ hk => ⟨hk.2.1, ⟨hk.1, hk.2.2⟩⟩))), (zP (Kd.R_mono HO498.out (fun _ hk => ⟨hk.2, ⟨hk.1.1, hk.1.2⟩⟩))), (zP (Kd.R_mono HO_4.out (fun _ hk => ⟨hk.2, ⟨hk.1.1, hk.1.2⟩⟩))), zk, zb⟩)
       ·
        skip
        refine Kd.R_lit_step k87 _ 87 ?hg (N := 35) ?hd (xs := ([(⟨((q8 l0 x10_1).f0), ((q8 l0 x10_1).f1), ((q8 l0 x10_1).f2)⟩ : S87)] : List (S87))) (inner := [.int .i64 ((q8 l0 x10_1).f0), .int .i64 ((q8 l0 x10_1).f1), .int .i64 ((q8 l0 x10_1).f2)]) (ok := fun _ => True) (okp := fun _ => True) ?hr ?hp (fun _ hk => hk) trivial (Below.refl _ _) (Nat.le_refl _) (by simp) ?_; (case hd => rfl); (case hg => rfl); (case hr => first | (go_simp; done) | (go_simp; rfl)); (case hp => exact (Reps.c3 (show Kd.M k87 _ _ _ (⟨((q8 l0 x10_1).f0), ((q8 l0 x10_1).f1), ((q8 l0 x10_1).f2)⟩ : S87) [.int .i64 ((q8 l0 x10_1).f0), .int .i64 ((q8 l0 x10_1).f1), .int .i64 ((q8 l0 x10_1).f2)] from (T9 _ _ _ (⟨((q8 l0 x10_1).f0), ((q8 l0 x10_1).f1), ((q8 l0 x10_1).f2)⟩ : S87) )) (Reps.none _ _)))
        intro v497 w48 ho49 hb hg_ hnew_;clear hg_ hnew_;(first | rw [← Ny496.out] at ho49 | (simp only [Int.reduceToNat] at ho49; rw [← Ny496.out] at ho49));have n0_ := zm (Kd.R_elder' (zP HO_4.out) (Kd.R_base ho49) hb);have n1_ := zm (Kd.R_lower (Kd.R_newB (Kd.R_new' ho49 (Kd.R_lt (zP HO_4.out))) (g := gb460) (o := .cells #[.int .i64 ((q8 l0 x10_1).f0), .int .i64 ((q8 l0 x10_1).f1), .int .i64 ((q8 l0 x10_1).f2)] 87 (0, 0)) zk) (below_size zb));have n2_ := zm (blk_below (g := gb460) zk hb);have n3_ := zm (below_step zb hb);clear HO_4;clear BK460;clear HB;have HO_4 := n0_;have HO498 := n1_;have BK460 := n2_;have HB := n3_;clear n0_ n1_ n2_ n3_;clear hb ho49;refine hK.out _ _ ⟨(blk_cell BK460.out 0).trans rfl, (blk_cell BK460.out 1).trans rfl, (blk_cell BK460.out 2).trans rfl⟩ (fun hHeld => ?_)
        clear hK K;refine norm_ (a' := ?_) ?_ ?_;rotate_left
        ·
         show Act.put _ (some 35) _ = _
         simp only [Act.put, zA, zB, zD, i64_w, i32_w]
         rfl
        refine one_ (i := 0) (N := some 29) #[T,T,T,T,F,T,T,F,T,T,T,F,F] rfl rfl (one_of HT_.out (by kernel_rfl)) (by decide) (fun K hK => ?_)
        refine Kd.R_lit_step k87 _ 87 ?hg (N := 29) ?hd (xs := ([] : List (S87))) (inner := []) (ok := fun _ => True) (okp := fun _ => True) ?hr ?hp (fun _ hk => hk) trivial (Below.refl _ _) (Nat.le_refl _) (by simp) ?_; (case hd => rfl); (case hg => rfl); (case hr => first | (go_simp; done) | (go_simp; rfl)); (case hp => exact (Reps.none _ _))
        intro v487 w50 ho51 hb hg_ hnew_;clear hg_ hnew_;(first | rw [← Ny486.out] at ho51 | (simp only [Int.reduceToNat] at ho51; rw [← Ny486.out] at ho51));have n0_ := zm (Kd.R_elder' (zP HO_4.out) (Kd.R_base ho51) hb);have n1_ := zm (Kd.R_elder' (zP HO498.out) (Kd.R_base ho51) hb);have n2_ := zm (Kd.R_lower (Kd.R_newB (Kd.R_new' (Kd.R_new' ho51 (Kd.R_lt (zP HO_4.out))) (Kd.R_lt (zP HO498.out))) (g := gb460) (o := .cells #[.int .i64 ((q8 l0 x10_1).f0), .int .i64 ((q8 l0 x10_1).f1), .int .i64 ((q8 l0 x10_1).f2)] 87 (0, 0)) zk) (below_size zb));have n3_ := zm (blk_below (g := gb460) zk hb);have n4_ := zm (below_step zb hb);clear HO_4;clear HO498;clear BK460;clear HB;have HO_4 := n0_;have HO498 := n1_;have HO488 := n2_;have BK460 := n3_;have HB := n4_;clear n0_ n1_ n2_ n3_ n4_;clear hb ho51;refine hK.out _ _ ⟨(blk_cell BK460.out 0).trans rfl, (blk_cell BK460.out 1).trans rfl, (blk_cell BK460.out 2).trans rfl⟩ (fun hHeld => ?_)
        clear hK K;refine norm_ (a' := ?_) ?_ ?_;rotate_left
        ·
         show Act.put _ (some 29) _ = _
         simp only [Act.put, zA, zB, zD, i64_w, i32_w]
         rfl
        refine one_ (i := 4) (N := some 33) #[T,T,T,T,T,T,T,F,T,T,T,F,F] rfl rfl (one_of HT_.out (by kernel_rfl)) (by decide) (fun K hK => ?_)
        refine Kd.R_append_rows_step k87 (w0 := w) w.heap.size (by rfl) (.tmp 29) (.tmp 32) 39 87 (.agg #[(.int .i64 0), (.int .i64 0), (.int .i64 0)]) 24 rfl Try.underlying39 H8 rfl (by decide) (by omega) v487 y486 y489 _ _ _ (fun k_ => some k_ ≠ (.slice Ao7 x4_1.length co7 : Value).ownBlock ∧ some k_ ≠ (v497 : Value).ownBlock ∧ k_ ≠ gb460) (fun _ => False) rfl rfl ?aO ?aR (fun _ _ h => h) (fun _ h => h.elim) ?aF ?aB ?aS ?aL ?_
        (case aR => repeat (first | exact (HT492.out _ _ HO_4.out) | (with_reducible refine Kd.C_alloc ?_ _) | (with_reducible refine Kd.C_drewN ?_ _) | (with_reducible refine Kd.C_drew ?_)))
        (case aB => exact zb)
        (case aF => exact (fun k_ hk => ⟨Kd.fresh' (Kd.R_lt (zP HO_4.out)) k_ hk, Kd.fresh' (Kd.R_lt (zP HO498.out)) k_ hk, Kd.freshB (g := gb460) (o := .cells #[.int .i64 ((q8 l0 x10_1).f0), .int .i64 ((q8 l0 x10_1).f1), .int .i64 ((q8 l0 x10_1).f2)] 87 (0, 0)) zk k_ hk⟩))
        (case aO => exact (zP (Kd.R_mono HO488.out (fun _ hk => ⟨hk.1.1.2, ⟨hk.1.2, hk.2⟩⟩))))
        (case aS => exact (below_size zb))
        (case aL => have := LMc39.out; omega)
        intro v494 w52 ho hb hg hat;rw [← Ny493.out] at ho;have n0_ := zm (Kd.R_after (ok := (fun k_ => some k_ ≠ (v497 : Value).ownBlock ∧ k_ ≠ gb460)) (zP (Kd.R_mono HO_4.out (fun _ hk => ⟨⟨hk.1.2, hk.1.1⟩, hk.2⟩))) hg hat);have n1_ := zm (blk_grown (g := gb460) (o := .cells #[.int .i64 ((q8 l0 x10_1).f0), .int .i64 ((q8 l0 x10_1).f1), .int .i64 ((q8 l0 x10_1).f2)] 87 (0, 0)) zk hg (Kd.R_away HO488.out (fun _ hk => hk.2)));have n2_ := zm (Kd.R_after (ok := (fun k_ => some k_ ≠ (.slice Ao7 x4_1.length co7 : Value).ownBlock ∧ k_ ≠ gb460)) (zP (Kd.R_mono HO498.out (fun _ hk => ⟨⟨hk.1.1.2, hk.1.2⟩, hk.2⟩))) hg hat);have n3_ := zm (hb);have n4_ := zm (ho);clear HO_4;clear BK460;clear HO498;clear HB;clear HO488;have HO_4 := n0_;have BK460 := n1_;have HO498 := n2_;have HB := n3_;have HO495 := n4_;clear n0_ n1_ n2_ n3_ n4_;clear ho hb hg hat;refine hK.out _ _ ⟨(blk_cell BK460.out 0).trans rfl, (blk_cell BK460.out 1).trans rfl, (blk_cell BK460.out 2).trans rfl⟩ (fun hHeld => ?_)
        clear hK K;refine norm_ (a' := ?_) ?_ ?_;rotate_left
        ·
         show Act.put _ (some 33) _ = _
         simp only [Act.put, zA, zB, zD, i64_w, i32_w]
         rfl
        exact norm_ (by simp only [putAll, Act.put, List.setIfInBounds_toArray, List.set_cons_zero, List.set_cons_succ]) (hCont (v487, v494, v497) _ ⟨hHeld, (zP (Kd.R_mono HO495.out (fun _ hk => ⟨hk.2.1, ⟨hk.1, hk.2.2⟩⟩))), (zP (Kd.R_mono HO498.out (fun _ hk => ⟨hk.2, ⟨hk.1.1, hk.1.2⟩⟩))), (zP (Kd.R_mono HO_4.out (fun _ hk => ⟨hk.2, ⟨hk.1.1, hk.1.2⟩⟩))), zk, zb⟩)
      rintro ⟨v487, v494, v497⟩ w53 ⟨hS_, h0_, h1_, h2_, h3_, h4_⟩;have n0_ : Aside0 (Kd.R k87 87 w53 w.heap.size (fun k_ => some k_ ≠ (v497 : Value).ownBlock ∧ some k_ ≠ (.slice Ao7 x4_1.length co7 : Value).ownBlock ∧ k_ ≠ gb460) v494 y493) := ⟨h0_⟩
      have n1_ : Aside0 (Kd.R k87 87 w53 w.heap.size (fun k_ => some k_ ≠ (v494 : Value).ownBlock ∧ some k_ ≠ (.slice Ao7 x4_1.length co7 : Value).ownBlock ∧ k_ ≠ gb460) v497 y496) := ⟨h1_⟩
      have n2_ : Aside0 (Kd.R k87 87 w53 w.heap.size (fun k_ => some k_ ≠ (v494 : Value).ownBlock ∧ some k_ ≠ (v497 : Value).ownBlock ∧ k_ ≠ gb460) (.slice Ao7 x4_1.length co7) x4_1) := ⟨h2_⟩
      have n3_ : Aside0 (w53.heap[gb460]? = some (.cells #[.int .i64 ((q8 l0 x10_1).f0), .int .i64 ((q8 l0 x10_1).f1), .int .i64 ((q8 l0 x10_1).f2)] 87 (0, 0))) := ⟨h3_⟩
      have n4_ : Aside0 (Below w.heap.size w w53) := ⟨h4_⟩
      clear HO_4;clear BK460;clear HB;clear h0_ h1_ h2_ h3_ h4_;have HO495 := n0_;have HO498 := n1_;have HO_4 := n2_;have BK460 := n3_;have HB := n4_;clear n0_ n1_ n2_ n3_ n4_;have hHeld : w53.cell? ⟨gb460, 0, none⟩ = some (.int .i64 ((q8 l0 x10_1).f0)) ∧ w53.cell? ⟨gb460, 1, none⟩ = some (.int .i64 ((q8 l0 x10_1).f1)) ∧ w53.cell? ⟨gb460, 2, none⟩ = some (.int .i64 ((q8 l0 x10_1).f2)) := hS_
      obtain ⟨Ao55, co55, eo55⟩ := Kd.R_slice HO498.out;(first | subst eo55 | (injection eo55 with f1_ f2_ f3_; have f4_ := f1_.symm; have f5_ := f3_.symm; clear f1_ f2_ f3_; subst f4_; subst f5_));refine norm_ (a' := ?_) ?_ ?_;rotate_left
      ·
       simp only [putAll, Act.put, List.setIfInBounds_toArray, List.set_cons_zero, List.set_cons_succ]
       rfl
      refine one_ (i := 7) (N := some 36) #[T,T,T,T,T,T,T,T,T,T,T,F,F] rfl rfl (one_of HT_.out (by kernel_rfl)) (by decide) (fun K hK => ?_)
      refine Kd.R_append_rows_step k87 (w0 := w) w.heap.size (by rfl) (.tmp 33) (.tmp 35) 39 87 (.agg #[(.int .i64 0), (.int .i64 0), (.int .i64 0)]) 24 rfl Try.underlying39 H8 rfl (by decide) (by omega) v494 y493 y496 _ _ _ (fun k_ => some k_ ≠ (.slice Ao7 x4_1.length co7 : Value).ownBlock ∧ some k_ ≠ (.slice Ao55 y496.length co55 : Value).ownBlock ∧ k_ ≠ gb460) (fun _ => False) rfl rfl ?aO ?aR (fun _ _ h => h) (fun _ h => h.elim) ?aF ?aB ?aS ?aL ?_
      (case aR => exact (Kd.R_reads' (zP HO498.out)).2.2)
      (case aB => exact zb)
      (case aF => exact (fun k_ hk => ⟨Kd.fresh' (Kd.R_lt (zP HO_4.out)) k_ hk, Kd.fresh' (Kd.R_lt (zP HO498.out)) k_ hk, Kd.freshB (g := gb460) (o := .cells #[.int .i64 ((q8 l0 x10_1).f0), .int .i64 ((q8 l0 x10_1).f1), .int .i64 ((q8 l0 x10_1).f2)] 87 (0, 0)) zk k_ hk⟩))
      (case aO => exact (zP (Kd.R_mono HO495.out (fun _ hk => ⟨hk.2.1, ⟨hk.1, hk.2.2⟩⟩))))
      (case aS => exact (below_size zb))
      (case aL => have := LMc40.out; omega)
      intro v500 w54 ho hb hg hat;rw [← Ny499.out] at ho;have n0_ := zm (Kd.R_after (ok := (fun k_ => some k_ ≠ (.slice Ao55 y496.length co55 : Value).ownBlock ∧ k_ ≠ gb460)) (zP (Kd.R_mono HO_4.out (fun _ hk => ⟨⟨hk.2.1, hk.2.2⟩, hk.1⟩))) hg hat);have n1_ := zm (blk_grown (g := gb460) (o := .cells #[.int .i64 ((q8 l0 x10_1).f0), .int .i64 ((q8 l0 x10_1).f1), .int .i64 ((q8 l0 x10_1).f2)] 87 (0, 0)) zk hg (Kd.R_away HO495.out (fun _ hk => hk.2.2)));have n2_ := zm (Kd.R_after (ok := (fun k_ => some k_ ≠ (.slice Ao7 x4_1.length co7 : Value).ownBlock ∧ k_ ≠ gb460)) (zP (Kd.R_mono HO498.out (fun _ hk => ⟨⟨hk.2.1, hk.2.2⟩, hk.1⟩))) hg hat);have n3_ := zm (hb);have n4_ := zm (ho);clear HO_4;clear BK460;clear HO498;clear HB;clear HO495;have HO_4 := n0_;have BK460 := n1_;have HO498 := n2_;have HB := n3_;have HO501 := n4_;clear n0_ n1_ n2_ n3_ n4_;clear ho hb hg hat;refine hK.out _ _ ⟨(blk_cell BK460.out 0).trans rfl, (blk_cell BK460.out 1).trans rfl, (blk_cell BK460.out 2).trans rfl⟩ (fun hHeld => ?_)
      clear hK K;refine norm_ (a' := ?_) ?_ ?_;rotate_left
      ·
       show Act.put _ (some 36) _ = _
       simp only [Act.put, zA, zB, zD, i64_w, i32_w]
       rfl
      refine one_ (i := 11) (N := some 40) #[T,T,T,T,T,T,T,T,T,T,T,T,F] rfl rfl (one_of HT_.out (by kernel_rfl)) (by decide) (fun K hK => ?_)
      refine Kd.R_append_rows_step k87 (w0 := w) w.heap.size (by rfl) (.tmp 36) (.tmp 39) 39 87 (.agg #[(.int .i64 0), (.int .i64 0), (.int .i64 0)]) 24 rfl Try.underlying39 H8 rfl (by decide) (by omega) v500 y499 y502 _ _ _ (fun k_ => some k_ ≠ (.slice Ao7 x4_1.length co7 : Value).ownBlock ∧ some k_ ≠ (.slice Ao55 y496.length co55 : Value).ownBlock ∧ k_ ≠ gb460) (fun _ => False) rfl rfl ?aO ?aR (fun _ _ h => h) (fun _ h => h.elim) ?aF ?aB ?aS ?aL ?_
      (case aR => repeat (first | exact (HT505.out _ _ HO_4.out) | (with_reducible refine Kd.C_alloc ?_ _) | (with_reducible refine Kd.C_drewN ?_ _) | (with_reducible refine Kd.C_drew ?_)))
      (case aB => exact zb)
      (case aF => exact (fun k_ hk => ⟨Kd.fresh' (Kd.R_lt (zP HO_4.out)) k_ hk, Kd.fresh' (Kd.R_lt (zP HO498.out)) k_ hk, Kd.freshB (g := gb460) (o := .cells #[.int .i64 ((q8 l0 x10_1).f0), .int .i64 ((q8 l0 x10_1).f1), .int .i64 ((q8 l0 x10_1).f2)] 87 (0, 0)) zk k_ hk⟩))
      (case aO => exact (zP HO501.out))
      (case aS => exact (below_size zb))
      (case aL => have := LMc43.out; omega)
      intro v507 w56 ho hb hg hat;rw [← Ny506.out] at ho;have n0_ := zm (Kd.R_after (ok := (fun k_ => some k_ ≠ (.slice Ao55 y496.length co55 : Value).ownBlock ∧ k_ ≠ gb460)) (zP HO_4.out) hg hat);have n1_ := zm (blk_grown (g := gb460) (o := .cells #[.int .i64 ((q8 l0 x10_1).f0), .int .i64 ((q8 l0 x10_1).f1), .int .i64 ((q8 l0 x10_1).f2)] 87 (0, 0)) zk hg (Kd.R_away HO501.out (fun _ hk => hk.2.2)));have n2_ := zm (Kd.R_after (ok := (fun k_ => some k_ ≠ (.slice Ao7 x4_1.length co7 : Value).ownBlock ∧ k_ ≠ gb460)) (zP HO498.out) hg hat);have n3_ := zm (hb);have n4_ := zm (ho);clear HO_4;clear BK460;clear HO498;clear HB;clear HO501;have HO_4 := n0_;have BK460 := n1_;have HO498 := n2_;have HB := n3_;have HO508 := n4_;clear n0_ n1_ n2_ n3_ n4_;clear ho hb hg hat;refine hK.out _ _ ⟨(blk_cell BK460.out 0).trans rfl, (blk_cell BK460.out 1).trans rfl, (blk_cell BK460.out 2).trans rfl⟩ (fun hHeld => ?_)
      clear hK K;refine norm_ (a' := ?_) ?_ ?_;rotate_left
      ·
       show Act.put _ (some 40) _ = _
       simp only [Act.put, zA, zB, zD, i64_w, i32_w]
       rfl
      refine zU 12 4 #[T,T,T,T,T,T,T,T,T,T,T,T,T] ?_;refine done_ (done_of HT_.out (by kernel_rfl)) ?_
      try go_wp2
      go_roundg k2
      case measure => have := HK1.out; have := HK2.out; omega
      case rel => exact ⟨(y506), (wrap64 (x10_1 + 1)), zz, H', ⟨by have := HK1.out; have := HK2.out; omega⟩, ⟨zP (Kd.R_mono HO508.out (fun _ hk => trivial))⟩, ⟨zb⟩⟩
     rw [if_pos c8] at H;have c8b0 : decide (0 < x7_2) = true := decide_eq_true c8;clear c8;obtain ⟨ji9, hji9⟩ : ∃ j_ : Int, (wrap64 (x7_2 - 1)) = j_ := ⟨_, rfl⟩;replace H : (if 0 ≤ (ji9) then (if (ji9) < (x4_1.length : Int) then ((D7.f ((q8 l0 x10_1).f0) ((q8 l0 x10_1).f1) ((q8 l0 x10_1).f2) ((q8 x4_1 (ji9)).f0) ((q8 x4_1 (ji9)).f1) ((q8 x4_1 (ji9)).f2)).bind fun t462 => (if t462 = true then (p8.l1 k2 l0 x4_1 ji9 l0 (l0.length : Int) x10_1 ((q8 l0 x10_1).f0) ((q8 l0 x10_1).f1) ((q8 l0 x10_1).f2)) else ((some (([] : List (S87)) : List (S87))).bind fun y463 => (if 0 ≤ x7_2 then (if x7_2 ≤ (x4_1.length : Int) then ((some (x4_1.take (x7_2 : Int).toNat : List (S87))).bind fun y466 => (if y463.length + y466.length < 5864062014805 then ((some (y463 ++ y466 : List (S87))).bind fun y470 => ((some (([(⟨((q8 l0 x10_1).f0), ((q8 l0 x10_1).f1), ((q8 l0 x10_1).f2)⟩ : S87)] : List (S87)) : List (S87))).bind fun y473 => (if y470.length + y473.length < 5864062014805 then ((some (y470 ++ y473 : List (S87))).bind fun y476 => ((some (x4_1.drop (x7_2 : Int).toNat : List (S87))).bind fun y479 => (if y476.length + y479.length < 5864062014805 then (p8.l0 k2 l0 (y476 ++ y479) l0 (l0.length : Int) (wrap64 (x10_1 + 1))) else (none)))) else (none)))) else (none))) else (none)) else (none))))) else (none)) else (none)) = some (r1, r2) := by first | (rw [hji9] at H; exact H) | (simp only [hji9] at H ⊢; exact H)
     have hji9w : (IntKind.i64.wrap (x7_2 - 1)) = ji9 := (i64_w _).trans hji9
     obtain ⟨c10, H⟩ := zJ H;have c10b0 := decide_eq_true c10;clear c10;obtain ⟨c11, H⟩ := zJ H;have c11b0 := decide_eq_true c11;clear c11;obtain ⟨t462, A12, H⟩ := zI H;(try dsimp only at H);by_cases c13 : t462 = true
     ·
      subst c13;rw [if_pos rfl] at H;have H' := zm H;clear H;try go_wp2
      have n0_ := zm (Kd.R_drew HO_4.out);have n1_ := zm (blk_drew BK460.out);have n2_ := zm (below_drew1 HB.out);clear HO_4;clear BK460;clear HB;have HO_4 := n0_;have BK460 := n1_;have HB := n2_;clear n0_ n1_ n2_;have p461 : 0 ≤ ((ji9) : Int) := zd;have q461 : (ji9) < (x4_1.length : Int) := zd;obtain ⟨ad461, e461, hx461_0, hx461_1, hx461_2⟩ := U5 (Kd.R_reads' HO_4.out).2.2 (ji9) p461 q461;cases e461;replace p461 := eq_true p461;replace q461 := eq_true q461;refine start_ (n := 11) (S := fun w' => w'.cell? ⟨gb460, 0, none⟩ = some (.int .i64 ((q8 l0 x10_1).f0)) ∧ w'.cell? ⟨gb460, 1, none⟩ = some (.int .i64 ((q8 l0 x10_1).f1)) ∧ w'.cell? ⟨gb460, 2, none⟩ = some (.int .i64 ((q8 l0 x10_1).f2)) ∧ w'.cell? (ad461.add (((ji9)).toNat * 3)) = some (.int .i64 ((q8 x4_1 (ji9)).f0)) ∧ w'.cell? ⟨(ad461.add (((ji9)).toNat * 3)).block, (ad461.add (((ji9)).toNat * 3)).off + 1, none⟩ = some (.int .i64 ((q8 x4_1 (ji9)).f1)) ∧ w'.cell? ⟨(ad461.add (((ji9)).toNat * 3)).block, (ad461.add (((ji9)).toNat * 3)).off + 2, none⟩ = some (.int .i64 ((q8 x4_1 (ji9)).f2))) (ds := []) #[F,F,F,F,F,F,F,F,F,F,F] (by kernel_rfl) rfl rfl ⟨(blk_cell BK460.out 0).trans rfl, (blk_cell BK460.out 1).trans rfl, (blk_cell BK460.out 2).trans rfl, hx461_0, hx461_1, hx461_2⟩ (fun hHeld => ?_); refine with_tabW p8.q7a p8.q5g (fun HT_ HW_ => ?_)
      generalize wr.drew = w14 at HO_4 BK460 HB hx461_0 hx461_1 hx461_2 hHeld ⊢;refine zU 0 16 #[T,F,F,F,F,F,F,F,F,F,F] ?_;refine zU 1 17 #[T,T,F,F,F,F,F,F,F,F,F] ?_;refine zU 2 18 #[T,T,T,F,F,F,F,F,F,F,F] ?_;refine zU 4 20 #[T,T,T,F,T,F,F,F,F,F,F] ?_;refine zU 5 21 #[T,T,T,F,T,T,F,F,F,F,F] ?_;refine zU 6 22 #[T,T,T,F,T,T,T,F,F,F,F] ?_;refine zU 7 23 #[T,T,T,F,T,T,T,T,F,F,F] ?_;refine take_ (i := 3) (N := some 19) (v := ?_) (a' := ?_) #[T,T,T,T,T,T,T,T,F,F,F] rfl rfl (take_ofW HT_.out HW_.out (by kernel_rfl)) (fun _ _ _ h => h) (Or.inl ⟨by rfl, ?_⟩) hHeld ?_ ?_
      rotate_left
      ·
       rintro w' ⟨s0, s1, s2, s3, s4, s5⟩;go_simp
       with_reducible rfl
      rotate_left
      ·
       simp only [Act.put, zA, zB, zD, i64_w, i32_w]
       rfl
      refine take_ (i := 8) (N := some 24) (v := ?_) (a' := ?_) #[T,T,T,T,T,T,T,T,T,F,F] rfl rfl (take_ofW HT_.out HW_.out (by kernel_rfl)) (fun _ _ _ h => h) (Or.inl ⟨by rfl, ?_⟩) hHeld ?_ ?_
      rotate_left
      ·
       rintro w' ⟨s0, s1, s2, s3, s4, s5⟩;go_simp
       with_reducible rfl
      rotate_left
      ·
       simp only [Act.put, zA, zB, zD, i64_w, i32_w]
       rfl
      refine one_ (i := 9) (N := some 25) #[T,T,T,T,T,T,T,T,T,T,F] rfl rfl (one_of HT_.out (by kernel_rfl)) (by decide) (fun K hK => ?_)
      refine goes_ Try.func116 (by kernel_rfl) rfl #[.agg #[.int .i64 ((q8 l0 x10_1).f0), .int .i64 ((q8 l0 x10_1).f1), .int .i64 ((q8 l0 x10_1).f2)], .agg #[.int .i64 ((q8 x4_1 (ji9)).f0), .int .i64 ((q8 x4_1 (ji9)).f1), .int .i64 ((q8 x4_1 (ji9)).f2)]] (by rfl) rfl rfl (by (try simp only [List.map_toArray, List.map_cons, List.map_nil]); first | done | (simp only [hji9]; rfl) | rfl | (simp only [List.length_drop, List.length_take]; rfl)) ?_
      with_reducible refine (D7.calls ((q8 l0 x10_1).f0) ((q8 l0 x10_1).f1) ((q8 l0 x10_1).f2) ((q8 x4_1 (ji9)).f0) ((q8 x4_1 (ji9)).f1) ((q8 x4_1 (ji9)).f2) true _ A12.out).mono ?_
      rintro e w15 ⟨rfl, hb⟩;have HS3_ := (hb.cell (World.block_lt_of_cell? _ _ (hHeld.2.2.2.1))).trans (hHeld.2.2.2.1);have HS4_ := (hb.cell (World.block_lt_of_cell? _ _ (hHeld.2.2.2.2.1))).trans (hHeld.2.2.2.2.1);have HS5_ := (hb.cell (World.block_lt_of_cell? _ _ (hHeld.2.2.2.2.2))).trans (hHeld.2.2.2.2.2);refine ⟨_, rfl, ?_⟩
      have n0_ := zm (Kd.R_below (zP HO_4.out) hb);have n1_ := zm (blk_below (g := gb460) zk hb);have n2_ := zm (below_step zb hb);clear HO_4;clear BK460;clear HB;have HO_4 := n0_;have BK460 := n1_;have HB := n2_;clear n0_ n1_ n2_;(try clear hb);refine hK.out _ _ ⟨(blk_cell BK460.out 0).trans rfl, (blk_cell BK460.out 1).trans rfl, (blk_cell BK460.out 2).trans rfl, HS3_, HS4_, HS5_⟩ (fun hHeld => ?_)
      clear hK K;refine norm_ (a' := ?_) ?_ ?_;rotate_left
      ·
       show Act.put _ (some 25) _ = _
       simp only [Act.put, zA, zB, zD, i64_w, i32_w]
       rfl
      refine zU 10 26 #[T,T,T,T,T,T,T,T,T,T,T] ?_;refine done_ (done_of HT_.out (by kernel_rfl)) ?_
      try go_wp2
      go_roundg k2
      case measure => have := HK1.out; have := HK2.out; omega
      case rel => exact ⟨(ji9), (by first | rfl | (simp; done) | (simp only [← hji9] <;> (first | rfl | simp)) | (simp [*]; done)), H', ⟨by have := HK1.out; have := HK2.out; omega⟩, ⟨zP HO_4.out⟩, ⟨zk⟩, ⟨zb⟩⟩
     replace c13 := Bool.eq_false_iff.mpr c13;subst c13;rw [if_neg (show ¬ (false = true) by decide)] at H;obtain ⟨y463, hy463⟩ : ∃ y_ : List (S87), y_ = (([] : List (S87))) := ⟨_, rfl⟩;replace H : (if 0 ≤ x7_2 then (if x7_2 ≤ (x4_1.length : Int) then ((some (x4_1.take (x7_2 : Int).toNat : List (S87))).bind fun y466 => (if y463.length + y466.length < 5864062014805 then ((some (y463 ++ y466 : List (S87))).bind fun y470 => ((some (([(⟨((q8 l0 x10_1).f0), ((q8 l0 x10_1).f1), ((q8 l0 x10_1).f2)⟩ : S87)] : List (S87)) : List (S87))).bind fun y473 => (if y470.length + y473.length < 5864062014805 then ((some (y470 ++ y473 : List (S87))).bind fun y476 => ((some (x4_1.drop (x7_2 : Int).toNat : List (S87))).bind fun y479 => (if y476.length + y479.length < 5864062014805 then (p8.l0 k2 l0 (y476 ++ y479) l0 (l0.length : Int) (wrap64 (x10_1 + 1))) else (none)))) else (none)))) else (none))) else (none)) else (none)) = some (r1, r2) := by first | (rw [hy463]; with_reducible exact H) | (have H2_ := (Option.bind_some _ _).symm.trans H; rw [hy463]; with_reducible exact H2_) | (have H2_ := (Option.bind_some _ _).symm.trans H; with_reducible exact H2_) | with_reducible exact H | (rw [hy463]; exact H) | exact H
     have Ny463 := zm hy463;clear hy463;obtain ⟨c16, H⟩ := zJ H;have c16b0 := eq_true c16;have c16b1 := decide_eq_true c16;clear c16;obtain ⟨c17, H⟩ := zJ H;have c17b0 := eq_true c17;have c17b1 := decide_eq_true c17;clear c17;obtain ⟨y466, hy466⟩ : ∃ y_ : List (S87), y_ = (x4_1.take (x7_2 : Int).toNat) := ⟨_, rfl⟩;(first | (rw [← hy466] at H; with_reducible replace H := zO H) | rw [← hy466] at H);have Ny466 := zm hy466;clear hy466;obtain ⟨c18, H⟩ := zJ H;have LMc18 := zm c18;clear c18;obtain ⟨y470, hy470⟩ : ∃ y_ : List (S87), y_ = (y463 ++ y466) := ⟨_, rfl⟩;(first | (rw [← hy470] at H; with_reducible replace H := zO H) | rw [← hy470] at H);have Ny470 := zm hy470;clear hy470;obtain ⟨y473, hy473⟩ : ∃ y_ : List (S87), y_ = (([(⟨((q8 l0 x10_1).f0), ((q8 l0 x10_1).f1), ((q8 l0 x10_1).f2)⟩ : S87)] : List (S87))) := ⟨_, rfl⟩;(first | (rw [← hy473] at H; with_reducible replace H := zO H) | rw [← hy473] at H);have Ny473 := zm hy473;clear hy473;obtain ⟨c19, H⟩ := zJ H;have LMc19 := zm c19;clear c19;obtain ⟨y476, hy476⟩ : ∃ y_ : List (S87), y_ = (y470 ++ y473) := ⟨_, rfl⟩;(first | (rw [← hy476] at H; with_reducible replace H := zO H) | rw [← hy476] at H);have Ny476 := zm hy476;clear hy476;have c20b0 := eq_true (of_decide_eq_true (by first | (with_reducible assumption) | assumption) : 0 ≤ x7_2);have c21b0 := eq_true (of_decide_eq_true (by first | (with_reducible assumption) | assumption) : x7_2 ≤ (x4_1.length : Int));obtain ⟨y479, hy479⟩ : ∃ y_ : List (S87), y_ = (x4_1.drop (x7_2 : Int).toNat) := ⟨_, rfl⟩;(first | (rw [← hy479] at H; with_reducible replace H := zO H) | rw [← hy479] at H);have Ny479 := zm hy479;clear hy479;obtain ⟨c22, H⟩ := zJ H;have LMc22 := zm c22;clear c22;obtain ⟨y483, hy483⟩ : ∃ y_ : List (S87), y_ = (y476 ++ y479) := ⟨_, rfl⟩;(first | (rw [← hy483] at H; with_reducible replace H := zO H) | rw [← hy483] at H);have Ny483 := zm hy483;clear hy483;have H' := zm H;clear H;try go_wp2
     have n0_ := zm (Kd.R_drew HO_4.out);have n1_ := zm (blk_drew BK460.out);have n2_ := zm (below_drew1 HB.out);clear HO_4;clear BK460;clear HB;have HO_4 := n0_;have BK460 := n1_;have HB := n2_;clear n0_ n1_ n2_;have p461 : 0 ≤ ((ji9) : Int) := zd;have q461 : (ji9) < (x4_1.length : Int) := zd;obtain ⟨ad461, e461, hx461_0, hx461_1, hx461_2⟩ := U5 (Kd.R_reads' HO_4.out).2.2 (ji9) p461 q461;cases e461;replace p461 := eq_true p461;replace q461 := eq_true q461;refine start_ (n := 11) (S := fun w' => w'.cell? ⟨gb460, 0, none⟩ = some (.int .i64 ((q8 l0 x10_1).f0)) ∧ w'.cell? ⟨gb460, 1, none⟩ = some (.int .i64 ((q8 l0 x10_1).f1)) ∧ w'.cell? ⟨gb460, 2, none⟩ = some (.int .i64 ((q8 l0 x10_1).f2)) ∧ w'.cell? (ad461.add (((ji9)).toNat * 3)) = some (.int .i64 ((q8 x4_1 (ji9)).f0)) ∧ w'.cell? ⟨(ad461.add (((ji9)).toNat * 3)).block, (ad461.add (((ji9)).toNat * 3)).off + 1, none⟩ = some (.int .i64 ((q8 x4_1 (ji9)).f1)) ∧ w'.cell? ⟨(ad461.add (((ji9)).toNat * 3)).block, (ad461.add (((ji9)).toNat * 3)).off + 2, none⟩ = some (.int .i64 ((q8 x4_1 (ji9)).f2))) (ds := []) #[F,F,F,F,F,F,F,F,F,F,F] (by kernel_rfl) rfl rfl ⟨(blk_cell BK460.out 0).trans rfl, (blk_cell BK460.out 1).trans rfl, (blk_cell BK460.out 2).trans rfl, hx461_0, hx461_1, hx461_2⟩ (fun hHeld => ?_); refine with_tabW p8.q7a p8.q5g (fun HT_ HW_ => ?_)
     generalize wr.drew = w23 at HO_4 BK460 HB hx461_0 hx461_1 hx461_2 hHeld ⊢;refine zU 0 16 #[T,F,F,F,F,F,F,F,F,F,F] ?_;refine zU 1 17 #[T,T,F,F,F,F,F,F,F,F,F] ?_;refine zU 2 18 #[T,T,T,F,F,F,F,F,F,F,F] ?_;refine zU 4 20 #[T,T,T,F,T,F,F,F,F,F,F] ?_;refine zU 5 21 #[T,T,T,F,T,T,F,F,F,F,F] ?_;refine zU 6 22 #[T,T,T,F,T,T,T,F,F,F,F] ?_;refine zU 7 23 #[T,T,T,F,T,T,T,T,F,F,F] ?_;refine take_ (i := 3) (N := some 19) (v := ?_) (a' := ?_) #[T,T,T,T,T,T,T,T,F,F,F] rfl rfl (take_ofW HT_.out HW_.out (by kernel_rfl)) (fun _ _ _ h => h) (Or.inl ⟨by rfl, ?_⟩) hHeld ?_ ?_
     rotate_left
     ·
      rintro w' ⟨s0, s1, s2, s3, s4, s5⟩;go_simp
      with_reducible rfl
     rotate_left
     ·
      simp only [Act.put, zA, zB, zD, i64_w, i32_w]
      rfl
     refine take_ (i := 8) (N := some 24) (v := ?_) (a' := ?_) #[T,T,T,T,T,T,T,T,T,F,F] rfl rfl (take_ofW HT_.out HW_.out (by kernel_rfl)) (fun _ _ _ h => h) (Or.inl ⟨by rfl, ?_⟩) hHeld ?_ ?_
     rotate_left
     ·
      rintro w' ⟨s0, s1, s2, s3, s4, s5⟩;go_simp
      with_reducible rfl
     rotate_left
     ·
      simp only [Act.put, zA, zB, zD, i64_w, i32_w]
      rfl
     refine one_ (i := 9) (N := some 25) #[T,T,T,T,T,T,T,T,T,T,F] rfl rfl (one_of HT_.out (by kernel_rfl)) (by decide) (fun K hK => ?_)
     refine goes_ Try.func116 (by kernel_rfl) rfl #[.agg #[.int .i64 ((q8 l0 x10_1).f0), .int .i64 ((q8 l0 x10_1).f1), .int .i64 ((q8 l0 x10_1).f2)], .agg #[.int .i64 ((q8 x4_1 (ji9)).f0), .int .i64 ((q8 x4_1 (ji9)).f1), .int .i64 ((q8 x4_1 (ji9)).f2)]] (by rfl) rfl rfl (by (try simp only [List.map_toArray, List.map_cons, List.map_nil]); first | done | (simp only [hji9]; rfl) | rfl | (simp only [List.length_drop, List.length_take]; rfl)) ?_
     with_reducible refine (D7.calls ((q8 l0 x10_1).f0) ((q8 l0 x10_1).f1) ((q8 l0 x10_1).f2) ((q8 x4_1 (ji9)).f0) ((q8 x4_1 (ji9)).f1) ((q8 x4_1 (ji9)).f2) false _ A12.out).mono ?_
     rintro e w24 ⟨rfl, hb⟩;have HS3_ := (hb.cell (World.block_lt_of_cell? _ _ (hHeld.2.2.2.1))).trans (hHeld.2.2.2.1);have HS4_ := (hb.cell (World.block_lt_of_cell? _ _ (hHeld.2.2.2.2.1))).trans (hHeld.2.2.2.2.1);have HS5_ := (hb.cell (World.block_lt_of_cell? _ _ (hHeld.2.2.2.2.2))).trans (hHeld.2.2.2.2.2);refine ⟨_, rfl, ?_⟩
     have n0_ := zm (Kd.R_below (zP HO_4.out) hb);have n1_ := zm (blk_below (g := gb460) zk hb);have n2_ := zm (below_step zb hb);clear HO_4;clear BK460;clear HB;have HO_4 := n0_;have BK460 := n1_;have HB := n2_;clear n0_ n1_ n2_;(try clear hb);refine hK.out _ _ ⟨(blk_cell BK460.out 0).trans rfl, (blk_cell BK460.out 1).trans rfl, (blk_cell BK460.out 2).trans rfl, HS3_, HS4_, HS5_⟩ (fun hHeld => ?_)
     clear hK K;refine norm_ (a' := ?_) ?_ ?_;rotate_left
     ·
      show Act.put _ (some 25) _ = _
      simp only [Act.put, zA, zB, zD, i64_w, i32_w]
      rfl
     refine zU 10 26 #[T,T,T,T,T,T,T,T,T,T,T] ?_;refine done_ (done_of HT_.out (by kernel_rfl)) ?_
     try go_wp2
     obtain ⟨_, co7, eoS_⟩ := Kd.R_slice HO_4.out;injection eoS_ with e1_ e2_ e3_
     have e4_ := e3_.symm;clear e1_ e2_ e3_;subst e4_;have n0_ := zm (Kd.R_drew HO_4.out);have n1_ := zm (blk_drew BK460.out);have n2_ := zm (below_drew1 HB.out);clear HO_4;clear BK460;clear HB;have HO_4 := n0_;have BK460 := n1_;have HB := n2_;clear n0_ n1_ n2_;have q26 : (x7_2 : Int) ≤ ((x4_1.length : Int) : Int) := zd;obtain ⟨i026, hi026, _, hsz26, _⟩ := info_parts H8;have hroom26 : x4_1.length ≤ co7 := (Kd.R_reads' HO_4.out).2.1
     have hC26 : Kd.C k87 _ ((some ad461)) x4_1.length x4_1 := (Kd.R_reads' HO_4.out).2.2
     have hcut26 := cut_to (P := Try.prog) 39 87 .i64 Try.underlying39 hi026 ((some ad461)) x4_1.length co7 x7_2 (of_decide_eq_true (by first | (with_reducible assumption) | assumption)) q26 hroom26;have hr26 := Kd.C_take (m := (x7_2 : Int).toNat) hC26 (by omega);have hy26 : y466.length = (x7_2 : Int).toNat := (by rw [Ny466.out, List.length_take]; omega)
     rw [← Ny466.out] at hr26;rw [← hy26] at hcut26;have HR469 := zm hr26;have HT469 := zm (show ∀ (W : World) (ok : Nat → Prop), Kd.R k87 87 W w.heap.size ok (.slice (some ad461) x4_1.length co7) x4_1 → Kd.C k87 W (some ad461) y466.length y466 from fun W ok h => by have z_ := Kd.C_take (m := (x7_2 : Int).toNat) (Kd.R_reads' h).2.2 (by omega); rw [← Ny466.out] at z_; exact z_);have HC469 := zm (show y466.length ≤ co7 from by omega);clear hr26 hC26 hroom26 hi026 hsz26;have KY26 := zm hy26;clear hy26;replace q26 := eq_true q26;have q27 : (x7_2 : Int) ≤ ((x4_1.length : Int) : Int) := zd;obtain ⟨i027, hi027, _, hsz27, _⟩ := info_parts H8;have hroom27 : x4_1.length ≤ co7 := (Kd.R_reads' HO_4.out).2.1
     have hC27 : Kd.C k87 _ ((some ad461)) x4_1.length x4_1 := (Kd.R_reads' HO_4.out).2.2
     have q027 : (0 : Int) ≤ (x7_2 : Int) := zd;have hcut27 := cut_from (P := Try.prog) 39 87 .i64 Try.underlying39 hi027 3 hsz27 ((some ad461)) x4_1.length co7 x7_2 q027 q27;have hr27 := Kd.C_drop (m := (x7_2 : Int).toNat) (c := co7) hC27 (by omega) hroom27;obtain ⟨A27, hA27⟩ : ∃ A1, A1 = (if co7 = (x7_2 : Int).toNat then ((some ad461)) else (((some ad461)) : Option Addr).map (·.add ((x7_2 : Int).toNat * 3))) := ⟨_, rfl⟩;obtain ⟨c27, hc27⟩ : ∃ c1, c1 = co7 - (x7_2 : Int).toNat := ⟨_, rfl⟩;have hy27 : y479.length = x4_1.length - (x7_2 : Int).toNat := (by rw [Ny479.out, List.length_drop] <;> omega)
     rw [show (x4_1).drop (x7_2 : Int).toNat = y479 from Ny479.out.symm] at hr27;replace hr27 : Kd.C k87 _ A27 y479.length y479 := (by rw [hA27]; exact hr27)
     rw [← hy27, ← hA27, ← hc27] at hcut27;have HR482 := zm hr27;have HT482 := zm (show ∀ (W : World) (ok : Nat → Prop), Kd.R k87 87 W w.heap.size ok (.slice (some ad461) x4_1.length co7) x4_1 → Kd.C k87 W A27 y479.length y479 from fun W ok h => by have z_ := Kd.C_drop (m := (x7_2 : Int).toNat) (c := co7) (Kd.R_reads' h).2.2 (by omega) hroom27; rw [show (x4_1).drop ((x7_2 : Int).toNat) = y479 from Ny479.out.symm] at z_; rw [hA27]; exact z_);have HC482 := zm (show y479.length ≤ c27 from by rw [hy27, hc27]; exact Nat.sub_le_sub_right hroom27 _);clear hr27 hC27 hroom27 hi027 hsz27 hc27;have KY27 := zm hy27;have KA27 := zm hA27;clear hy27 hA27;replace q27 := eq_true q27;refine start_ (n := 13) (S := fun w' => w'.cell? ⟨gb460, 0, none⟩ = some (.int .i64 ((q8 l0 x10_1).f0)) ∧ w'.cell? ⟨gb460, 1, none⟩ = some (.int .i64 ((q8 l0 x10_1).f1)) ∧ w'.cell? ⟨gb460, 2, none⟩ = some (.int .i64 ((q8 l0 x10_1).f2))) (ds := []) #[F,F,F,F,F,F,F,F,F,F,F,F,F] (by kernel_rfl) rfl rfl ⟨(blk_cell BK460.out 0).trans rfl, (blk_cell BK460.out 1).trans rfl, (blk_cell BK460.out 2).trans rfl⟩ (fun hHeld => ?_); refine with_tabW p8.q5i p8.q3n (fun HT_ HW_ => ?_)
     generalize w24.drew = w25 at HO_4 BK460 HB HR469 HR482 hHeld ⊢;refine zU 1 30 #[F,T,F,F,F,F,F,F,F,F,F,F,F] ?_;refine zU 2 31 #[F,T,T,F,F,F,F,F,F,F,F,F,F] ?_;refine zU 3 32 #[F,T,T,T,F,F,F,F,F,F,F,F,F] ?_;refine zU 8 37 #[F,T,T,T,F,F,F,F,T,F,F,F,F] ?_;refine zU 9 38 #[F,T,T,T,F,F,F,F,T,T,F,F,F] ?_;refine zU 10 39 #[F,T,T,T,F,F,F,F,T,T,T,F,F] ?_;refine take_ (i := 5) (N := some 34) (v := ?_) (a' := ?_) #[F,T,T,T,F,T,F,F,T,T,T,F,F] rfl rfl (take_ofW HT_.out HW_.out (by kernel_rfl)) (fun _ _ _ h => h) (Or.inl ⟨by rfl, ?_⟩) hHeld ?_ ?_
     rotate_left
     ·
      rintro w' ⟨s0, s1, s2⟩;go_simp
      with_reducible rfl
     rotate_left
     ·
      simp only [Act.put, zA, zB, zD, i64_w, i32_w]
      rfl
     refine join_ (σ := Value × Value × Value) 3 #[T,T,T,T,T,T,T,F,T,T,T,F,F] (fun s_ => [(29, s_.1), (33, s_.2.1), (35, s_.2.2)]) (fun s_ w' => (w'.cell? ⟨gb460, 0, none⟩ = some (.int .i64 ((q8 l0 x10_1).f0)) ∧ w'.cell? ⟨gb460, 1, none⟩ = some (.int .i64 ((q8 l0 x10_1).f1)) ∧ w'.cell? ⟨gb460, 2, none⟩ = some (.int .i64 ((q8 l0 x10_1).f2))) ∧ (Kd.R k87 87 w' w.heap.size (fun k_ => some k_ ≠ (s_.2.2 : Value).ownBlock ∧ some k_ ≠ (.slice (some ad461) x4_1.length co7 : Value).ownBlock ∧ k_ ≠ gb460) s_.2.1 y470) ∧ (Kd.R k87 87 w' w.heap.size (fun k_ => some k_ ≠ (s_.2.1 : Value).ownBlock ∧ some k_ ≠ (.slice (some ad461) x4_1.length co7 : Value).ownBlock ∧ k_ ≠ gb460) s_.2.2 y473) ∧ (Kd.R k87 87 w' w.heap.size (fun k_ => some k_ ≠ (s_.2.1 : Value).ownBlock ∧ some k_ ≠ (s_.2.2 : Value).ownBlock ∧ k_ ≠ gb460) (.slice (some ad461) x4_1.length co7) x4_1) ∧ (w'.heap[gb460]? = some (.cells #[.int .i64 ((q8 l0 x10_1).f0), .int .i64 ((q8 l0 x10_1).f1), .int .i64 ((q8 l0 x10_1).f2)] 87 (0, 0))) ∧ (Below w.heap.size w w')) ?_ ?_
     rotate_left
     ·
      intro hCont;refine two_ (i := 0) (j := 6) (Ni := some 29) (Nj := some 35) #[T,T,T,T,F,T,F,F,T,T,T,F,F] #[F,T,T,T,F,T,T,F,T,T,T,F,F] rfl rfl rfl rfl (two_of HT_.out (by kernel_rfl)) (by decide) (by decide) (fun K hK => ?_) (fun K hK => ?_)
      ·
       skip
       refine Kd.R_lit_step k87 _ 87 ?hg (N := 29) ?hd (xs := ([] : List (S87))) (inner := []) (ok := fun _ => True) (okp := fun _ => True) ?hr ?hp (fun _ hk => hk) trivial (Below.refl _ _) (Nat.le_refl _) (by simp) ?_; (case hd => rfl); (case hg => rfl); (case hr => first | (go_simp; done) | (go_simp; rfl)); (case hp => exact (Reps.none _ _))
       intro v464 w28 ho29 hb hg_ hnew_;clear hg_ hnew_;(first | rw [← Ny463.out] at ho29 | (simp only [Int.reduceToNat] at ho29; rw [← Ny463.out] at ho29));have n0_ := zm (Kd.R_elder' (zP HO_4.out) (Kd.R_base ho29) hb);have n1_ := zm (Kd.R_lower (Kd.R_newB (Kd.R_new' ho29 (Kd.R_lt (zP HO_4.out))) (g := gb460) (o := .cells #[.int .i64 ((q8 l0 x10_1).f0), .int .i64 ((q8 l0 x10_1).f1), .int .i64 ((q8 l0 x10_1).f2)] 87 (0, 0)) zk) (below_size zb));have n2_ := zm (blk_below (g := gb460) zk hb);have n3_ := zm (below_step zb hb);clear HO_4;clear BK460;clear HB;have HO_4 := n0_;have HO465 := n1_;have BK460 := n2_;have HB := n3_;clear n0_ n1_ n2_ n3_;clear hb ho29;refine hK.out _ _ ⟨(blk_cell BK460.out 0).trans rfl, (blk_cell BK460.out 1).trans rfl, (blk_cell BK460.out 2).trans rfl⟩ (fun hHeld => ?_)
       clear hK K;refine norm_ (a' := ?_) ?_ ?_;rotate_left
       ·
        show Act.put _ (some 29) _ = _
        simp only [Act.put, zA, zB, zD, i64_w, i32_w]
        rfl
       refine two_ (i := 4) (j := 6) (Ni := some 33) (Nj := some 35) #[T,T,T,T,T,T,F,F,T,T,T,F,F] #[T,T,T,T,F,T,T,F,T,T,T,F,F] rfl rfl rfl rfl (two_of HT_.out (by kernel_rfl)) (by decide) (by decide) (fun K hK => ?_) (fun K hK => ?_)
       ·
        skip
        refine Kd.R_append_rows_step k87 (w0 := w) w.heap.size (by rfl) (.tmp 29) (.tmp 32) 39 87 (.agg #[(.int .i64 0), (.int .i64 0), (.int .i64 0)]) 24 rfl Try.underlying39 H8 rfl (by decide) (by omega) v464 y463 y466 _ _ _ (fun k_ => some k_ ≠ (.slice (some ad461) x4_1.length co7 : Value).ownBlock ∧ k_ ≠ gb460) (fun _ => False) rfl rfl ?aO ?aR (fun _ _ h => h) (fun _ h => h.elim) ?aF ?aB ?aS ?aL ?_
        (case aR => repeat (first | exact (HT469.out _ _ HO_4.out) | (with_reducible refine Kd.C_alloc ?_ _) | (with_reducible refine Kd.C_drewN ?_ _) | (with_reducible refine Kd.C_drew ?_)))
        (case aB => exact zb)
        (case aF => exact (fun k_ hk => ⟨Kd.fresh' (Kd.R_lt (zP HO_4.out)) k_ hk, Kd.freshB (g := gb460) (o := .cells #[.int .i64 ((q8 l0 x10_1).f0), .int .i64 ((q8 l0 x10_1).f1), .int .i64 ((q8 l0 x10_1).f2)] 87 (0, 0)) zk k_ hk⟩))
        (case aO => exact (zP (Kd.R_mono HO465.out (fun _ hk => ⟨hk.1.2, hk.2⟩))))
        (case aS => exact (below_size zb))
        (case aL => have := LMc18.out; omega)
        intro v471 w30 ho hb hg hat;rw [← Ny470.out] at ho;have n0_ := zm (Kd.R_after (ok := (fun k_ => k_ ≠ gb460)) (zP HO_4.out) hg hat);have n1_ := zm (blk_grown (g := gb460) (o := .cells #[.int .i64 ((q8 l0 x10_1).f0), .int .i64 ((q8 l0 x10_1).f1), .int .i64 ((q8 l0 x10_1).f2)] 87 (0, 0)) zk hg (Kd.R_away HO465.out (fun _ hk => hk.2)));have n2_ := zm (hb);have n3_ := zm (ho);clear HO_4;clear BK460;clear HB;clear HO465;have HO_4 := n0_;have BK460 := n1_;have HB := n2_;have HO472 := n3_;clear n0_ n1_ n2_ n3_;clear ho hb hg hat;refine hK.out _ _ ⟨(blk_cell BK460.out 0).trans rfl, (blk_cell BK460.out 1).trans rfl, (blk_cell BK460.out 2).trans rfl⟩ (fun hHeld => ?_)
        clear hK K;refine norm_ (a' := ?_) ?_ ?_;rotate_left
        ·
         show Act.put _ (some 33) _ = _
         simp only [Act.put, zA, zB, zD, i64_w, i32_w]
         rfl
        refine one_ (i := 6) (N := some 35) #[T,T,T,T,T,T,T,F,T,T,T,F,F] rfl rfl (one_of HT_.out (by kernel_rfl)) (by decide) (fun K hK => ?_)
        refine Kd.R_lit_step k87 _ 87 ?hg (N := 35) ?hd (xs := ([(⟨((q8 l0 x10_1).f0), ((q8 l0 x10_1).f1), ((q8 l0 x10_1).f2)⟩ : S87)] : List (S87))) (inner := [.int .i64 ((q8 l0 x10_1).f0), .int .i64 ((q8 l0 x10_1).f1), .int .i64 ((q8 l0 x10_1).f2)]) (ok := fun _ => True) (okp := fun _ => True) ?hr ?hp (fun _ hk => hk) trivial (Below.refl _ _) (Nat.le_refl _) (by simp) ?_; (case hd => rfl); (case hg => rfl); (case hr => first | (go_simp; done) | (go_simp; rfl)); (case hp => exact (Reps.c3 (show Kd.M k87 _ _ _ (⟨((q8 l0 x10_1).f0), ((q8 l0 x10_1).f1), ((q8 l0 x10_1).f2)⟩ : S87) [.int .i64 ((q8 l0 x10_1).f0), .int .i64 ((q8 l0 x10_1).f1), .int .i64 ((q8 l0 x10_1).f2)] from (T9 _ _ _ (⟨((q8 l0 x10_1).f0), ((q8 l0 x10_1).f1), ((q8 l0 x10_1).f2)⟩ : S87) )) (Reps.none _ _)))
        intro v474 w31 ho32 hb hg_ hnew_;clear hg_ hnew_;(first | rw [← Ny473.out] at ho32 | (simp only [Int.reduceToNat] at ho32; rw [← Ny473.out] at ho32));have n0_ := zm (Kd.R_elder' (zP HO_4.out) (Kd.R_base ho32) hb);have n1_ := zm (Kd.R_elder' (zP HO472.out) (Kd.R_base ho32) hb);have n2_ := zm (Kd.R_lower (Kd.R_newB (Kd.R_new' (Kd.R_new' ho32 (Kd.R_lt (zP HO_4.out))) (Kd.R_lt (zP HO472.out))) (g := gb460) (o := .cells #[.int .i64 ((q8 l0 x10_1).f0), .int .i64 ((q8 l0 x10_1).f1), .int .i64 ((q8 l0 x10_1).f2)] 87 (0, 0)) zk) (below_size zb));have n3_ := zm (blk_below (g := gb460) zk hb);have n4_ := zm (below_step zb hb);clear HO_4;clear HO472;clear BK460;clear HB;have HO_4 := n0_;have HO472 := n1_;have HO475 := n2_;have BK460 := n3_;have HB := n4_;clear n0_ n1_ n2_ n3_ n4_;clear hb ho32;refine hK.out _ _ ⟨(blk_cell BK460.out 0).trans rfl, (blk_cell BK460.out 1).trans rfl, (blk_cell BK460.out 2).trans rfl⟩ (fun hHeld => ?_)
        clear hK K;refine norm_ (a' := ?_) ?_ ?_;rotate_left
        ·
         show Act.put _ (some 35) _ = _
         simp only [Act.put, zA, zB, zD, i64_w, i32_w]
         rfl
        exact norm_ (by simp only [putAll, Act.put, List.setIfInBounds_toArray, List.set_cons_zero, List.set_cons_succ]) (hCont (v464, v471, v474) _ ⟨hHeld, (zP (Kd.R_mono HO472.out (fun _ hk => ⟨hk.2, ⟨hk.1.1, hk.1.2⟩⟩))), (zP (Kd.R_mono HO475.out (fun _ hk => ⟨hk.1.2, ⟨hk.1.1.2, hk.2⟩⟩))), (zP (Kd.R_mono HO_4.out (fun _ hk => ⟨hk.1.2, ⟨hk.2, hk.1.1⟩⟩))), zk, zb⟩)
       ·
        skip
        refine Kd.R_lit_step k87 _ 87 ?hg (N := 35) ?hd (xs := ([(⟨((q8 l0 x10_1).f0), ((q8 l0 x10_1).f1), ((q8 l0 x10_1).f2)⟩ : S87)] : List (S87))) (inner := [.int .i64 ((q8 l0 x10_1).f0), .int .i64 ((q8 l0 x10_1).f1), .int .i64 ((q8 l0 x10_1).f2)]) (ok := fun _ => True) (okp := fun _ => True) ?hr ?hp (fun _ hk => hk) trivial (Below.refl _ _) (Nat.le_refl _) (by simp) ?_; (case hd => rfl); (case hg => rfl); (case hr => first | (go_simp; done) | (go_simp; rfl)); (case hp => exact (Reps.c3 (show Kd.M k87 _ _ _ (⟨((q8 l0 x10_1).f0), ((q8 l0 x10_1).f1), ((q8 l0 x10_1).f2)⟩ : S87) [.int .i64 ((q8 l0 x10_1).f0), .int .i64 ((q8 l0 x10_1).f1), .int .i64 ((q8 l0 x10_1).f2)] from (T9 _ _ _ (⟨((q8 l0 x10_1).f0), ((q8 l0 x10_1).f1), ((q8 l0 x10_1).f2)⟩ : S87) )) (Reps.none _ _)))
        intro v474 w30 ho31 hb hg_ hnew_;clear hg_ hnew_;(first | rw [← Ny473.out] at ho31 | (simp only [Int.reduceToNat] at ho31; rw [← Ny473.out] at ho31));have n0_ := zm (Kd.R_elder' (zP HO_4.out) (Kd.R_base ho31) hb);have n1_ := zm (Kd.R_elder' (zP HO465.out) (Kd.R_base ho31) hb);have n2_ := zm (Kd.R_lower (Kd.R_newB (Kd.R_new' (Kd.R_new' ho31 (Kd.R_lt (zP HO_4.out))) (Kd.R_lt (zP HO465.out))) (g := gb460) (o := .cells #[.int .i64 ((q8 l0 x10_1).f0), .int .i64 ((q8 l0 x10_1).f1), .int .i64 ((q8 l0 x10_1).f2)] 87 (0, 0)) zk) (below_size zb));have n3_ := zm (blk_below (g := gb460) zk hb);have n4_ := zm (below_step zb hb);clear HO_4;clear HO465;clear BK460;clear HB;have HO_4 := n0_;have HO465 := n1_;have HO475 := n2_;have BK460 := n3_;have HB := n4_;clear n0_ n1_ n2_ n3_ n4_;clear hb ho31;refine hK.out _ _ ⟨(blk_cell BK460.out 0).trans rfl, (blk_cell BK460.out 1).trans rfl, (blk_cell BK460.out 2).trans rfl⟩ (fun hHeld => ?_)
        clear hK K;refine norm_ (a' := ?_) ?_ ?_;rotate_left
        ·
         show Act.put _ (some 35) _ = _
         simp only [Act.put, zA, zB, zD, i64_w, i32_w]
         rfl
        refine one_ (i := 4) (N := some 33) #[T,T,T,T,T,T,T,F,T,T,T,F,F] rfl rfl (one_of HT_.out (by kernel_rfl)) (by decide) (fun K hK => ?_)
        refine Kd.R_append_rows_step k87 (w0 := w) w.heap.size (by rfl) (.tmp 29) (.tmp 32) 39 87 (.agg #[(.int .i64 0), (.int .i64 0), (.int .i64 0)]) 24 rfl Try.underlying39 H8 rfl (by decide) (by omega) v464 y463 y466 _ _ _ (fun k_ => some k_ ≠ (.slice (some ad461) x4_1.length co7 : Value).ownBlock ∧ some k_ ≠ (v474 : Value).ownBlock ∧ k_ ≠ gb460) (fun _ => False) rfl rfl ?aO ?aR (fun _ _ h => h) (fun _ h => h.elim) ?aF ?aB ?aS ?aL ?_
        (case aR => repeat (first | exact (HT469.out _ _ HO_4.out) | (with_reducible refine Kd.C_alloc ?_ _) | (with_reducible refine Kd.C_drewN ?_ _) | (with_reducible refine Kd.C_drew ?_)))
        (case aB => exact zb)
        (case aF => exact (fun k_ hk => ⟨Kd.fresh' (Kd.R_lt (zP HO_4.out)) k_ hk, Kd.fresh' (Kd.R_lt (zP HO475.out)) k_ hk, Kd.freshB (g := gb460) (o := .cells #[.int .i64 ((q8 l0 x10_1).f0), .int .i64 ((q8 l0 x10_1).f1), .int .i64 ((q8 l0 x10_1).f2)] 87 (0, 0)) zk k_ hk⟩))
        (case aO => exact (zP (Kd.R_mono HO465.out (fun _ hk => ⟨hk.1.1.2, ⟨hk.2, hk.1.2⟩⟩))))
        (case aS => exact (below_size zb))
        (case aL => have := LMc18.out; omega)
        intro v471 w32 ho hb hg hat;rw [← Ny470.out] at ho;have n0_ := zm (Kd.R_after (ok := (fun k_ => some k_ ≠ (v474 : Value).ownBlock ∧ k_ ≠ gb460)) (zP (Kd.R_mono HO_4.out (fun _ hk => ⟨⟨hk.2, hk.1.1⟩, hk.1.2⟩))) hg hat);have n1_ := zm (blk_grown (g := gb460) (o := .cells #[.int .i64 ((q8 l0 x10_1).f0), .int .i64 ((q8 l0 x10_1).f1), .int .i64 ((q8 l0 x10_1).f2)] 87 (0, 0)) zk hg (Kd.R_away HO465.out (fun _ hk => hk.1.2)));have n2_ := zm (Kd.R_after (ok := (fun k_ => some k_ ≠ (.slice (some ad461) x4_1.length co7 : Value).ownBlock ∧ k_ ≠ gb460)) (zP (Kd.R_mono HO475.out (fun _ hk => ⟨⟨hk.1.1.2, hk.2⟩, hk.1.2⟩))) hg hat);have n3_ := zm (hb);have n4_ := zm (ho);clear HO_4;clear BK460;clear HO475;clear HB;clear HO465;have HO_4 := n0_;have BK460 := n1_;have HO475 := n2_;have HB := n3_;have HO472 := n4_;clear n0_ n1_ n2_ n3_ n4_;clear ho hb hg hat;refine hK.out _ _ ⟨(blk_cell BK460.out 0).trans rfl, (blk_cell BK460.out 1).trans rfl, (blk_cell BK460.out 2).trans rfl⟩ (fun hHeld => ?_)
        clear hK K;refine norm_ (a' := ?_) ?_ ?_;rotate_left
        ·
         show Act.put _ (some 33) _ = _
         simp only [Act.put, zA, zB, zD, i64_w, i32_w]
         rfl
        exact norm_ (by simp only [putAll, Act.put, List.setIfInBounds_toArray, List.set_cons_zero, List.set_cons_succ]) (hCont (v464, v471, v474) _ ⟨hHeld, (zP (Kd.R_mono HO472.out (fun _ hk => ⟨hk.2.1, ⟨hk.1, hk.2.2⟩⟩))), (zP (Kd.R_mono HO475.out (fun _ hk => ⟨hk.2, ⟨hk.1.1, hk.1.2⟩⟩))), (zP (Kd.R_mono HO_4.out (fun _ hk => ⟨hk.2, ⟨hk.1.1, hk.1.2⟩⟩))), zk, zb⟩)
      ·
       skip
       refine Kd.R_lit_step k87 _ 87 ?hg (N := 35) ?hd (xs := ([(⟨((q8 l0 x10_1).f0), ((q8 l0 x10_1).f1), ((q8 l0 x10_1).f2)⟩ : S87)] : List (S87))) (inner := [.int .i64 ((q8 l0 x10_1).f0), .int .i64 ((q8 l0 x10_1).f1), .int .i64 ((q8 l0 x10_1).f2)]) (ok := fun _ => True) (okp := fun _ => True) ?hr ?hp (fun _ hk => hk) trivial (Below.refl _ _) (Nat.le_refl _) (by simp) ?_; (case hd => rfl); (case hg => rfl); (case hr => first | (go_simp; done) | (go_simp; rfl)); (case hp => exact (Reps.c3 (show Kd.M k87 _ _ _ (⟨((q8 l0 x10_1).f0), ((q8 l0 x10_1).f1), ((q8 l0 x10_1).f2)⟩ : S87) [.int .i64 ((q8 l0 x10_1).f0), .int .i64 ((q8 l0 x10_1).f1), .int .i64 ((q8 l0 x10_1).f2)] from (T9 _ _ _ (⟨((q8 l0 x10_1).f0), ((q8 l0 x10_1).f1), ((q8 l0 x10_1).f2)⟩ : S87) )) (Reps.none _ _)))
       intro v474 w28 ho29 hb hg_ hnew_;clear hg_ hnew_;(first | rw [← Ny473.out] at ho29 | (simp only [Int.reduceToNat] at ho29; rw [← Ny473.out] at ho29));have n0_ := zm (Kd.R_elder' (zP HO_4.out) (Kd.R_base ho29) hb);have n1_ := zm (Kd.R_lower (Kd.R_newB (Kd.R_new' ho29 (Kd.R_lt (zP HO_4.out))) (g := gb460) (o := .cells #[.int .i64 ((q8 l0 x10_1).f0), .int .i64 ((q8 l0 x10_1).f1), .int .i64 ((q8 l0 x10_1).f2)] 87 (0, 0)) zk) (below_size zb));have n2_ := zm (blk_below (g := gb460) zk hb);have n3_ := zm (below_step zb hb);clear HO_4;clear BK460;clear HB;have HO_4 := n0_;have HO475 := n1_;have BK460 := n2_;have HB := n3_;clear n0_ n1_ n2_ n3_;clear hb ho29;refine hK.out _ _ ⟨(blk_cell BK460.out 0).trans rfl, (blk_cell BK460.out 1).trans rfl, (blk_cell BK460.out 2).trans rfl⟩ (fun hHeld => ?_)
       clear hK K;refine norm_ (a' := ?_) ?_ ?_;rotate_left
       ·
        show Act.put _ (some 35) _ = _
        simp only [Act.put, zA, zB, zD, i64_w, i32_w]
        rfl
       refine one_ (i := 0) (N := some 29) #[T,T,T,T,F,T,T,F,T,T,T,F,F] rfl rfl (one_of HT_.out (by kernel_rfl)) (by decide) (fun K hK => ?_)
       refine Kd.R_lit_step k87 _ 87 ?hg (N := 29) ?hd (xs := ([] : List (S87))) (inner := []) (ok := fun _ => True) (okp := fun _ => True) ?hr ?hp (fun _ hk => hk) trivial (Below.refl _ _) (Nat.le_refl _) (by simp) ?_; (case hd => rfl); (case hg => rfl); (case hr => first | (go_simp; done) | (go_simp; rfl)); (case hp => exact (Reps.none _ _))
       intro v464 w30 ho31 hb hg_ hnew_;clear hg_ hnew_;(first | rw [← Ny463.out] at ho31 | (simp only [Int.reduceToNat] at ho31; rw [← Ny463.out] at ho31));have n0_ := zm (Kd.R_elder' (zP HO_4.out) (Kd.R_base ho31) hb);have n1_ := zm (Kd.R_elder' (zP HO475.out) (Kd.R_base ho31) hb);have n2_ := zm (Kd.R_lower (Kd.R_newB (Kd.R_new' (Kd.R_new' ho31 (Kd.R_lt (zP HO_4.out))) (Kd.R_lt (zP HO475.out))) (g := gb460) (o := .cells #[.int .i64 ((q8 l0 x10_1).f0), .int .i64 ((q8 l0 x10_1).f1), .int .i64 ((q8 l0 x10_1).f2)] 87 (0, 0)) zk) (below_size zb));have n3_ := zm (blk_below (g := gb460) zk hb);have n4_ := zm (below_step zb hb);clear HO_4;clear HO475;clear BK460;clear HB;have HO_4 := n0_;have HO475 := n1_;have HO465 := n2_;have BK460 := n3_;have HB := n4_;clear n0_ n1_ n2_ n3_ n4_;clear hb ho31;refine hK.out _ _ ⟨(blk_cell BK460.out 0).trans rfl, (blk_cell BK460.out 1).trans rfl, (blk_cell BK460.out 2).trans rfl⟩ (fun hHeld => ?_)
       clear hK K;refine norm_ (a' := ?_) ?_ ?_;rotate_left
       ·
        show Act.put _ (some 29) _ = _
        simp only [Act.put, zA, zB, zD, i64_w, i32_w]
        rfl
       refine one_ (i := 4) (N := some 33) #[T,T,T,T,T,T,T,F,T,T,T,F,F] rfl rfl (one_of HT_.out (by kernel_rfl)) (by decide) (fun K hK => ?_)
       refine Kd.R_append_rows_step k87 (w0 := w) w.heap.size (by rfl) (.tmp 29) (.tmp 32) 39 87 (.agg #[(.int .i64 0), (.int .i64 0), (.int .i64 0)]) 24 rfl Try.underlying39 H8 rfl (by decide) (by omega) v464 y463 y466 _ _ _ (fun k_ => some k_ ≠ (.slice (some ad461) x4_1.length co7 : Value).ownBlock ∧ some k_ ≠ (v474 : Value).ownBlock ∧ k_ ≠ gb460) (fun _ => False) rfl rfl ?aO ?aR (fun _ _ h => h) (fun _ h => h.elim) ?aF ?aB ?aS ?aL ?_
       (case aR => repeat (first | exact (HT469.out _ _ HO_4.out) | (with_reducible refine Kd.C_alloc ?_ _) | (with_reducible refine Kd.C_drewN ?_ _) | (with_reducible refine Kd.C_drew ?_)))
       (case aB => exact zb)
       (case aF => exact (fun k_ hk => ⟨Kd.fresh' (Kd.R_lt (zP HO_4.out)) k_ hk, Kd.fresh' (Kd.R_lt (zP HO475.out)) k_ hk, Kd.freshB (g := gb460) (o := .cells #[.int .i64 ((q8 l0 x10_1).f0), .int .i64 ((q8 l0 x10_1).f1), .int .i64 ((q8 l0 x10_1).f2)] 87 (0, 0)) zk k_ hk⟩))
       (case aO => exact (zP (Kd.R_mono HO465.out (fun _ hk => ⟨hk.1.1.2, ⟨hk.1.2, hk.2⟩⟩))))
       (case aS => exact (below_size zb))
       (case aL => have := LMc18.out; omega)
       intro v471 w32 ho hb hg hat;rw [← Ny470.out] at ho;have n0_ := zm (Kd.R_after (ok := (fun k_ => some k_ ≠ (v474 : Value).ownBlock ∧ k_ ≠ gb460)) (zP (Kd.R_mono HO_4.out (fun _ hk => ⟨⟨hk.1.2, hk.1.1⟩, hk.2⟩))) hg hat);have n1_ := zm (blk_grown (g := gb460) (o := .cells #[.int .i64 ((q8 l0 x10_1).f0), .int .i64 ((q8 l0 x10_1).f1), .int .i64 ((q8 l0 x10_1).f2)] 87 (0, 0)) zk hg (Kd.R_away HO465.out (fun _ hk => hk.2)));have n2_ := zm (Kd.R_after (ok := (fun k_ => some k_ ≠ (.slice (some ad461) x4_1.length co7 : Value).ownBlock ∧ k_ ≠ gb460)) (zP (Kd.R_mono HO475.out (fun _ hk => ⟨⟨hk.1.1.2, hk.1.2⟩, hk.2⟩))) hg hat);have n3_ := zm (hb);have n4_ := zm (ho);clear HO_4;clear BK460;clear HO475;clear HB;clear HO465;have HO_4 := n0_;have BK460 := n1_;have HO475 := n2_;have HB := n3_;have HO472 := n4_;clear n0_ n1_ n2_ n3_ n4_;clear ho hb hg hat;refine hK.out _ _ ⟨(blk_cell BK460.out 0).trans rfl, (blk_cell BK460.out 1).trans rfl, (blk_cell BK460.out 2).trans rfl⟩ (fun hHeld => ?_)
       clear hK K;refine norm_ (a' := ?_) ?_ ?_;rotate_left
       ·
        show Act.put _ (some 33) _ = _
        simp only [Act.put, zA, zB, zD, i64_w, i32_w]
        rfl
       exact norm_ (by simp only [putAll, Act.put, List.setIfInBounds_toArray, List.set_cons_zero, List.set_cons_succ]) (hCont (v464, v471, v474) _ ⟨hHeld, (zP (Kd.R_mono HO472.out (fun _ hk => ⟨hk.2.1, ⟨hk.1, hk.2.2⟩⟩))), (zP (Kd.R_mono HO475.out (fun _ hk => ⟨hk.2, ⟨hk.1.1, hk.1.2⟩⟩))), (zP (Kd.R_mono HO_4.out (fun _ hk => ⟨hk.2, ⟨hk.1.1, hk.1.2⟩⟩))), zk, zb⟩)
     rintro ⟨v464, v471, v474⟩ w33 ⟨hS_, h0_, h1_, h2_, h3_, h4_⟩;have n0_ : Aside0 (Kd.R k87 87 w33 w.heap.size (fun k_ => some k_ ≠ (v474 : Value).ownBlock ∧ some k_ ≠ (.slice (some ad461) x4_1.length co7 : Value).ownBlock ∧ k_ ≠ gb460) v471 y470) := ⟨h0_⟩
     have n1_ : Aside0 (Kd.R k87 87 w33 w.heap.size (fun k_ => some k_ ≠ (v471 : Value).ownBlock ∧ some k_ ≠ (.slice (some ad461) x4_1.length co7 : Value).ownBlock ∧ k_ ≠ gb460) v474 y473) := ⟨h1_⟩
     have n2_ : Aside0 (Kd.R k87 87 w33 w.heap.size (fun k_ => some k_ ≠ (v471 : Value).ownBlock ∧ some k_ ≠ (v474 : Value).ownBlock ∧ k_ ≠ gb460) (.slice (some ad461) x4_1.length co7) x4_1) := ⟨h2_⟩
     have n3_ : Aside0 (w33.heap[gb460]? = some (.cells #[.int .i64 ((q8 l0 x10_1).f0), .int .i64 ((q8 l0 x10_1).f1), .int .i64 ((q8 l0 x10_1).f2)] 87 (0, 0))) := ⟨h3_⟩
     have n4_ : Aside0 (Below w.heap.size w w33) := ⟨h4_⟩
     clear HO_4;clear BK460;clear HB;clear h0_ h1_ h2_ h3_ h4_;have HO472 := n0_;have HO475 := n1_;have HO_4 := n2_;have BK460 := n3_;have HB := n4_;clear n0_ n1_ n2_ n3_ n4_;have hHeld : w33.cell? ⟨gb460, 0, none⟩ = some (.int .i64 ((q8 l0 x10_1).f0)) ∧ w33.cell? ⟨gb460, 1, none⟩ = some (.int .i64 ((q8 l0 x10_1).f1)) ∧ w33.cell? ⟨gb460, 2, none⟩ = some (.int .i64 ((q8 l0 x10_1).f2)) := hS_
     obtain ⟨Ao35, co35, eo35⟩ := Kd.R_slice HO475.out;(first | subst eo35 | (injection eo35 with f1_ f2_ f3_; have f4_ := f1_.symm; have f5_ := f3_.symm; clear f1_ f2_ f3_; subst f4_; subst f5_));refine norm_ (a' := ?_) ?_ ?_;rotate_left
     ·
      simp only [putAll, Act.put, List.setIfInBounds_toArray, List.set_cons_zero, List.set_cons_succ]
      rfl
     refine one_ (i := 7) (N := some 36) #[T,T,T,T,T,T,T,T,T,T,T,F,F] rfl rfl (one_of HT_.out (by kernel_rfl)) (by decide) (fun K hK => ?_)
     refine Kd.R_append_rows_step k87 (w0 := w) w.heap.size (by rfl) (.tmp 33) (.tmp 35) 39 87 (.agg #[(.int .i64 0), (.int .i64 0), (.int .i64 0)]) 24 rfl Try.underlying39 H8 rfl (by decide) (by omega) v471 y470 y473 _ _ _ (fun k_ => some k_ ≠ (.slice (some ad461) x4_1.length co7 : Value).ownBlock ∧ some k_ ≠ (.slice Ao35 y473.length co35 : Value).ownBlock ∧ k_ ≠ gb460) (fun _ => False) rfl rfl ?aO ?aR (fun _ _ h => h) (fun _ h => h.elim) ?aF ?aB ?aS ?aL ?_
     (case aR => exact (Kd.R_reads' (zP HO475.out)).2.2)
     (case aB => exact zb)
     (case aF => exact (fun k_ hk => ⟨Kd.fresh' (Kd.R_lt (zP HO_4.out)) k_ hk, Kd.fresh' (Kd.R_lt (zP HO475.out)) k_ hk, Kd.freshB (g := gb460) (o := .cells #[.int .i64 ((q8 l0 x10_1).f0), .int .i64 ((q8 l0 x10_1).f1), .int .i64 ((q8 l0 x10_1).f2)] 87 (0, 0)) zk k_ hk⟩))
     (case aO => exact (zP (Kd.R_mono HO472.out (fun _ hk => ⟨hk.2.1, ⟨hk.1, hk.2.2⟩⟩))))
     (case aS => exact (below_size zb))
     (case aL => have := LMc19.out; omega)
     intro v477 w34 ho hb hg hat;rw [← Ny476.out] at ho;have n0_ := zm (Kd.R_after (ok := (fun k_ => some k_ ≠ (.slice Ao35 y473.length co35 : Value).ownBlock ∧ k_ ≠ gb460)) (zP (Kd.R_mono HO_4.out (fun _ hk => ⟨⟨hk.2.1, hk.2.2⟩, hk.1⟩))) hg hat);have n1_ := zm (blk_grown (g := gb460) (o := .cells #[.int .i64 ((q8 l0 x10_1).f0), .int .i64 ((q8 l0 x10_1).f1), .int .i64 ((q8 l0 x10_1).f2)] 87 (0, 0)) zk hg (Kd.R_away HO472.out (fun _ hk => hk.2.2)));have n2_ := zm (Kd.R_after (ok := (fun k_ => some k_ ≠ (.slice (some ad461) x4_1.length co7 : Value).ownBlock ∧ k_ ≠ gb460)) (zP (Kd.R_mono HO475.out (fun _ hk => ⟨⟨hk.2.1, hk.2.2⟩, hk.1⟩))) hg hat);have n3_ := zm (hb);have n4_ := zm (ho);clear HO_4;clear BK460;clear HO475;clear HB;clear HO472;have HO_4 := n0_;have BK460 := n1_;have HO475 := n2_;have HB := n3_;have HO478 := n4_;clear n0_ n1_ n2_ n3_ n4_;clear ho hb hg hat;refine hK.out _ _ ⟨(blk_cell BK460.out 0).trans rfl, (blk_cell BK460.out 1).trans rfl, (blk_cell BK460.out 2).trans rfl⟩ (fun hHeld => ?_)
     clear hK K;refine norm_ (a' := ?_) ?_ ?_;rotate_left
     ·
      show Act.put _ (some 36) _ = _
      simp only [Act.put, zA, zB, zD, i64_w, i32_w]
      rfl
     refine one_ (i := 11) (N := some 40) #[T,T,T,T,T,T,T,T,T,T,T,T,F] rfl rfl (one_of HT_.out (by kernel_rfl)) (by decide) (fun K hK => ?_)
     refine Kd.R_append_rows_step k87 (w0 := w) w.heap.size (by rfl) (.tmp 36) (.tmp 39) 39 87 (.agg #[(.int .i64 0), (.int .i64 0), (.int .i64 0)]) 24 rfl Try.underlying39 H8 rfl (by decide) (by omega) v477 y476 y479 _ _ _ (fun k_ => some k_ ≠ (.slice (some ad461) x4_1.length co7 : Value).ownBlock ∧ some k_ ≠ (.slice Ao35 y473.length co35 : Value).ownBlock ∧ k_ ≠ gb460) (fun _ => False) rfl rfl ?aO ?aR (fun _ _ h => h) (fun _ h => h.elim) ?aF ?aB ?aS ?aL ?_
     (case aR => repeat (first | exact (HT482.out _ _ HO_4.out) | (with_reducible refine Kd.C_alloc ?_ _) | (with_reducible refine Kd.C_drewN ?_ _) | (with_reducible refine Kd.C_drew ?_)))
     (case aB => exact zb)
     (case aF => exact (fun k_ hk => ⟨Kd.fresh' (Kd.R_lt (zP HO_4.out)) k_ hk, Kd.fresh' (Kd.R_lt (zP HO475.out)) k_ hk, Kd.freshB (g := gb460) (o := .cells #[.int .i64 ((q8 l0 x10_1).f0), .int .i64 ((q8 l0 x10_1).f1), .int .i64 ((q8 l0 x10_1).f2)] 87 (0, 0)) zk k_ hk⟩))
     (case aO => exact (zP HO478.out))
     (case aS => exact (below_size zb))
     (case aL => have := LMc22.out; omega)
     intro v484 w36 ho hb hg hat;rw [← Ny483.out] at ho;have n0_ := zm (Kd.R_after (ok := (fun k_ => some k_ ≠ (.slice Ao35 y473.length co35 : Value).ownBlock ∧ k_ ≠ gb460)) (zP HO_4.out) hg hat);have n1_ := zm (blk_grown (g := gb460) (o := .cells #[.int .i64 ((q8 l0 x10_1).f0), .int .i64 ((q8 l0 x10_1).f1), .int .i64 ((q8 l0 x10_1).f2)] 87 (0, 0)) zk hg (Kd.R_away HO478.out (fun _ hk => hk.2.2)));have n2_ := zm (Kd.R_after (ok := (fun k_ => some k_ ≠ (.slice (some ad461) x4_1.length co7 : Value).ownBlock ∧ k_ ≠ gb460)) (zP HO475.out) hg hat);have n3_ := zm (hb);have n4_ := zm (ho);clear HO_4;clear BK460;clear HO475;clear HB;clear HO478;have HO_4 := n0_;have BK460 := n1_;have HO475 := n2_;have HB := n3_;have HO485 := n4_;clear n0_ n1_ n2_ n3_ n4_;clear ho hb hg hat;refine hK.out _ _ ⟨(blk_cell BK460.out 0).trans rfl, (blk_cell BK460.out 1).trans rfl, (blk_cell BK460.out 2).trans rfl⟩ (fun hHeld => ?_)
     clear hK K;refine norm_ (a' := ?_) ?_ ?_;rotate_left
     ·
      show Act.put _ (some 40) _ = _
      simp only [Act.put, zA, zB, zD, i64_w, i32_w]
      rfl
     refine zU 12 4 #[T,T,T,T,T,T,T,T,T,T,T,T,T] ?_;refine done_ (done_of HT_.out (by kernel_rfl)) ?_
     try go_wp2
     go_roundg k2
     case measure => have := HK1.out; have := HK2.out; omega
     case rel => exact ⟨(y483), (wrap64 (x10_1 + 1)), zz, H', ⟨by have := HK1.out; have := HK2.out; omega⟩, ⟨zP (Kd.R_mono HO485.out (fun _ hk => trivial))⟩, ⟨zb⟩⟩
end Go.Proofs.Ytjdkdbeenggfaaa.PEr
