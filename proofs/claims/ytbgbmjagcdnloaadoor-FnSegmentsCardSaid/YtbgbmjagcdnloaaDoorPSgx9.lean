import Derived.Test.YtbgbmjagcdnloaaDoorPSgx0
import Derived.Test.YtbgbmjagcdnloaaDoorPSgx5
namespace Go.Proofs.YtbgbmjagcdnloaaDoor.PSg
open Go.RowKit Go.Proofs.YtbgbmjagcdnloaaDoorW.PrintWords Go.Proofs.YtbgbmjagcdnloaaDoorW.PrintLast Go.Proofs.YtbgbmjagcdnloaaDoorW.PrintMore
attribute [local go_sem] max2_int min2_int max_two min_two max_three min_three max_four min_four   -- for this text's walks alone
set_option linter.unusedVariables false
set_option linter.unusedSimpArgs false
def spec_stEnds.l0 : Nat → List Int → List (S35) → Int → Int → Option (List Int)
  | 0, _, _, _, _ => none
  | k + 1, x3, x7, x8, x9 => if x9 < x8 then (if 0 ≤ x9 then (if x9 < (x7.length : Int) then (if 0 ≤ (wrap64 ((x3.length : Int) - 1)) then (if (wrap64 ((x3.length : Int) - 1)) < (x3.length : Int) then (if x3.length < 17592186044416 then (spec_stEnds.l0 k (x3 ++ [wrap64 ((rd x3 (wrap64 ((x3.length : Int) - 1))) + ((rd_T35 x7 x9).f0))]) x7 x8 (wrap64 (x9 + 1))) else (none)) else (none)) else (none)) else (none)) else (none)) else (some x3)
def spec_stEnds.f (k : Nat) (l0 : List (S35)) : Option (List Int) := spec_stEnds.l0 k (([0] : List Int)) l0 (l0.length : Int) 0
def spec_stEnds.T5 : Bool × List (List Nat × List Nat) := (true, [([], []), ([], []), ([], []), ([2], [2]), ([3], [3]), ([1, 4], [1, 4]), ([5], [5]), ([], []), ([7], [7]), ([6, 8], [6, 8]), ([9], [9]), ([0, 10], [0, 10]), ([11, 11, 0, 1, 2, 3, 4, 5, 6, 7, 8, 9, 10, 11], [0, 1, 2, 11])])
def spec_stEnds.B5 : List Nat := [0, 0, 0, 4, 12, 30, 62, 0, 128, 510, 1022, 2047, 4095]
theorem spec_stEnds.tab5 : rtab .any (opsOf Tryd.f30 5) = spec_stEnds.T5 := by kernel_rfl
theorem spec_stEnds.bits5 : waitsOk spec_stEnds.T5.2 spec_stEnds.B5 = true := by kernel_rfl
set_option maxHeartbeats 8000000 in
set_option maxRecDepth 100000 in
theorem spec_stEnds.calls (k : Nat) (A0 : Option Addr) (c0 : Nat) (l0 : List (S35)) (r : List Int) (w : World) (hr0 : Kd.C k35 w A0 l0.length l0) (hc0 : l0.length ≤ c0) (h : spec_stEnds.f k l0 = some r) :
  Calls Tryd.prog 30 #[.slice A0 l0.length c0] w fun e w' => ∃ v0_ : Value, e = .returned (v0_) ∧ Kd.R (Kd.int .i64) 3 w' w.heap.size (fun _ => True) v0_ r ∧ Below w.heap.size w w' := by
 have hu35 := Tryd.underlying35;have HR0 := zm hr0;have HC0 := zm hc0;clear hr0 hc0;have HB := zm (Below.refl w.heap.size w);have H : (spec_stEnds.l0 k (([0] : List Int)) l0 (l0.length : Int) 0) = some r := h;clear h;obtain ⟨y276, hy276⟩ : ∃ y_ : List Int, y_ = (([0] : List Int)) := ⟨_, rfl⟩;(first | (rw [← hy276] at H; with_reducible replace H := zO H) | rw [← hy276] at H);have Ny276 := zm hy276;clear hy276;have H' := zm H;clear H;go_enter Tryd.func30, Tryd.ntmps30;go_wp2_with (first | ((with_reducible refine gate_dst (N := 6) rfl ?_); refine Kd.R_lit (Kd.int .i64) _ 3 ?hg (N := 6) ?hd (xs := ([0] : List Int)) (inner := [.int .i64 0]) (ok := fun _ => True) (okp := fun _ => True) ?hr ?hp (fun _ hk => hk) trivial (Below.refl _ _) (Nat.le_refl _) (by simp) ?_; (case hd => rfl); (case hg => rfl); (case hr => first | (go_simp; done) | (go_simp; rfl)); (case hp => exact (Reps.one (show Kd.M (Kd.int .i64) _ _ _ 0 [.int .i64 0] from rfl) (Reps.none _ _))); intro v277 w2 ho3 hb hg_ hnew_; clear hg_ hnew_; (first | rw [← Ny276.out] at ho3 | (simp only [Int.reduceToNat] at ho3; rw [← Ny276.out] at ho3)); have HO278 := zm (Kd.R_lower ho3 (below_size zb)); replace HB := zm (below_step zb hb); clear hb ho3))
 go_loopg [3, 9] k (fun kq v3 v9 w' => ∃ (x3_1 : List Int) (x9_1 : Int), v9 = .int .i64 x9_1 ∧ Aside0 (spec_stEnds.l0 kq x3_1 l0 (l0.length : Int) x9_1 = some r) ∧ Aside0 (kq ≤ k) ∧ Aside0 (Kd.R (Kd.int .i64) 3 w' w.heap.size (fun _ => True) v3 x3_1) ∧ Aside0 (Below w.heap.size w w'))
 case atStart => exact ⟨(y276), (0), zz, H', ⟨Nat.le_refl _⟩, ⟨zP HO278.out⟩, ⟨zb⟩⟩
 case round =>
  clear H';(try clear p2);obtain ⟨x3_1, x9_1, rfl, HA, HK1, HO_3, HB⟩ := hrel;cases gk with
  | zero => exact absurd HA.out (by simp [spec_stEnds.l0])
  | succ k1 =>
   have H := HA.out;clear HA;simp only [spec_stEnds.l0] at H;by_cases c4 : x9_1 < (l0.length : Int)
   rotate_left
   ·
    rw [if_neg c4] at H;have c4b0 := decide_eq_false c4;clear c4;obtain rfl := Option.some.inj H;go_wp2;go_ret
    exact ⟨_, zr, zP HO_3.out, zb⟩
   rw [if_pos c4] at H;have c4b0 := decide_eq_true c4;clear c4;obtain ⟨c5, H⟩ := zJ H;have c5b0 := decide_eq_true c5;clear c5;obtain ⟨c6, H⟩ := zJ H;have c6b0 := decide_eq_true c6;clear c6;obtain ⟨ji7, hji7⟩ : ∃ j_ : Int, (wrap64 ((x3_1.length : Int) - 1)) = j_ := ⟨_, rfl⟩;replace H : (if 0 ≤ (ji7) then (if (ji7) < (x3_1.length : Int) then (if x3_1.length < 17592186044416 then (spec_stEnds.l0 k1 (x3_1 ++ [wrap64 ((rd x3_1 (ji7)) + ((rd_T35 l0 x9_1).f0))]) l0 (l0.length : Int) (wrap64 (x9_1 + 1))) else (none)) else (none)) else (none)) = some r := by first | (rw [hji7] at H; exact H) | (simp only [hji7] at H ⊢; exact H)
   have hji7w : (IntKind.i64.wrap ((x3_1.length : Int) - 1)) = ji7 := (i64_w _).trans hji7
   obtain ⟨c8, H⟩ := zJ H;have c8b0 := decide_eq_true c8;clear c8;obtain ⟨c9, H⟩ := zJ H;have c9b0 := decide_eq_true c9;clear c9;obtain ⟨c10, H⟩ := zJ H;have LMc10 := zm c10;clear c10;obtain ⟨y282, hy282⟩ : ∃ y_ : List Int, y_ = (x3_1 ++ [wrap64 ((rd x3_1 (ji7)) + ((rd_T35 l0 x9_1).f0))]) := ⟨_, rfl⟩;(first | (rw [← hy282] at H; with_reducible replace H := zO H) | rw [← hy282] at H);have Ny282 := zm hy282;clear hy282;have H' := zm H;clear H;have p279 : 0 ≤ (x9_1 : Int) := zd;have q279 : x9_1 < (l0.length : Int) := zd;obtain ⟨ad279, e279, hx279_0, hx279_1⟩ := at_T35 HR0.out x9_1 p279 q279;cases e279;replace hx279_0 := zx HB.out hx279_0;replace hx279_1 := zx HB.out hx279_1;replace p279 := eq_true p279;replace q279 := eq_true q279;try go_wp2_with (first | ((with_reducible refine gate_dst (N := 5) rfl ?_); refine box_event ?hg (N := 5) ?hd (cs := #[.int .i64 0, .int .i64 0]) (t := 35) ?hr ?_; (case hd => rfl); (case hg => rfl); (case hr => first | (go_simp; done) | (go_simp; rfl)); intro gb280 hg w11 hbox hb; replace HO_3 := zm (Kd.R_below (zP HO_3.out) hb); have n1_ := zm (below_step zb hb); have BK280 := zm (hbox); have GW280 := zm (zs hg zb : w.heap.size ≤ gb280); have GE280 := zm (zs hg zb : w.heap.size ≤ gb280); replace HB := n1_; clear n1_; clear hb hbox hg; obtain ⟨hcz12_0, hcz12_1, hfz12_0, hfz12_1⟩ := zc2 BK280.out))
   have n0_ : Aside0 (Kd.R (Kd.int .i64) 3 ((w11.setCell ⟨gb280, 0, none⟩ (.int .i64 ((rd_T35 l0 x9_1).f0))).setCell ⟨gb280, 1, none⟩ (.int .i64 ((rd_T35 l0 x9_1).f1))) w.heap.size (fun _ => True) u3 x3_1) := ⟨zP (Kd.R_mono (Kd.R_far (p := ⟨gb280, 1, none⟩) (Kd.R_far (p := ⟨gb280, 0, none⟩) (Kd.R_types HO_3.out BK280.out (by decide)) (fun _ hk => hk.2) (.int .i64 ((rd_T35 l0 x9_1).f0))) (fun _ hk => hk.2) (.int .i64 ((rd_T35 l0 x9_1).f1))) (fun _ hk => trivial))⟩
   have n1_ : Aside0 (((w11.setCell ⟨gb280, 0, none⟩ (.int .i64 ((rd_T35 l0 x9_1).f0))).setCell ⟨gb280, 1, none⟩ (.int .i64 ((rd_T35 l0 x9_1).f1))).heap[gb280]? = some (.cells #[.int .i64 ((rd_T35 l0 x9_1).f0), .int .i64 ((rd_T35 l0 x9_1).f1)] 35 (0, 0))) := ⟨by (with_reducible repeat (first | refine blk_drewN ?_ _ | refine blk_drew ?_ | refine blk_alloc ?_ _)); refine blk_put (cs := #[.int .i64 ((rd_T35 l0 x9_1).f0), .int .i64 0]) ?_ 1 _ rfl; (with_reducible repeat (first | refine blk_drewN ?_ _ | refine blk_drew ?_ | refine blk_alloc ?_ _)); refine blk_put (cs := #[.int .i64 0, .int .i64 0]) ?_ 0 _ rfl; (with_reducible repeat (first | refine blk_drewN ?_ _ | refine blk_drew ?_ | refine blk_alloc ?_ _)); exact BK280.out⟩
   have n2_ : Aside0 (Below w.heap.size w ((w11.setCell ⟨gb280, 0, none⟩ (.int .i64 ((rd_T35 l0 x9_1).f0))).setCell ⟨gb280, 1, none⟩ (.int .i64 ((rd_T35 l0 x9_1).f1)))) := ⟨zb⟩
   (try clear HO_3);(try clear BK280);(try clear HB);generalize ((w11.setCell ⟨gb280, 0, none⟩ (.int .i64 ((rd_T35 l0 x9_1).f0))).setCell ⟨gb280, 1, none⟩ (.int .i64 ((rd_T35 l0 x9_1).f1))) = w13 at n0_ n1_ n2_ ⊢;have HO_3 := n0_;have BK280 := n1_;have HB := n2_;clear n0_ n1_ n2_;have n0_ := zm (Kd.R_drew HO_3.out);have n1_ := zm (blk_drew BK280.out);have n2_ := zm (below_drew1 HB.out);clear HO_3;clear BK280;clear HB;have HO_3 := n0_;have BK280 := n1_;have HB := n2_;clear n0_ n1_ n2_;obtain ⟨Ao15, co15, eo15⟩ := Kd.R_slice HO_3.out;(first | subst eo15 | (injection eo15 with f1_ f2_ f3_; have f4_ := f1_.symm; have f5_ := f3_.symm; clear f1_ f2_ f3_; subst f4_; subst f5_));have p281 : 0 ≤ ((ji7) : Int) := zd;have q281 : (ji7) < (x3_1.length : Int) := zd;obtain ⟨ad281, e281, hx281_0⟩ := Kd.at_int (Kd.R_reads' HO_3.out).2.2 (ji7) p281 q281;cases e281;replace p281 := eq_true p281;replace q281 := eq_true q281;refine start_ (n := 13) (S := fun w' => w'.cell? ⟨gb280, 0, none⟩ = some (.int .i64 ((rd_T35 l0 x9_1).f0)) ∧ w'.cell? ⟨gb280, 1, none⟩ = some (.int .i64 ((rd_T35 l0 x9_1).f1)) ∧ w'.cell? (ad281.add ((ji7)).toNat) = some (.int .i64 (rd x3_1 (ji7)))) (ds := [10, 11]) #[F,F,F,F,F,F,F,F,F,F,F,F,F] (by kernel_rfl) rfl rfl ⟨(blk_cell BK280.out 0).trans rfl, (blk_cell BK280.out 1).trans rfl, hx281_0⟩ (fun hHeld => ?_); refine with_tabW spec_stEnds.tab5 spec_stEnds.bits5 (fun HT_ HW_ => ?_)
   generalize w13.drew = w14 at HO_3 BK280 HB hx281_0 hHeld ⊢;refine zU 0 13 #[T,F,F,F,F,F,F,F,F,F,F,F,F] ?_;refine zU 1 14 #[T,T,F,F,F,F,F,F,F,F,F,F,F] ?_;refine zU 2 15 #[T,T,T,F,F,F,F,F,F,F,F,F,F] ?_;refine zU 3 16 #[T,T,T,T,F,F,F,F,F,F,F,F,F] ?_;refine zU 4 17 #[T,T,T,T,T,F,F,F,F,F,F,F,F] ?_;refine zU 5 18 #[T,T,T,T,T,T,F,F,F,F,F,F,F] ?_;refine zU 7 20 #[T,T,T,T,T,T,F,T,F,F,F,F,F] ?_;refine take_ (i := 6) (N := some 19) (v := ?_) (a' := ?_) #[T,T,T,T,T,T,T,T,F,F,F,F,F] rfl rfl (take_ofW HT_.out HW_.out (by kernel_rfl)) (fun _ _ _ h => h) (Or.inl ⟨by rfl, ?_⟩) hHeld ?_ ?_
   rotate_left
   ·
    rintro w' ⟨s0, s1, s2⟩;go_simp
    with_reducible rfl
   rotate_left
   ·
    simp only [Act.put, zA, zB, zD, i64_w, i32_w]
    rfl
   refine take_ (i := 8) (N := some 21) (v := ?_) (a' := ?_) #[T,T,T,T,T,T,T,T,T,F,F,F,F] rfl rfl (take_ofW HT_.out HW_.out (by kernel_rfl)) (fun _ _ _ h => h) (Or.inl ⟨by rfl, ?_⟩) hHeld ?_ ?_
   rotate_left
   ·
    rintro w' ⟨s0, s1, s2⟩;go_simp
    with_reducible rfl
   rotate_left
   ·
    simp only [Act.put, zA, zB, zD, i64_w, i32_w]
    rfl
   refine zU 9 22 #[T,T,T,T,T,T,T,T,T,T,F,F,F] ?_;refine last_ (i := 10) (N := some 23) #[T,T,T,T,T,T,T,T,T,T,T,F,F] rfl rfl (one_of HT_.out (by kernel_rfl)) (by decide) (fun K hK => ?_)
   refine value_ (w1 := ?_) (v := ?_) (by rfl) rfl ?_ ?_
   rotate_left 2
   ·
    go_simp
    constructor
    ·
     rfl
    ·
     rfl
   refine hK.out _ _ ?_
   clear hK K;refine norm_ (a' := ?_) ?_ ?_;rotate_left
   ·
    show Act.put _ (some 23) _ = _
    simp only [Act.put, zA, zB, zD, i64_w, i32_w]
    rfl
   refine last_ (i := 11) (N := some 24) #[T,T,T,T,T,T,T,T,T,T,T,T,F] rfl rfl (one_of HT_.out (by kernel_rfl)) (by decide) (fun K hK => ?_)
   refine Kd.R_append_step (Kd.int .i64) (w0 := w) w.heap.size (by rfl) (.tmp 13) (.tmp 23) 53 3 (.int .i64 0) 8 rfl Tryd.underlying53 info3 rfl (by decide) (by omega) (.slice (some ad281) x3_1.length co15) x3_1 (wrap64 ((rd x3_1 (ji7)) + ((rd_T35 l0 x9_1).f0))) [.int .i64 (wrap64 ((rd x3_1 (ji7)) + ((rd_T35 l0 x9_1).f0)))] (fun _ => True) (fun _ => False) rfl rfl ?aP (fun _ hk => hk.elim) ?aF ?aO ?aB ?aS ?aL ?_
   (case aP => exact rfl)
   (case aB => exact zb)
   (case aF => exact (fun _ _ => trivial))
   (case aO => exact (zP HO_3.out))
   (case aS => exact (below_size zb))
   (case aL => have := LMc10.out; omega)
   intro v283 w16 ho hb hg hat;rw [← Ny282.out] at ho;have n0_ := zm (blk_grown (g := gb280) (o := .cells #[.int .i64 ((rd_T35 l0 x9_1).f0), .int .i64 ((rd_T35 l0 x9_1).f1)] 35 (0, 0)) zk hg (Kd.R_ne HO_3.out BK280.out (by decide)));have n1_ := zm (hb);have n2_ := zm (ho);clear BK280;clear HB;clear HO_3;have BK280 := n0_;have HB := n1_;have HO284 := n2_;clear n0_ n1_ n2_;clear ho hb hg hat;refine hK.out _ _ ?_
   clear hK K;refine norm_ (a' := ?_) ?_ ?_;rotate_left
   ·
    show Act.put _ (some 24) _ = _
    simp only [Act.put, zA, zB, zD, i64_w, i32_w]
    rfl
   refine zU 12 3 #[T,T,T,T,T,T,T,T,T,T,T,T,T] ?_;refine done_ (done_of HT_.out (by kernel_rfl)) ?_
   try go_wp2
   go_roundg k1
   case measure => have := HK1.out; omega
   case rel => exact ⟨(y282), (wrap64 (x9_1 + 1)), zz, H', ⟨by have := HK1.out; omega⟩, ⟨zP HO284.out⟩, ⟨zb⟩⟩
def spec_l1Least.f (a0 : Int) (a1 : Int) : Option (Int) := if a0 < a1 then (some a0) else (some a1)
set_option maxHeartbeats 8000000 in
set_option maxRecDepth 100000 in
theorem spec_l1Least.calls (a0 : Int) (a1 : Int) (r : Int) (w : World) (h : spec_l1Least.f a0 a1 = some r) :
  Calls Tryd.prog 31 #[.int .i64 a0, .int .i64 a1] w fun e w' => e = .returned (.int .i64 r) ∧ Drawn0 w w' := by
 have H : (if a0 < a1 then (some a0) else (some a1)) = some r := h;clear h;by_cases c3 : a0 < a1
 ·
  rw [if_pos c3] at H;have c3b0 := decide_eq_true c3;clear c3;obtain rfl := Option.some.inj H;go_enter Tryd.func31, Tryd.ntmps31;go_wp2;go_ret
  exact ⟨zz, zw⟩
 rw [if_neg c3] at H;have c3b0 := decide_eq_false c3;clear c3;obtain rfl := Option.some.inj H;go_enter Tryd.func31, Tryd.ntmps31;go_wp2;go_ret
 exact ⟨zz, zw⟩
def spec_stPlace.l0 : Nat → Int → Int → List (S35) → Int → Int → Option (Int)
  | 0, _, _, _, _, _ => none
  | k + 1, x1, x5, x9, x10, x11 => if x11 < x10 then (if 0 ≤ x11 then (if x11 < (x9.length : Int) then ((spec_l1Least.f x1 ((rd_T35 x9 x11).f0)).bind fun t287 => (spec_stPlace.l0 k (wrap64 (x1 - t287)) (wrap64 (x5 + (wrap64 (t287 * ((rd_T35 x9 x11).f1))))) x9 x10 (wrap64 (x11 + 1)))) else (none)) else (none)) else (some x5)
def spec_stPlace.f (k : Nat) (l0 : List (S35)) (a1 : Int) : Option (Int) := spec_stPlace.l0 k a1 0 l0 (l0.length : Int) 0
set_option maxHeartbeats 8000000 in
set_option maxRecDepth 100000 in
theorem spec_stPlace.calls (k : Nat) (A0 : Option Addr) (c0 : Nat) (l0 : List (S35)) (a1 : Int) (r : Int) (w : World) (hr0 : Kd.C k35 w A0 l0.length l0) (hc0 : l0.length ≤ c0) (h : spec_stPlace.f k l0 a1 = some r) :
  Calls Tryd.prog 49 #[.slice A0 l0.length c0, .int .i64 a1] w fun e w' => e = .returned (.int .i64 r) ∧ Below w.heap.size w w' := by
 have hu35 := Tryd.underlying35;have HR0 := zm hr0;have HC0 := zm hc0;clear hr0 hc0;have HB := zm (Below.refl w.heap.size w);have H : (spec_stPlace.l0 k a1 0 l0 (l0.length : Int) 0) = some r := h;clear h;have H' := zm H;clear H;go_enter Tryd.func49, Tryd.ntmps49;go_wp2;go_loopg [1, 5, 11] k (fun kq v1 v5 v11 w' => ∃ (x1_1 : Int) (x5_1 : Int) (x11_1 : Int), v1 = .int .i64 x1_1 ∧ v5 = .int .i64 x5_1 ∧ v11 = .int .i64 x11_1 ∧ Aside0 (spec_stPlace.l0 kq x1_1 x5_1 l0 (l0.length : Int) x11_1 = some r) ∧ Aside0 (kq ≤ k) ∧ Aside0 (Below w.heap.size w w'))
 case atStart => exact ⟨(a1), (0), (0), zz, zz, zz, H', ⟨Nat.le_refl _⟩, ⟨zb⟩⟩
 case round =>
  clear H';try clear p2
  obtain ⟨x1_1, x5_1, x11_1, rfl, rfl, rfl, HA, HK1, HB⟩ := hrel;cases gk with
  | zero => exact absurd HA.out (by simp [spec_stPlace.l0])
  | succ k1 =>
   have H := HA.out;clear HA;simp only [spec_stPlace.l0] at H;by_cases c3 : x11_1 < (l0.length : Int)
   rotate_left
   ·
    rw [if_neg c3] at H;have c3b0 := decide_eq_false c3;clear c3;obtain rfl := Option.some.inj H;go_wp2;go_ret
    exact ⟨zr, zb⟩
   rw [if_pos c3] at H;have c3b0 := decide_eq_true c3;clear c3;obtain ⟨c4, H⟩ := zJ H;have c4b0 := decide_eq_true c4;clear c4;obtain ⟨c5, H⟩ := zJ H;have c5b0 := decide_eq_true c5;clear c5;obtain ⟨t287, A6, H⟩ := zI H;(try dsimp only at H);have H' := zm H;clear H;have p285 : 0 ≤ (x11_1 : Int) := zd;have q285 : x11_1 < (l0.length : Int) := zd;obtain ⟨ad285, e285, hx285_0, hx285_1⟩ := at_T35 HR0.out x11_1 p285 q285;cases e285;replace hx285_0 := zx HB.out hx285_0;replace hx285_1 := zx HB.out hx285_1;replace p285 := eq_true p285;replace q285 := eq_true q285;go_wp2_with (first | ((with_reducible refine gate_dst (N := 7) rfl ?_); refine box_event ?hg (N := 7) ?hd (cs := #[.int .i64 0, .int .i64 0]) (t := 35) ?hr ?_; (case hd => rfl); (case hg => rfl); (case hr => first | (go_simp; done) | (go_simp; rfl)); intro gb286 hg w7 hbox hb; have n0_ := zm (below_step zb hb); have BK286 := zm (hbox); have GW286 := zm (zs hg zb : w.heap.size ≤ gb286); have GE286 := zm (zs hg zb : w.heap.size ≤ gb286); replace HB := n0_; clear n0_; clear hb hbox hg; obtain ⟨hcz8_0, hcz8_1, hfz8_0, hfz8_1⟩ := zc2 BK286.out) | ((with_reducible refine gate_callee (f := 31) rfl ?_); refine goesA_ (some 18) Tryd.func31 #[.int .i64 x1_1, .int .i64 ((rd_T35 l0 x11_1).f0)] rfl ?_; (with_reducible refine (spec_l1Least.calls x1_1 ((rd_T35 l0 x11_1).f0) t287 _ A6.out).mono ?_); rintro e w' ⟨rfl, ⟨nd, rfl⟩⟩; refine ⟨_, rfl, ?_⟩))
   go_roundg k1
   case measure => have := HK1.out; omega
   case rel => exact ⟨(wrap64 (x1_1 - t287)), (wrap64 (x5_1 + (wrap64 (t287 * ((rd_T35 l0 x11_1).f1))))), (wrap64 (x11_1 + 1)), zz, zz, zz, H', ⟨by have := HK1.out; omega⟩, ⟨zb⟩⟩
def spec_stError.f (k : Nat) (l0 : List (S35)) (a1 : Int) : Option (Int) := (spec_stPlace.f k l0 a1).bind fun t288 => (some (wrap64 (t288 - (wrap64 (1000 * a1)))))
set_option maxHeartbeats 8000000 in
set_option maxRecDepth 100000 in
theorem spec_stError.calls (k : Nat) (A0 : Option Addr) (c0 : Nat) (l0 : List (S35)) (a1 : Int) (r : Int) (w : World) (hr0 : Kd.C k35 w A0 l0.length l0) (hc0 : l0.length ≤ c0) (h : spec_stError.f k l0 a1 = some r) :
  Calls Tryd.prog 32 #[.slice A0 l0.length c0, .int .i64 a1] w fun e w' => e = .returned (.int .i64 r) ∧ Below w.heap.size w w' := by
 have HR0 := zm hr0;have HC0 := zm hc0;clear hr0 hc0;have HB := zm (Below.refl w.heap.size w);have H : ((spec_stPlace.f k l0 a1).bind fun t288 => (some (wrap64 (t288 - (wrap64 (1000 * a1)))))) = some r := h;clear h;obtain ⟨t288, A3, H⟩ := zI H;(try dsimp only at H);obtain rfl := Option.some.inj H;go_enter Tryd.func32, Tryd.ntmps32;go_wp2_with (first | ((with_reducible refine gate_callee (f := 49) rfl ?_); refine goesA_ (some 7) Tryd.func49 #[.slice A0 l0.length c0, .int .i64 a1] rfl ?_; (with_reducible refine (spec_stPlace.calls k _ _ l0 a1 t288 _ ?side1 ?side2 A3.out).mono ?_); (case side1 => exact zF HR0.out); (case side2 => exact HC0.out); rintro e w4 ⟨rfl, hb⟩; refine ⟨_, rfl, ?_⟩; replace HB := zm (below_step zb hb); (try clear hb)))
 go_ret
 exact ⟨zr, zb⟩
def spec_l1Most.f (a0 : Int) (a1 : Int) : Option (Int) := if a0 > a1 then (some a0) else (some a1)
set_option maxHeartbeats 8000000 in
set_option maxRecDepth 100000 in
theorem spec_l1Most.calls (a0 : Int) (a1 : Int) (r : Int) (w : World) (h : spec_l1Most.f a0 a1 = some r) :
  Calls Tryd.prog 33 #[.int .i64 a0, .int .i64 a1] w fun e w' => e = .returned (.int .i64 r) ∧ Drawn0 w w' := by
 have H : (if a0 > a1 then (some a0) else (some a1)) = some r := h;clear h;by_cases c3 : a0 > a1
 ·
  rw [if_pos c3] at H;have c3b0 : decide (a1 < a0) = true := decide_eq_true c3;clear c3;obtain rfl := Option.some.inj H;go_enter Tryd.func33, Tryd.ntmps33;go_wp2;go_ret
  exact ⟨zz, zw⟩
 rw [if_neg c3] at H;have c3b0 : decide (a1 < a0) = false := decide_eq_false c3;clear c3;obtain rfl := Option.some.inj H;go_enter Tryd.func33, Tryd.ntmps33;go_wp2;go_ret
 exact ⟨zz, zw⟩
def spec_l1Abs.f (a0 : Int) : Option (Int) := (spec_l1Most.f a0 (wrap64 (-a0))).bind fun t289 => (some t289)
set_option maxHeartbeats 8000000 in
set_option maxRecDepth 100000 in
theorem spec_l1Abs.calls (a0 : Int) (r : Int) (w : World) (h : spec_l1Abs.f a0 = some r) :
  Calls Tryd.prog 34 #[.int .i64 a0] w fun e w' => e = .returned (.int .i64 r) ∧ Drawn0 w w' := by
 have H : ((spec_l1Most.f a0 (wrap64 (-a0))).bind fun t289 => (some t289)) = some r := h;clear h;obtain ⟨t289, A2, H⟩ := zI H;(try dsimp only at H);obtain rfl := Option.some.inj H;go_enter Tryd.func34, Tryd.ntmps34;go_wp2_with (first | ((with_reducible refine gate_callee (f := 33) rfl ?_); refine goesA_ (some 6) Tryd.func33 #[.int .i64 a0, .int .i64 (wrap64 (-a0))] rfl ?_; (with_reducible refine (spec_l1Most.calls a0 (wrap64 (-a0)) t289 _ A2.out).mono ?_); rintro e w' ⟨rfl, ⟨nd, rfl⟩⟩; refine ⟨_, rfl, ?_⟩))
 go_ret
 exact ⟨zz, zw⟩
mutual
def spec_BestOffset.l0 : Nat → List (S35) → Int → Int → List Int → Int → Int → Option (Int × Int × Bool)
  | 0, _, _, _, _, _, _ => none
  | k + 1, x0, x5, x6, x15, x16, x17 => if x17 < x16 then (if 0 ≤ x17 then (if x17 < (x15.length : Int) then ((spec_stError.f k x0 (rd x15 x17)).bind fun t295 => ((spec_l1Least.f x5 t295).bind fun t296 => ((spec_stError.f k x0 (rd x15 x17)).bind fun t297 => ((spec_l1Most.f x6 t297).bind fun t298 => (spec_BestOffset.l0 k x0 t296 t298 x15 x16 (wrap64 (x17 + 1))))))) else (none)) else (none)) else (if (wrap64 (x5 + x6)) > 0 then (spec_BestOffset.j1 k x5 x6 (wrap64 (Int.tdiv (wrap64 (-(wrap64 (x5 + x6)))) 2)) ((Int.tmod (wrap64 (x5 + x6)) 2) == 1)) else (spec_BestOffset.j1 k x5 x6 (wrap64 (Int.tdiv (wrap64 (-(wrap64 (x5 + x6)))) 2)) false))
def spec_BestOffset.j1 : Nat → Int → Int → Int → Bool → Option (Int × Int × Bool)
  | 0, _, _, _, _ => none
  | k + 1, x5, x6, x10, x44 => if x44 = true then ((spec_l1Abs.f (wrap64 (x5 + (wrap64 (x10 - 1))))).bind fun t299 => ((spec_l1Abs.f (wrap64 (x6 + (wrap64 (x10 - 1))))).bind fun t300 => ((spec_l1Most.f t299 t300).bind fun t301 => (some (wrap64 (x10 - 1), t301, true))))) else ((spec_l1Abs.f (wrap64 (x5 + x10))).bind fun t302 => ((spec_l1Abs.f (wrap64 (x6 + x10))).bind fun t303 => ((spec_l1Most.f t302 t303).bind fun t304 => (some (x10, t304, true)))))
end
def spec_BestOffset.f (k : Nat) (l0 : List (S35)) : Option (Int × Int × Bool) := (spec_stGood.f k l0).bind fun t290 => (if t290 = true then ((spec_stEnds.f k l0).bind fun t291 => (spec_BestOffset.l0 k l0 0 0 t291 (t291.length : Int) 0)) else (some (0, 0, false)))
set_option maxHeartbeats 8000000 in
set_option maxRecDepth 100000 in
theorem spec_BestOffset.calls (k : Nat) (A0 : Option Addr) (c0 : Nat) (l0 : List (S35)) (r1 : Int) (r2 : Int) (r3 : Bool) (w : World) (hr0 : Kd.C k35 w A0 l0.length l0) (hc0 : l0.length ≤ c0) (h : spec_BestOffset.f k l0 = some (r1, r2, r3)) :
  Calls Tryd.prog 11 #[.slice A0 l0.length c0] w fun e w' => e = .returned (.tuple #[.int .i64 r1, .int .i64 r2, .bool r3]) ∧ Below w.heap.size w w' := by
 have HR0 := zm hr0;have HC0 := zm hc0;clear hr0 hc0;have HB := zm (Below.refl w.heap.size w);have H : ((spec_stGood.f k l0).bind fun t290 => (if t290 = true then ((spec_stEnds.f k l0).bind fun t291 => (spec_BestOffset.l0 k l0 0 0 t291 (t291.length : Int) 0)) else (some (0, 0, false)))) = some (r1, r2, r3) := h;clear h;obtain ⟨t290, A2, H⟩ := zI H;(try dsimp only at H);by_cases c3 : t290 = true
 rotate_left
 ·
  replace c3 := Bool.eq_false_iff.mpr c3;subst c3;rw [if_neg (show ¬ (false = true) by decide)] at H;simp only [Option.some.injEq, Prod.mk.injEq] at H;obtain ⟨rfl, rfl, rfl⟩ := H;go_enter Tryd.func11, Tryd.ntmps11;go_wp2_with (first | ((with_reducible refine gate_callee (f := 23) rfl ?_); refine goesA_ (some 12) Tryd.func23 #[.slice A0 l0.length c0] rfl ?_; (with_reducible refine (spec_stGood.calls k _ _ l0 false _ ?side1 ?side2 A2.out).mono ?_); (case side1 => exact zF HR0.out); (case side2 => exact HC0.out); rintro e w26 ⟨rfl, hb⟩; refine ⟨_, rfl, ?_⟩; replace HB := zm (below_step zb hb); (try clear hb)))
  go_ret3
  exact ⟨zr, zb⟩
 subst c3;rw [if_pos rfl] at H;obtain ⟨t291, A4, H⟩ := zI H;(try dsimp only at H);have H' := zm H;clear H;go_enter Tryd.func11, Tryd.ntmps11;go_wp2_with (first | ((with_reducible refine gate_callee (f := 23) rfl ?_); refine goesA_ (some 12) Tryd.func23 #[.slice A0 l0.length c0] rfl ?_; (with_reducible refine (spec_stGood.calls k _ _ l0 true _ ?side1 ?side2 A2.out).mono ?_); (case side1 => exact zF HR0.out); (case side2 => exact HC0.out); rintro e w5 ⟨rfl, hb⟩; refine ⟨_, rfl, ?_⟩; replace HB := zm (below_step zb hb); (try clear hb)) | ((with_reducible refine gate_callee (f := 30) rfl ?_); refine goesA_ (some 15) Tryd.func30 #[.slice A0 l0.length c0] rfl ?_; (with_reducible refine (spec_stEnds.calls k _ _ l0 t291 _ ?side1 ?side2 A4.out).mono ?_); (case side1 => exact zC HR0.out); (case side2 => exact HC0.out); rintro e w6 ⟨v292, rfl, ho0, hb⟩; refine ⟨_, rfl, ?_⟩; have HO293 := zm (Kd.R_lower ho0 (below_size zb)); replace HB := zm (below_step zb hb); (try clear hb); (try clear ho0); obtain ⟨Ao7, co7, eo7⟩ := Kd.R_slice HO293.out; subst eo7))
 go_loopg [5, 6, 17] k (fun kq v5 v6 v17 w' => ∃ (x5_1 : Int) (x6_1 : Int) (x17_1 : Int), v5 = .int .i64 x5_1 ∧ v6 = .int .i64 x6_1 ∧ v17 = .int .i64 x17_1 ∧ Aside0 (spec_BestOffset.l0 kq l0 x5_1 x6_1 t291 (t291.length : Int) x17_1 = some (r1, r2, r3)) ∧ Aside0 (kq ≤ k) ∧ Aside0 (Kd.R (Kd.int .i64) 3 w' w.heap.size (fun _ => True) (.slice Ao7 t291.length co7) t291) ∧ Aside0 (Below w.heap.size w w'))
 case atStart => exact ⟨(0), (0), (0), zz, zz, zz, H', ⟨Nat.le_refl _⟩, ⟨zP HO293.out⟩, ⟨zb⟩⟩
 case round =>
  clear H';(try clear p2);obtain ⟨x5_1, x6_1, x17_1, rfl, rfl, rfl, HA, HK1, HO_15, HB⟩ := hrel;cases gk with
  | zero => exact absurd HA.out (by simp [spec_BestOffset.l0])
  | succ k1 =>
   have H := HA.out;clear HA;simp only [spec_BestOffset.l0] at H;by_cases c8 : x17_1 < (t291.length : Int)
   ·
    rw [if_pos c8] at H;have c8b0 := decide_eq_true c8;clear c8;obtain ⟨c9, H⟩ := zJ H;have c9b0 := decide_eq_true c9;clear c9;obtain ⟨c10, H⟩ := zJ H;have c10b0 := decide_eq_true c10;clear c10;obtain ⟨t295, A11, H⟩ := zI H;(try dsimp only at H);obtain ⟨t296, A12, H⟩ := zI H;(try dsimp only at H);obtain ⟨t297, A13, H⟩ := zI H;(try dsimp only at H);obtain ⟨t298, A14, H⟩ := zI H;(try dsimp only at H);have H' := zm H;clear H;have p294 : 0 ≤ (x17_1 : Int) := zd;have q294 : x17_1 < (t291.length : Int) := zd;obtain ⟨ad294, e294, hx294_0⟩ := Kd.at_int (Kd.R_reads' HO_15.out).2.2 x17_1 p294 q294;cases e294;replace p294 := eq_true p294;replace q294 := eq_true q294;go_wp2_with (first | ((with_reducible refine gate_callee (f := 32) rfl ?_); refine goesA_ (some 24) Tryd.func32 #[.slice A0 l0.length c0, .int .i64 (rd t291 x17_1)] rfl ?_; (with_reducible refine (spec_stError.calls k1 _ _ l0 (rd t291 x17_1) t295 _ ?side1 ?side2 A11.out).mono ?_); (case side1 => exact zC HR0.out); (case side2 => exact HC0.out); rintro e w15 ⟨rfl, hb⟩; refine ⟨_, rfl, ?_⟩; replace HO_15 := zm (Kd.R_below (zP HO_15.out) hb); replace HB := zm (below_step zb hb); (try clear hb)) | ((with_reducible refine gate_callee (f := 31) rfl ?_); refine goesA_ (some 25) Tryd.func31 #[.int .i64 x5_1, .int .i64 t295] rfl ?_; (with_reducible refine (spec_l1Least.calls x5_1 t295 t296 _ A12.out).mono ?_); rintro e w' ⟨rfl, ⟨nd, rfl⟩⟩; refine ⟨_, rfl, ?_⟩) | ((with_reducible refine gate_callee (f := 32) rfl ?_); refine goesA_ (some 29) Tryd.func32 #[.slice A0 l0.length c0, .int .i64 (rd t291 x17_1)] rfl ?_; (with_reducible refine (spec_stError.calls k1 _ _ l0 (rd t291 x17_1) t297 _ ?side1 ?side2 A13.out).mono ?_); (case side1 => repeat (first | exact (Kd.C_below HR0.out zb) | (with_reducible refine Kd.C_alloc ?_ _) | (with_reducible refine Kd.C_drewN ?_ _) | (with_reducible refine Kd.C_drew ?_))); (case side2 => exact HC0.out); rintro e w16 ⟨rfl, hb⟩; refine ⟨_, rfl, ?_⟩; replace HO_15 := zm (Kd.R_below (zP HO_15.out) hb); replace HB := zm (below_step zb hb); (try clear hb)) | ((with_reducible refine gate_callee (f := 33) rfl ?_); refine goesA_ (some 30) Tryd.func33 #[.int .i64 x6_1, .int .i64 t297] rfl ?_; (with_reducible refine (spec_l1Most.calls x6_1 t297 t298 _ A14.out).mono ?_); rintro e w' ⟨rfl, ⟨nd, rfl⟩⟩; refine ⟨_, rfl, ?_⟩))
    go_roundg k1
    case measure => have := HK1.out; omega
    case rel => exact ⟨(t296), (t298), (wrap64 (x17_1 + 1)), zz, zz, zz, H', ⟨by have := HK1.out; omega⟩, ⟨zP HO_15.out⟩, ⟨zb⟩⟩
   rw [if_neg c8] at H;have c8b0 := decide_eq_false c8;clear c8;have HC17 := zm H;clear H;go_upto_region 12 with (fail)
   go_cut [44] (fun v44 wc => ∃ (kq : Nat) (x44_16 : Bool), v44 = .bool x44_16 ∧ Aside0 (spec_BestOffset.j1 kq x5_1 x6_1 (wrap64 (Int.tdiv (wrap64 (-(wrap64 (x5_1 + x6_1)))) 2)) x44_16 = some (r1, r2, r3)) ∧ Aside0 (kq ≤ k1) ∧ Aside0 (Below w.heap.size w wc))
   case first =>
    have H := HC17.out;clear HC17;by_cases c18 : (wrap64 (x5_1 + x6_1)) > 0
    rotate_left
    ·
     rw [if_neg c18] at H;have c18b0 : decide (0 < (wrap64 (x5_1 + x6_1))) = false := decide_eq_false c18;clear c18;(first | rw [c18b0] | (simp only [i64_w, i32_w]; rw [c18b0]) | skip);have H' := zm H;clear H;go_wp2;go_meet
     case rel => exact ⟨_, (false), zz, H', ⟨by have := HK1.out; first | omega | exact Nat.le_refl _⟩, ⟨zb⟩⟩
    rw [if_pos c18] at H;have c18b0 : decide (0 < (wrap64 (x5_1 + x6_1))) = true := decide_eq_true c18;clear c18;(first | rw [c18b0] | (simp only [i64_w, i32_w]; rw [c18b0]) | skip);have H' := zm H;clear H;go_wp2;go_meet
    case rel => exact ⟨_, (((Int.tmod (wrap64 (x5_1 + x6_1)) 2) == 1)), zz, H', ⟨by have := HK1.out; first | omega | exact Nat.le_refl _⟩, ⟨zb⟩⟩
   case rest =>
    clear HC17;(try clear p2); (try clear q2); (try clear hx2); (try clear p6); (try clear c8b0); (try clear c9b0); (try clear c10b0); (try clear c18b0); (try clear hx294_0); (try clear p2); (try clear p294); (try clear q294);obtain ⟨kq, x44_16, rfl, HA, HJ16, HB⟩ := hcut;cases kq with
    | zero => exact absurd HA.out (by simp [spec_BestOffset.j1])
    | succ kj16 =>
     have H := HA.out;clear HA;simp only [spec_BestOffset.j1] at H;by_cases c19 : x44_16 = true
     ·
      subst c19;rw [if_pos rfl] at H;obtain ⟨t299, A20, H⟩ := zI H;(try dsimp only at H);obtain ⟨t300, A21, H⟩ := zI H;(try dsimp only at H);obtain ⟨t301, A22, H⟩ := zI H;(try dsimp only at H);simp only [Option.some.injEq, Prod.mk.injEq] at H;obtain ⟨rfl, rfl, rfl⟩ := H;go_wp2_with (first | ((with_reducible refine gate_callee (f := 34) rfl ?_); refine goesA_ (some 51) Tryd.func34 #[.int .i64 (wrap64 (x5_1 + (wrap64 ((wrap64 (Int.tdiv (wrap64 (-(wrap64 (x5_1 + x6_1)))) 2)) - 1))))] rfl ?_; (with_reducible refine (spec_l1Abs.calls (wrap64 (x5_1 + (wrap64 ((wrap64 (Int.tdiv (wrap64 (-(wrap64 (x5_1 + x6_1)))) 2)) - 1)))) t299 _ A20.out).mono ?_); rintro e w' ⟨rfl, ⟨nd, rfl⟩⟩; refine ⟨_, rfl, ?_⟩) | ((with_reducible refine gate_callee (f := 34) rfl ?_); refine goesA_ (some 55) Tryd.func34 #[.int .i64 (wrap64 (x6_1 + (wrap64 ((wrap64 (Int.tdiv (wrap64 (-(wrap64 (x5_1 + x6_1)))) 2)) - 1))))] rfl ?_; (with_reducible refine (spec_l1Abs.calls (wrap64 (x6_1 + (wrap64 ((wrap64 (Int.tdiv (wrap64 (-(wrap64 (x5_1 + x6_1)))) 2)) - 1)))) t300 _ A21.out).mono ?_); rintro e w' ⟨rfl, ⟨nd, rfl⟩⟩; refine ⟨_, rfl, ?_⟩) | ((with_reducible refine gate_callee (f := 33) rfl ?_); refine goesA_ (some 56) Tryd.func33 #[.int .i64 t299, .int .i64 t300] rfl ?_; (with_reducible refine (spec_l1Most.calls t299 t300 t301 _ A22.out).mono ?_); rintro e w' ⟨rfl, ⟨nd, rfl⟩⟩; refine ⟨_, rfl, ?_⟩))
      go_ret3
      exact ⟨zr, zb⟩
     replace c19 := Bool.eq_false_iff.mpr c19;subst c19;rw [if_neg (show ¬ (false = true) by decide)] at H;obtain ⟨t302, A23, H⟩ := zI H;(try dsimp only at H);obtain ⟨t303, A24, H⟩ := zI H;(try dsimp only at H);obtain ⟨t304, A25, H⟩ := zI H;(try dsimp only at H);simp only [Option.some.injEq, Prod.mk.injEq] at H;obtain ⟨rfl, rfl, rfl⟩ := H;go_wp2_with (first | ((with_reducible refine gate_callee (f := 34) rfl ?_); refine goesA_ (some 51) Tryd.func34 #[.int .i64 (wrap64 (x5_1 + (wrap64 (Int.tdiv (wrap64 (-(wrap64 (x5_1 + x6_1)))) 2))))] rfl ?_; (with_reducible refine (spec_l1Abs.calls (wrap64 (x5_1 + (wrap64 (Int.tdiv (wrap64 (-(wrap64 (x5_1 + x6_1)))) 2)))) t302 _ A23.out).mono ?_); rintro e w' ⟨rfl, ⟨nd, rfl⟩⟩; refine ⟨_, rfl, ?_⟩) | ((with_reducible refine gate_callee (f := 34) rfl ?_); refine goesA_ (some 55) Tryd.func34 #[.int .i64 (wrap64 (x6_1 + (wrap64 (Int.tdiv (wrap64 (-(wrap64 (x5_1 + x6_1)))) 2))))] rfl ?_; (with_reducible refine (spec_l1Abs.calls (wrap64 (x6_1 + (wrap64 (Int.tdiv (wrap64 (-(wrap64 (x5_1 + x6_1)))) 2)))) t303 _ A24.out).mono ?_); rintro e w' ⟨rfl, ⟨nd, rfl⟩⟩; refine ⟨_, rfl, ?_⟩) | ((with_reducible refine gate_callee (f := 33) rfl ?_); refine goesA_ (some 56) Tryd.func33 #[.int .i64 t302, .int .i64 t303] rfl ?_; (with_reducible refine (spec_l1Most.calls t302 t303 t304 _ A25.out).mono ?_); rintro e w' ⟨rfl, ⟨nd, rfl⟩⟩; refine ⟨_, rfl, ?_⟩))
     go_ret3
     exact ⟨zr, zb⟩
end Go.Proofs.YtbgbmjagcdnloaaDoor.PSg
