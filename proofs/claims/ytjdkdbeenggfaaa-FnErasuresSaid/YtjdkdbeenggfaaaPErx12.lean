import Derived.Test.YtjdkdbeenggfaaaPErx0
import Derived.Test.YtjdkdbeenggfaaaPErx3
import Derived.Test.YtjdkdbeenggfaaaPErx11
namespace Go.Proofs.Ytjdkdbeenggfaaa.PEr
open Go.RowKit Go.Proofs.YtjdkdbeenggfaaaW.PrintWords Go.Proofs.YtjdkdbeenggfaaaW.PrintLast Go.Proofs.YtjdkdbeenggfaaaW.PrintMore
attribute [local go_sem] max2_int min2_int max_two min_two max_three min_three max_four min_four   -- for this text's walks alone
set_option linter.unusedVariables false
set_option linter.unusedSimpArgs false
mutual
def Q3.l0 : Nat → List ByteArray → List Int → List Int → Int → List Int → Int → Int → Option (Int)
  | 0, _, _, _, _, _, _, _ => none
  | k + 1, x0, x3, x4, x5, x15, x16, x17 => if x17 < x16 then (if 0 ≤ x17 then (if x17 < (x15.length : Int) then (if 0 ≤ (rd x15 x17) then (if (rd x15 x17) < (x4.length : Int) then ((J5.f k x0 x17).bind fun t342 => ((Q8.f k t342 111).bind fun t343 => ((some (x4.set ((rd x15 x17) : Int).toNat (wrap64 ((rd x4 (rd x15 x17)) + t343)) : List Int)).bind fun y344 => (if (rd x15 x17) = x17 then (Q3.l0 k x0 x3 y344 (wrap64 (x5 + 1)) x15 x16 (wrap64 (x17 + 1))) else (Q3.l0 k x0 x3 y344 x5 x15 x16 (wrap64 (x17 + 1))))))) else (none)) else (none)) else (none)) else (none)) else (Q3.l1 k x0 x3 x5 x4 (x4.length : Int) 0)
def Q3.l1 : Nat → List ByteArray → List Int → Int → List Int → Int → Int → Option (Int)
  | 0, _, _, _, _, _, _ => none
  | k + 1, x0, x3, x5, x38, x39, x40 => if x40 < x39 then (if 0 ≤ x40 then (if x40 < (x38.length : Int) then (if (Int.tmod (rd x38 x40) 2) = 0 then (Q3.l1 k x0 x3 x5 x38 x39 (wrap64 (x40 + 1))) else (some (-1))) else (none)) else (none)) else ((J9.f k x0).bind fun t346 => (some (wrap64 ((wrap64 (t346 - (x3.length : Int))) + x5))))
end
def Q3.f (k : Nat) (l0 : List ByteArray) : Option (Int) := (l6.f k l0).bind fun t334 => (if 0 ≤ (t334.length : Int) then (if ((t334.length : Int) : Int).toNat ≤ 35184372088832 then (Q3.l0 k l0 t334 (List.replicate ((t334.length : Int) : Int).toNat 0) 0 t334 (t334.length : Int) 0) else (none)) else (none))
def Q3.T7 : Bool × List (List Nat × List Nat) := (true, [([], []), ([], []), ([0, 1], [0, 1]), ([2], [2]), ([], []), ([], []), ([4, 5], [4, 5]), ([6, 6], [6]), ([3, 7], [3, 7]), ([0, 1, 0, 1, 2, 3, 4, 5, 6, 7, 8], [0, 1]), ([9, 8, 7, 0, 1, 2, 3, 4, 5, 6, 7, 8], [8, 9])])
def Q3.B7 : List Nat := [0, 0, 3, 7, 0, 0, 48, 112, 255, 511, 1023]
theorem Q3.q90 : rtab .any (opsOf Try.f85 7) = Q3.T7 := by kernel_rfl
theorem Q3.q84 : waitsOk Q3.T7.2 Q3.B7 = true := by kernel_rfl
set_option maxHeartbeats 8000000 in
set_option maxRecDepth 100000 in
theorem Q3.calls (k : Nat) (A0 : Option Addr) (c0 : Nat) (l0 : List ByteArray) (r : Int) (w : World) (hr0 : Kd.C Kd.string w A0 l0.length l0) (hc0 : l0.length ≤ c0) (h : Q3.f k l0 = some r) :
  Calls Try.prog 85 #[.slice A0 l0.length c0] w fun e w' => e = .returned (.int .i64 r) ∧ Below w.heap.size w w' := by
 have HR0 := zm hr0;have HC0 := zm hc0;clear hr0 hc0;have HB := zm (Below.refl w.heap.size w);have H : ((l6.f k l0).bind fun t334 => (if 0 ≤ (t334.length : Int) then (if ((t334.length : Int) : Int).toNat ≤ 35184372088832 then (Q3.l0 k l0 t334 (List.replicate ((t334.length : Int) : Int).toNat 0) 0 t334 (t334.length : Int) 0) else (none)) else (none))) = some r := h;clear h;obtain ⟨t334, A2, H⟩ := zI H;(try dsimp only at H);obtain ⟨c3, H⟩ := zJ H;have c3b0 := eq_true c3;have c3b1 := decide_eq_true c3;clear c3;obtain ⟨c4, H⟩ := zJ H;have c4b0 := eq_true c4;have c4b1 := decide_eq_true c4;clear c4;obtain ⟨y337, hy337⟩ : ∃ y_ : List Int, y_ = (List.replicate ((t334.length : Int) : Int).toNat 0) := ⟨_, rfl⟩;(first | (rw [← hy337] at H; with_reducible replace H := zO H) | rw [← hy337] at H);have Ny337 := zm hy337;clear hy337;have H' := zm H;clear H;go_enter Try.func85, Try.ntmps85;go_wp2_with (first | ((with_reducible refine gate_callee (f := 124) rfl ?_); refine goesA_ (some 11) Try.func124 #[.slice A0 l0.length c0] rfl ?_; (with_reducible refine (l6.calls k _ _ l0 t334 _ ?side1 ?side2 A2.out).mono ?_); (case side1 => exact zF HR0.out); (case side2 => exact HC0.out); rintro e w5 ⟨v335, rfl, ho0, hb⟩; refine ⟨_, rfl, ?_⟩; have HO336 := zm (Kd.R_lower ho0 (below_size zb)); replace HB := zm (below_step zb hb); (try clear hb); (try clear hk); (try clear ho0); obtain ⟨Ao6, co6, eo6⟩ := Kd.R_slice HO336.out; subst eo6) | ((with_reducible refine gate_dst (N := 14) rfl ?_); refine Kd.R_make (Kd.int .i64) _ 3 rfl (N := 14) rfl 54 _ _ rfl (t334.length : Int) rfl rfl Try.underlying54 (.int .i64 0) 8 info3 rfl (by decide) (by omega) 0 (ok := fun _ => True) (okp := fun _ => True) rfl (fun _ hk => hk) trivial (of_decide_eq_true (by first | (with_reducible assumption) | assumption)) (Nat.le_trans (Nat.mul_le_mul_right _ (of_decide_eq_true (by first | (with_reducible assumption) | assumption) : (t334.length : Int).toNat ≤ 35184372088832)) (by omega)) (Below.refl _ _) (Nat.le_refl _) ?_; intro v338 w7 ho8 hb hg_ hnew_; clear hg_ hnew_; (first | rw [← Ny337.out] at ho8 | (simp only [Int.reduceToNat] at ho8; rw [← Ny337.out] at ho8)); have n0_ := zm (Kd.R_elder' (zP HO336.out) (Kd.R_base ho8) hb); have HO339 := zm (Kd.R_lower (Kd.R_new' ho8 (Kd.R_lt (zP HO336.out))) (below_size zb)); replace HB := zm (below_step zb hb); replace HO336 := n0_; clear n0_; clear hb ho8))
 go_loopg [5, 17] k (fun kq v5 v17 w' => ∃ (x4_1 : List Int) (x5_1 : Int) (x17_1 : Int), v5 = .int .i64 x5_1 ∧ v17 = .int .i64 x17_1 ∧ Aside0 (Q3.l0 kq l0 t334 x4_1 x5_1 t334 (t334.length : Int) x17_1 = some r) ∧ Aside0 (kq ≤ k) ∧ Aside0 (Kd.R (Kd.int .i64) 3 w' w.heap.size (fun k_ => some k_ ≠ (v338 : Value).ownBlock) (.slice Ao6 t334.length co6) t334) ∧ Aside0 (Kd.R (Kd.int .i64) 3 w' w.heap.size (fun k_ => some k_ ≠ ((.slice Ao6 t334.length co6) : Value).ownBlock ∧ some k_ ≠ ((.slice Ao6 t334.length co6) : Value).ownBlock) v338 x4_1) ∧ Aside0 (Kd.R (Kd.int .i64) 3 w' w.heap.size (fun k_ => some k_ ≠ (v338 : Value).ownBlock) (.slice Ao6 t334.length co6) t334) ∧ Aside0 (Below w.heap.size w w'))
 case atStart => exact ⟨(y337), (0), (0), zz, zz, H', ⟨Nat.le_refl _⟩, ⟨zP (Kd.R_mono HO336.out (fun _ hk => hk.2))⟩, ⟨zP (Kd.R_mono HO339.out (fun _ hk => ⟨hk.2, hk.2⟩))⟩, ⟨zP (Kd.R_mono HO336.out (fun _ hk => hk.2))⟩, ⟨zb⟩⟩
 case round =>
  clear H';(try clear p2); (try clear c3b0); (try clear c3b1); (try clear c4b0); (try clear c4b1);obtain ⟨x4_1, x5_1, x17_1, rfl, rfl, HA, HK1, HO_3, HO_4, HO_15, HB⟩ := hrel;cases gk with
  | zero => exact absurd HA.out (by simp [Q3.l0])
  | succ k1 =>
   have H := HA.out;clear HA;simp only [Q3.l0] at H;by_cases c9 : x17_1 < (t334.length : Int)
   rotate_left
   ·
    rw [if_neg c9] at H;have c9b0 := decide_eq_false c9;clear c9;have H' := zm H;clear H;obtain ⟨Ao24, co24, eo24⟩ := Kd.R_slice HO_4.out;subst eo24;go_wp2;go_loopg [40] k1 (fun kq v40 w' => ∃ (x40_2 : Int), v40 = .int .i64 x40_2 ∧ Aside0 (Q3.l1 kq l0 t334 x5_1 x4_1 (x4_1.length : Int) x40_2 = some r) ∧ Aside0 (kq ≤ k1) ∧ Aside0 (Kd.R (Kd.int .i64) 3 w' w.heap.size (fun k_ => some k_ ≠ ((.slice Ao24 x4_1.length co24) : Value).ownBlock) (.slice Ao6 t334.length co6) t334) ∧ Aside0 (Kd.R (Kd.int .i64) 3 w' w.heap.size (fun k_ => some k_ ≠ ((.slice Ao6 t334.length co6) : Value).ownBlock) (.slice Ao24 x4_1.length co24) x4_1) ∧ Aside0 (Below w.heap.size w w'))
    case atStart => exact ⟨(0), zz, H', ⟨Nat.le_refl _⟩, ⟨zP HO_3.out⟩, ⟨zP (zM HO_4.out)⟩, ⟨zb⟩⟩
    case round =>
     clear H';(try clear p1); (try clear q1); (try clear hx1); (try clear hf1); (try clear p2); (try clear c3b0); (try clear c3b1); (try clear p3); (try clear q3); (try clear hx3); (try clear c4b0); (try clear c4b1); (try clear p6); (try clear c9b0); (try clear c10b0); (try clear c11b0); (try clear c12b0); (try clear c13b0); (try clear p16); (try clear q16); (try clear hx16); (try clear hf16); (try clear c17b0); (try clear c17b1); (try clear hx16_0); (try clear hx340_0); (try clear hx341_0); (try clear p16); (try clear p2); (try clear p340); (try clear p341); (try clear q16); (try clear q340); (try clear q341);obtain ⟨x40_2, rfl, HA, HK2, HO_3, HO_38, HB⟩ := hrel;cases gk with
     | zero => exact absurd HA.out (by simp [Q3.l1])
     | succ k2 =>
      have H := HA.out;clear HA;simp only [Q3.l1] at H;by_cases c25 : x40_2 < (x4_1.length : Int)
      rotate_left
      ·
       rw [if_neg c25] at H;have c25b0 := decide_eq_false c25;clear c25;obtain ⟨t346, A29, H⟩ := zI H;(try dsimp only at H);obtain rfl := Option.some.inj H;go_wp2_with (first | ((with_reducible refine gate_callee (f := 88) rfl ?_); refine goesA_ (some 49) Try.func88 #[.slice A0 l0.length c0] rfl ?_; (with_reducible refine (J9.calls k2 _ _ l0 t346 _ ?side1 ?side2 A29.out).mono ?_); (case side1 => exact zC HR0.out); (case side2 => exact HC0.out); rintro e w' ⟨rfl, ⟨nd, rfl⟩⟩; refine ⟨_, rfl, ?_⟩))
       go_ret
       exact ⟨zr, zb⟩
      rw [if_pos c25] at H;have c25b0 := decide_eq_true c25;clear c25;obtain ⟨c26, H⟩ := zJ H;have c26b0 := decide_eq_true c26;clear c26;obtain ⟨c27, H⟩ := zJ H;have c27b0 := decide_eq_true c27;clear c27;by_cases c28 : (Int.tmod (rd x4_1 x40_2) 2) = 0
      rotate_left
      ·
       rw [if_neg c28] at H;have c28b0 : ((Int.tmod (rd x4_1 x40_2) 2) == 0) = false := beq_eq_false_iff_ne.mpr c28;have c28b1 : ((Int.tmod (rd x4_1 x40_2) 2) != 0) = true := bne_iff_ne.mpr c28;obtain rfl := Option.some.inj H;have p345 : 0 ≤ (x40_2 : Int) := zd;have q345 : x40_2 < (x4_1.length : Int) := zd;obtain ⟨ad345, e345, hx345_0⟩ := Kd.at_int (Kd.R_reads' HO_38.out).2.2 x40_2 p345 q345;cases e345;replace p345 := eq_true p345;replace q345 := eq_true q345;go_wp2;go_ret
       exact ⟨zr, zb⟩
      rw [if_pos c28] at H;have c28b0 : ((Int.tmod (rd x4_1 x40_2) 2) == 0) = true := beq_iff_eq.mpr c28;have c28b1 : ((Int.tmod (rd x4_1 x40_2) 2) != 0) = false := bne_eq_false_iff_eq.mpr c28;clear c28;have H' := zm H;clear H;have p345 : 0 ≤ (x40_2 : Int) := zd;have q345 : x40_2 < (x4_1.length : Int) := zd;obtain ⟨ad345, e345, hx345_0⟩ := Kd.at_int (Kd.R_reads' HO_38.out).2.2 x40_2 p345 q345;cases e345;replace p345 := eq_true p345;replace q345 := eq_true q345;go_wp2;go_roundg k2
      case measure => have := HK1.out; have := HK2.out; omega
      case rel => exact ⟨(wrap64 (x40_2 + 1)), zz, H', ⟨by have := HK1.out; have := HK2.out; omega⟩, ⟨zP HO_3.out⟩, ⟨zP HO_38.out⟩, ⟨zb⟩⟩
   rw [if_pos c9] at H;have c9b0 := decide_eq_true c9;clear c9;obtain ⟨c10, H⟩ := zJ H;have c10b0 := decide_eq_true c10;clear c10;obtain ⟨c11, H⟩ := zJ H;have c11b0 := decide_eq_true c11;clear c11;obtain ⟨c12, H⟩ := zJ H;have c12b0 := decide_eq_true c12;clear c12;obtain ⟨c13, H⟩ := zJ H;have c13b0 := decide_eq_true c13;clear c13;obtain ⟨t342, A14, H⟩ := zI H;(try dsimp only at H);obtain ⟨t343, A15, H⟩ := zI H;(try dsimp only at H);obtain ⟨y344, hy344⟩ : ∃ y_ : List Int, y_ = (x4_1.set ((rd t334 x17_1) : Int).toNat (wrap64 ((rd x4_1 (rd t334 x17_1)) + t343))) := ⟨_, rfl⟩;(first | (rw [← hy344] at H; with_reducible replace H := zO H) | rw [← hy344] at H);have Ny344 := zm hy344;clear hy344;by_cases c17 : (rd t334 x17_1) = x17_1
   rotate_left
   ·
    rw [if_neg c17] at H;have c17b0 : ((rd t334 x17_1) == x17_1) = false := beq_eq_false_iff_ne.mpr c17;have c17b1 : ((rd t334 x17_1) != x17_1) = true := bne_iff_ne.mpr c17;have H' := zm H;clear H;have p340 : 0 ≤ (x17_1 : Int) := zd;have q340 : x17_1 < (t334.length : Int) := zd;obtain ⟨ad340, e340, hx340_0⟩ := Kd.at_int (Kd.R_reads' HO_15.out).2.2 x17_1 p340 q340;cases e340;replace p340 := eq_true p340;replace q340 := eq_true q340;try go_wp2
    have n0_ := zm (Kd.R_drew HO_3.out);have n1_ := zm (Kd.R_drew HO_4.out);have n2_ := zm (Kd.R_drew HO_15.out);have n3_ := zm (below_drew1 HB.out);clear HO_3;clear HO_4;clear HO_15;clear HB;have HO_3 := n0_;have HO_4 := n1_;have HO_15 := n2_;have HB := n3_;clear n0_ n1_ n2_ n3_;obtain ⟨Ao22, co22, eo22⟩ := Kd.R_slice HO_4.out;(first | subst eo22 | (injection eo22 with f1_ f2_ f3_; have f4_ := f1_.symm; have f5_ := f3_.symm; clear f1_ f2_ f3_; subst f4_; subst f5_));have p341 : 0 ≤ ((rd t334 x17_1) : Int) := zd;have q341 : (rd t334 x17_1) < (x4_1.length : Int) := zd;obtain ⟨ad341, e341, hx341_0⟩ := Kd.at_int (Kd.R_reads' HO_4.out).2.2 (rd t334 x17_1) p341 q341;cases e341;replace p341 := eq_true p341;replace q341 := eq_true q341;refine start_ (n := 11) (S := fun w' => w'.cell? (ad341.add ((rd t334 x17_1)).toNat) = some (.int .i64 (rd x4_1 (rd t334 x17_1)))) (ds := [10]) #[F,F,F,F,F,F,F,F,F,F,F] (by kernel_rfl) rfl rfl (hx341_0) (fun hHeld => ?_); refine with_tabW Q3.q90 Q3.q84 (fun HT_ HW_ => ?_)
    generalize wr.drew = w21 at HO_3 HO_4 HO_15 HB hx341_0 hHeld ⊢;refine zU 0 22 #[T,F,F,F,F,F,F,F,F,F,F] ?_;refine zU 1 23 #[T,T,F,F,F,F,F,F,F,F,F] ?_;refine zU 2 24 #[T,T,T,F,F,F,F,F,F,F,F] ?_;refine zU 4 26 #[T,T,T,F,T,F,F,F,F,F,F] ?_;refine zU 5 27 #[T,T,T,F,T,T,F,F,F,F,F] ?_;refine take_ (i := 3) (N := some 25) (v := ?_) (a' := ?_) #[T,T,T,T,T,T,F,F,F,F,F] rfl rfl (take_ofW HT_.out HW_.out (by kernel_rfl)) (fun _ _ _ h => h) (Or.inl ⟨by rfl, ?_⟩) hHeld ?_ ?_
    rotate_left
    ·
     intro w' s0;go_simp
     with_reducible rfl
    rotate_left
    ·
     simp only [Act.put, zA, zB, zD, i64_w, i32_w]
     rfl
    refine one_ (i := 6) (N := some 28) #[T,T,T,T,T,T,T,F,F,F,F] rfl rfl (one_of HT_.out (by kernel_rfl)) (by decide) (fun K hK => ?_)
    refine goes_ Try.func63 (by kernel_rfl) rfl #[.slice A0 l0.length c0, .int .i64 x17_1] (by rfl) rfl rfl (by (try simp only [List.map_toArray, List.map_cons, List.map_nil]); first | done | rfl | (simp only [List.length_drop, List.length_take]; rfl)) ?_
    with_reducible refine (J5.calls k1 _ _ l0 x17_1 t342 _ ?side1 ?side2 A14.out).mono ?_
    (case side1 => exact zC HR0.out)
    (case side2 => exact HC0.out)
    rintro e w' ⟨rfl, ⟨nd, rfl⟩⟩;refine ⟨_, rfl, ?_⟩
    refine hK.out _ _ (hHeld) (fun hHeld => ?_)
    clear hK K;refine norm_ (a' := ?_) ?_ ?_;rotate_left
    ·
     show Act.put _ (some 28) _ = _
     simp only [Act.put, zA, zB, zD, i64_w, i32_w]
     rfl
    refine one_ (i := 7) (N := some 29) #[T,T,T,T,T,T,T,T,F,F,F] rfl rfl (one_of HT_.out (by kernel_rfl)) (by decide) (fun K hK => ?_)
    refine goes_ Try.func62 (by kernel_rfl) rfl #[.string t342, .int .u8 111] (by rfl) rfl rfl (by (try simp only [List.map_toArray, List.map_cons, List.map_nil]); first | done | rfl | (simp only [List.length_drop, List.length_take]; rfl)) ?_
    with_reducible refine (Q8.calls k1 t342 111 t343 _ A15.out).mono ?_
    rintro e w' ⟨rfl, ⟨nd, rfl⟩⟩;refine ⟨_, rfl, ?_⟩
    have p16 : 0 ≤ ((rd t334 x17_1) : Int) := zd;have q16 : ((rd t334 x17_1) : Int) < ((x4_1.length : Int) : Int) := zd;obtain ⟨go16, co16, eo16, gb16, gl16, cl16, HG16⟩ := Kd.R_form HO_4.out (by omega);(first | cases eo16 | (injection eo16 with ea_ en_ ec_; (first | subst ea_ | (injection ea_ with ea_; subst ea_)); subst ec_; clear en_));have GB16 := zm gb16;have GG16 := zm HG16;clear gb16 gl16 HG16;(first | simp only [add_plain] at hx341_0 | skip);obtain ⟨hx16_0, hf16_0⟩ := Kd.R_celln 0 HO_4.out ((rd t334 x17_1) : Int) p16 q16;replace p16 := eq_true p16;replace q16 := eq_true q16;have HP23 := Kd.R_putn HO_4.out ((rd t334 x17_1) : Int) (wrap64 ((rd x4_1 (rd t334 x17_1)) + t343));rw [← Ny344.out] at HP23;have HQ23 := zm HP23;clear HP23;refine hK.out _ _ (hHeld) (fun hHeld => ?_)
    clear hK K;refine norm_ (a' := ?_) ?_ ?_;rotate_left
    ·
     show Act.put _ (some 29) _ = _
     simp only [Act.put, zA, zB, zD, i64_w, i32_w]
     rfl
    refine zU 8 30 #[T,T,T,T,T,T,T,T,T,F,F] ?_;refine zU 9 31 #[T,T,T,T,T,T,T,T,T,T,F] ?_;refine last_ (i := 10) (N := none) #[T,T,T,T,T,T,T,T,T,T,T] rfl rfl (one_of HT_.out (by kernel_rfl)) (by decide) (fun K hK => ?_)
    refine skip_ (w1 := ?_) (by rfl) rfl ?_ ?_
    rotate_left
    ·
     go_simp
     rfl
    refine hK.out _ _ ?_
    clear hK K;refine done_ (done_of HT_.out (by kernel_rfl)) ?_
    try go_wp2
    go_roundg k1
    case measure => have := HK1.out; omega
    case rel => exact ⟨(y344), (x5_1), (wrap64 (x17_1 + 1)), zz, zz, H', ⟨by have := HK1.out; omega⟩, ⟨zP (Kd.R_mono (Kd.R_far (p := ⟨go16, ((rd t334 x17_1) : Int).toNat, none⟩) (Kd.R_mono HO_3.out (fun k_ hk => (⟨hk, fun e_ => hk (by rw [e_]; rfl)⟩ : _ ∧ k_ ≠ go16))) (fun _ hk => hk.2) (.int .i64 (wrap64 ((rd x4_1 (rd t334 x17_1)) + t343)))) (fun _ hk => hk.1))⟩, ⟨zP HQ23.out⟩, ⟨zP (Kd.R_mono (Kd.R_far (p := ⟨go16, ((rd t334 x17_1) : Int).toNat, none⟩) (Kd.R_mono HO_15.out (fun k_ hk => (⟨hk, fun e_ => hk (by rw [e_]; rfl)⟩ : _ ∧ k_ ≠ go16))) (fun _ hk => hk.2) (.int .i64 (wrap64 ((rd x4_1 (rd t334 x17_1)) + t343)))) (fun _ hk => hk.1))⟩, ⟨by repeat (first | (with_reducible first | exact HB.out | apply below_alloc | apply pw_below_drewN | apply below_drew1 | refine below_set ?_ GB16.out) | exact HB.out)⟩⟩
   rw [if_pos c17] at H;have c17b0 : ((rd t334 x17_1) == x17_1) = true := beq_iff_eq.mpr c17;have c17b1 : ((rd t334 x17_1) != x17_1) = false := bne_eq_false_iff_eq.mpr c17;clear c17;have H' := zm H;clear H;have p340 : 0 ≤ (x17_1 : Int) := zd;have q340 : x17_1 < (t334.length : Int) := zd;obtain ⟨ad340, e340, hx340_0⟩ := Kd.at_int (Kd.R_reads' HO_15.out).2.2 x17_1 p340 q340;cases e340;replace p340 := eq_true p340;replace q340 := eq_true q340;try go_wp2
   have n0_ := zm (Kd.R_drew HO_3.out);have n1_ := zm (Kd.R_drew HO_4.out);have n2_ := zm (Kd.R_drew HO_15.out);have n3_ := zm (below_drew1 HB.out);clear HO_3;clear HO_4;clear HO_15;clear HB;have HO_3 := n0_;have HO_4 := n1_;have HO_15 := n2_;have HB := n3_;clear n0_ n1_ n2_ n3_;obtain ⟨Ao19, co19, eo19⟩ := Kd.R_slice HO_4.out;(first | subst eo19 | (injection eo19 with f1_ f2_ f3_; have f4_ := f1_.symm; have f5_ := f3_.symm; clear f1_ f2_ f3_; subst f4_; subst f5_));have p341 : 0 ≤ ((rd t334 x17_1) : Int) := zd;have q341 : (rd t334 x17_1) < (x4_1.length : Int) := zd;obtain ⟨ad341, e341, hx341_0⟩ := Kd.at_int (Kd.R_reads' HO_4.out).2.2 (rd t334 x17_1) p341 q341;cases e341;replace p341 := eq_true p341;replace q341 := eq_true q341;refine start_ (n := 11) (S := fun w' => w'.cell? (ad341.add ((rd t334 x17_1)).toNat) = some (.int .i64 (rd x4_1 (rd t334 x17_1)))) (ds := [10]) #[F,F,F,F,F,F,F,F,F,F,F] (by kernel_rfl) rfl rfl (hx341_0) (fun hHeld => ?_); refine with_tabW Q3.q90 Q3.q84 (fun HT_ HW_ => ?_)
   generalize wr.drew = w18 at HO_3 HO_4 HO_15 HB hx341_0 hHeld ⊢;refine zU 0 22 #[T,F,F,F,F,F,F,F,F,F,F] ?_;refine zU 1 23 #[T,T,F,F,F,F,F,F,F,F,F] ?_;refine zU 2 24 #[T,T,T,F,F,F,F,F,F,F,F] ?_;refine zU 4 26 #[T,T,T,F,T,F,F,F,F,F,F] ?_;refine zU 5 27 #[T,T,T,F,T,T,F,F,F,F,F] ?_;refine take_ (i := 3) (N := some 25) (v := ?_) (a' := ?_) #[T,T,T,T,T,T,F,F,F,F,F] rfl rfl (take_ofW HT_.out HW_.out (by kernel_rfl)) (fun _ _ _ h => h) (Or.inl ⟨by rfl, ?_⟩) hHeld ?_ ?_
   rotate_left
   ·
    intro w' s0;go_simp
    with_reducible rfl
   rotate_left
   ·
    simp only [Act.put, zA, zB, zD, i64_w, i32_w]
    rfl
   refine one_ (i := 6) (N := some 28) #[T,T,T,T,T,T,T,F,F,F,F] rfl rfl (one_of HT_.out (by kernel_rfl)) (by decide) (fun K hK => ?_)
   refine goes_ Try.func63 (by kernel_rfl) rfl #[.slice A0 l0.length c0, .int .i64 x17_1] (by rfl) rfl rfl (by (try simp only [List.map_toArray, List.map_cons, List.map_nil]); first | done | rfl | (simp only [List.length_drop, List.length_take]; rfl)) ?_
   with_reducible refine (J5.calls k1 _ _ l0 x17_1 t342 _ ?side1 ?side2 A14.out).mono ?_
   (case side1 => exact zC HR0.out)
   (case side2 => exact HC0.out)
   rintro e w' ⟨rfl, ⟨nd, rfl⟩⟩;refine ⟨_, rfl, ?_⟩
   refine hK.out _ _ (hHeld) (fun hHeld => ?_)
   clear hK K;refine norm_ (a' := ?_) ?_ ?_;rotate_left
   ·
    show Act.put _ (some 28) _ = _
    simp only [Act.put, zA, zB, zD, i64_w, i32_w]
    rfl
   refine one_ (i := 7) (N := some 29) #[T,T,T,T,T,T,T,T,F,F,F] rfl rfl (one_of HT_.out (by kernel_rfl)) (by decide) (fun K hK => ?_)
   refine goes_ Try.func62 (by kernel_rfl) rfl #[.string t342, .int .u8 111] (by rfl) rfl rfl (by (try simp only [List.map_toArray, List.map_cons, List.map_nil]); first | done | rfl | (simp only [List.length_drop, List.length_take]; rfl)) ?_
   with_reducible refine (Q8.calls k1 t342 111 t343 _ A15.out).mono ?_
   rintro e w' ⟨rfl, ⟨nd, rfl⟩⟩;refine ⟨_, rfl, ?_⟩
   have p16 : 0 ≤ ((rd t334 x17_1) : Int) := zd;have q16 : ((rd t334 x17_1) : Int) < ((x4_1.length : Int) : Int) := zd;obtain ⟨go16, co16, eo16, gb16, gl16, cl16, HG16⟩ := Kd.R_form HO_4.out (by omega);(first | cases eo16 | (injection eo16 with ea_ en_ ec_; (first | subst ea_ | (injection ea_ with ea_; subst ea_)); subst ec_; clear en_));have GB16 := zm gb16;have GG16 := zm HG16;clear gb16 gl16 HG16;(first | simp only [add_plain] at hx341_0 | skip);obtain ⟨hx16_0, hf16_0⟩ := Kd.R_celln 0 HO_4.out ((rd t334 x17_1) : Int) p16 q16;replace p16 := eq_true p16;replace q16 := eq_true q16;have HP20 := Kd.R_putn HO_4.out ((rd t334 x17_1) : Int) (wrap64 ((rd x4_1 (rd t334 x17_1)) + t343));rw [← Ny344.out] at HP20;have HQ20 := zm HP20;clear HP20;refine hK.out _ _ (hHeld) (fun hHeld => ?_)
   clear hK K;refine norm_ (a' := ?_) ?_ ?_;rotate_left
   ·
    show Act.put _ (some 29) _ = _
    simp only [Act.put, zA, zB, zD, i64_w, i32_w]
    rfl
   refine zU 8 30 #[T,T,T,T,T,T,T,T,T,F,F] ?_;refine zU 9 31 #[T,T,T,T,T,T,T,T,T,T,F] ?_;refine last_ (i := 10) (N := none) #[T,T,T,T,T,T,T,T,T,T,T] rfl rfl (one_of HT_.out (by kernel_rfl)) (by decide) (fun K hK => ?_)
   refine skip_ (w1 := ?_) (by rfl) rfl ?_ ?_
   rotate_left
   ·
    go_simp
    rfl
   refine hK.out _ _ ?_
   clear hK K;refine done_ (done_of HT_.out (by kernel_rfl)) ?_
   try go_wp2
   go_roundg k1
   case measure => have := HK1.out; omega
   case rel => exact ⟨(y344), (wrap64 (x5_1 + 1)), (wrap64 (x17_1 + 1)), zz, zz, H', ⟨by have := HK1.out; omega⟩, ⟨zP (Kd.R_mono (Kd.R_far (p := ⟨go16, ((rd t334 x17_1) : Int).toNat, none⟩) (Kd.R_mono HO_3.out (fun k_ hk => (⟨hk, fun e_ => hk (by rw [e_]; rfl)⟩ : _ ∧ k_ ≠ go16))) (fun _ hk => hk.2) (.int .i64 (wrap64 ((rd x4_1 (rd t334 x17_1)) + t343)))) (fun _ hk => hk.1))⟩, ⟨zP HQ20.out⟩, ⟨zP (Kd.R_mono (Kd.R_far (p := ⟨go16, ((rd t334 x17_1) : Int).toNat, none⟩) (Kd.R_mono HO_15.out (fun k_ hk => (⟨hk, fun e_ => hk (by rw [e_]; rfl)⟩ : _ ∧ k_ ≠ go16))) (fun _ hk => hk.2) (.int .i64 (wrap64 ((rd x4_1 (rd t334 x17_1)) + t343)))) (fun _ hk => hk.1))⟩, ⟨by repeat (first | (with_reducible first | exact HB.out | apply below_alloc | apply pw_below_drewN | apply below_drew1 | refine below_set ?_ GB16.out) | exact HB.out)⟩⟩
end Go.Proofs.Ytjdkdbeenggfaaa.PEr
