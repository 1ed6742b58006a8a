import Derived.Test.YtbgbmjagcdnloaaDoorPSgx0
import Derived.Test.YtbgbmjagcdnloaaDoorPSgx3
import Derived.Test.YtbgbmjagcdnloaaDoorPSgx5
import Derived.Test.YtbgbmjagcdnloaaDoorPSgx7
namespace Go.Proofs.YtbgbmjagcdnloaaDoor.PSg
open Go.RowKit Go.Proofs.YtbgbmjagcdnloaaDoorW.PrintWords Go.Proofs.YtbgbmjagcdnloaaDoorW.PrintLast Go.Proofs.YtbgbmjagcdnloaaDoorW.PrintMore
attribute [local go_sem] max2_int min2_int max_two min_two max_three min_three max_four min_four   -- for this text's walks alone
set_option linter.unusedVariables false
set_option linter.unusedSimpArgs false
def spec_SegmentsText.l0 : Nat → ByteArray → List (S35) → Int → Int → Option (ByteArray × Bool)
  | 0, _, _, _, _ => none
  | k + 1, x4, x10, x11, x12 => if x12 < x11 then (if 0 ≤ x12 then (if x12 < (x10.length : Int) then ((spec_l1Num.f k ((rd_T35 x10 x12).f0)).bind fun t247 => (if t247.size + 1 ≤ 9223372036854775807 then ((spec_l1Num.f k ((rd_T35 x10 x12).f1)).bind fun t248 => (if (t247 ++ (⟨#[32]⟩ : ByteArray)).size + t248.size ≤ 9223372036854775807 then (if ((t247 ++ (⟨#[32]⟩ : ByteArray)) ++ t248).size + 1 ≤ 9223372036854775807 then (if x4.size + (((t247 ++ (⟨#[32]⟩ : ByteArray)) ++ t248) ++ (⟨#[10]⟩ : ByteArray)).size ≤ 9223372036854775807 then (spec_SegmentsText.l0 k (x4 ++ (((t247 ++ (⟨#[32]⟩ : ByteArray)) ++ t248) ++ (⟨#[10]⟩ : ByteArray))) x10 x11 (wrap64 (x12 + 1))) else (none)) else (none)) else (none))) else (none))) else (none)) else (none)) else (some (x4, true))
def spec_SegmentsText.f (k : Nat) (l0 : List (S35)) : Option (ByteArray × Bool) := (spec_stGood.f k l0).bind fun t244 => (if t244 = true then (spec_SegmentsText.l0 k (⟨#[]⟩ : ByteArray) l0 (l0.length : Int) 0) else (some ((⟨#[]⟩ : ByteArray), false)))
def spec_SegmentsText.T7 : Bool × List (List Nat × List Nat) := (true, [([], []), ([], []), ([1], [1]), ([2], [2]), ([3], [3]), ([], []), ([5], [5]), ([6, 3], [6]), ([4, 7], [4, 7]), ([8], [8]), ([0, 9], [0, 9]), ([10, 7, 0, 1, 2, 3, 4, 5, 6, 7, 8, 9, 10], [0, 10])])
def spec_SegmentsText.B7 : List Nat := [0, 0, 2, 6, 14, 0, 32, 110, 254, 510, 1023, 2047]
theorem spec_SegmentsText.tab7 : rtab .any (opsOf Tryd.f9 7) = spec_SegmentsText.T7 := by kernel_rfl
theorem spec_SegmentsText.bits7 : waitsOk spec_SegmentsText.T7.2 spec_SegmentsText.B7 = true := by kernel_rfl
set_option maxHeartbeats 8000000 in
set_option maxRecDepth 100000 in
theorem spec_SegmentsText.calls (k : Nat) (A0 : Option Addr) (c0 : Nat) (l0 : List (S35)) (r1 : ByteArray) (r2 : Bool) (w : World) (hr0 : Kd.C k35 w A0 l0.length l0) (hc0 : l0.length ≤ c0) (h : spec_SegmentsText.f k l0 = some (r1, r2)) :
  Calls Tryd.prog 9 #[.slice A0 l0.length c0] w fun e w' => e = .returned (.tuple #[.string r1, .bool r2]) ∧ Below w.heap.size w w' := by
 have hu35 := Tryd.underlying35;have HR0 := zm hr0;have HC0 := zm hc0;clear hr0 hc0;have HB := zm (Below.refl w.heap.size w);have H : ((spec_stGood.f k l0).bind fun t244 => (if t244 = true then (spec_SegmentsText.l0 k (⟨#[]⟩ : ByteArray) l0 (l0.length : Int) 0) else (some ((⟨#[]⟩ : ByteArray), false)))) = some (r1, r2) := h;clear h;obtain ⟨t244, A2, H⟩ := zI H;(try dsimp only at H);by_cases c3 : t244 = true
 rotate_left
 ·
  replace c3 := Bool.eq_false_iff.mpr c3;subst c3;rw [if_neg (show ¬ (false = true) by decide)] at H;simp only [Option.some.injEq, Prod.mk.injEq] at H;obtain ⟨rfl, rfl⟩ := H;go_enter Tryd.func9, Tryd.ntmps9;go_wp2_with (first | ((with_reducible refine gate_callee (f := 23) rfl ?_); refine goesA_ (some 8) Tryd.func23 #[.slice A0 l0.length c0] rfl ?_; (with_reducible refine (spec_stGood.calls k _ _ l0 false _ ?side1 ?side2 A2.out).mono ?_); (case side1 => exact zF HR0.out); (case side2 => exact HC0.out); rintro e w20 ⟨rfl, hb⟩; refine ⟨_, rfl, ?_⟩; replace HB := zm (below_step zb hb); (try clear hb)))
  go_ret2
  exact ⟨zr, zb⟩
 subst c3;rw [if_pos rfl] at H;have H' := zm H;clear H;go_enter Tryd.func9, Tryd.ntmps9;go_wp2_with (first | ((with_reducible refine gate_callee (f := 23) rfl ?_); refine goesA_ (some 8) Tryd.func23 #[.slice A0 l0.length c0] rfl ?_; (with_reducible refine (spec_stGood.calls k _ _ l0 true _ ?side1 ?side2 A2.out).mono ?_); (case side1 => exact zF HR0.out); (case side2 => exact HC0.out); rintro e w4 ⟨rfl, hb⟩; refine ⟨_, rfl, ?_⟩; replace HB := zm (below_step zb hb); (try clear hb)))
 go_loopg [4, 12] k (fun kq v4 v12 w' => ∃ (x4_1 : ByteArray) (x12_1 : Int), v4 = .string x4_1 ∧ v12 = .int .i64 x12_1 ∧ Aside0 (spec_SegmentsText.l0 kq x4_1 l0 (l0.length : Int) x12_1 = some (r1, r2)) ∧ Aside0 (kq ≤ k) ∧ Aside0 (Below w.heap.size w w'))
 case atStart => exact ⟨((⟨#[]⟩ : ByteArray)), (0), zz, zz, H', ⟨Nat.le_refl _⟩, ⟨zb⟩⟩
 case round =>
  clear H';(try clear p2);obtain ⟨x4_1, x12_1, rfl, rfl, HA, HK1, HB⟩ := hrel;cases gk with
  | zero => exact absurd HA.out (by simp [spec_SegmentsText.l0])
  | succ k1 =>
   have H := HA.out;clear HA;simp only [spec_SegmentsText.l0] at H;by_cases c5 : x12_1 < (l0.length : Int)
   rotate_left
   ·
    rw [if_neg c5] at H;have c5b0 := decide_eq_false c5;clear c5;simp only [Option.some.injEq, Prod.mk.injEq] at H;obtain ⟨rfl, rfl⟩ := H;go_wp2;go_ret2
    exact ⟨zr, zb⟩
   rw [if_pos c5] at H;have c5b0 := decide_eq_true c5;clear c5;obtain ⟨c6, H⟩ := zJ H;have c6b0 := decide_eq_true c6;clear c6;obtain ⟨c7, H⟩ := zJ H;have c7b0 := decide_eq_true c7;clear c7;obtain ⟨t247, A8, H⟩ := zI H;(try dsimp only at H);obtain ⟨c9, H⟩ := zJ H;have c9b0 := eq_true c9;have c9b1 := decide_eq_true c9;try have c9b2 : (9223372036854775807 < t247.size + 1) = False := eq_false (Nat.not_lt.2 c9)
   obtain ⟨t248, A10, H⟩ := zI H;(try dsimp only at H);obtain ⟨c11, H⟩ := zJ H;have c11b0 := eq_true c11;have c11b1 := decide_eq_true c11;try have c11b2 : (9223372036854775807 < (t247 ++ (⟨#[32]⟩ : ByteArray)).size + t248.size) = False := eq_false (Nat.not_lt.2 c11)
   try have c11b3 : (9223372036854775807 < t247.size + 1 + t248.size) = False := eq_false (Nat.not_lt.2 (by have z_ := c11; simp only [ByteArray.size_append] at z_; exact z_))
   obtain ⟨c12, H⟩ := zJ H;have c12b0 := eq_true c12;have c12b1 := decide_eq_true c12;try have c12b2 : (9223372036854775807 < ((t247 ++ (⟨#[32]⟩ : ByteArray)) ++ t248).size + 1) = False := eq_false (Nat.not_lt.2 c12)
   try have c12b3 : (9223372036854775807 < t247.size + 1 + t248.size + 1) = False := eq_false (Nat.not_lt.2 (by have z_ := c12; simp only [ByteArray.size_append] at z_; exact z_))
   obtain ⟨c13, H⟩ := zJ H;have c13b0 := eq_true c13;have c13b1 := decide_eq_true c13;try have c13b2 : (9223372036854775807 < x4_1.size + (((t247 ++ (⟨#[32]⟩ : ByteArray)) ++ t248) ++ (⟨#[10]⟩ : ByteArray)).size) = False := eq_false (Nat.not_lt.2 c13)
   try have c13b3 : (9223372036854775807 < x4_1.size + (t247.size + 1 + t248.size + 1)) = False := eq_false (Nat.not_lt.2 (by have z_ := c13; simp only [ByteArray.size_append] at z_; exact z_))
   have H' := zm H;clear H;have p245 : 0 ≤ (x12_1 : Int) := zd;have q245 : x12_1 < (l0.length : Int) := zd;obtain ⟨ad245, e245, hx245_0, hx245_1⟩ := at_T35 HR0.out x12_1 p245 q245;cases e245;replace hx245_0 := zx HB.out hx245_0;replace hx245_1 := zx HB.out hx245_1;replace p245 := eq_true p245;replace q245 := eq_true q245;try go_wp2_with (first | ((with_reducible refine gate_dst (N := 6) rfl ?_); refine box_event ?hg (N := 6) ?hd (cs := #[.int .i64 0, .int .i64 0]) (t := 35) ?hr ?_; (case hd => rfl); (case hg => rfl); (case hr => first | (go_simp; done) | (go_simp; rfl)); intro gb246 hg w14 hbox hb; have n0_ := zm (below_step zb hb); have BK246 := zm (hbox); have GW246 := zm (zs hg zb : w.heap.size ≤ gb246); have GE246 := zm (zs hg zb : w.heap.size ≤ gb246); replace HB := n0_; clear n0_; clear hb hbox hg; obtain ⟨hcz15_0, hcz15_1, hfz15_0, hfz15_1⟩ := zc2 BK246.out))
   have n0_ : Aside0 (((w14.setCell ⟨gb246, 0, none⟩ (.int .i64 ((rd_T35 l0 x12_1).f0))).setCell ⟨gb246, 1, none⟩ (.int .i64 ((rd_T35 l0 x12_1).f1))).heap[gb246]? = some (.cells #[.int .i64 ((rd_T35 l0 x12_1).f0), .int .i64 ((rd_T35 l0 x12_1).f1)] 35 (0, 0))) := ⟨by (with_reducible repeat (first | refine blk_drewN ?_ _ | refine blk_drew ?_ | refine blk_alloc ?_ _)); refine blk_put (cs := #[.int .i64 ((rd_T35 l0 x12_1).f0), .int .i64 0]) ?_ 1 _ rfl; (with_reducible repeat (first | refine blk_drewN ?_ _ | refine blk_drew ?_ | refine blk_alloc ?_ _)); refine blk_put (cs := #[.int .i64 0, .int .i64 0]) ?_ 0 _ rfl; (with_reducible repeat (first | refine blk_drewN ?_ _ | refine blk_drew ?_ | refine blk_alloc ?_ _)); exact BK246.out⟩
   have n1_ : Aside0 (Below w.heap.size w ((w14.setCell ⟨gb246, 0, none⟩ (.int .i64 ((rd_T35 l0 x12_1).f0))).setCell ⟨gb246, 1, none⟩ (.int .i64 ((rd_T35 l0 x12_1).f1)))) := ⟨zb⟩
   (try clear BK246);(try clear HB);generalize ((w14.setCell ⟨gb246, 0, none⟩ (.int .i64 ((rd_T35 l0 x12_1).f0))).setCell ⟨gb246, 1, none⟩ (.int .i64 ((rd_T35 l0 x12_1).f1))) = w16 at n0_ n1_ ⊢;have BK246 := n0_;have HB := n1_;clear n0_ n1_;have n0_ := zm (blk_drew BK246.out);have n1_ := zm (below_drew1 HB.out);clear BK246;clear HB;have BK246 := n0_;have HB := n1_;clear n0_ n1_;refine start_ (n := 12) (S := fun w' => w'.cell? ⟨gb246, 0, none⟩ = some (.int .i64 ((rd_T35 l0 x12_1).f0)) ∧ w'.cell? ⟨gb246, 1, none⟩ = some (.int .i64 ((rd_T35 l0 x12_1).f1))) (ds := []) #[F,F,F,F,F,F,F,F,F,F,F,F] (by kernel_rfl) rfl rfl ⟨(blk_cell BK246.out 0).trans rfl, (blk_cell BK246.out 1).trans rfl⟩ (fun hHeld => ?_); refine with_tabW spec_SegmentsText.tab7 spec_SegmentsText.bits7 (fun HT_ HW_ => ?_)
   generalize w16.drew = w17 at BK246 HB hHeld ⊢;refine zU 0 16 #[T,F,F,F,F,F,F,F,F,F,F,F] ?_;refine zU 1 17 #[T,T,F,F,F,F,F,F,F,F,F,F] ?_;refine zU 5 21 #[T,T,F,F,F,T,F,F,F,F,F,F] ?_;refine take_ (i := 2) (N := some 18) (v := ?_) (a' := ?_) #[T,T,T,F,F,T,F,F,F,F,F,F] rfl rfl (take_ofW HT_.out HW_.out (by kernel_rfl)) (fun _ _ _ h => h) (Or.inl ⟨by rfl, ?_⟩) hHeld ?_ ?_
   rotate_left
   ·
    rintro w' ⟨s0, s1⟩;go_simp
    with_reducible rfl
   rotate_left
   ·
    simp only [Act.put, zA, zB, zD, i64_w, i32_w]
    rfl
   refine take_ (i := 6) (N := some 22) (v := ?_) (a' := ?_) #[T,T,T,F,F,T,T,F,F,F,F,F] rfl rfl (take_ofW HT_.out HW_.out (by kernel_rfl)) (fun _ _ _ h => h) (Or.inl ⟨by rfl, ?_⟩) hHeld ?_ ?_
   rotate_left
   ·
    rintro w' ⟨s0, s1⟩;go_simp
    with_reducible rfl
   rotate_left
   ·
    simp only [Act.put, zA, zB, zD, i64_w, i32_w]
    rfl
   refine one_ (i := 3) (N := some 19) #[T,T,T,T,F,T,T,F,F,F,F,F] rfl rfl (one_of HT_.out (by kernel_rfl)) (by decide) (fun K hK => ?_)
   refine goes_ Tryd.func27 (by kernel_rfl) rfl #[.int .i64 ((rd_T35 l0 x12_1).f0)] (by rfl) rfl rfl (by (try simp only [List.map_toArray, List.map_cons, List.map_nil]); first | done | rfl | (simp only [List.length_drop, List.length_take]; rfl)) ?_
   with_reducible refine (spec_l1Num.calls k1 ((rd_T35 l0 x12_1).f0) t247 _ A8.out).mono ?_
   rintro e w18 ⟨rfl, hb⟩;refine ⟨_, rfl, ?_⟩
   have n0_ := zm (blk_below (g := gb246) zk hb);have n1_ := zm (below_step zb hb);clear BK246;clear HB;have BK246 := n0_;have HB := n1_;clear n0_ n1_;(try clear hb);refine hK.out _ _ ⟨(blk_cell BK246.out 0).trans rfl, (blk_cell BK246.out 1).trans rfl⟩ (fun hHeld => ?_)
   clear hK K;refine norm_ (a' := ?_) ?_ ?_;rotate_left
   ·
    show Act.put _ (some 19) _ = _
    simp only [Act.put, zA, zB, zD, i64_w, i32_w]
    rfl
   refine zU 4 20 #[T,T,T,T,T,T,T,F,F,F,F,F] ?_;refine one_ (i := 7) (N := some 23) #[T,T,T,T,T,T,T,T,F,F,F,F] rfl rfl (one_of HT_.out (by kernel_rfl)) (by decide) (fun K hK => ?_)
   refine goes_ Tryd.func27 (by kernel_rfl) rfl #[.int .i64 ((rd_T35 l0 x12_1).f1)] (by rfl) rfl rfl (by (try simp only [List.map_toArray, List.map_cons, List.map_nil]); first | done | rfl | (simp only [List.length_drop, List.length_take]; rfl)) ?_
   with_reducible refine (spec_l1Num.calls k1 ((rd_T35 l0 x12_1).f1) t248 _ A10.out).mono ?_
   rintro e w19 ⟨rfl, hb⟩;refine ⟨_, rfl, ?_⟩
   have n0_ := zm (blk_below (g := gb246) zk hb);have n1_ := zm (below_step zb hb);clear BK246;clear HB;have BK246 := n0_;have HB := n1_;clear n0_ n1_;(try clear hb);refine hK.out _ _ ⟨(blk_cell BK246.out 0).trans rfl, (blk_cell BK246.out 1).trans rfl⟩ (fun hHeld => ?_)
   clear hK K;refine norm_ (a' := ?_) ?_ ?_;rotate_left
   ·
    show Act.put _ (some 23) _ = _
    simp only [Act.put, zA, zB, zD, i64_w, i32_w]
    rfl
   refine zU 8 24 #[T,T,T,T,T,T,T,T,T,F,F,F] ?_;refine zU 9 25 #[T,T,T,T,T,T,T,T,T,T,F,F] ?_;refine zU 10 26 #[T,T,T,T,T,T,T,T,T,T,T,F] ?_;refine zU 11 4 #[T,T,T,T,T,T,T,T,T,T,T,T] ?_;refine done_ (done_of HT_.out (by kernel_rfl)) ?_
   try go_wp2
   go_roundg k1
   case measure => have := HK1.out; omega
   case rel => exact ⟨(x4_1 ++ (((t247 ++ (⟨#[32]⟩ : ByteArray)) ++ t248) ++ (⟨#[10]⟩ : ByteArray))), (wrap64 (x12_1 + 1)), zz, zz, H', ⟨by have := HK1.out; omega⟩, ⟨zb⟩⟩
def impl_placeOf.l0 : Nat → Int → Int → List (S35) → Int → Int → Option (Int)
  | 0, _, _, _, _, _ => none
  | k + 1, x1, x5, x9, x10, x11 => if x11 < x10 then (if 0 ≤ x11 then (if x11 < (x9.length : Int) then (impl_placeOf.l0 k (wrap64 (x1 - (mn ((rd_T35 x9 x11).f0) x1))) (wrap64 (x5 + (wrap64 ((mn ((rd_T35 x9 x11).f0) x1) * ((rd_T35 x9 x11).f1))))) x9 x10 (wrap64 (x11 + 1))) else (none)) else (none)) else (some x5)
def impl_placeOf.f (k : Nat) (l0 : List (S35)) (a1 : Int) : Option (Int) := impl_placeOf.l0 k a1 0 l0 (l0.length : Int) 0
set_option maxHeartbeats 8000000 in
set_option maxRecDepth 100000 in
theorem impl_placeOf.calls (k : Nat) (A0 : Option Addr) (c0 : Nat) (l0 : List (S35)) (a1 : Int) (r : Int) (w : World) (hr0 : Kd.C k35 w A0 l0.length l0) (hc0 : l0.length ≤ c0) (h : impl_placeOf.f k l0 a1 = some r) :
  Calls Tryd.prog 37 #[.slice A0 l0.length c0, .int .i64 a1] w fun e w' => e = .returned (.int .i64 r) ∧ Below w.heap.size w w' := by
 have hu35 := Tryd.underlying35;have HR0 := zm hr0;have HC0 := zm hc0;clear hr0 hc0;have HB := zm (Below.refl w.heap.size w);have H : (impl_placeOf.l0 k a1 0 l0 (l0.length : Int) 0) = some r := h;clear h;have H' := zm H;clear H;go_enter Tryd.func37, Tryd.ntmps37;go_wp2;go_loopg [1, 5, 11] k (fun kq v1 v5 v11 w' => ∃ (x1_1 : Int) (x5_1 : Int) (x11_1 : Int), v1 = .int .i64 x1_1 ∧ v5 = .int .i64 x5_1 ∧ v11 = .int .i64 x11_1 ∧ Aside0 (impl_placeOf.l0 kq x1_1 x5_1 l0 (l0.length : Int) x11_1 = some r) ∧ Aside0 (kq ≤ k) ∧ Aside0 (Below w.heap.size w w'))
 case atStart => exact ⟨(a1), (0), (0), zz, zz, zz, H', ⟨Nat.le_refl _⟩, ⟨zb⟩⟩
 case round =>
  clear H';try clear p2
  obtain ⟨x1_1, x5_1, x11_1, rfl, rfl, rfl, HA, HK1, HB⟩ := hrel;cases gk with
  | zero => exact absurd HA.out (by simp [impl_placeOf.l0])
  | succ k1 =>
   have H := HA.out;clear HA;simp only [impl_placeOf.l0] at H;by_cases c3 : x11_1 < (l0.length : Int)
   rotate_left
   ·
    rw [if_neg c3] at H;have c3b0 := decide_eq_false c3;clear c3;obtain rfl := Option.some.inj H;go_wp2;go_ret
    exact ⟨zr, zb⟩
   rw [if_pos c3] at H;have c3b0 := decide_eq_true c3;clear c3;obtain ⟨c4, H⟩ := zJ H;have c4b0 := decide_eq_true c4;clear c4;obtain ⟨c5, H⟩ := zJ H;have c5b0 := decide_eq_true c5;clear c5;obtain ⟨ji6, hji6⟩ : ∃ j_ : Int, (mn ((rd_T35 l0 x11_1).f0) x1_1) = j_ := ⟨_, rfl⟩;replace H : (impl_placeOf.l0 k1 (wrap64 (x1_1 - (ji6))) (wrap64 (x5_1 + (wrap64 ((ji6) * ((rd_T35 l0 x11_1).f1))))) l0 (l0.length : Int) (wrap64 (x11_1 + 1))) = some r := by first | (rw [hji6] at H; exact H) | (simp only [hji6] at H ⊢; exact H)
   have hji6_ : (if x1_1 < ((rd_T35 l0 x11_1).f0) then x1_1 else ((rd_T35 l0 x11_1).f0)) = ji6 := hji6
   have H' := zm H;clear H;have p249 : 0 ≤ (x11_1 : Int) := zd;have q249 : x11_1 < (l0.length : Int) := zd;obtain ⟨ad249, e249, hx249_0, hx249_1⟩ := at_T35 HR0.out x11_1 p249 q249;cases e249;replace hx249_0 := zx HB.out hx249_0;replace hx249_1 := zx HB.out hx249_1;replace p249 := eq_true p249;replace q249 := eq_true q249;go_wp2_with (first | ((with_reducible refine gate_dst (N := 7) rfl ?_); refine box_event ?hg (N := 7) ?hd (cs := #[.int .i64 0, .int .i64 0]) (t := 35) ?hr ?_; (case hd => rfl); (case hg => rfl); (case hr => first | (go_simp; done) | (go_simp; rfl)); intro gb250 hg w7 hbox hb; have n0_ := zm (below_step zb hb); have BK250 := zm (hbox); have GW250 := zm (zs hg zb : w.heap.size ≤ gb250); have GE250 := zm (zs hg zb : w.heap.size ≤ gb250); replace HB := n0_; clear n0_; clear hb hbox hg; obtain ⟨hcz8_0, hcz8_1, hfz8_0, hfz8_1⟩ := zc2 BK250.out))
   go_roundg k1
   case measure => have := HK1.out; omega
   case rel => exact ⟨(wrap64 (x1_1 - (ji6))), (wrap64 (x5_1 + (wrap64 ((ji6) * ((rd_T35 l0 x11_1).f1))))), (wrap64 (x11_1 + 1)), (by first | rfl | (simp; done) | (simp only [← hji6] <;> (first | rfl | simp)) | (simp [*]; done)), (by first | rfl | (simp; done) | (simp only [← hji6] <;> (first | rfl | simp)) | (simp [*]; done)), zz, H', ⟨by have := HK1.out; omega⟩, ⟨zb⟩⟩
def impl_errorAt.f (k : Nat) (l0 : List (S35)) (a1 : Int) : Option (Int) := (impl_placeOf.f k l0 a1).bind fun t251 => (some (wrap64 (t251 - (wrap64 (1000 * a1)))))
set_option maxHeartbeats 8000000 in
set_option maxRecDepth 100000 in
theorem impl_errorAt.calls (k : Nat) (A0 : Option Addr) (c0 : Nat) (l0 : List (S35)) (a1 : Int) (r : Int) (w : World) (hr0 : Kd.C k35 w A0 l0.length l0) (hc0 : l0.length ≤ c0) (h : impl_errorAt.f k l0 a1 = some r) :
  Calls Tryd.prog 38 #[.slice A0 l0.length c0, .int .i64 a1] w fun e w' => e = .returned (.int .i64 r) ∧ Below w.heap.size w w' := by
 have HR0 := zm hr0;have HC0 := zm hc0;clear hr0 hc0;have HB := zm (Below.refl w.heap.size w);have H : ((impl_placeOf.f k l0 a1).bind fun t251 => (some (wrap64 (t251 - (wrap64 (1000 * a1)))))) = some r := h;clear h;obtain ⟨t251, A3, H⟩ := zI H;(try dsimp only at H);obtain rfl := Option.some.inj H;go_enter Tryd.func38, Tryd.ntmps38;go_wp2_with (first | ((with_reducible refine gate_callee (f := 37) rfl ?_); refine goesA_ (some 7) Tryd.func37 #[.slice A0 l0.length c0, .int .i64 a1] rfl ?_; (with_reducible refine (impl_placeOf.calls k _ _ l0 a1 t251 _ ?side1 ?side2 A3.out).mono ?_); (case side1 => exact zF HR0.out); (case side2 => exact HC0.out); rintro e w4 ⟨rfl, hb⟩; refine ⟨_, rfl, ?_⟩; replace HB := zm (below_step zb hb); (try clear hb)))
 go_ret
 exact ⟨zr, zb⟩
def impl_errorsOf.l0 : Nat → List (S35) → List Int → List Int → Int → List (S35) → Int → Int → Option (List Int × List Int)
  | 0, _, _, _, _, _, _, _ => none
  | k + 1, x0, x4, x5, x6, x11, x12, x13 => if x13 < x12 then (if 0 ≤ x13 then (if x13 < (x11.length : Int) then ((impl_errorAt.f k x0 (wrap64 (x6 + ((rd_T35 x11 x13).f0)))).bind fun t260 => (if x4.length < 17592186044416 then (if x5.length < 17592186044416 then (impl_errorsOf.l0 k x0 (x4 ++ [t260]) (x5 ++ [wrap64 (x6 + ((rd_T35 x11 x13).f0))]) (wrap64 (x6 + ((rd_T35 x11 x13).f0))) x11 x12 (wrap64 (x13 + 1))) else (none)) else (none))) else (none)) else (none)) else (some (x4, x5))
def impl_errorsOf.f (k : Nat) (l0 : List (S35)) : Option (List Int × List Int) := impl_errorsOf.l0 k l0 (([0] : List Int)) (([0] : List Int)) 0 l0 (l0.length : Int) 0
set_option maxHeartbeats 8000000 in
set_option maxRecDepth 100000 in
theorem impl_errorsOf.calls (k : Nat) (A0 : Option Addr) (c0 : Nat) (l0 : List (S35)) (r1 : List Int) (r2 : List Int) (w : World) (hr0 : Kd.C k35 w A0 l0.length l0) (hc0 : l0.length ≤ c0) (h : impl_errorsOf.f k l0 = some (r1, r2)) :
  Calls Tryd.prog 28 #[.slice A0 l0.length c0] w fun e w' => ∃ v0_ v1_ : Value, e = .returned (.tuple #[v0_, v1_]) ∧ Kd.R (Kd.int .i64) 3 w' w.heap.size (fun k_ => some k_ ≠ (v1_ : Value).ownBlock) v0_ r1 ∧ Kd.R (Kd.int .i64) 3 w' w.heap.size (fun k_ => some k_ ≠ (v0_ : Value).ownBlock) v1_ r2 ∧ Below w.heap.size w w' := by
 have hu35 := Tryd.underlying35;have HR0 := zm hr0;have HC0 := zm hc0;clear hr0 hc0;have HB := zm (Below.refl w.heap.size w);have H : (impl_errorsOf.l0 k l0 (([0] : List Int)) (([0] : List Int)) 0 l0 (l0.length : Int) 0) = some (r1, r2) := h;clear h;obtain ⟨y252, hy252⟩ : ∃ y_ : List Int, y_ = (([0] : List Int)) := ⟨_, rfl⟩;replace H : (impl_errorsOf.l0 k l0 y252 (([0] : List Int)) 0 l0 (l0.length : Int) 0) = some (r1, r2) := by first | (rw [hy252]; with_reducible exact H) | (have H2_ := (Option.bind_some _ _).symm.trans H; rw [hy252]; with_reducible exact H2_) | (have H2_ := (Option.bind_some _ _).symm.trans H; with_reducible exact H2_) | with_reducible exact H | (rw [hy252]; exact H) | exact H
 have Ny252 := zm hy252;clear hy252;obtain ⟨y255, hy255⟩ : ∃ y_ : List Int, y_ = (([0] : List Int)) := ⟨_, rfl⟩;(first | (rw [← hy255] at H; with_reducible replace H := zO H) | rw [← hy255] at H);have Ny255 := zm hy255;clear hy255;have H' := zm H;clear H;go_enter Tryd.func28, Tryd.ntmps28;go_wp2_with (first | ((with_reducible refine gate_dst (N := 9) rfl ?_); refine Kd.R_lit (Kd.int .i64) _ 3 ?hg (N := 9) ?hd (xs := ([0] : List Int)) (inner := [.int .i64 0]) (ok := fun _ => True) (okp := fun _ => True) ?hr ?hp (fun _ hk => hk) trivial (Below.refl _ _) (Nat.le_refl _) (by simp) ?_; (case hd => rfl); (case hg => rfl); (case hr => first | (go_simp; done) | (go_simp; rfl)); (case hp => exact (Reps.one (show Kd.M (Kd.int .i64) _ _ _ 0 [.int .i64 0] from rfl) (Reps.none _ _))); intro v253 w2 ho3 hb hg_ hnew_; clear hg_ hnew_; (first | rw [← Ny252.out] at ho3 | (simp only [Int.reduceToNat] at ho3; rw [← Ny252.out] at ho3)); have HO254 := zm (Kd.R_lower ho3 (below_size zb)); replace HB := zm (below_step zb hb); clear hb ho3) | ((with_reducible refine gate_dst (N := 10) rfl ?_); refine Kd.R_lit (Kd.int .i64) _ 3 ?hg (N := 10) ?hd (xs := ([0] : List Int)) (inner := [.int .i64 0]) (ok := fun _ => True) (okp := fun _ => True) ?hr ?hp (fun _ hk => hk) trivial (Below.refl _ _) (Nat.le_refl _) (by simp) ?_; (case hd => rfl); (case hg => rfl); (case hr => first | (go_simp; done) | (go_simp; rfl)); (case hp => exact (Reps.one (show Kd.M (Kd.int .i64) _ _ _ 0 [.int .i64 0] from rfl) (Reps.none _ _))); intro v256 w4 ho5 hb hg_ hnew_; clear hg_ hnew_; (first | rw [← Ny255.out] at ho5 | (simp only [Int.reduceToNat] at ho5; rw [← Ny255.out] at ho5)); have n0_ := zm (Kd.R_elder' (zP HO254.out) (Kd.R_base ho5) hb); have HO257 := zm (Kd.R_lower (Kd.R_new' ho5 (Kd.R_lt (zP HO254.out))) (below_size zb)); replace HB := zm (below_step zb hb); replace HO254 := n0_; clear n0_; clear hb ho5))
 go_loopg [4, 5, 6, 13] k (fun kq v4 v5 v6 v13 w' => ∃ (x4_1 : List Int) (x5_1 : List Int) (x6_1 : Int) (x13_1 : Int), v6 = .int .i64 x6_1 ∧ v13 = .int .i64 x13_1 ∧ Aside0 (impl_errorsOf.l0 kq l0 x4_1 x5_1 x6_1 l0 (l0.length : Int) x13_1 = some (r1, r2)) ∧ Aside0 (kq ≤ k) ∧ Aside0 (Kd.R (Kd.int .i64) 3 w' w.heap.size (fun k_ => some k_ ≠ (v5 : Value).ownBlock) v4 x4_1) ∧ Aside0 (Kd.R (Kd.int .i64) 3 w' w.heap.size (fun k_ => some k_ ≠ (v4 : Value).ownBlock) v5 x5_1) ∧ Aside0 (Below w.heap.size w w'))
 case atStart => exact ⟨(y252), (y255), (0), (0), zz, zz, H', ⟨Nat.le_refl _⟩, ⟨zP (Kd.R_mono HO254.out (fun _ hk => hk.2))⟩, ⟨zP (Kd.R_mono HO257.out (fun _ hk => hk.2))⟩, ⟨zb⟩⟩
 case round =>
  clear H';(try clear p2);obtain ⟨x4_1, x5_1, x6_1, x13_1, rfl, rfl, HA, HK1, HO_4, HO_5, HB⟩ := hrel;cases gk with
  | zero => exact absurd HA.out (by simp [impl_errorsOf.l0])
  | succ k1 =>
   have H := HA.out;clear HA;simp only [impl_errorsOf.l0] at H;by_cases c6 : x13_1 < (l0.length : Int)
   rotate_left
   ·
    rw [if_neg c6] at H;have c6b0 := decide_eq_false c6;clear c6;simp only [Option.some.injEq, Prod.mk.injEq] at H;obtain ⟨rfl, rfl⟩ := H;go_wp2;go_ret2
    exact ⟨_, _, zr, zP HO_4.out, zP HO_5.out, zb⟩
   rw [if_pos c6] at H;have c6b0 := decide_eq_true c6;clear c6;obtain ⟨c7, H⟩ := zJ H;have c7b0 := decide_eq_true c7;clear c7;obtain ⟨c8, H⟩ := zJ H;have c8b0 := decide_eq_true c8;clear c8;obtain ⟨t260, A9, H⟩ := zI H;(try dsimp only at H);obtain ⟨c10, H⟩ := zJ H;have LMc10 := zm c10;clear c10;obtain ⟨y261, hy261⟩ : ∃ y_ : List Int, y_ = (x4_1 ++ [t260]) := ⟨_, rfl⟩;(first | (rw [← hy261] at H; with_reducible replace H := zO H) | rw [← hy261] at H);have Ny261 := zm hy261;clear hy261;obtain ⟨c11, H⟩ := zJ H;have LMc11 := zm c11;clear c11;obtain ⟨y264, hy264⟩ : ∃ y_ : List Int, y_ = (x5_1 ++ [wrap64 (x6_1 + ((rd_T35 l0 x13_1).f0))]) := ⟨_, rfl⟩;(first | (rw [← hy264] at H; with_reducible replace H := zO H) | rw [← hy264] at H);have Ny264 := zm hy264;clear hy264;have H' := zm H;clear H;have p258 : 0 ≤ (x13_1 : Int) := zd;have q258 : x13_1 < (l0.length : Int) := zd;obtain ⟨ad258, e258, hx258_0, hx258_1⟩ := at_T35 HR0.out x13_1 p258 q258;cases e258;replace hx258_0 := zx HB.out hx258_0;replace hx258_1 := zx HB.out hx258_1;replace p258 := eq_true p258;replace q258 := eq_true q258;go_wp2_with (first | ((with_reducible refine gate_dst (N := 8) rfl ?_); refine box_event ?hg (N := 8) ?hd (cs := #[.int .i64 0, .int .i64 0]) (t := 35) ?hr ?_; (case hd => rfl); (case hg => rfl); (case hr => first | (go_simp; done) | (go_simp; rfl)); intro gb259 hg w12 hbox hb; replace HO_4 := zm (Kd.R_below (zP HO_4.out) hb); replace HO_5 := zm (Kd.R_below (zP HO_5.out) hb); have n2_ := zm (below_step zb hb); have BK259 := zm (hbox); have GW259 := zm (zs hg zb : w.heap.size ≤ gb259); have GE259 := zm (zs hg zb : w.heap.size ≤ gb259); replace HB := n2_; clear n2_; clear hb hbox hg; obtain ⟨hcz13_0, hcz13_1, hfz13_0, hfz13_1⟩ := zc2 BK259.out) | ((with_reducible refine gate_callee (f := 38) rfl ?_); refine goesA_ (some 24) Tryd.func38 #[.slice (some ad258) l0.length c0, .int .i64 (wrap64 (x6_1 + ((rd_T35 l0 x13_1).f0)))] rfl ?_; (with_reducible refine (impl_errorAt.calls k1 _ _ l0 (wrap64 (x6_1 + ((rd_T35 l0 x13_1).f0))) t260 _ ?side1 ?side2 A9.out).mono ?_); (case side1 => exact Kd.C_below HR0.out zb); (case side2 => exact HC0.out); rintro e w14 ⟨rfl, hb⟩; refine ⟨_, rfl, ?_⟩; replace HO_4 := zm (Kd.R_below (zP ((Kd.R_mono (Kd.R_far (p := ⟨gb259, 1, none⟩) (Kd.R_far (p := ⟨gb259, 0, none⟩) (Kd.R_types HO_4.out BK259.out (by decide)) (fun _ hk => hk.2) (.int .i64 ((rd_T35 l0 x13_1).f0))) (fun _ hk => hk.2) (.int .i64 ((rd_T35 l0 x13_1).f1))) (fun _ h_ => h_.1)))) hb); replace HO_5 := zm (Kd.R_below (zP ((Kd.R_mono (Kd.R_far (p := ⟨gb259, 1, none⟩) (Kd.R_far (p := ⟨gb259, 0, none⟩) (Kd.R_types HO_5.out BK259.out (by decide)) (fun _ hk => hk.2) (.int .i64 ((rd_T35 l0 x13_1).f0))) (fun _ hk => hk.2) (.int .i64 ((rd_T35 l0 x13_1).f1))) (fun _ h_ => h_.1)))) hb); replace BK259 := zm (blk_below (g := gb259) (o := .cells #[.int .i64 ((rd_T35 l0 x13_1).f0), .int .i64 ((rd_T35 l0 x13_1).f1)] 35 (0, 0)) (by (with_reducible repeat (first | refine blk_drewN ?_ _ | refine blk_drew ?_ | refine blk_alloc ?_ _)); refine blk_put (cs := #[.int .i64 ((rd_T35 l0 x13_1).f0), .int .i64 0]) ?_ 1 _ rfl; (with_reducible repeat (first | refine blk_drewN ?_ _ | refine blk_drew ?_ | refine blk_alloc ?_ _)); refine blk_put (cs := #[.int .i64 0, .int .i64 0]) ?_ 0 _ rfl; (with_reducible repeat (first | refine blk_drewN ?_ _ | refine blk_drew ?_ | refine blk_alloc ?_ _)); exact BK259.out) hb); replace HB := zm (below_step zb hb); (try clear hb); (try clear hk)) | ((with_reducible refine gate_builtin (b := .append) (xs := #[.tmp 21, .tmp 25]) rfl ?_); at_builtin; refine Kd.R_append (Kd.int .i64) (w0 := w) w.heap.size rfl (.tmp 21) (.tmp 25) 53 3 (.int .i64 0) 8 rfl Tryd.underlying53 info3 rfl (by decide) (by omega) u4 x4_1 t260 [.int .i64 t260] (fun k_ => some k_ ≠ (u5 : Value).ownBlock) (fun _ => False) rfl rfl ?aP (fun _ hk => hk.elim) ?aF ?aO ?aB ?aS ?aL ?_; (case aP => exact rfl); (case aB => exact zb); (case aF => exact (fun k_ hk => Kd.fresh' (Kd.R_lt (zP HO_5.out)) k_ hk)); (case aO => exact (zP HO_4.out)); (case aS => exact (below_size zb)); (case aL => have := LMc10.out; omega); intro v262 w15 ho hb hg hat; rw [← Ny261.out] at ho; replace HO_5 := zm (Kd.R_after (ok := (fun _ => True)) (zP (Kd.R_mono HO_5.out (fun _ hk => ⟨trivial, hk⟩))) hg hat); replace BK259 := zm (blk_grown (g := gb259) (o := .cells #[.int .i64 ((rd_T35 l0 x13_1).f0), .int .i64 ((rd_T35 l0 x13_1).f1)] 35 (0, 0)) zk hg (Kd.R_ne HO_4.out BK259.out (by decide))); replace HB := zm (hb); have HO263 := zm (ho); clear HO_4; clear ho hb hg hat) | ((with_reducible refine gate_builtin (b := .append) (xs := #[.tmp 27, .tmp 29]) rfl ?_); at_builtin; refine Kd.R_append (Kd.int .i64) (w0 := w) w.heap.size rfl (.tmp 27) (.tmp 29) 53 3 (.int .i64 0) 8 rfl Tryd.underlying53 info3 rfl (by decide) (by omega) u5 x5_1 (wrap64 (x6_1 + ((rd_T35 l0 x13_1).f0))) [.int .i64 (wrap64 (x6_1 + ((rd_T35 l0 x13_1).f0)))] (fun k_ => some k_ ≠ (v262 : Value).ownBlock) (fun _ => False) rfl rfl ?aP (fun _ hk => hk.elim) ?aF ?aO ?aB ?aS ?aL ?_; (case aP => exact rfl); (case aB => exact zb); (case aF => exact (fun k_ hk => Kd.fresh' (Kd.R_lt (zP HO263.out)) k_ hk)); (case aO => exact (zP (zM HO_5.out))); (case aS => exact (below_size zb)); (case aL => have := LMc11.out; omega); intro v265 w16 ho hb hg hat; rw [← Ny264.out] at ho; replace BK259 := zm (blk_grown (g := gb259) (o := .cells #[.int .i64 ((rd_T35 l0 x13_1).f0), .int .i64 ((rd_T35 l0 x13_1).f1)] 35 (0, 0)) zk hg (Kd.R_ne HO_5.out BK259.out (by decide))); replace HO263 := zm (Kd.R_after (ok := (fun _ => True)) (zP (Kd.R_mono HO263.out (fun _ hk => ⟨trivial, hk⟩))) hg hat); replace HB := zm (hb); have HO266 := zm (ho); clear HO_5; clear ho hb hg hat))
   go_roundg k1
   case measure => have := HK1.out; omega
   case rel => exact ⟨(y261), (y264), (wrap64 (x6_1 + ((rd_T35 l0 x13_1).f0))), (wrap64 (x13_1 + 1)), zz, zz, H', ⟨by have := HK1.out; omega⟩, ⟨zP (Kd.R_mono HO263.out (fun _ hk => hk.2))⟩, ⟨zP HO266.out⟩, ⟨zb⟩⟩
def impl_floorDiv.f (a0 : Int) (a1 : Int) : Option (Int) := if a1 = 0 then (none) else (if (Int.tmod a0 a1) = 0 then (some (wrap64 (Int.tdiv a0 a1))) else (if ((decide (a0 < 0)) != (decide (a1 < 0))) = true then (some (wrap64 ((wrap64 (Int.tdiv a0 a1)) - 1))) else (some (wrap64 (Int.tdiv a0 a1)))))
set_option maxHeartbeats 8000000 in
set_option maxRecDepth 100000 in
theorem impl_floorDiv.calls (a0 : Int) (a1 : Int) (r : Int) (w : World) (h : impl_floorDiv.f a0 a1 = some r) :
  Calls Tryd.prog 29 #[.int .i64 a0, .int .i64 a1] w fun e w' => e = .returned (.int .i64 r) ∧ Drawn0 w w' := by
 have H : (if a1 = 0 then (none) else (if (Int.tmod a0 a1) = 0 then (some (wrap64 (Int.tdiv a0 a1))) else (if ((decide (a0 < 0)) != (decide (a1 < 0))) = true then (some (wrap64 ((wrap64 (Int.tdiv a0 a1)) - 1))) else (some (wrap64 (Int.tdiv a0 a1)))))) = some r := h;clear h;by_cases c3 : a1 = 0
 ·
  rw [if_pos c3] at H;exact absurd H (by simp)
 rw [if_neg c3] at H;have c3b0 : (a1 == 0) = false := beq_eq_false_iff_ne.mpr c3;have c3b1 : (a1 != 0) = true := bne_iff_ne.mpr c3;by_cases c4 : (Int.tmod a0 a1) = 0
 ·
  rw [if_pos c4] at H;have c4b0 : ((Int.tmod a0 a1) == 0) = true := beq_iff_eq.mpr c4;have c4b1 : ((Int.tmod a0 a1) != 0) = false := bne_eq_false_iff_eq.mpr c4;clear c4;obtain rfl := Option.some.inj H;go_enter Tryd.func29, Tryd.ntmps29;go_wp2;go_ret
  exact ⟨zz, zw⟩
 rw [if_neg c4] at H;have c4b0 : ((Int.tmod a0 a1) == 0) = false := beq_eq_false_iff_ne.mpr c4;have c4b1 : ((Int.tmod a0 a1) != 0) = true := bne_iff_ne.mpr c4;by_cases c5 : ((decide (a0 < 0)) != (decide (a1 < 0))) = true
 rotate_left
 ·
  rw [if_neg c5] at H;have c5b0 : ((decide (a0 < 0)) != (decide (a1 < 0))) = false := by simpa using c5
  (try (have c5b1 : decide ((decide (a0 < 0)) = (decide (a1 < 0))) = true := by simpa using c5));(try (have c5b2 : ((decide (a0 < 0)) == (decide (a1 < 0))) = true := by simpa using c5));clear c5;obtain rfl := Option.some.inj H;go_enter Tryd.func29, Tryd.ntmps29;go_wp2;go_ret
  exact ⟨zz, zw⟩
 rw [if_pos c5] at H;have c5b0 : ((decide (a0 < 0)) != (decide (a1 < 0))) = true := c5;(try (have c5b1 : decide ((decide (a0 < 0)) = (decide (a1 < 0))) = false := by simpa using c5));(try (have c5b2 : ((decide (a0 < 0)) == (decide (a1 < 0))) = false := by simpa using c5));(try (have c5b3 : ¬ ((decide (a0 < 0)) = (decide (a1 < 0))) := by simpa using c5));clear c5;obtain rfl := Option.some.inj H;go_enter Tryd.func29, Tryd.ntmps29;go_wp2;go_ret
 exact ⟨zz, zw⟩
def impl_BestOffset.l0 : Nat → Int → Int → List Int → Int → Int → Option (Int × Int × Bool)
  | 0, _, _, _, _, _ => none
  | k + 1, x7, x8, x20, x21, x22 => if x22 < x21 then (if 0 ≤ x22 then (if x22 < (x20.length : Int) then (impl_BestOffset.l0 k (mn x7 (rd x20 x22)) (mx x8 (rd x20 x22)) x20 x21 (wrap64 (x22 + 1))) else (none)) else (none)) else ((impl_floorDiv.f (wrap64 ((wrap64 (-x7)) - x8)) 2).bind fun t275 => (some (t275, mx (wrap64 (x8 + t275)) (wrap64 ((wrap64 (-x7)) - t275)), true)))
def impl_BestOffset.f (k : Nat) (l0 : List (S35)) : Option (Int × Int × Bool) := (impl_AreSegments.f k l0).bind fun t267 => (if t267 = true then ((impl_errorsOf.f k l0).bind fun bt268 => (impl_BestOffset.l0 k 0 0 bt268.1 (bt268.1.length : Int) 0)) else (some (0, 0, false)))
set_option maxHeartbeats 8000000 in
set_option maxRecDepth 100000 in
theorem impl_BestOffset.calls (k : Nat) (A0 : Option Addr) (c0 : Nat) (l0 : List (S35)) (r1 : Int) (r2 : Int) (r3 : Bool) (w : World) (hr0 : Kd.C k35 w A0 l0.length l0) (hc0 : l0.length ≤ c0) (h : impl_BestOffset.f k l0 = some (r1, r2, r3)) :
  Calls Tryd.prog 10 #[.slice A0 l0.length c0] w fun e w' => e = .returned (.tuple #[.int .i64 r1, .int .i64 r2, .bool r3]) ∧ Below w.heap.size w w' := by
 have HR0 := zm hr0;have HC0 := zm hc0;clear hr0 hc0;have HB := zm (Below.refl w.heap.size w);have H : ((impl_AreSegments.f k l0).bind fun t267 => (if t267 = true then ((impl_errorsOf.f k l0).bind fun bt268 => (impl_BestOffset.l0 k 0 0 bt268.1 (bt268.1.length : Int) 0)) else (some (0, 0, false)))) = some (r1, r2, r3) := h;clear h;obtain ⟨t267, A2, H⟩ := zI H;(try dsimp only at H);by_cases c3 : t267 = true
 rotate_left
 ·
  replace c3 := Bool.eq_false_iff.mpr c3;subst c3;rw [if_neg (show ¬ (false = true) by decide)] at H;simp only [Option.some.injEq, Prod.mk.injEq] at H;obtain ⟨rfl, rfl, rfl⟩ := H;go_enter Tryd.func10, Tryd.ntmps10;go_wp2_with (first | ((with_reducible refine gate_callee (f := 13) rfl ?_); refine goesA_ (some 13) Tryd.func13 #[.slice A0 l0.length c0] rfl ?_; (with_reducible refine (impl_AreSegments.calls k _ _ l0 false _ ?side1 ?side2 A2.out).mono ?_); (case side1 => exact zF HR0.out); (case side2 => exact HC0.out); rintro e w15 ⟨rfl, hb⟩; refine ⟨_, rfl, ?_⟩; replace HB := zm (below_step zb hb); (try clear hb)))
  go_ret3
  exact ⟨zr, zb⟩
 subst c3;rw [if_pos rfl] at H;obtain ⟨⟨t268, t269⟩, A4, H⟩ := zI H;(try dsimp only at H);have H' := zm H;clear H;go_enter Tryd.func10, Tryd.ntmps10;go_wp2_with (first | ((with_reducible refine gate_callee (f := 13) rfl ?_); refine goesA_ (some 13) Tryd.func13 #[.slice A0 l0.length c0] rfl ?_; (with_reducible refine (impl_AreSegments.calls k _ _ l0 true _ ?side1 ?side2 A2.out).mono ?_); (case side1 => exact zF HR0.out); (case side2 => exact HC0.out); rintro e w5 ⟨rfl, hb⟩; refine ⟨_, rfl, ?_⟩; replace HB := zm (below_step zb hb); (try clear hb)) | ((with_reducible refine gate_callee (f := 28) rfl ?_); refine goesA_ (some 17) Tryd.func28 #[.slice A0 l0.length c0] rfl ?_; (with_reducible refine (impl_errorsOf.calls k _ _ l0 t268 t269 _ ?side1 ?side2 A4.out).mono ?_); (case side1 => exact zC HR0.out); (case side2 => exact HC0.out); rintro e w6 ⟨v270, v272, rfl, ho0, ho1, hb⟩; refine ⟨_, rfl, ?_⟩; have HO271 := zm (Kd.R_lower ho0 (below_size zb)); have HO273 := zm (Kd.R_lower ho1 (below_size zb)); replace HB := zm (below_step zb hb); (try clear hb); (try clear ho0); (try clear ho1); obtain ⟨Ao7, co7, eo7⟩ := Kd.R_slice HO271.out; subst eo7))
 go_loopg [7, 8, 22] k (fun kq v7 v8 v22 w' => ∃ (x7_1 : Int) (x8_1 : Int) (x22_1 : Int), v7 = .int .i64 x7_1 ∧ v8 = .int .i64 x8_1 ∧ v22 = .int .i64 x22_1 ∧ Aside0 (impl_BestOffset.l0 kq x7_1 x8_1 t268 (t268.length : Int) x22_1 = some (r1, r2, r3)) ∧ Aside0 (kq ≤ k) ∧ Aside0 (Kd.R (Kd.int .i64) 3 w' w.heap.size (fun _ => True) (.slice Ao7 t268.length co7) t268) ∧ Aside0 (Below w.heap.size w w'))
 case atStart => exact ⟨(0), (0), (0), zz, zz, zz, H', ⟨Nat.le_refl _⟩, ⟨zP (Kd.R_mono HO271.out (fun _ hk => trivial))⟩, ⟨zb⟩⟩
 case round =>
  clear H';(try clear p2);obtain ⟨x7_1, x8_1, x22_1, rfl, rfl, rfl, HA, HK1, HO_20, HB⟩ := hrel;cases gk with
  | zero => exact absurd HA.out (by simp [impl_BestOffset.l0])
  | succ k1 =>
   have H := HA.out;clear HA;simp only [impl_BestOffset.l0] at H;by_cases c8 : x22_1 < (t268.length : Int)
   rotate_left
   ·
    rw [if_neg c8] at H;have c8b0 := decide_eq_false c8;clear c8;obtain ⟨t275, A13, H⟩ := zI H;(try dsimp only at H);obtain ⟨ji14, hji14⟩ : ∃ j_ : Int, (mx (wrap64 (x8_1 + t275)) (wrap64 ((wrap64 (-x7_1)) - t275))) = j_ := ⟨_, rfl⟩;replace H : (some (t275, ji14, true)) = some (r1, r2, r3) := by first | (rw [hji14] at H; exact H) | (simp only [hji14] at H ⊢; exact H)
    (try rw [hji14] at A13);have hji14_ : (if (wrap64 (x8_1 + t275)) < (wrap64 ((wrap64 (-x7_1)) - t275)) then (wrap64 ((wrap64 (-x7_1)) - t275)) else (wrap64 (x8_1 + t275))) = ji14 := hji14
    simp only [Option.some.injEq, Prod.mk.injEq] at H;obtain ⟨rfl, rfl, rfl⟩ := H;go_wp2_with (first | ((with_reducible refine gate_callee (f := 29) rfl ?_); refine goesA_ (some 37) Tryd.func29 #[.int .i64 (wrap64 ((wrap64 (-x7_1)) - x8_1)), .int .i64 2] rfl ?_; (with_reducible refine (impl_floorDiv.calls (wrap64 ((wrap64 (-x7_1)) - x8_1)) 2 t275 _ A13.out).mono ?_); rintro e w' ⟨rfl, ⟨nd, rfl⟩⟩; refine ⟨_, rfl, ?_⟩))
    go_ret3
    exact ⟨by first | rfl | (simp [errW_none, errW_some] <;> rfl) | (simp only [← hji14]; first | rfl | (simp [errW_none, errW_some] <;> rfl)) | (simp [*, errW_none, errW_some] <;> rfl), zb⟩
   rw [if_pos c8] at H;have c8b0 := decide_eq_true c8;clear c8;obtain ⟨c9, H⟩ := zJ H;have c9b0 := decide_eq_true c9;clear c9;obtain ⟨c10, H⟩ := zJ H;have c10b0 := decide_eq_true c10;clear c10;obtain ⟨ji11, hji11⟩ : ∃ j_ : Int, (mn x7_1 (rd t268 x22_1)) = j_ := ⟨_, rfl⟩;replace H : (impl_BestOffset.l0 k1 ji11 (mx x8_1 (rd t268 x22_1)) t268 (t268.length : Int) (wrap64 (x22_1 + 1))) = some (r1, r2, r3) := by first | (rw [hji11] at H; exact H) | (simp only [hji11] at H ⊢; exact H)
   have hji11_ : (if (rd t268 x22_1) < x7_1 then (rd t268 x22_1) else x7_1) = ji11 := hji11
   obtain ⟨ji12, hji12⟩ : ∃ j_ : Int, (mx x8_1 (rd t268 x22_1)) = j_ := ⟨_, rfl⟩;replace H : (impl_BestOffset.l0 k1 ji11 ji12 t268 (t268.length : Int) (wrap64 (x22_1 + 1))) = some (r1, r2, r3) := by first | (rw [hji12] at H; exact H) | (simp only [hji12] at H ⊢; exact H)
   have hji12_ : (if x8_1 < (rd t268 x22_1) then (rd t268 x22_1) else x8_1) = ji12 := hji12
   have H' := zm H;clear H;have p274 : 0 ≤ (x22_1 : Int) := zd;have q274 : x22_1 < (t268.length : Int) := zd;obtain ⟨ad274, e274, hx274_0⟩ := Kd.at_int (Kd.R_reads' HO_20.out).2.2 x22_1 p274 q274;cases e274;replace p274 := eq_true p274;replace q274 := eq_true q274;go_wp2;go_roundg k1
   case measure => have := HK1.out; omega
   case rel => exact ⟨(ji11), (ji12), (wrap64 (x22_1 + 1)), (by first | rfl | (simp; done) | (simp only [← hji11] <;> (first | rfl | simp)) | (simp [*]; done)), (by first | rfl | (simp; done) | (simp only [← hji12] <;> (first | rfl | simp)) | (simp [*]; done)), zz, H', ⟨by have := HK1.out; omega⟩, ⟨zP HO_20.out⟩, ⟨zb⟩⟩
end Go.Proofs.YtbgbmjagcdnloaaDoor.PSg
