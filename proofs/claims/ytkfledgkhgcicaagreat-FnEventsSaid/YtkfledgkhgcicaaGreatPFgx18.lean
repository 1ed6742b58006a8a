import Derived.Test.YtkfledgkhgcicaaGreatPFgx0
import Derived.Test.YtkfledgkhgcicaaGreatPFgx2
import Derived.Test.YtkfledgkhgcicaaGreatPFgx4
import Derived.Test.YtkfledgkhgcicaaGreatPFgx10
import Derived.Test.YtkfledgkhgcicaaGreatPFgx16
import Derived.Test.YtkfledgkhgcicaaGreatPFgx17
namespace Go.Proofs.YtkfledgkhgcicaaGreat.PFg
open Go.RowKit Go.Proofs.YtkfledgkhgcicaaGreatW.PrintWords Go.Proofs.YtkfledgkhgcicaaGreatW.PrintLast Go.Proofs.YtkfledgkhgcicaaGreatW.PrintMore
attribute [local go_sem] P8 P5 E5 E8 M4 M0 P6 P7   -- for this text's walks alone
set_option linter.unusedVariables false
set_option linter.unusedSimpArgs false
set_option maxHeartbeats 8000000 in
set_option maxRecDepth 100000 in
theorem d9.calls (k : Nat) (A0 : Option Addr) (c0 : Nat) (l0 : List (List Int)) (r1 : List (S48)) (r2 : Bool) (w : World) (hr0 : Kd.C (Kd.slice 3 (Kd.int .i64)) w A0 l0.length l0) (hc0 : l0.length ≤ c0) (h : d9.f k l0 = some (r1, r2)) :
  Calls Tryz.prog 21 #[.slice A0 l0.length c0] w fun e w' => ∃ v0_ : Value, e = .returned (.tuple #[v0_, .bool r2]) ∧ Kd.R k48 48 w' w.heap.size (fun _ => True) v0_ r1 ∧ Below w.heap.size w w' := by
 have hu48 := Tryz.underlying48;have HR0 := zm hr0;have HC0 := zm hc0;clear hr0 hc0;have HB := zm (Below.refl w.heap.size w);have H : (if (l0.length : Int) > 120 then (some (([] : List (S48)), false)) else (if 20 ≤ 35184372088832 then ((some (List.replicate 20 0 : List Int)).bind fun y543 => (d9.l0 k l0 y543 (y543.length : Int) 0)) else (none))) = some (r1, r2) := h;clear h;by_cases c2 : (l0.length : Int) > 120
 ·
  rw [if_pos c2] at H;have c2b0 : decide (120 < (l0.length : Int)) = true := decide_eq_true c2;have c2b1 : decide (120 < l0.length) = true := decide_eq_true (by omega);clear c2;simp only [Option.some.injEq, Prod.mk.injEq] at H;obtain ⟨rfl, rfl⟩ := H;go_enter Tryz.func21, Tryz.ntmps21;go_wp2;go_ret2
  exact ⟨_, zr, by first | exact Kd.U8 _ _ _ _ _ | exact Kd.q0r _ _ _ _ _ | exact Kd.q0q _ _ _ _ _ | exact Kd.q0s _ _ _ _ _ | exact Kd.q0t _ _ _ _ _, zb⟩
 rw [if_neg c2] at H;have c2b0 : decide (120 < (l0.length : Int)) = false := decide_eq_false c2;have c2b1 : decide (120 < l0.length) = false := decide_eq_false (by omega);clear c2;obtain ⟨c3, H⟩ := zJ H;have c3b0 := eq_true c3;have c3b1 := decide_eq_true c3;clear c3;obtain ⟨y543, hy543⟩ : ∃ y_ : List Int, y_ = (List.replicate 20 0) := ⟨_, rfl⟩;(first | (rw [← hy543] at H; with_reducible replace H := zO H) | rw [← hy543] at H);have Ny543 := zm hy543;clear hy543;have H' := zm H;clear H;go_enter Tryz.func21, Tryz.ntmps21;go_wp2_with (first | ((with_reducible refine Q6 (N := 17) rfl ?_); refine Kd.v8q (Kd.int .i64) _ 3 rfl (N := 17) rfl 33 _ _ rfl 20 rfl rfl Tryz.underlying33 (.int .i64 0) 8 info3 rfl (by decide) (by omega) 0 (ok := fun _ => True) (okp := fun _ => True) rfl (fun _ hk => hk) trivial (by omega) (by omega) (Below.refl _ _) (Nat.le_refl _) ?_; intro v544 w4 ho5 hb hg_ hnew_; clear hg_ hnew_; (first | rw [← Ny543.out] at ho5 | (simp only [Int.reduceToNat] at ho5; rw [← Ny543.out] at ho5)); have HO545 := zm (Kd.V4 ho5 (p8 zb)); replace HB := zm (q9 zb hb); clear hb ho5; obtain ⟨Ao6, co6, eo6⟩ := Kd.V6 HO545.out; subst eo6))
 go_loopg [20] k (fun kq v20 w' => ∃ (x5_1 : List Int) (x20_1 : Int), v20 = .int .i64 x20_1 ∧ z8 (d9.l0 kq l0 x5_1 (y543.length : Int) x20_1 = some (r1, r2)) ∧ z8 (kq ≤ k) ∧ z8 (Kd.R (Kd.int .i64) 3 w' w.heap.size (fun _ => True) (.slice Ao6 y543.length co6) x5_1) ∧ z8 (Below w.heap.size w w'))
 case atStart => exact ⟨(y543), (0), zz, H', ⟨Nat.le_refl _⟩, ⟨zP HO545.out⟩, ⟨zb⟩⟩
 case round =>
  clear H';(try clear c2b0); (try clear c2b1); (try clear p2); (try clear c3b0); (try clear c3b1);obtain ⟨x5_1, x20_1, rfl, HA, HK1, HO_5, HB⟩ := hrel;have hl5_1 := (Kd.y9 HO_5.out).1;rw [hl5_1] at HO_5;(try simp only [hl5_1]);cases gk with
  | zero => exact absurd HA.out (by simp [d9.l0])
  | succ k1 =>
   have H := HA.out;clear HA;simp only [d9.l0] at H;by_cases c7 : x20_1 < (y543.length : Int)
   ·
    rw [if_pos c7] at H;have c7b0 := decide_eq_true c7;clear c7;obtain ⟨c8, H⟩ := zJ H;have c8b0 := decide_eq_true c8;clear c8;obtain ⟨c9, H⟩ := zJ H;have c9b0 := decide_eq_true c9;clear c9;obtain ⟨y546, hy546⟩ : ∃ y_ : List Int, y_ = (x5_1.set (x20_1 : Int).toNat (-1)) := ⟨_, rfl⟩;(first | (rw [← hy546] at H; with_reducible replace H := zO H) | rw [← hy546] at H);have Ny546 := zm hy546;clear hy546;have H' := zm H;clear H;have p10 : 0 ≤ (x20_1 : Int) := zd;have q10 : (x20_1 : Int) < ((x5_1.length : Int) : Int) := zd;obtain ⟨go10, co10, eo10, gb10, gl10, cl10, HG10⟩ := Kd.q30 HO_5.out (by omega);(first | cases eo10 | (injection eo10 with ea_ en_ ec_; (first | subst ea_ | (injection ea_ with ea_; subst ea_)); subst ec_; clear en_));have GB10 := zm gb10;have GG10 := zm HG10;clear gb10 gl10 HG10;obtain ⟨hx10_0, hf10_0⟩ := Kd.q3v 0 HO_5.out (x20_1 : Int) p10 q10;replace p10 := eq_true p10;replace q10 := eq_true q10;have HP11 := Kd.v04 HO_5.out (x20_1 : Int) (-1);go_wp2_with (first | ((with_reducible refine q2c (t := 3) (p := 25) rfl ?_); refine q1r (t := 3) (p := 25) (v := ?vo_w12) (w1 := (wr.setCell ⟨go10, (x20_1 : Int).toNat, none⟩ (.int .i64 (-1)))) ?hg ?ho ?hn ?hr ?_; (case ho => rfl); (case hg => rfl); (case hn => rfl); (case hr => first | (go_simp; done) | (go_simp; rfl)); intro w12 hw; have hg : wr.grownBy w12 (some go10) := (by rw [hw]; exact HP11.2); have hp_ : Kd.R (Kd.int .i64) 3 w12 w.heap.size (fun _ => True) (.slice (some ⟨go10, 0, none⟩) x5_1.length co6) y546 := (by rw [hw, Ny546.out]; exact HP11.1); clear HP11; replace HO_5 := zm (hp_); replace HB := zm ((by rw [hw]; exact q05 (HB.out) GB10.out : Below w.heap.size w w12)); clear hg hw hp_))
    (try simp only [← hl5_1]);go_roundg k1
    case measure => have := HK1.out; omega
    case rel => exact ⟨(y546), (wrap64 (x20_1 + 1)), zz, H', ⟨by have := HK1.out; omega⟩, ⟨by (try simp only [hl5_1]); (with_reducible repeat (first | apply Kd.P9 | apply Kd.R4 | apply Kd.K7)); exact HO_5.out⟩, ⟨zb⟩⟩
   rw [if_neg c7] at H;have c7b0 := decide_eq_false c7;(try (have c7z0 := c7b0; simp only [hl5_1] at c7z0));clear c7;have H' := zm H;clear H;go_wp2;go_loopg [4, 29] k1 (fun kq v4 v29 w' => ∃ (x4_2 : List (S48)) (x5_2 : List Int) (x29_2 : Int), v29 = .int .i64 x29_2 ∧ z8 (d9.l1 kq l0 x4_2 x5_2 l0 (l0.length : Int) x29_2 = some (r1, r2)) ∧ z8 (kq ≤ k1) ∧ z8 (Kd.R k48 48 w' w.heap.size (fun _ => True) v4 x4_2) ∧ z8 (Kd.R (Kd.int .i64) 3 w' w.heap.size (fun _ => True) (.slice Ao6 x5_1.length co6) x5_2) ∧ z8 (Below w.heap.size w w'))
   case atStart => exact ⟨(([] : List (S48))), (x5_1), (0), zz, H', ⟨Nat.le_refl _⟩, ⟨by (try simp only [hl5_1]); first | exact Kd.U8 _ _ _ _ _ | exact Kd.q0r _ _ _ _ _ | exact Kd.q0q _ _ _ _ _ | exact Kd.q0s _ _ _ _ _ | exact Kd.q0t _ _ _ _ _⟩, ⟨by (try simp only [hl5_1]); (with_reducible repeat (first | apply Kd.P9 | apply Kd.R4 | apply Kd.K7)); exact HO_5.out⟩, ⟨zb⟩⟩
   case round =>
    clear H';(try clear p1); (try clear q1); (try clear hx1); (try clear hf1); (try clear c2b0); (try clear c2b1); (try clear p2); (try clear c3b0); (try clear c3b1); (try clear p6); (try clear c7b0); (try clear c8b0); (try clear c9b0); (try clear p10); (try clear q10); (try clear hx10); (try clear hf10); (try clear hx10_0); (try clear p10); (try clear p2); (try clear q10);obtain ⟨x4_2, x5_2, x29_2, rfl, HA, HK2, HO_4, HO_5, HB⟩ := hrel;have hl5_2 := (Kd.y9 HO_5.out).1;rw [hl5_2] at HO_5;(try simp only [hl5_2]);(try simp only [hl5_2] at HO_4);cases gk with
    | zero => exact absurd HA.out (by simp [d9.l1])
    | succ k2 =>
     have H := HA.out;clear HA;simp only [d9.l1] at H;by_cases c13 : x29_2 < (l0.length : Int)
     rotate_left
     ·
      rw [if_neg c13] at H;have c13b0 := decide_eq_false c13;(try (have c13z0 := c13b0; simp only [hl5_1] at c13z0));(try (have c13z0 := c13b0; simp only [hl5_2] at c13z0));clear c13;obtain ⟨⟨t570, t571⟩, A54, H⟩ := zI H;(try dsimp only at H);by_cases c55 : t571 = true
      rotate_left
      ·
       replace c55 := Bool.eq_false_iff.mpr c55;subst c55;rw [if_neg (show ¬ (false = true) by decide)] at H;simp only [Option.some.injEq, Prod.mk.injEq] at H;obtain ⟨rfl, rfl⟩ := H;obtain ⟨Ao74, co74, eo74⟩ := Kd.V6 HO_4.out;subst eo74;go_wp2_with (first | ((with_reducible refine y7 (f := 43) rfl ?_); refine o7 (some 107) Tryz.func43 #[.slice Ao74 x4_2.length co74] rfl ?_; (with_reducible refine (Q4.calls k2 _ _ x4_2 t570 false _ ?side1 ?side2 A54.out).mono ?_); (case side1 => exact (Kd.y9 (zP HO_4.out)).2.2); (case side2 => exact (Kd.y9 HO_4.out).2.1); rintro e w75 ⟨v572, rfl, ho0, hb⟩; refine ⟨_, rfl, ?_⟩; have n0_ := zm (Kd.J3 (zP HO_4.out) (Kd.J4 ho0) hb); replace HO_5 := zm (Kd.l9 (zP HO_5.out) hb); have HO573 := zm (Kd.V4 (Kd.Y0 ho0 (Kd.J9 (zP HO_4.out))) (p8 zb)); replace HB := zm (q9 zb hb); replace HO_4 := n0_; clear n0_; (try clear hb); (try clear ho0)))
       go_ret2
       exact ⟨_, zr, by first | exact Kd.U8 _ _ _ _ _ | exact Kd.q0r _ _ _ _ _ | exact Kd.q0q _ _ _ _ _ | exact Kd.q0s _ _ _ _ _ | exact Kd.q0t _ _ _ _ _, zb⟩
      subst c55;rw [if_pos rfl] at H;obtain ⟨t574, A56, H⟩ := zI H;(try dsimp only at H);by_cases c57 : (t574.length : Int) = (l0.length : Int)
      rotate_left
      ·
       rw [if_neg c57] at H;have c57b0 : ((t574.length : Int) == (l0.length : Int)) = false := beq_eq_false_iff_ne.mpr c57;have c57b1 : ((t574.length : Int) != (l0.length : Int)) = true := bne_iff_ne.mpr c57;have c57b2 : (t574.length == l0.length) = false := by first | simpa using c57 | (simp at c57 ⊢; omega)
       simp only [Option.some.injEq, Prod.mk.injEq] at H;obtain ⟨rfl, rfl⟩ := H;obtain ⟨Ao69, co69, eo69⟩ := Kd.V6 HO_4.out;subst eo69;go_wp2_with (first | ((with_reducible refine y7 (f := 43) rfl ?_); refine o7 (some 107) Tryz.func43 #[.slice Ao69 x4_2.length co69] rfl ?_; (with_reducible refine (Q4.calls k2 _ _ x4_2 t570 true _ ?side1 ?side2 A54.out).mono ?_); (case side1 => exact (Kd.y9 (zP HO_4.out)).2.2); (case side2 => exact (Kd.y9 HO_4.out).2.1); rintro e w70 ⟨v572, rfl, ho0, hb⟩; refine ⟨_, rfl, ?_⟩; have n0_ := zm (Kd.J3 (zP HO_4.out) (Kd.J4 ho0) hb); replace HO_5 := zm (Kd.l9 (zP HO_5.out) hb); have HO573 := zm (Kd.V4 (Kd.Y0 ho0 (Kd.J9 (zP HO_4.out))) (p8 zb)); replace HB := zm (q9 zb hb); replace HO_4 := n0_; clear n0_; (try clear hb); (try clear ho0); obtain ⟨Ao71, co71, eo71⟩ := Kd.V6 HO573.out; subst eo71) | ((with_reducible refine y7 (f := 26) rfl ?_); refine o7 (some 113) Tryz.func26 #[.slice Ao71 t570.length co71] rfl ?_; (with_reducible refine (Q5.calls k2 _ _ t570 t574 _ ?side1 ?side2 A56.out).mono ?_); (case side1 => exact (Kd.y9 (zP HO573.out)).2.2); (case side2 => exact (Kd.y9 HO573.out).2.1); rintro e w72 ⟨v575, rfl, ho0, hb⟩; refine ⟨_, rfl, ?_⟩; replace HO_4 := zm (Kd.l9 (zP HO_4.out) hb); have n1_ := zm (Kd.l9 (zP HO_5.out) hb); replace HO573 := zm (Kd.l9 (zP HO573.out) hb); have HO576 := zm (Kd.U7 (Kd.q0j ho0 (Kd.J9 (zP HO_5.out))) (p8 zb)); replace HB := zm (q9 zb hb); replace HO_5 := n1_; clear n1_; (try clear hb); (try clear ho0); obtain ⟨Ao73, co73, eo73⟩ := Kd.F4 HO576.out; subst eo73))
       go_ret2
       exact ⟨_, zr, by first | exact Kd.U8 _ _ _ _ _ | exact Kd.q0r _ _ _ _ _ | exact Kd.q0q _ _ _ _ _ | exact Kd.q0s _ _ _ _ _ | exact Kd.q0t _ _ _ _ _, zb⟩
      rw [if_pos c57] at H;have c57b0 : ((t574.length : Int) == (l0.length : Int)) = true := beq_iff_eq.mpr c57;have c57b1 : ((t574.length : Int) != (l0.length : Int)) = false := bne_eq_false_iff_eq.mpr c57;have c57b2 : (t574.length == l0.length) = true := by first | simpa using c57 | (simp at c57 ⊢; omega)
      clear c57;have H' := zm H;clear H;obtain ⟨Ao58, co58, eo58⟩ := Kd.V6 HO_4.out;subst eo58;go_wp2_with (first | ((with_reducible refine y7 (f := 43) rfl ?_); refine o7 (some 107) Tryz.func43 #[.slice Ao58 x4_2.length co58] rfl ?_; (with_reducible refine (Q4.calls k2 _ _ x4_2 t570 true _ ?side1 ?side2 A54.out).mono ?_); (case side1 => exact (Kd.y9 (zP HO_4.out)).2.2); (case side2 => exact (Kd.y9 HO_4.out).2.1); rintro e w59 ⟨v572, rfl, ho0, hb⟩; refine ⟨_, rfl, ?_⟩; have n0_ := zm (Kd.J3 (zP HO_4.out) (Kd.J4 ho0) hb); replace HO_5 := zm (Kd.l9 (zP HO_5.out) hb); have HO573 := zm (Kd.V4 (Kd.Y0 ho0 (Kd.J9 (zP HO_4.out))) (p8 zb)); replace HB := zm (q9 zb hb); replace HO_4 := n0_; clear n0_; (try clear hb); (try clear ho0); obtain ⟨Ao60, co60, eo60⟩ := Kd.V6 HO573.out; subst eo60) | ((with_reducible refine y7 (f := 26) rfl ?_); refine o7 (some 113) Tryz.func26 #[.slice Ao60 t570.length co60] rfl ?_; (with_reducible refine (Q5.calls k2 _ _ t570 t574 _ ?side1 ?side2 A56.out).mono ?_); (case side1 => exact (Kd.y9 (zP HO573.out)).2.2); (case side2 => exact (Kd.y9 HO573.out).2.1); rintro e w61 ⟨v575, rfl, ho0, hb⟩; refine ⟨_, rfl, ?_⟩; replace HO_4 := zm (Kd.l9 (zP HO_4.out) hb); have n1_ := zm (Kd.l9 (zP HO_5.out) hb); replace HO573 := zm (Kd.l9 (zP HO573.out) hb); have HO576 := zm (Kd.U7 (Kd.q0j ho0 (Kd.J9 (zP HO_5.out))) (p8 zb)); replace HB := zm (q9 zb hb); replace HO_5 := n1_; clear n1_; (try clear hb); (try clear ho0); obtain ⟨Ao62, co62, eo62⟩ := Kd.F4 HO576.out; subst eo62))
      go_loopg [121] k2 (fun kq v121 w' => ∃ (x121_3 : Int), v121 = .int .i64 x121_3 ∧ z8 (d9.l2 kq l0 t570 t574 (t574.length : Int) x121_3 = some (r1, r2)) ∧ z8 (kq ≤ k2) ∧ z8 (Kd.R k48 48 w' w.heap.size (fun _ => True) (.slice Ao60 t570.length co60) t570) ∧ z8 (Kd.S (Kd.slice 3 (Kd.int .i64)) 33 w' w.heap.size (fun _ => True) (.slice Ao62 t574.length co62) t574) ∧ z8 (Below w.heap.size w w'))
      case atStart => exact ⟨(0), zz, H', ⟨Nat.le_refl _⟩, ⟨by (try simp only [hl5_1]); (try simp only [hl5_2]); (with_reducible repeat (first | apply Kd.P9 | apply Kd.R4 | apply Kd.K7)); exact Kd.l5 HO573.out (fun _ hk => trivial)⟩, ⟨by (try simp only [hl5_1]); (try simp only [hl5_2]); (with_reducible repeat (first | apply Kd.v1n | apply Kd.v2a | apply Kd.q72)); exact Kd.Z8 HO576.out (fun _ hk => trivial)⟩, ⟨zb⟩⟩
      case round =>
       clear H';(try clear p2); (try clear p4); (try clear q4); (try clear hx4); (try clear hf4); (try clear p5); (try clear q5); (try clear hx5); (try clear qi5); (try clear p6); (try clear c13b0); (try clear c17b0); (try clear c17b1); (try clear c35b0); (try clear c35b1); (try clear c36b0); (try clear c36b1); (try clear c37b0); (try clear c37b1); (try clear c38b0); (try clear c38b1); (try clear c39b0); (try clear c40b0); (try clear p41); (try clear q41); (try clear hx41); (try clear hf41); (try clear c44b0); (try clear c44b1); (try clear c45b0); (try clear c46b0); (try clear c47b0); (try clear c47b1); (try clear p49); (try clear q49); (try clear hx49); (try clear hf49); (try clear p54); (try clear q54); (try clear hx54); (try clear p55); (try clear q55); (try clear hx55); (try clear qi55); (try clear p56); (try clear q56); (try clear hx56); (try clear qi56); (try clear c57b0); (try clear c57b1); (try clear c57b2); (try clear hx41_0); (try clear hx49_0); (try clear hx548_0); (try clear hx557_0); (try clear hx558_0); (try clear hx559_0); (try clear hx561_0); (try clear hx562_0); (try clear hx563_0); (try clear hx564_0); (try clear hx568_0); (try clear p2); (try clear p41); (try clear p49); (try clear p5); (try clear p548); (try clear p557); (try clear p558); (try clear p559); (try clear p561); (try clear p562); (try clear p563); (try clear p564); (try clear p568); (try clear q41); (try clear q49); (try clear q5); (try clear q548); (try clear q557); (try clear q558); (try clear q559); (try clear q561); (try clear q562); (try clear q563); (try clear q564); (try clear q568);obtain ⟨x121_3, rfl, HA, HK3, HO_9, HO_119, HB⟩ := hrel;cases gk with
       | zero => exact absurd HA.out (by simp [d9.l2])
       | succ k3 =>
        have H := HA.out;clear HA;simp only [d9.l2] at H;by_cases c63 : x121_3 < (t574.length : Int)
        rotate_left
        ·
         rw [if_neg c63] at H;have c63b0 := decide_eq_false c63;(try (have c63z0 := c63b0; simp only [hl5_1] at c63z0));(try (have c63z0 := c63b0; simp only [hl5_2] at c63z0));clear c63;simp only [Option.some.injEq, Prod.mk.injEq] at H;obtain ⟨rfl, rfl⟩ := H;go_wp2;go_ret2
         exact ⟨_, zr, zP HO_9.out, zb⟩
        rw [if_pos c63] at H;have c63b0 := decide_eq_true c63;clear c63;obtain ⟨c64, H⟩ := zJ H;have c64b0 := decide_eq_true c64;clear c64;obtain ⟨c65, H⟩ := zJ H;have c65b0 := decide_eq_true c65;clear c65;obtain ⟨c66, H⟩ := zJ H;have c66b0 := decide_eq_true c66;clear c66;obtain ⟨t579, A67, H⟩ := zI H;(try dsimp only at H);by_cases c68 : t579 = true
        rotate_left
        ·
         replace c68 := Bool.eq_false_iff.mpr c68;subst c68;rw [if_neg (show ¬ (false = true) by decide)] at H;simp only [Option.some.injEq, Prod.mk.injEq] at H;obtain ⟨rfl, rfl⟩ := H;have p577 : 0 ≤ (x121_3 : Int) := zd;have q577 : x121_3 < (t574.length : Int) := zd;obtain ⟨ad577, A577_0, c577_0, e577, hx577_0, hl577_0, hi577_0⟩ := q0g (Kd.J5 HO_119.out).2.2 x121_3 p577 q577;cases e577;obtain ⟨ce577, hce577, hMe577, hcc577⟩ := Kd.q31 HO_119.out [] x121_3 p577 (by first | exact q577 | exact of_decide_eq_true (by first | (with_reducible assumption) | assumption) | (have e_ := (Kd.J5 HO_119.out).1; omega));obtain ⟨ve577_0, rfl, ge577_0⟩ := hMe577;have hv577_0 := hcc577 0 _ rfl;rw [Nat.add_zero, show ((Kd.slice 3 (Kd.int .i64))).sz = 1 from rfl, Nat.mul_one] at hv577_0;replace hv577_0 := Option.some.inj (hv577_0.symm.trans hx577_0);rw [hv577_0] at ge577_0;have HL577_0 := zm (show Kd.R (Kd.int .i64) 3 _ _ _ _ (y8 t574 x121_3) from ge577_0);clear hv577_0 ge577_0;clear hcc577 hce577;have HR577_0 := zm hi577_0;have HC577_0 := zm hl577_0;clear hi577_0 hl577_0;replace p577 := eq_true p577;replace q577 := eq_true q577;have p578 : 0 ≤ (x121_3 : Int) := zd;have q578 : x121_3 < (l0.length : Int) := zd;obtain ⟨ad578, A578_0, c578_0, e578, hx578_0, hl578_0, hi578_0⟩ := q0g HR0.out x121_3 p578 q578;cases e578;replace hx578_0 := zx HB.out hx578_0;have HR578_0 := zm hi578_0;have HC578_0 := zm hl578_0;clear hi578_0 hl578_0;replace p578 := eq_true p578;replace q578 := eq_true q578;go_wp2_with (first | ((with_reducible refine y7 (f := 44) rfl ?_); refine o7 (some 131) Tryz.func44 #[.slice A577_0 (y8 t574 x121_3).length c577_0, .slice A578_0 (y8 l0 x121_3).length c578_0] rfl ?_; (with_reducible refine (M3.calls k3 _ _ (y8 t574 x121_3) _ _ (y8 l0 x121_3) false _ ?side1 ?side2 ?side3 ?side4 A67.out).mono ?_); (case side1 => repeat (first | exact (by repeat (first | (with_reducible exact HR577_0.out) | (with_reducible refine Kd.Y4 ?_ _) | (with_reducible refine Kd.Y5 ?_ _) | (with_reducible refine Kd.X0 ?_) | exact HR577_0.out)) | (with_reducible refine Kd.Y4 ?_ _) | (with_reducible refine Kd.Y5 ?_ _) | (with_reducible refine Kd.X0 ?_))); (case side2 => exact HC577_0.out); (case side3 => exact zC HR578_0.out); (case side4 => exact HC578_0.out); rintro e w' ⟨rfl, ⟨nd, rfl⟩⟩; refine ⟨_, rfl, ?_⟩))
         go_ret2
         exact ⟨_, zr, by first | exact Kd.U8 _ _ _ _ _ | exact Kd.q0r _ _ _ _ _ | exact Kd.q0q _ _ _ _ _ | exact Kd.q0s _ _ _ _ _ | exact Kd.q0t _ _ _ _ _, zb⟩
        subst c68;rw [if_pos rfl] at H;have H' := zm H;clear H;have p577 : 0 ≤ (x121_3 : Int) := zd;have q577 : x121_3 < (t574.length : Int) := zd;obtain ⟨ad577, A577_0, c577_0, e577, hx577_0, hl577_0, hi577_0⟩ := q0g (Kd.J5 HO_119.out).2.2 x121_3 p577 q577;cases e577;obtain ⟨ce577, hce577, hMe577, hcc577⟩ := Kd.q31 HO_119.out [] x121_3 p577 (by first | exact q577 | exact of_decide_eq_true (by first | (with_reducible assumption) | assumption) | (have e_ := (Kd.J5 HO_119.out).1; omega));obtain ⟨ve577_0, rfl, ge577_0⟩ := hMe577;have hv577_0 := hcc577 0 _ rfl;rw [Nat.add_zero, show ((Kd.slice 3 (Kd.int .i64))).sz = 1 from rfl, Nat.mul_one] at hv577_0;replace hv577_0 := Option.some.inj (hv577_0.symm.trans hx577_0);rw [hv577_0] at ge577_0;have HL577_0 := zm (show Kd.R (Kd.int .i64) 3 _ _ _ _ (y8 t574 x121_3) from ge577_0);clear hv577_0 ge577_0;clear hcc577 hce577;have HR577_0 := zm hi577_0;have HC577_0 := zm hl577_0;clear hi577_0 hl577_0;replace p577 := eq_true p577;replace q577 := eq_true q577;have p578 : 0 ≤ (x121_3 : Int) := zd;have q578 : x121_3 < (l0.length : Int) := zd;obtain ⟨ad578, A578_0, c578_0, e578, hx578_0, hl578_0, hi578_0⟩ := q0g HR0.out x121_3 p578 q578;cases e578;replace hx578_0 := zx HB.out hx578_0;have HR578_0 := zm hi578_0;have HC578_0 := zm hl578_0;clear hi578_0 hl578_0;replace p578 := eq_true p578;replace q578 := eq_true q578;go_wp2_with (first | ((with_reducible refine y7 (f := 44) rfl ?_); refine o7 (some 131) Tryz.func44 #[.slice A577_0 (y8 t574 x121_3).length c577_0, .slice A578_0 (y8 l0 x121_3).length c578_0] rfl ?_; (with_reducible refine (M3.calls k3 _ _ (y8 t574 x121_3) _ _ (y8 l0 x121_3) true _ ?side1 ?side2 ?side3 ?side4 A67.out).mono ?_); (case side1 => repeat (first | exact (by repeat (first | (with_reducible exact HR577_0.out) | (with_reducible refine Kd.Y4 ?_ _) | (with_reducible refine Kd.Y5 ?_ _) | (with_reducible refine Kd.X0 ?_) | exact HR577_0.out)) | (with_reducible refine Kd.Y4 ?_ _) | (with_reducible refine Kd.Y5 ?_ _) | (with_reducible refine Kd.X0 ?_))); (case side2 => exact HC577_0.out); (case side3 => exact zC HR578_0.out); (case side4 => exact HC578_0.out); rintro e w' ⟨rfl, ⟨nd, rfl⟩⟩; refine ⟨_, rfl, ?_⟩))
        go_roundg k3
        case measure => have := HK1.out; have := HK2.out; have := HK3.out; omega
        case rel => exact ⟨(wrap64 (x121_3 + 1)), zz, H', ⟨by have := HK1.out; have := HK2.out; have := HK3.out; omega⟩, ⟨by (try simp only [hl5_1]); (try simp only [hl5_2]); (with_reducible repeat (first | apply Kd.P9 | apply Kd.R4 | apply Kd.K7)); exact HO_9.out⟩, ⟨by (try simp only [hl5_1]); (try simp only [hl5_2]); (with_reducible repeat (first | apply Kd.v1n | apply Kd.v2a | apply Kd.q72)); exact HO_119.out⟩, ⟨zb⟩⟩
     rw [if_pos c13] at H;have c13b0 := decide_eq_true c13;clear c13;obtain ⟨c14, H⟩ := zJ H;have c14b0 := decide_eq_true c14;clear c14;obtain ⟨c15, H⟩ := zJ H;have c15b0 := decide_eq_true c15;clear c15;have HC16 := zm H;clear H;have p547 : 0 ≤ (x29_2 : Int) := zd;have q547 : x29_2 < (l0.length : Int) := zd;obtain ⟨ad547, A547_0, c547_0, e547, hx547_0, hl547_0, hi547_0⟩ := q0g HR0.out x29_2 p547 q547;cases e547;replace hx547_0 := zx HB.out hx547_0;have HR547_0 := zm hi547_0;have HC547_0 := zm hl547_0;clear hi547_0 hl547_0;replace p547 := eq_true p547;replace q547 := eq_true q547;go_upto_region 13 with (fail)
     go_cut [70] (fun v70 wc => ∃ (kq : Nat) (x70_15 : Bool), v70 = .bool x70_15 ∧ z8 (d9.j2 kq l0 x4_2 x5_2 (y8 l0 x29_2) l0 (l0.length : Int) x29_2 x70_15 = some (r1, r2)) ∧ z8 (kq ≤ k2) ∧ z8 (Kd.R k48 48 wc w.heap.size (fun _ => True) u4 x4_2) ∧ z8 (Kd.R (Kd.int .i64) 3 wc w.heap.size (fun _ => True) (.slice Ao6 x5_2.length co6) x5_2) ∧ z8 (Below w.heap.size w wc))
     case first =>
      have H := HC16.out;clear HC16;by_cases c17 : ((y8 l0 x29_2).length : Int) = 3
      rotate_left
      ·
       rw [if_neg c17] at H;have c17b0 : (((y8 l0 x29_2).length : Int) == 3) = false := beq_eq_false_iff_ne.mpr c17;have c17b1 : (((y8 l0 x29_2).length : Int) != 3) = true := bne_iff_ne.mpr c17;(first | rw [c17b0] | (simp only [V7, V9]; rw [c17b0]) | skip);have H' := zm H;clear H;try go_wp2
       have n0_ := zm (Kd.K7 HO_4.out);have n1_ := zm (Kd.K7 HO_5.out);have n2_ := zm (X3 HB.out);clear HO_4;clear HO_5;clear HB;have HO_4 := n0_;have HO_5 := n1_;have HB := n2_;clear n0_ n1_ n2_;refine F7 (n := 38) (S := fun w' => True) (ds := []) #[F,F,F,F,F,F,F,F,F,F,F,F,F,F,F,F,F,F,F,F,F,F,F,F,F,F,F,F,F,F,F,F,F,F,F,F,F,F] (by kernel_rfl) rfl rfl trivial (fun hHeld => ?_); refine H6 d9.q5d d9.q44 (fun HT_ HW_ => ?_)
       generalize wr.drew = w33 at HO_4 HO_5 HB hHeld ⊢;refine zU 0 33 #[T,F,F,F,F,F,F,F,F,F,F,F,F,F,F,F,F,F,F,F,F,F,F,F,F,F,F,F,F,F,F,F,F,F,F,F,F,F] ?_;refine zU 1 34 #[T,T,F,F,F,F,F,F,F,F,F,F,F,F,F,F,F,F,F,F,F,F,F,F,F,F,F,F,F,F,F,F,F,F,F,F,F,F] ?_;refine zU 2 35 #[T,T,T,F,F,F,F,F,F,F,F,F,F,F,F,F,F,F,F,F,F,F,F,F,F,F,F,F,F,F,F,F,F,F,F,F,F,F] ?_;refine zU 3 36 #[T,T,T,T,F,F,F,F,F,F,F,F,F,F,F,F,F,F,F,F,F,F,F,F,F,F,F,F,F,F,F,F,F,F,F,F,F,F] ?_;refine zV 4 37 #[T,T,T,T,T,F,F,F,F,F,F,F,F,F,F,F,F,F,F,F,F,F,F,F,F,F,F,F,F,F,F,F,F,F,F,F,F,F] ?_;refine zV 5 38 #[T,T,T,T,T,T,F,F,F,F,F,F,F,F,F,F,F,F,F,F,F,F,F,F,F,F,F,F,F,F,F,F,F,F,F,F,F,F] ?_;refine zV 6 39 #[T,T,T,T,T,T,T,F,F,F,F,F,F,F,F,F,F,F,F,F,F,F,F,F,F,F,F,F,F,F,F,F,F,F,F,F,F,F] ?_;refine zV 7 40 #[T,T,T,T,T,T,T,T,F,F,F,F,F,F,F,F,F,F,F,F,F,F,F,F,F,F,F,F,F,F,F,F,F,F,F,F,F,F] ?_;refine zV 8 41 #[T,T,T,T,T,T,T,T,T,F,F,F,F,F,F,F,F,F,F,F,F,F,F,F,F,F,F,F,F,F,F,F,F,F,F,F,F,F] ?_;refine zU 9 42 #[T,T,T,T,T,T,T,T,T,T,F,F,F,F,F,F,F,F,F,F,F,F,F,F,F,F,F,F,F,F,F,F,F,F,F,F,F,F] ?_;refine zU 10 43 #[T,T,T,T,T,T,T,T,T,T,T,F,F,F,F,F,F,F,F,F,F,F,F,F,F,F,F,F,F,F,F,F,F,F,F,F,F,F] ?_;refine zV 11 44 #[T,T,T,T,T,T,T,T,T,T,T,T,F,F,F,F,F,F,F,F,F,F,F,F,F,F,F,F,F,F,F,F,F,F,F,F,F,F] ?_;refine zV 12 45 #[T,T,T,T,T,T,T,T,T,T,T,T,T,F,F,F,F,F,F,F,F,F,F,F,F,F,F,F,F,F,F,F,F,F,F,F,F,F] ?_;refine zV 13 46 #[T,T,T,T,T,T,T,T,T,T,T,T,T,T,F,F,F,F,F,F,F,F,F,F,F,F,F,F,F,F,F,F,F,F,F,F,F,F] ?_;refine zV 14 47 #[T,T,T,T,T,T,T,T,T,T,T,T,T,T,T,F,F,F,F,F,F,F,F,F,F,F,F,F,F,F,F,F,F,F,F,F,F,F] ?_;refine zV 15 48 #[T,T,T,T,T,T,T,T,T,T,T,T,T,T,T,T,F,F,F,F,F,F,F,F,F,F,F,F,F,F,F,F,F,F,F,F,F,F] ?_;refine zU 16 49 #[T,T,T,T,T,T,T,T,T,T,T,T,T,T,T,T,T,F,F,F,F,F,F,F,F,F,F,F,F,F,F,F,F,F,F,F,F,F] ?_;refine zU 17 50 #[T,T,T,T,T,T,T,T,T,T,T,T,T,T,T,T,T,T,F,F,F,F,F,F,F,F,F,F,F,F,F,F,F,F,F,F,F,F] ?_;refine zV 18 51 #[T,T,T,T,T,T,T,T,T,T,T,T,T,T,T,T,T,T,T,F,F,F,F,F,F,F,F,F,F,F,F,F,F,F,F,F,F,F] ?_;refine zV 19 52 #[T,T,T,T,T,T,T,T,T,T,T,T,T,T,T,T,T,T,T,T,F,F,F,F,F,F,F,F,F,F,F,F,F,F,F,F,F,F] ?_;refine zV 20 53 #[T,T,T,T,T,T,T,T,T,T,T,T,T,T,T,T,T,T,T,T,T,F,F,F,F,F,F,F,F,F,F,F,F,F,F,F,F,F] ?_;refine zV 21 54 #[T,T,T,T,T,T,T,T,T,T,T,T,T,T,T,T,T,T,T,T,T,T,F,F,F,F,F,F,F,F,F,F,F,F,F,F,F,F] ?_;refine zV 22 55 #[T,T,T,T,T,T,T,T,T,T,T,T,T,T,T,T,T,T,T,T,T,T,T,F,F,F,F,F,F,F,F,F,F,F,F,F,F,F] ?_;refine zU 23 56 #[T,T,T,T,T,T,T,T,T,T,T,T,T,T,T,T,T,T,T,T,T,T,T,T,F,F,F,F,F,F,F,F,F,F,F,F,F,F] ?_;refine zU 24 57 #[T,T,T,T,T,T,T,T,T,T,T,T,T,T,T,T,T,T,T,T,T,T,T,T,T,F,F,F,F,F,F,F,F,F,F,F,F,F] ?_;refine zV 25 58 #[T,T,T,T,T,T,T,T,T,T,T,T,T,T,T,T,T,T,T,T,T,T,T,T,T,T,F,F,F,F,F,F,F,F,F,F,F,F] ?_;refine zV 26 59 #[T,T,T,T,T,T,T,T,T,T,T,T,T,T,T,T,T,T,T,T,T,T,T,T,T,T,T,F,F,F,F,F,F,F,F,F,F,F] ?_;refine zV 27 60 #[T,T,T,T,T,T,T,T,T,T,T,T,T,T,T,T,T,T,T,T,T,T,T,T,T,T,T,T,F,F,F,F,F,F,F,F,F,F] ?_;refine zV 28 61 #[T,T,T,T,T,T,T,T,T,T,T,T,T,T,T,T,T,T,T,T,T,T,T,T,T,T,T,T,T,F,F,F,F,F,F,F,F,F] ?_;refine zV 29 62 #[T,T,T,T,T,T,T,T,T,T,T,T,T,T,T,T,T,T,T,T,T,T,T,T,T,T,T,T,T,T,F,F,F,F,F,F,F,F] ?_;refine zV 30 63 #[T,T,T,T,T,T,T,T,T,T,T,T,T,T,T,T,T,T,T,T,T,T,T,T,T,T,T,T,T,T,T,F,F,F,F,F,F,F] ?_;refine zV 31 64 #[T,T,T,T,T,T,T,T,T,T,T,T,T,T,T,T,T,T,T,T,T,T,T,T,T,T,T,T,T,T,T,T,F,F,F,F,F,F] ?_;refine zV 32 65 #[T,T,T,T,T,T,T,T,T,T,T,T,T,T,T,T,T,T,T,T,T,T,T,T,T,T,T,T,T,T,T,T,T,F,F,F,F,F] ?_;refine zV 33 66 #[T,T,T,T,T,T,T,T,T,T,T,T,T,T,T,T,T,T,T,T,T,T,T,T,T,T,T,T,T,T,T,T,T,T,F,F,F,F] ?_;refine zV 34 67 #[T,T,T,T,T,T,T,T,T,T,T,T,T,T,T,T,T,T,T,T,T,T,T,T,T,T,T,T,T,T,T,T,T,T,T,F,F,F] ?_;refine zV 35 68 #[T,T,T,T,T,T,T,T,T,T,T,T,T,T,T,T,T,T,T,T,T,T,T,T,T,T,T,T,T,T,T,T,T,T,T,T,F,F] ?_;refine zV 36 69 #[T,T,T,T,T,T,T,T,T,T,T,T,T,T,T,T,T,T,T,T,T,T,T,T,T,T,T,T,T,T,T,T,T,T,T,T,T,F] ?_;refine zU 37 70 #[T,T,T,T,T,T,T,T,T,T,T,T,T,T,T,T,T,T,T,T,T,T,T,T,T,T,T,T,T,T,T,T,T,T,T,T,T,T] ?_;refine O7 (U0 HT_.out (by kernel_rfl)) ?_
       try go_wp2
       go_meet
       case rel => exact ⟨_, (true), zz, H', ⟨by have := HK1.out; have := HK2.out; first | omega | exact Nat.le_refl _⟩, ⟨by (try simp only [hl5_1]); (try simp only [hl5_2]); (with_reducible repeat (first | apply Kd.P9 | apply Kd.R4 | apply Kd.K7)); exact HO_4.out⟩, ⟨by (try simp only [hl5_1]); (try simp only [hl5_2]); (with_reducible repeat (first | apply Kd.P9 | apply Kd.R4 | apply Kd.K7)); exact HO_5.out⟩, ⟨zb⟩⟩
      rw [if_pos c17] at H;have c17b0 : (((y8 l0 x29_2).length : Int) == 3) = true := beq_iff_eq.mpr c17;have c17b1 : (((y8 l0 x29_2).length : Int) != 3) = false := bne_eq_false_iff_eq.mpr c17;clear c17;(first | rw [c17b0] | (simp only [V7, V9]; rw [c17b0]) | skip);obtain ⟨c18, H⟩ := zJ H;have c18b0 := decide_eq_true c18;have c18b1 : decide (0 < (y8 l0 x29_2).length) = true := decide_eq_true (by omega);clear c18;obtain ⟨t549, A19, H⟩ := zI H;(try dsimp only at H);by_cases c20 : t549 = true
      rotate_left
      ·
       replace c20 := Bool.eq_false_iff.mpr c20;subst c20;rw [if_neg (show ¬ (false = true) by decide)] at H;have H' := zm H;clear H;try go_wp2
       have n0_ := zm (Kd.K7 HO_4.out);have n1_ := zm (Kd.K7 HO_5.out);have n2_ := zm (X3 HB.out);clear HO_4;clear HO_5;clear HB;have HO_4 := n0_;have HO_5 := n1_;have HB := n2_;clear n0_ n1_ n2_;have p548 : 0 ≤ (0 : Int) := (by omega);have q548 : 0 < ((y8 l0 x29_2).length : Int) := zd;obtain ⟨ad548, e548, hx548_0⟩ := Kd.Y9 HR547_0.out 0 p548 q548;have hw548_0 := hx548_0;(try rw [show ((0 : Int)).toNat = 0 from rfl] at hw548_0);(try rw [show 0 * 1 = 0 from rfl] at hw548_0);(try rw [Addr.add_zero'] at hw548_0);cases e548;have qi548 : (0 < (y8 l0 x29_2).length) = True := eq_true (by omega)
       (try rw [show ((0 : Int)).toNat = 0 from rfl] at hx548_0);(try rw [Addr.add_zero'] at hx548_0);replace hx548_0 := zx HB.out hx548_0;replace p548 := eq_true p548;replace q548 := eq_true q548;refine F7 (n := 38) (S := fun w' => w'.cell? ad548 = some (.int .i64 (rd (y8 l0 x29_2) 0))) (ds := []) #[F,F,F,F,F,F,F,F,F,F,F,F,F,F,F,F,F,F,F,F,F,F,F,F,F,F,F,F,F,F,F,F,F,F,F,F,F,F] (by kernel_rfl) rfl rfl (((HB.out.cell (World.block_lt_of_cell? w _ hw548_0)).trans hw548_0)) (fun hHeld => ?_); refine H6 d9.q5d d9.q44 (fun HT_ HW_ => ?_)
       generalize wr.drew = w32 at HO_4 HO_5 HB hx548_0 hHeld ⊢;refine zU 0 33 #[T,F,F,F,F,F,F,F,F,F,F,F,F,F,F,F,F,F,F,F,F,F,F,F,F,F,F,F,F,F,F,F,F,F,F,F,F,F] ?_;refine zU 1 34 #[T,T,F,F,F,F,F,F,F,F,F,F,F,F,F,F,F,F,F,F,F,F,F,F,F,F,F,F,F,F,F,F,F,F,F,F,F,F] ?_;refine zU 2 35 #[T,T,T,F,F,F,F,F,F,F,F,F,F,F,F,F,F,F,F,F,F,F,F,F,F,F,F,F,F,F,F,F,F,F,F,F,F,F] ?_;refine zU 3 36 #[T,T,T,T,F,F,F,F,F,F,F,F,F,F,F,F,F,F,F,F,F,F,F,F,F,F,F,F,F,F,F,F,F,F,F,F,F,F] ?_;refine zU 4 37 #[T,T,T,T,T,F,F,F,F,F,F,F,F,F,F,F,F,F,F,F,F,F,F,F,F,F,F,F,F,F,F,F,F,F,F,F,F,F] ?_;refine zU 5 38 #[T,T,T,T,T,T,F,F,F,F,F,F,F,F,F,F,F,F,F,F,F,F,F,F,F,F,F,F,F,F,F,F,F,F,F,F,F,F] ?_;refine G9 (i := 6) (N := some 39) (v := ?_) (a' := ?_) #[T,T,T,T,T,T,T,F,F,F,F,F,F,F,F,F,F,F,F,F,F,F,F,F,F,F,F,F,F,F,F,F,F,F,F,F,F,F] rfl rfl (Z9 HT_.out HW_.out (by kernel_rfl)) (fun _ _ _ h => h) (Or.inl ⟨by rfl, ?_⟩) hHeld ?_ ?_
       rotate_left
       ·
        intro w' s0;go_simp
        with_reducible rfl
       rotate_left
       ·
        simp only [Act.put, zA, zB, zD, V7, V9]
        rfl
       refine U2 (i := 7) (N := some 40) #[T,T,T,T,T,T,T,T,F,F,F,F,F,F,F,F,F,F,F,F,F,F,F,F,F,F,F,F,F,F,F,F,F,F,F,F,F,F] rfl rfl (K3 HT_.out (by kernel_rfl)) (by decide) (fun K hK => ?_)
       refine O8 Tryz.func41 (by kernel_rfl) rfl #[.int .i64 (rd (y8 l0 x29_2) 0)] (by rfl) rfl rfl (by (try simp only [List.map_toArray, List.map_cons, List.map_nil]); first | done | rfl | (simp only [List.length_drop, List.length_take]; rfl)) ?_
       with_reducible refine (q0h.calls (rd (y8 l0 x29_2) 0) false _ A19.out).mono ?_
       rintro e w' ⟨rfl, ⟨nd, rfl⟩⟩;refine ⟨_, rfl, ?_⟩
       refine hK.out _ _ (((HB.out.cell (World.block_lt_of_cell? w _ hw548_0)).trans hw548_0)) (fun hHeld => ?_)
       clear hK K;refine Y8 (a' := ?_) ?_ ?_;rotate_left
       ·
        show Act.put _ (some 40) _ = _
        simp only [Act.put, zA, zB, zD, V7, V9]
        rfl
       refine zU 8 41 #[T,T,T,T,T,T,T,T,T,F,F,F,F,F,F,F,F,F,F,F,F,F,F,F,F,F,F,F,F,F,F,F,F,F,F,F,F,F] ?_;refine zU 9 42 #[T,T,T,T,T,T,T,T,T,T,F,F,F,F,F,F,F,F,F,F,F,F,F,F,F,F,F,F,F,F,F,F,F,F,F,F,F,F] ?_;refine zU 10 43 #[T,T,T,T,T,T,T,T,T,T,T,F,F,F,F,F,F,F,F,F,F,F,F,F,F,F,F,F,F,F,F,F,F,F,F,F,F,F] ?_;refine zV 11 44 #[T,T,T,T,T,T,T,T,T,T,T,T,F,F,F,F,F,F,F,F,F,F,F,F,F,F,F,F,F,F,F,F,F,F,F,F,F,F] ?_;refine zV 12 45 #[T,T,T,T,T,T,T,T,T,T,T,T,T,F,F,F,F,F,F,F,F,F,F,F,F,F,F,F,F,F,F,F,F,F,F,F,F,F] ?_;refine zV 13 46 #[T,T,T,T,T,T,T,T,T,T,T,T,T,T,F,F,F,F,F,F,F,F,F,F,F,F,F,F,F,F,F,F,F,F,F,F,F,F] ?_;refine zV 14 47 #[T,T,T,T,T,T,T,T,T,T,T,T,T,T,T,F,F,F,F,F,F,F,F,F,F,F,F,F,F,F,F,F,F,F,F,F,F,F] ?_;refine zV 15 48 #[T,T,T,T,T,T,T,T,T,T,T,T,T,T,T,T,F,F,F,F,F,F,F,F,F,F,F,F,F,F,F,F,F,F,F,F,F,F] ?_;refine zU 16 49 #[T,T,T,T,T,T,T,T,T,T,T,T,T,T,T,T,T,F,F,F,F,F,F,F,F,F,F,F,F,F,F,F,F,F,F,F,F,F] ?_;refine zU 17 50 #[T,T,T,T,T,T,T,T,T,T,T,T,T,T,T,T,T,T,F,F,F,F,F,F,F,F,F,F,F,F,F,F,F,F,F,F,F,F] ?_;refine zV 18 51 #[T,T,T,T,T,T,T,T,T,T,T,T,T,T,T,T,T,T,T,F,F,F,F,F,F,F,F,F,F,F,F,F,F,F,F,F,F,F] ?_;refine zV 19 52 #[T,T,T,T,T,T,T,T,T,T,T,T,T,T,T,T,T,T,T,T,F,F,F,F,F,F,F,F,F,F,F,F,F,F,F,F,F,F] ?_;refine zV 20 53 #[T,T,T,T,T,T,T,T,T,T,T,T,T,T,T,T,T,T,T,T,T,F,F,F,F,F,F,F,F,F,F,F,F,F,F,F,F,F] ?_;refine zV 21 54 #[T,T,T,T,T,T,T,T,T,T,T,T,T,T,T,T,T,T,T,T,T,T,F,F,F,F,F,F,F,F,F,F,F,F,F,F,F,F] ?_;refine zV 22 55 #[T,T,T,T,T,T,T,T,T,T,T,T,T,T,T,T,T,T,T,T,T,T,T,F,F,F,F,F,F,F,F,F,F,F,F,F,F,F] ?_;refine zU 23 56 #[T,T,T,T,T,T,T,T,T,T,T,T,T,T,T,T,T,T,T,T,T,T,T,T,F,F,F,F,F,F,F,F,F,F,F,F,F,F] ?_;refine zU 24 57 #[T,T,T,T,T,T,T,T,T,T,T,T,T,T,T,T,T,T,T,T,T,T,T,T,T,F,F,F,F,F,F,F,F,F,F,F,F,F] ?_;refine zV 25 58 #[T,T,T,T,T,T,T,T,T,T,T,T,T,T,T,T,T,T,T,T,T,T,T,T,T,T,F,F,F,F,F,F,F,F,F,F,F,F] ?_;refine zV 26 59 #[T,T,T,T,T,T,T,T,T,T,T,T,T,T,T,T,T,T,T,T,T,T,T,T,T,T,T,F,F,F,F,F,F,F,F,F,F,F] ?_;refine zV 27 60 #[T,T,T,T,T,T,T,T,T,T,T,T,T,T,T,T,T,T,T,T,T,T,T,T,T,T,T,T,F,F,F,F,F,F,F,F,F,F] ?_;refine zV 28 61 #[T,T,T,T,T,T,T,T,T,T,T,T,T,T,T,T,T,T,T,T,T,T,T,T,T,T,T,T,T,F,F,F,F,F,F,F,F,F] ?_;refine zV 29 62 #[T,T,T,T,T,T,T,T,T,T,T,T,T,T,T,T,T,T,T,T,T,T,T,T,T,T,T,T,T,T,F,F,F,F,F,F,F,F] ?_;refine zV 30 63 #[T,T,T,T,T,T,T,T,T,T,T,T,T,T,T,T,T,T,T,T,T,T,T,T,T,T,T,T,T,T,T,F,F,F,F,F,F,F] ?_;refine zV 31 64 #[T,T,T,T,T,T,T,T,T,T,T,T,T,T,T,T,T,T,T,T,T,T,T,T,T,T,T,T,T,T,T,T,F,F,F,F,F,F] ?_;refine zV 32 65 #[T,T,T,T,T,T,T,T,T,T,T,T,T,T,T,T,T,T,T,T,T,T,T,T,T,T,T,T,T,T,T,T,T,F,F,F,F,F] ?_;refine zV 33 66 #[T,T,T,T,T,T,T,T,T,T,T,T,T,T,T,T,T,T,T,T,T,T,T,T,T,T,T,T,T,T,T,T,T,T,F,F,F,F] ?_;refine zV 34 67 #[T,T,T,T,T,T,T,T,T,T,T,T,T,T,T,T,T,T,T,T,T,T,T,T,T,T,T,T,T,T,T,T,T,T,T,F,F,F] ?_;refine zV 35 68 #[T,T,T,T,T,T,T,T,T,T,T,T,T,T,T,T,T,T,T,T,T,T,T,T,T,T,T,T,T,T,T,T,T,T,T,T,F,F] ?_;refine zV 36 69 #[T,T,T,T,T,T,T,T,T,T,T,T,T,T,T,T,T,T,T,T,T,T,T,T,T,T,T,T,T,T,T,T,T,T,T,T,T,F] ?_;refine zU 37 70 #[T,T,T,T,T,T,T,T,T,T,T,T,T,T,T,T,T,T,T,T,T,T,T,T,T,T,T,T,T,T,T,T,T,T,T,T,T,T] ?_;refine O7 (U0 HT_.out (by kernel_rfl)) ?_
       try go_wp2
       go_meet
       case rel => exact ⟨_, (true), zz, H', ⟨by have := HK1.out; have := HK2.out; first | omega | exact Nat.le_refl _⟩, ⟨by (try simp only [hl5_1]); (try simp only [hl5_2]); (with_reducible repeat (first | apply Kd.P9 | apply Kd.R4 | apply Kd.K7)); exact HO_4.out⟩, ⟨by (try simp only [hl5_1]); (try simp only [hl5_2]); (with_reducible repeat (first | apply Kd.P9 | apply Kd.R4 | apply Kd.K7)); exact HO_5.out⟩, ⟨zb⟩⟩
      subst c20;rw [if_pos rfl] at H;obtain ⟨c21, H⟩ := zJ H;have c21b0 := decide_eq_true c21;have c21b1 : decide (1 < (y8 l0 x29_2).length) = true := decide_eq_true (by omega);clear c21;obtain ⟨t551, A22, H⟩ := zI H;(try dsimp only at H);by_cases c23 : t551 = true
      rotate_left
      ·
       replace c23 := Bool.eq_false_iff.mpr c23;subst c23;rw [if_neg (show ¬ (false = true) by decide)] at H;have H' := zm H;clear H;try go_wp2
       have n0_ := zm (Kd.K7 HO_4.out);have n1_ := zm (Kd.K7 HO_5.out);have n2_ := zm (X3 HB.out);clear HO_4;clear HO_5;clear HB;have HO_4 := n0_;have HO_5 := n1_;have HB := n2_;clear n0_ n1_ n2_;have p548 : 0 ≤ (0 : Int) := (by omega);have q548 : 0 < ((y8 l0 x29_2).length : Int) := zd;obtain ⟨ad548, e548, hx548_0⟩ := Kd.Y9 HR547_0.out 0 p548 q548;have hw548_0 := hx548_0;(try rw [show ((0 : Int)).toNat = 0 from rfl] at hw548_0);(try rw [show 0 * 1 = 0 from rfl] at hw548_0);(try rw [Addr.add_zero'] at hw548_0);cases e548;have qi548 : (0 < (y8 l0 x29_2).length) = True := eq_true (by omega)
       (try rw [show ((0 : Int)).toNat = 0 from rfl] at hx548_0);(try rw [Addr.add_zero'] at hx548_0);replace hx548_0 := zx HB.out hx548_0;replace p548 := eq_true p548;replace q548 := eq_true q548;have p550 : 0 ≤ (1 : Int) := (by omega);have q550 : 1 < ((y8 l0 x29_2).length : Int) := zd;obtain ⟨ad550, e550, hx550_0⟩ := Kd.Y9 HR547_0.out 1 p550 q550;have hw550_0 := hx550_0;(try rw [show ((1 : Int)).toNat = 1 from rfl] at hw550_0);(try rw [show 1 * 1 = 1 from rfl] at hw550_0);(try simp only [Nat.reduceMul, Nat.reduceEqDiff, Go.Addr.add, ↓reduceIte] at hw550_0);obtain rfl : ad548 = ad550 := (by injection e550)
       skip
       (try simp only [show (1 : Int).toNat = 1 from rfl, Nat.reduceMul, Nat.reduceEqDiff, Go.Addr.add, ↓reduceIte] at hx550_0);have qi550 : (1 < (y8 l0 x29_2).length) = True := eq_true (by omega)
       (try rw [show ((1 : Int)).toNat = 1 from rfl] at hx550_0);replace hx550_0 := zx HB.out hx550_0;replace p550 := eq_true p550;replace q550 := eq_true q550;refine F7 (n := 38) (S := fun w' => w'.cell? ad548 = some (.int .i64 (rd (y8 l0 x29_2) 0)) ∧ w'.cell? ⟨ad548.block, ad548.off + 1, none⟩ = some (.int .i64 (rd (y8 l0 x29_2) 1))) (ds := []) #[F,F,F,F,F,F,F,F,F,F,F,F,F,F,F,F,F,F,F,F,F,F,F,F,F,F,F,F,F,F,F,F,F,F,F,F,F,F] (by kernel_rfl) rfl rfl ⟨((HB.out.cell (World.block_lt_of_cell? w _ hw548_0)).trans hw548_0), ((HB.out.cell (World.block_lt_of_cell? w _ hw550_0)).trans hw550_0)⟩ (fun hHeld => ?_); refine H6 d9.q5d d9.q44 (fun HT_ HW_ => ?_)
       generalize wr.drew = w31 at HO_4 HO_5 HB hx548_0 hx550_0 hHeld ⊢;refine zU 0 33 #[T,F,F,F,F,F,F,F,F,F,F,F,F,F,F,F,F,F,F,F,F,F,F,F,F,F,F,F,F,F,F,F,F,F,F,F,F,F] ?_;refine zU 1 34 #[T,T,F,F,F,F,F,F,F,F,F,F,F,F,F,F,F,F,F,F,F,F,F,F,F,F,F,F,F,F,F,F,F,F,F,F,F,F] ?_;refine zU 2 35 #[T,T,T,F,F,F,F,F,F,F,F,F,F,F,F,F,F,F,F,F,F,F,F,F,F,F,F,F,F,F,F,F,F,F,F,F,F,F] ?_;refine zU 3 36 #[T,T,T,T,F,F,F,F,F,F,F,F,F,F,F,F,F,F,F,F,F,F,F,F,F,F,F,F,F,F,F,F,F,F,F,F,F,F] ?_;refine zU 4 37 #[T,T,T,T,T,F,F,F,F,F,F,F,F,F,F,F,F,F,F,F,F,F,F,F,F,F,F,F,F,F,F,F,F,F,F,F,F,F] ?_;refine zU 5 38 #[T,T,T,T,T,T,F,F,F,F,F,F,F,F,F,F,F,F,F,F,F,F,F,F,F,F,F,F,F,F,F,F,F,F,F,F,F,F] ?_;refine G9 (i := 6) (N := some 39) (v := ?_) (a' := ?_) #[T,T,T,T,T,T,T,F,F,F,F,F,F,F,F,F,F,F,F,F,F,F,F,F,F,F,F,F,F,F,F,F,F,F,F,F,F,F] rfl rfl (Z9 HT_.out HW_.out (by kernel_rfl)) (fun _ _ _ h => h) (Or.inl ⟨by rfl, ?_⟩) hHeld ?_ ?_
       rotate_left
       ·
        rintro w' ⟨s0, s1⟩;go_simp
        with_reducible rfl
       rotate_left
       ·
        simp only [Act.put, zA, zB, zD, V7, V9]
        rfl
       refine U2 (i := 7) (N := some 40) #[T,T,T,T,T,T,T,T,F,F,F,F,F,F,F,F,F,F,F,F,F,F,F,F,F,F,F,F,F,F,F,F,F,F,F,F,F,F] rfl rfl (K3 HT_.out (by kernel_rfl)) (by decide) (fun K hK => ?_)
       refine O8 Tryz.func41 (by kernel_rfl) rfl #[.int .i64 (rd (y8 l0 x29_2) 0)] (by rfl) rfl rfl (by (try simp only [List.map_toArray, List.map_cons, List.map_nil]); first | done | rfl | (simp only [List.length_drop, List.length_take]; rfl)) ?_
       with_reducible refine (q0h.calls (rd (y8 l0 x29_2) 0) true _ A19.out).mono ?_
       rintro e w' ⟨rfl, ⟨nd, rfl⟩⟩;refine ⟨_, rfl, ?_⟩
       refine hK.out _ _ ⟨((HB.out.cell (World.block_lt_of_cell? w _ hw548_0)).trans hw548_0), ((HB.out.cell (World.block_lt_of_cell? w _ hw550_0)).trans hw550_0)⟩ (fun hHeld => ?_)
       clear hK K;refine Y8 (a' := ?_) ?_ ?_;rotate_left
       ·
        show Act.put _ (some 40) _ = _
        simp only [Act.put, zA, zB, zD, V7, V9]
        rfl
       refine zU 8 41 #[T,T,T,T,T,T,T,T,T,F,F,F,F,F,F,F,F,F,F,F,F,F,F,F,F,F,F,F,F,F,F,F,F,F,F,F,F,F] ?_;refine zU 9 42 #[T,T,T,T,T,T,T,T,T,T,F,F,F,F,F,F,F,F,F,F,F,F,F,F,F,F,F,F,F,F,F,F,F,F,F,F,F,F] ?_;refine zU 10 43 #[T,T,T,T,T,T,T,T,T,T,T,F,F,F,F,F,F,F,F,F,F,F,F,F,F,F,F,F,F,F,F,F,F,F,F,F,F,F] ?_;refine zU 11 44 #[T,T,T,T,T,T,T,T,T,T,T,T,F,F,F,F,F,F,F,F,F,F,F,F,F,F,F,F,F,F,F,F,F,F,F,F,F,F] ?_;refine zU 12 45 #[T,T,T,T,T,T,T,T,T,T,T,T,T,F,F,F,F,F,F,F,F,F,F,F,F,F,F,F,F,F,F,F,F,F,F,F,F,F] ?_;refine G9 (i := 13) (N := some 46) (v := ?_) (a' := ?_) #[T,T,T,T,T,T,T,T,T,T,T,T,T,T,F,F,F,F,F,F,F,F,F,F,F,F,F,F,F,F,F,F,F,F,F,F,F,F] rfl rfl (Z9 HT_.out HW_.out (by kernel_rfl)) (fun _ _ _ h => h) (Or.inl ⟨by rfl, ?_⟩) hHeld ?_ ?_
       rotate_left
       ·
        rintro w' ⟨s0, s1⟩;go_simp
        with_reducible rfl
       rotate_left
       ·
        simp only [Act.put, zA, zB, zD, V7, V9]
        rfl
       refine U2 (i := 14) (N := some 47) #[T,T,T,T,T,T,T,T,T,T,T,T,T,T,T,F,F,F,F,F,F,F,F,F,F,F,F,F,F,F,F,F,F,F,F,F,F,F] rfl rfl (K3 HT_.out (by kernel_rfl)) (by decide) (fun K hK => ?_)
       refine O8 Tryz.func42 (by kernel_rfl) rfl #[.int .i64 (rd (y8 l0 x29_2) 1), .int .i64 0, .int .i64 19] (by rfl) rfl rfl (by (try simp only [List.map_toArray, List.map_cons, List.map_nil]); first | done | rfl | (simp only [List.length_drop, List.length_take]; rfl)) ?_
       with_reducible refine (K9.calls (rd (y8 l0 x29_2) 1) 0 19 false _ A22.out).mono ?_
       rintro e w' ⟨rfl, ⟨nd, rfl⟩⟩;refine ⟨_, rfl, ?_⟩
       refine hK.out _ _ ⟨((HB.out.cell (World.block_lt_of_cell? w _ hw548_0)).trans hw548_0), ((HB.out.cell (World.block_lt_of_cell? w _ hw550_0)).trans hw550_0)⟩ (fun hHeld => ?_)
       clear hK K;refine Y8 (a' := ?_) ?_ ?_;rotate_left
       ·
        show Act.put _ (some 47) _ = _
        simp only [Act.put, zA, zB, zD, V7, V9]
        rfl
       refine zU 15 48 #[T,T,T,T,T,T,T,T,T,T,T,T,T,T,T,T,F,F,F,F,F,F,F,F,F,F,F,F,F,F,F,F,F,F,F,F,F,F] ?_;refine zU 16 49 #[T,T,T,T,T,T,T,T,T,T,T,T,T,T,T,T,T,F,F,F,F,F,F,F,F,F,F,F,F,F,F,F,F,F,F,F,F,F] ?_;refine zU 17 50 #[T,T,T,T,T,T,T,T,T,T,T,T,T,T,T,T,T,T,F,F,F,F,F,F,F,F,F,F,F,F,F,F,F,F,F,F,F,F] ?_;refine zV 18 51 #[T,T,T,T,T,T,T,T,T,T,T,T,T,T,T,T,T,T,T,F,F,F,F,F,F,F,F,F,F,F,F,F,F,F,F,F,F,F] ?_;refine zV 19 52 #[T,T,T,T,T,T,T,T,T,T,T,T,T,T,T,T,T,T,T,T,F,F,F,F,F,F,F,F,F,F,F,F,F,F,F,F,F,F] ?_;refine zV 20 53 #[T,T,T,T,T,T,T,T,T,T,T,T,T,T,T,T,T,T,T,T,T,F,F,F,F,F,F,F,F,F,F,F,F,F,F,F,F,F] ?_;refine zV 21 54 #[T,T,T,T,T,T,T,T,T,T,T,T,T,T,T,T,T,T,T,T,T,T,F,F,F,F,F,F,F,F,F,F,F,F,F,F,F,F] ?_;refine zV 22 55 #[T,T,T,T,T,T,T,T,T,T,T,T,T,T,T,T,T,T,T,T,T,T,T,F,F,F,F,F,F,F,F,F,F,F,F,F,F,F] ?_;refine zU 23 56 #[T,T,T,T,T,T,T,T,T,T,T,T,T,T,T,T,T,T,T,T,T,T,T,T,F,F,F,F,F,F,F,F,F,F,F,F,F,F] ?_;refine zU 24 57 #[T,T,T,T,T,T,T,T,T,T,T,T,T,T,T,T,T,T,T,T,T,T,T,T,T,F,F,F,F,F,F,F,F,F,F,F,F,F] ?_;refine zV 25 58 #[T,T,T,T,T,T,T,T,T,T,T,T,T,T,T,T,T,T,T,T,T,T,T,T,T,T,F,F,F,F,F,F,F,F,F,F,F,F] ?_;refine zV 26 59 #[T,T,T,T,T,T,T,T,T,T,T,T,T,T,T,T,T,T,T,T,T,T,T,T,T,T,T,F,F,F,F,F,F,F,F,F,F,F] ?_;refine zV 27 60 #[T,T,T,T,T,T,T,T,T,T,T,T,T,T,T,T,T,T,T,T,T,T,T,T,T,T,T,T,F,F,F,F,F,F,F,F,F,F] ?_;refine zV 28 61 #[T,T,T,T,T,T,T,T,T,T,T,T,T,T,T,T,T,T,T,T,T,T,T,T,T,T,T,T,T,F,F,F,F,F,F,F,F,F] ?_;refine zV 29 62 #[T,T,T,T,T,T,T,T,T,T,T,T,T,T,T,T,T,T,T,T,T,T,T,T,T,T,T,T,T,T,F,F,F,F,F,F,F,F] ?_;refine zV 30 63 #[T,T,T,T,T,T,T,T,T,T,T,T,T,T,T,T,T,T,T,T,T,T,T,T,T,T,T,T,T,T,T,F,F,F,F,F,F,F] ?_;refine zV 31 64 #[T,T,T,T,T,T,T,T,T,T,T,T,T,T,T,T,T,T,T,T,T,T,T,T,T,T,T,T,T,T,T,T,F,F,F,F,F,F] ?_;refine zV 32 65 #[T,T,T,T,T,T,T,T,T,T,T,T,T,T,T,T,T,T,T,T,T,T,T,T,T,T,T,T,T,T,T,T,T,F,F,F,F,F] ?_;refine zV 33 66 #[T,T,T,T,T,T,T,T,T,T,T,T,T,T,T,T,T,T,T,T,T,T,T,T,T,T,T,T,T,T,T,T,T,T,F,F,F,F] ?_;refine zV 34 67 #[T,T,T,T,T,T,T,T,T,T,T,T,T,T,T,T,T,T,T,T,T,T,T,T,T,T,T,T,T,T,T,T,T,T,T,F,F,F] ?_;refine zV 35 68 #[T,T,T,T,T,T,T,T,T,T,T,T,T,T,T,T,T,T,T,T,T,T,T,T,T,T,T,T,T,T,T,T,T,T,T,T,F,F] ?_;refine zV 36 69 #[T,T,T,T,T,T,T,T,T,T,T,T,T,T,T,T,T,T,T,T,T,T,T,T,T,T,T,T,T,T,T,T,T,T,T,T,T,F] ?_;refine zU 37 70 #[T,T,T,T,T,T,T,T,T,T,T,T,T,T,T,T,T,T,T,T,T,T,T,T,T,T,T,T,T,T,T,T,T,T,T,T,T,T] ?_;refine O7 (U0 HT_.out (by kernel_rfl)) ?_
       try go_wp2
       go_meet
       case rel => exact ⟨_, (true), zz, H', ⟨by have := HK1.out; have := HK2.out; first | omega | exact Nat.le_refl _⟩, ⟨by (try simp only [hl5_1]); (try simp only [hl5_2]); (with_reducible repeat (first | apply Kd.P9 | apply Kd.R4 | apply Kd.K7)); exact HO_4.out⟩, ⟨by (try simp only [hl5_1]); (try simp only [hl5_2]); (with_reducible repeat (first | apply Kd.P9 | apply Kd.R4 | apply Kd.K7)); exact HO_5.out⟩, ⟨zb⟩⟩
      subst c23;rw [if_pos rfl] at H;obtain ⟨c24, H⟩ := zJ H;have c24b0 := decide_eq_true c24;have c24b1 : decide (2 < (y8 l0 x29_2).length) = true := decide_eq_true (by omega);clear c24;obtain ⟨t553, A25, H⟩ := zI H;(try dsimp only at H);by_cases c26 : t553 = true
      rotate_left
      ·
       replace c26 := Bool.eq_false_iff.mpr c26;subst c26;rw [if_neg (show ¬ (false = true) by decide)] at H;have H' := zm H;clear H;try go_wp2
       have n0_ := zm (Kd.K7 HO_4.out);have n1_ := zm (Kd.K7 HO_5.out);have n2_ := zm (X3 HB.out);clear HO_4;clear HO_5;clear HB;have HO_4 := n0_;have HO_5 := n1_;have HB := n2_;clear n0_ n1_ n2_;have p548 : 0 ≤ (0 : Int) := (by omega);have q548 : 0 < ((y8 l0 x29_2).length : Int) := zd;obtain ⟨ad548, e548, hx548_0⟩ := Kd.Y9 HR547_0.out 0 p548 q548;have hw548_0 := hx548_0;(try rw [show ((0 : Int)).toNat = 0 from rfl] at hw548_0);(try rw [show 0 * 1 = 0 from rfl] at hw548_0);(try rw [Addr.add_zero'] at hw548_0);cases e548;have qi548 : (0 < (y8 l0 x29_2).length) = True := eq_true (by omega)
       (try rw [show ((0 : Int)).toNat = 0 from rfl] at hx548_0);(try rw [Addr.add_zero'] at hx548_0);replace hx548_0 := zx HB.out hx548_0;replace p548 := eq_true p548;replace q548 := eq_true q548;have p550 : 0 ≤ (1 : Int) := (by omega);have q550 : 1 < ((y8 l0 x29_2).length : Int) := zd;obtain ⟨ad550, e550, hx550_0⟩ := Kd.Y9 HR547_0.out 1 p550 q550;have hw550_0 := hx550_0;(try rw [show ((1 : Int)).toNat = 1 from rfl] at hw550_0);(try rw [show 1 * 1 = 1 from rfl] at hw550_0);(try simp only [Nat.reduceMul, Nat.reduceEqDiff, Go.Addr.add, ↓reduceIte] at hw550_0);obtain rfl : ad548 = ad550 := (by injection e550)
       skip
       (try simp only [show (1 : Int).toNat = 1 from rfl, Nat.reduceMul, Nat.reduceEqDiff, Go.Addr.add, ↓reduceIte] at hx550_0);have qi550 : (1 < (y8 l0 x29_2).length) = True := eq_true (by omega)
       (try rw [show ((1 : Int)).toNat = 1 from rfl] at hx550_0);replace hx550_0 := zx HB.out hx550_0;replace p550 := eq_true p550;replace q550 := eq_true q550;have p552 : 0 ≤ (2 : Int) := (by omega);have q552 : 2 < ((y8 l0 x29_2).length : Int) := zd;obtain ⟨ad552, e552, hx552_0⟩ := Kd.Y9 HR547_0.out 2 p552 q552;have hw552_0 := hx552_0;(try rw [show ((2 : Int)).toNat = 2 from rfl] at hw552_0);(try rw [show 2 * 1 = 2 from rfl] at hw552_0);(try simp only [Nat.reduceMul, Nat.reduceEqDiff, Go.Addr.add, ↓reduceIte] at hw552_0);obtain rfl : ad548 = ad552 := (by injection e552)
       skip
       (try simp only [show (2 : Int).toNat = 2 from rfl, Nat.reduceMul, Nat.reduceEqDiff, Go.Addr.add, ↓reduceIte] at hx552_0);have qi552 : (2 < (y8 l0 x29_2).length) = True := eq_true (by omega)
       (try rw [show ((2 : Int)).toNat = 2 from rfl] at hx552_0);replace hx552_0 := zx HB.out hx552_0;replace p552 := eq_true p552;replace q552 := eq_true q552;refine F7 (n := 38) (S := fun w' => w'.cell? ad548 = some (.int .i64 (rd (y8 l0 x29_2) 0)) ∧ w'.cell? ⟨ad548.block, ad548.off + 1, none⟩ = some (.int .i64 (rd (y8 l0 x29_2) 1)) ∧ w'.cell? ⟨ad548.block, ad548.off + 2, none⟩ = some (.int .i64 (rd (y8 l0 x29_2) 2))) (ds := []) #[F,F,F,F,F,F,F,F,F,F,F,F,F,F,F,F,F,F,F,F,F,F,F,F,F,F,F,F,F,F,F,F,F,F,F,F,F,F] (by kernel_rfl) rfl rfl ⟨((HB.out.cell (World.block_lt_of_cell? w _ hw548_0)).trans hw548_0), ((HB.out.cell (World.block_lt_of_cell? w _ hw550_0)).trans hw550_0), ((HB.out.cell (World.block_lt_of_cell? w _ hw552_0)).trans hw552_0)⟩ (fun hHeld => ?_); refine H6 d9.q5d d9.q44 (fun HT_ HW_ => ?_)
       generalize wr.drew = w30 at HO_4 HO_5 HB hx548_0 hx550_0 hx552_0 hHeld ⊢;refine zU 0 33 #[T,F,F,F,F,F,F,F,F,F,F,F,F,F,F,F,F,F,F,F,F,F,F,F,F,F,F,F,F,F,F,F,F,F,F,F,F,F] ?_;refine zU 1 34 #[T,T,F,F,F,F,F,F,F,F,F,F,F,F,F,F,F,F,F,F,F,F,F,F,F,F,F,F,F,F,F,F,F,F,F,F,F,F] ?_;refine zU 2 35 #[T,T,T,F,F,F,F,F,F,F,F,F,F,F,F,F,F,F,F,F,F,F,F,F,F,F,F,F,F,F,F,F,F,F,F,F,F,F] ?_;refine zU 3 36 #[T,T,T,T,F,F,F,F,F,F,F,F,F,F,F,F,F,F,F,F,F,F,F,F,F,F,F,F,F,F,F,F,F,F,F,F,F,F] ?_;refine zU 4 37 #[T,T,T,T,T,F,F,F,F,F,F,F,F,F,F,F,F,F,F,F,F,F,F,F,F,F,F,F,F,F,F,F,F,F,F,F,F,F] ?_;refine zU 5 38 #[T,T,T,T,T,T,F,F,F,F,F,F,F,F,F,F,F,F,F,F,F,F,F,F,F,F,F,F,F,F,F,F,F,F,F,F,F,F] ?_;refine G9 (i := 6) (N := some 39) (v := ?_) (a' := ?_) #[T,T,T,T,T,T,T,F,F,F,F,F,F,F,F,F,F,F,F,F,F,F,F,F,F,F,F,F,F,F,F,F,F,F,F,F,F,F] rfl rfl (Z9 HT_.out HW_.out (by kernel_rfl)) (fun _ _ _ h => h) (Or.inl ⟨by rfl, ?_⟩) hHeld ?_ ?_
       rotate_left
       ·
        rintro w' ⟨s0, s1, s2⟩;go_simp
        with_reducible rfl
       rotate_left
       ·
        simp only [Act.put, zA, zB, zD, V7, V9]
        rfl
       refine U2 (i := 7) (N := some 40) #[T,T,T,T,T,T,T,T,F,F,F,F,F,F,F,F,F,F,F,F,F,F,F,F,F,F,F,F,F,F,F,F,F,F,F,F,F,F] rfl rfl (K3 HT_.out (by kernel_rfl)) (by decide) (fun K hK => ?_)
       refine O8 Tryz.func41 (by kernel_rfl) rfl #[.int .i64 (rd (y8 l0 x29_2) 0)] (by rfl) rfl rfl (by (try simp only [List.map_toArray, List.map_cons, List.map_nil]); first | done | rfl | (simp only [List.length_drop, List.length_take]; rfl)) ?_
       with_reducible refine (q0h.calls (rd (y8 l0 x29_2) 0) true _ A19.out).mono ?_
       rintro e w' ⟨rfl, ⟨nd, rfl⟩⟩;refine ⟨_, rfl, ?_⟩
       refine hK.out _ _ ⟨((HB.out.cell (World.block_lt_of_cell? w _ hw548_0)).trans hw548_0), ((HB.out.cell (World.block_lt_of_cell? w _ hw550_0)).trans hw550_0), ((HB.out.cell (World.block_lt_of_cell? w _ hw552_0)).trans hw552_0)⟩ (fun hHeld => ?_)
       clear hK K;refine Y8 (a' := ?_) ?_ ?_;rotate_left
       ·
        show Act.put _ (some 40) _ = _
        simp only [Act.put, zA, zB, zD, V7, V9]
        rfl
       refine zU 8 41 #[T,T,T,T,T,T,T,T,T,F,F,F,F,F,F,F,F,F,F,F,F,F,F,F,F,F,F,F,F,F,F,F,F,F,F,F,F,F] ?_;refine zU 9 42 #[T,T,T,T,T,T,T,T,T,T,F,F,F,F,F,F,F,F,F,F,F,F,F,F,F,F,F,F,F,F,F,F,F,F,F,F,F,F] ?_;refine zU 10 43 #[T,T,T,T,T,T,T,T,T,T,T,F,F,F,F,F,F,F,F,F,F,F,F,F,F,F,F,F,F,F,F,F,F,F,F,F,F,F] ?_;refine zU 11 44 #[T,T,T,T,T,T,T,T,T,T,T,T,F,F,F,F,F,F,F,F,F,F,F,F,F,F,F,F,F,F,F,F,F,F,F,F,F,F] ?_;refine zU 12 45 #[T,T,T,T,T,T,T,T,T,T,T,T,T,F,F,F,F,F,F,F,F,F,F,F,F,F,F,F,F,F,F,F,F,F,F,F,F,F] ?_;refine G9 (i := 13) (N := some 46) (v := ?_) (a' := ?_) #[T,T,T,T,T,T,T,T,T,T,T,T,T,T,F,F,F,F,F,F,F,F,F,F,F,F,F,F,F,F,F,F,F,F,F,F,F,F] rfl rfl (Z9 HT_.out HW_.out (by kernel_rfl)) (fun _ _ _ h => h) (Or.inl ⟨by rfl, ?_⟩) hHeld ?_ ?_
       rotate_left
       ·
        rintro w' ⟨s0, s1, s2⟩;go_simp
        with_reducible rfl
       rotate_left
       ·
        simp only [Act.put, zA, zB, zD, V7, V9]
        rfl
       refine U2 (i := 14) (N := some 47) #[T,T,T,T,T,T,T,T,T,T,T,T,T,T,T,F,F,F,F,F,F,F,F,F,F,F,F,F,F,F,F,F,F,F,F,F,F,F] rfl rfl (K3 HT_.out (by kernel_rfl)) (by decide) (fun K hK => ?_)
       refine O8 Tryz.func42 (by kernel_rfl) rfl #[.int .i64 (rd (y8 l0 x29_2) 1), .int .i64 0, .int .i64 19] (by rfl) rfl rfl (by (try simp only [List.map_toArray, List.map_cons, List.map_nil]); first | done | rfl | (simp only [List.length_drop, List.length_take]; rfl)) ?_
       with_reducible refine (K9.calls (rd (y8 l0 x29_2) 1) 0 19 true _ A22.out).mono ?_
       rintro e w' ⟨rfl, ⟨nd, rfl⟩⟩;refine ⟨_, rfl, ?_⟩
       refine hK.out _ _ ⟨((HB.out.cell (World.block_lt_of_cell? w _ hw548_0)).trans hw548_0), ((HB.out.cell (World.block_lt_of_cell? w _ hw550_0)).trans hw550_0), ((HB.out.cell (World.block_lt_of_cell? w _ hw552_0)).trans hw552_0)⟩ (fun hHeld => ?_)
       clear hK K;refine Y8 (a' := ?_) ?_ ?_;rotate_left
       ·
        show Act.put _ (some 47) _ = _
        simp only [Act.put, zA, zB, zD, V7, V9]
        rfl
       refine zU 15 48 #[T,T,T,T,T,T,T,T,T,T,T,T,T,T,T,T,F,F,F,F,F,F,F,F,F,F,F,F,F,F,F,F,F,F,F,F,F,F] ?_;refine zU 16 49 #[T,T,T,T,T,T,T,T,T,T,T,T,T,T,T,T,T,F,F,F,F,F,F,F,F,F,F,F,F,F,F,F,F,F,F,F,F,F] ?_;refine zU 17 50 #[T,T,T,T,T,T,T,T,T,T,T,T,T,T,T,T,T,T,F,F,F,F,F,F,F,F,F,F,F,F,F,F,F,F,F,F,F,F] ?_;refine zU 18 51 #[T,T,T,T,T,T,T,T,T,T,T,T,T,T,T,T,T,T,T,F,F,F,F,F,F,F,F,F,F,F,F,F,F,F,F,F,F,F] ?_;refine zU 19 52 #[T,T,T,T,T,T,T,T,T,T,T,T,T,T,T,T,T,T,T,T,F,F,F,F,F,F,F,F,F,F,F,F,F,F,F,F,F,F] ?_;refine G9 (i := 20) (N := some 53) (v := ?_) (a' := ?_) #[T,T,T,T,T,T,T,T,T,T,T,T,T,T,T,T,T,T,T,T,T,F,F,F,F,F,F,F,F,F,F,F,F,F,F,F,F,F] rfl rfl (Z9 HT_.out HW_.out (by kernel_rfl)) (fun _ _ _ h => h) (Or.inl ⟨by rfl, ?_⟩) hHeld ?_ ?_
       rotate_left
       ·
        rintro w' ⟨s0, s1, s2⟩;go_simp
        with_reducible rfl
       rotate_left
       ·
        simp only [Act.put, zA, zB, zD, V7, V9]
        rfl
       refine U2 (i := 21) (N := some 54) #[T,T,T,T,T,T,T,T,T,T,T,T,T,T,T,T,T,T,T,T,T,T,F,F,F,F,F,F,F,F,F,F,F,F,F,F,F,F] rfl rfl (K3 HT_.out (by kernel_rfl)) (by decide) (fun K hK => ?_)
       refine O8 Tryz.func42 (by kernel_rfl) rfl #[.int .i64 (rd (y8 l0 x29_2) 2), .int .i64 0, .int .i64 1] (by rfl) rfl rfl (by (try simp only [List.map_toArray, List.map_cons, List.map_nil]); first | done | rfl | (simp only [List.length_drop, List.length_take]; rfl)) ?_
       with_reducible refine (K9.calls (rd (y8 l0 x29_2) 2) 0 1 false _ A25.out).mono ?_
       rintro e w' ⟨rfl, ⟨nd, rfl⟩⟩;refine ⟨_, rfl, ?_⟩
       refine hK.out _ _ ⟨((HB.out.cell (World.block_lt_of_cell? w _ hw548_0)).trans hw548_0), ((HB.out.cell (World.block_lt_of_cell? w _ hw550_0)).trans hw550_0), ((HB.out.cell (World.block_lt_of_cell? w _ hw552_0)).trans hw552_0)⟩ (fun hHeld => ?_)
       clear hK K;refine Y8 (a' := ?_) ?_ ?_;rotate_left
       ·
        show Act.put _ (some 54) _ = _
        simp only [Act.put, zA, zB, zD, V7, V9]
        rfl
       refine zU 22 55 #[T,T,T,T,T,T,T,T,T,T,T,T,T,T,T,T,T,T,T,T,T,T,T,F,F,F,F,F,F,F,F,F,F,F,F,F,F,F] ?_;refine zU 23 56 #[T,T,T,T,T,T,T,T,T,T,T,T,T,T,T,T,T,T,T,T,T,T,T,T,F,F,F,F,F,F,F,F,F,F,F,F,F,F] ?_;refine zU 24 57 #[T,T,T,T,T,T,T,T,T,T,T,T,T,T,T,T,T,T,T,T,T,T,T,T,T,F,F,F,F,F,F,F,F,F,F,F,F,F] ?_;refine zV 25 58 #[T,T,T,T,T,T,T,T,T,T,T,T,T,T,T,T,T,T,T,T,T,T,T,T,T,T,F,F,F,F,F,F,F,F,F,F,F,F] ?_;refine zV 26 59 #[T,T,T,T,T,T,T,T,T,T,T,T,T,T,T,T,T,T,T,T,T,T,T,T,T,T,T,F,F,F,F,F,F,F,F,F,F,F] ?_;refine zV 27 60 #[T,T,T,T,T,T,T,T,T,T,T,T,T,T,T,T,T,T,T,T,T,T,T,T,T,T,T,T,F,F,F,F,F,F,F,F,F,F] ?_;refine zV 28 61 #[T,T,T,T,T,T,T,T,T,T,T,T,T,T,T,T,T,T,T,T,T,T,T,T,T,T,T,T,T,F,F,F,F,F,F,F,F,F] ?_;refine zV 29 62 #[T,T,T,T,T,T,T,T,T,T,T,T,T,T,T,T,T,T,T,T,T,T,T,T,T,T,T,T,T,T,F,F,F,F,F,F,F,F] ?_;refine zV 30 63 #[T,T,T,T,T,T,T,T,T,T,T,T,T,T,T,T,T,T,T,T,T,T,T,T,T,T,T,T,T,T,T,F,F,F,F,F,F,F] ?_;refine zV 31 64 #[T,T,T,T,T,T,T,T,T,T,T,T,T,T,T,T,T,T,T,T,T,T,T,T,T,T,T,T,T,T,T,T,F,F,F,F,F,F] ?_;refine zV 32 65 #[T,T,T,T,T,T,T,T,T,T,T,T,T,T,T,T,T,T,T,T,T,T,T,T,T,T,T,T,T,T,T,T,T,F,F,F,F,F] ?_;refine zV 33 66 #[T,T,T,T,T,T,T,T,T,T,T,T,T,T,T,T,T,T,T,T,T,T,T,T,T,T,T,T,T,T,T,T,T,T,F,F,F,F] ?_;refine zV 34 67 #[T,T,T,T,T,T,T,T,T,T,T,T,T,T,T,T,T,T,T,T,T,T,T,T,T,T,T,T,T,T,T,T,T,T,T,F,F,F] ?_;refine zV 35 68 #[T,T,T,T,T,T,T,T,T,T,T,T,T,T,T,T,T,T,T,T,T,T,T,T,T,T,T,T,T,T,T,T,T,T,T,T,F,F] ?_;refine zV 36 69 #[T,T,T,T,T,T,T,T,T,T,T,T,T,T,T,T,T,T,T,T,T,T,T,T,T,T,T,T,T,T,T,T,T,T,T,T,T,F] ?_;refine zU 37 70 #[T,T,T,T,T,T,T,T,T,T,T,T,T,T,T,T,T,T,T,T,T,T,T,T,T,T,T,T,T,T,T,T,T,T,T,T,T,T] ?_;refine O7 (U0 HT_.out (by kernel_rfl)) ?_
       try go_wp2
       go_meet
       case rel => exact ⟨_, (true), zz, H', ⟨by have := HK1.out; have := HK2.out; first | omega | exact Nat.le_refl _⟩, ⟨by (try simp only [hl5_1]); (try simp only [hl5_2]); (with_reducible repeat (first | apply Kd.P9 | apply Kd.R4 | apply Kd.K7)); exact HO_4.out⟩, ⟨by (try simp only [hl5_1]); (try simp only [hl5_2]); (with_reducible repeat (first | apply Kd.P9 | apply Kd.R4 | apply Kd.K7)); exact HO_5.out⟩, ⟨zb⟩⟩
      subst c26;rw [if_pos rfl] at H;obtain ⟨c27, H⟩ := zJ H;have c27b0 := decide_eq_true c27;clear c27;obtain ⟨c28, H⟩ := zJ H;have c28b0 := decide_eq_true c28;clear c28;have H' := zm H;clear H;try go_wp2
      have n0_ := zm (Kd.K7 HO_4.out);have n1_ := zm (Kd.K7 HO_5.out);have n2_ := zm (X3 HB.out);clear HO_4;clear HO_5;clear HB;have HO_4 := n0_;have HO_5 := n1_;have HB := n2_;clear n0_ n1_ n2_;have p548 : 0 ≤ (0 : Int) := (by omega);have q548 : 0 < ((y8 l0 x29_2).length : Int) := zd;obtain ⟨ad548, e548, hx548_0⟩ := Kd.Y9 HR547_0.out 0 p548 q548;have hw548_0 := hx548_0;(try rw [show ((0 : Int)).toNat = 0 from rfl] at hw548_0);(try rw [show 0 * 1 = 0 from rfl] at hw548_0);(try rw [Addr.add_zero'] at hw548_0);cases e548;have qi548 : (0 < (y8 l0 x29_2).length) = True := eq_true (by omega)
      (try rw [show ((0 : Int)).toNat = 0 from rfl] at hx548_0);(try rw [Addr.add_zero'] at hx548_0);replace hx548_0 := zx HB.out hx548_0;replace p548 := eq_true p548;replace q548 := eq_true q548;have p550 : 0 ≤ (1 : Int) := (by omega);have q550 : 1 < ((y8 l0 x29_2).length : Int) := zd;obtain ⟨ad550, e550, hx550_0⟩ := Kd.Y9 HR547_0.out 1 p550 q550;have hw550_0 := hx550_0;(try rw [show ((1 : Int)).toNat = 1 from rfl] at hw550_0);(try rw [show 1 * 1 = 1 from rfl] at hw550_0);(try simp only [Nat.reduceMul, Nat.reduceEqDiff, Go.Addr.add, ↓reduceIte] at hw550_0);obtain rfl : ad548 = ad550 := (by injection e550)
      skip
      (try simp only [show (1 : Int).toNat = 1 from rfl, Nat.reduceMul, Nat.reduceEqDiff, Go.Addr.add, ↓reduceIte] at hx550_0);have qi550 : (1 < (y8 l0 x29_2).length) = True := eq_true (by omega)
      (try rw [show ((1 : Int)).toNat = 1 from rfl] at hx550_0);replace hx550_0 := zx HB.out hx550_0;replace p550 := eq_true p550;replace q550 := eq_true q550;have p552 : 0 ≤ (2 : Int) := (by omega);have q552 : 2 < ((y8 l0 x29_2).length : Int) := zd;obtain ⟨ad552, e552, hx552_0⟩ := Kd.Y9 HR547_0.out 2 p552 q552;have hw552_0 := hx552_0;(try rw [show ((2 : Int)).toNat = 2 from rfl] at hw552_0);(try rw [show 2 * 1 = 2 from rfl] at hw552_0);(try simp only [Nat.reduceMul, Nat.reduceEqDiff, Go.Addr.add, ↓reduceIte] at hw552_0);obtain rfl : ad548 = ad552 := (by injection e552)
      skip
      (try simp only [show (2 : Int).toNat = 2 from rfl, Nat.reduceMul, Nat.reduceEqDiff, Go.Addr.add, ↓reduceIte] at hx552_0);have qi552 : (2 < (y8 l0 x29_2).length) = True := eq_true (by omega)
      (try rw [show ((2 : Int)).toNat = 2 from rfl] at hx552_0);replace hx552_0 := zx HB.out hx552_0;replace p552 := eq_true p552;replace q552 := eq_true q552;have p554 : 0 ≤ (1 : Int) := (by omega);have q554 : 1 < ((y8 l0 x29_2).length : Int) := zd;obtain ⟨ad554, e554, hx554_0⟩ := Kd.Y9 HR547_0.out 1 p554 q554;have hw554_0 := hx554_0;(try rw [show ((1 : Int)).toNat = 1 from rfl] at hw554_0);(try rw [show 1 * 1 = 1 from rfl] at hw554_0);(try simp only [Nat.reduceMul, Nat.reduceEqDiff, Go.Addr.add, ↓reduceIte] at hw554_0);obtain rfl : ad548 = ad554 := (by injection e554)
      skip
      (try simp only [show (1 : Int).toNat = 1 from rfl, Nat.reduceMul, Nat.reduceEqDiff, Go.Addr.add, ↓reduceIte] at hx554_0);have qi554 : (1 < (y8 l0 x29_2).length) = True := eq_true (by omega)
      (try rw [show ((1 : Int)).toNat = 1 from rfl] at hx554_0);replace hx554_0 := zx HB.out hx554_0;replace p554 := eq_true p554;replace q554 := eq_true q554;have p555 : 0 ≤ ((rd (y8 l0 x29_2) 1) : Int) := zd;have q555 : (rd (y8 l0 x29_2) 1) < (x5_2.length : Int) := zd;obtain ⟨ad555, e555, hx555_0⟩ := Kd.Y9 (Kd.y9 HO_5.out).2.2 (rd (y8 l0 x29_2) 1) p555 q555;cases e555;replace p555 := eq_true p555;replace q555 := eq_true q555;have p556 : 0 ≤ (2 : Int) := (by omega);have q556 : 2 < ((y8 l0 x29_2).length : Int) := zd;obtain ⟨ad556, e556, hx556_0⟩ := Kd.Y9 HR547_0.out 2 p556 q556;have hw556_0 := hx556_0;(try rw [show ((2 : Int)).toNat = 2 from rfl] at hw556_0);(try rw [show 2 * 1 = 2 from rfl] at hw556_0);(try simp only [Nat.reduceMul, Nat.reduceEqDiff, Go.Addr.add, ↓reduceIte] at hw556_0);obtain rfl : ad548 = ad556 := (by injection e556)
      skip
      (try simp only [show (2 : Int).toNat = 2 from rfl, Nat.reduceMul, Nat.reduceEqDiff, Go.Addr.add, ↓reduceIte] at hx556_0);have qi556 : (2 < (y8 l0 x29_2).length) = True := eq_true (by omega)
      (try rw [show ((2 : Int)).toNat = 2 from rfl] at hx556_0);replace hx556_0 := zx HB.out hx556_0;replace p556 := eq_true p556;replace q556 := eq_true q556;refine F7 (n := 38) (S := fun w' => w'.cell? ad548 = some (.int .i64 (rd (y8 l0 x29_2) 0)) ∧ w'.cell? ⟨ad548.block, ad548.off + 1, none⟩ = some (.int .i64 (rd (y8 l0 x29_2) 1)) ∧ w'.cell? ⟨ad548.block, ad548.off + 2, none⟩ = some (.int .i64 (rd (y8 l0 x29_2) 2)) ∧ w'.cell? ⟨ad548.block, ad548.off + 1, none⟩ = some (.int .i64 (rd (y8 l0 x29_2) 1)) ∧ w'.cell? (ad555.add ((rd (y8 l0 x29_2) 1)).toNat) = some (.int .i64 (rd x5_2 (rd (y8 l0 x29_2) 1))) ∧ w'.cell? ⟨ad548.block, ad548.off + 2, none⟩ = some (.int .i64 (rd (y8 l0 x29_2) 2))) (ds := []) #[F,F,F,F,F,F,F,F,F,F,F,F,F,F,F,F,F,F,F,F,F,F,F,F,F,F,F,F,F,F,F,F,F,F,F,F,F,F] (by kernel_rfl) rfl rfl ⟨((HB.out.cell (World.block_lt_of_cell? w _ hw548_0)).trans hw548_0), ((HB.out.cell (World.block_lt_of_cell? w _ hw550_0)).trans hw550_0), ((HB.out.cell (World.block_lt_of_cell? w _ hw552_0)).trans hw552_0), ((HB.out.cell (World.block_lt_of_cell? w _ hw554_0)).trans hw554_0), hx555_0, ((HB.out.cell (World.block_lt_of_cell? w _ hw556_0)).trans hw556_0)⟩ (fun hHeld => ?_); refine H6 d9.q5d d9.q44 (fun HT_ HW_ => ?_)
      generalize wr.drew = w29 at HO_4 HO_5 HB hx548_0 hx550_0 hx552_0 hx554_0 hx555_0 hx556_0 hHeld ⊢;refine zU 0 33 #[T,F,F,F,F,F,F,F,F,F,F,F,F,F,F,F,F,F,F,F,F,F,F,F,F,F,F,F,F,F,F,F,F,F,F,F,F,F] ?_;refine zU 1 34 #[T,T,F,F,F,F,F,F,F,F,F,F,F,F,F,F,F,F,F,F,F,F,F,F,F,F,F,F,F,F,F,F,F,F,F,F,F,F] ?_;refine zU 2 35 #[T,T,T,F,F,F,F,F,F,F,F,F,F,F,F,F,F,F,F,F,F,F,F,F,F,F,F,F,F,F,F,F,F,F,F,F,F,F] ?_;refine zU 3 36 #[T,T,T,T,F,F,F,F,F,F,F,F,F,F,F,F,F,F,F,F,F,F,F,F,F,F,F,F,F,F,F,F,F,F,F,F,F,F] ?_;refine zU 4 37 #[T,T,T,T,T,F,F,F,F,F,F,F,F,F,F,F,F,F,F,F,F,F,F,F,F,F,F,F,F,F,F,F,F,F,F,F,F,F] ?_;refine zU 5 38 #[T,T,T,T,T,T,F,F,F,F,F,F,F,F,F,F,F,F,F,F,F,F,F,F,F,F,F,F,F,F,F,F,F,F,F,F,F,F] ?_;refine G9 (i := 6) (N := some 39) (v := ?_) (a' := ?_) #[T,T,T,T,T,T,T,F,F,F,F,F,F,F,F,F,F,F,F,F,F,F,F,F,F,F,F,F,F,F,F,F,F,F,F,F,F,F] rfl rfl (Z9 HT_.out HW_.out (by kernel_rfl)) (fun _ _ _ h => h) (Or.inl ⟨by rfl, ?_⟩) hHeld ?_ ?_
      rotate_left
      ·
       rintro w' ⟨s0, s1, s2, s3, s4, s5⟩;go_simp
       with_reducible rfl
      rotate_left
      ·
       simp only [Act.put, zA, zB, zD, V7, V9]
       rfl
      refine U2 (i := 7) (N := some 40) #[T,T,T,T,T,T,T,T,F,F,F,F,F,F,F,F,F,F,F,F,F,F,F,F,F,F,F,F,F,F,F,F,F,F,F,F,F,F] rfl rfl (K3 HT_.out (by kernel_rfl)) (by decide) (fun K hK => ?_)
      refine O8 Tryz.func41 (by kernel_rfl) rfl #[.int .i64 (rd (y8 l0 x29_2) 0)] (by rfl) rfl rfl (by (try simp only [List.map_toArray, List.map_cons, List.map_nil]); first | done | rfl | (simp only [List.length_drop, List.length_take]; rfl)) ?_
      with_reducible refine (q0h.calls (rd (y8 l0 x29_2) 0) true _ A19.out).mono ?_
      rintro e w' ⟨rfl, ⟨nd, rfl⟩⟩;refine ⟨_, rfl, ?_⟩
      refine hK.out _ _ ⟨((HB.out.cell (World.block_lt_of_cell? w _ hw548_0)).trans hw548_0), ((HB.out.cell (World.block_lt_of_cell? w _ hw550_0)).trans hw550_0), ((HB.out.cell (World.block_lt_of_cell? w _ hw552_0)).trans hw552_0), ((HB.out.cell (World.block_lt_of_cell? w _ hw554_0)).trans hw554_0), hHeld.2.2.2.2.1, ((HB.out.cell (World.block_lt_of_cell? w _ hw556_0)).trans hw556_0)⟩ (fun hHeld => ?_)
      clear hK K;refine Y8 (a' := ?_) ?_ ?_;rotate_left
      ·
       show Act.put _ (some 40) _ = _
       simp only [Act.put, zA, zB, zD, V7, V9]
       rfl
      refine zU 8 41 #[T,T,T,T,T,T,T,T,T,F,F,F,F,F,F,F,F,F,F,F,F,F,F,F,F,F,F,F,F,F,F,F,F,F,F,F,F,F] ?_;refine zU 9 42 #[T,T,T,T,T,T,T,T,T,T,F,F,F,F,F,F,F,F,F,F,F,F,F,F,F,F,F,F,F,F,F,F,F,F,F,F,F,F] ?_;refine zU 10 43 #[T,T,T,T,T,T,T,T,T,T,T,F,F,F,F,F,F,F,F,F,F,F,F,F,F,F,F,F,F,F,F,F,F,F,F,F,F,F] ?_;refine zU 11 44 #[T,T,T,T,T,T,T,T,T,T,T,T,F,F,F,F,F,F,F,F,F,F,F,F,F,F,F,F,F,F,F,F,F,F,F,F,F,F] ?_;refine zU 12 45 #[T,T,T,T,T,T,T,T,T,T,T,T,T,F,F,F,F,F,F,F,F,F,F,F,F,F,F,F,F,F,F,F,F,F,F,F,F,F] ?_;refine G9 (i := 13) (N := some 46) (v := ?_) (a' := ?_) #[T,T,T,T,T,T,T,T,T,T,T,T,T,T,F,F,F,F,F,F,F,F,F,F,F,F,F,F,F,F,F,F,F,F,F,F,F,F] rfl rfl (Z9 HT_.out HW_.out (by kernel_rfl)) (fun _ _ _ h => h) (Or.inl ⟨by rfl, ?_⟩) hHeld ?_ ?_
      rotate_left
      ·
       rintro w' ⟨s0, s1, s2, s3, s4, s5⟩;go_simp
       with_reducible rfl
      rotate_left
      ·
       simp only [Act.put, zA, zB, zD, V7, V9]
       rfl
      refine U2 (i := 14) (N := some 47) #[T,T,T,T,T,T,T,T,T,T,T,T,T,T,T,F,F,F,F,F,F,F,F,F,F,F,F,F,F,F,F,F,F,F,F,F,F,F] rfl rfl (K3 HT_.out (by kernel_rfl)) (by decide) (fun K hK => ?_)
      refine O8 Tryz.func42 (by kernel_rfl) rfl #[.int .i64 (rd (y8 l0 x29_2) 1), .int .i64 0, .int .i64 19] (by rfl) rfl rfl (by (try simp only [List.map_toArray, List.map_cons, List.map_nil]); first | done | rfl | (simp only [List.length_drop, List.length_take]; rfl)) ?_
      with_reducible refine (K9.calls (rd (y8 l0 x29_2) 1) 0 19 true _ A22.out).mono ?_
      rintro e w' ⟨rfl, ⟨nd, rfl⟩⟩;refine ⟨_, rfl, ?_⟩
      refine hK.out _ _ ⟨((HB.out.cell (World.block_lt_of_cell? w _ hw548_0)).trans hw548_0), ((HB.out.cell (World.block_lt_of_cell? w _ hw550_0)).trans hw550_0), ((HB.out.cell (World.block_lt_of_cell? w _ hw552_0)).trans hw552_0), ((HB.out.cell (World.block_lt_of_cell? w _ hw554_0)).trans hw554_0), hHeld.2.2.2.2.1, ((HB.out.cell (World.block_lt_of_cell? w _ hw556_0)).trans hw556_0)⟩ (fun hHeld => ?_)
      clear hK K;refine Y8 (a' := ?_) ?_ ?_;rotate_left
      ·
       show Act.put _ (some 47) _ = _
       simp only [Act.put, zA, zB, zD, V7, V9]
       rfl
      refine zU 15 48 #[T,T,T,T,T,T,T,T,T,T,T,T,T,T,T,T,F,F,F,F,F,F,F,F,F,F,F,F,F,F,F,F,F,F,F,F,F,F] ?_;refine zU 16 49 #[T,T,T,T,T,T,T,T,T,T,T,T,T,T,T,T,T,F,F,F,F,F,F,F,F,F,F,F,F,F,F,F,F,F,F,F,F,F] ?_;refine zU 17 50 #[T,T,T,T,T,T,T,T,T,T,T,T,T,T,T,T,T,T,F,F,F,F,F,F,F,F,F,F,F,F,F,F,F,F,F,F,F,F] ?_;refine zU 18 51 #[T,T,T,T,T,T,T,T,T,T,T,T,T,T,T,T,T,T,T,F,F,F,F,F,F,F,F,F,F,F,F,F,F,F,F,F,F,F] ?_;refine zU 19 52 #[T,T,T,T,T,T,T,T,T,T,T,T,T,T,T,T,T,T,T,T,F,F,F,F,F,F,F,F,F,F,F,F,F,F,F,F,F,F] ?_;refine G9 (i := 20) (N := some 53) (v := ?_) (a' := ?_) #[T,T,T,T,T,T,T,T,T,T,T,T,T,T,T,T,T,T,T,T,T,F,F,F,F,F,F,F,F,F,F,F,F,F,F,F,F,F] rfl rfl (Z9 HT_.out HW_.out (by kernel_rfl)) (fun _ _ _ h => h) (Or.inl ⟨by rfl, ?_⟩) hHeld ?_ ?_
      rotate_left
      ·
       rintro w' ⟨s0, s1, s2, s3, s4, s5⟩;go_simp
       with_reducible rfl
      rotate_left
      ·
       simp only [Act.put, zA, zB, zD, V7, V9]
       rfl
      refine U2 (i := 21) (N := some 54) #[T,T,T,T,T,T,T,T,T,T,T,T,T,T,T,T,T,T,T,T,T,T,F,F,F,F,F,F,F,F,F,F,F,F,F,F,F,F] rfl rfl (K3 HT_.out (by kernel_rfl)) (by decide) (fun K hK => ?_)
      refine O8 Tryz.func42 (by kernel_rfl) rfl #[.int .i64 (rd (y8 l0 x29_2) 2), .int .i64 0, .int .i64 1] (by rfl) rfl rfl (by (try simp only [List.map_toArray, List.map_cons, List.map_nil]); first | done | rfl | (simp only [List.length_drop, List.length_take]; rfl)) ?_
      with_reducible refine (K9.calls (rd (y8 l0 x29_2) 2) 0 1 true _ A25.out).mono ?_
      rintro e w' ⟨rfl, ⟨nd, rfl⟩⟩;refine ⟨_, rfl, ?_⟩
      refine hK.out _ _ ⟨((HB.out.cell (World.block_lt_of_cell? w _ hw548_0)).trans hw548_0), ((HB.out.cell (World.block_lt_of_cell? w _ hw550_0)).trans hw550_0), ((HB.out.cell (World.block_lt_of_cell? w _ hw552_0)).trans hw552_0), ((HB.out.cell (World.block_lt_of_cell? w _ hw554_0)).trans hw554_0), hHeld.2.2.2.2.1, ((HB.out.cell (World.block_lt_of_cell? w _ hw556_0)).trans hw556_0)⟩ (fun hHeld => ?_)
      clear hK K;refine Y8 (a' := ?_) ?_ ?_;rotate_left
      ·
       show Act.put _ (some 54) _ = _
       simp only [Act.put, zA, zB, zD, V7, V9]
       rfl
      refine zU 22 55 #[T,T,T,T,T,T,T,T,T,T,T,T,T,T,T,T,T,T,T,T,T,T,T,F,F,F,F,F,F,F,F,F,F,F,F,F,F,F] ?_;refine zU 23 56 #[T,T,T,T,T,T,T,T,T,T,T,T,T,T,T,T,T,T,T,T,T,T,T,T,F,F,F,F,F,F,F,F,F,F,F,F,F,F] ?_;refine zU 24 57 #[T,T,T,T,T,T,T,T,T,T,T,T,T,T,T,T,T,T,T,T,T,T,T,T,T,F,F,F,F,F,F,F,F,F,F,F,F,F] ?_;refine zU 25 58 #[T,T,T,T,T,T,T,T,T,T,T,T,T,T,T,T,T,T,T,T,T,T,T,T,T,T,F,F,F,F,F,F,F,F,F,F,F,F] ?_;refine zU 26 59 #[T,T,T,T,T,T,T,T,T,T,T,T,T,T,T,T,T,T,T,T,T,T,T,T,T,T,T,F,F,F,F,F,F,F,F,F,F,F] ?_;refine zU 27 60 #[T,T,T,T,T,T,T,T,T,T,T,T,T,T,T,T,T,T,T,T,T,T,T,T,T,T,T,T,F,F,F,F,F,F,F,F,F,F] ?_;refine zU 32 65 #[T,T,T,T,T,T,T,T,T,T,T,T,T,T,T,T,T,T,T,T,T,T,T,T,T,T,T,T,F,F,F,F,T,F,F,F,F,F] ?_;refine zU 33 66 #[T,T,T,T,T,T,T,T,T,T,T,T,T,T,T,T,T,T,T,T,T,T,T,T,T,T,T,T,F,F,F,F,T,T,F,F,F,F] ?_;refine G9 (i := 28) (N := some 61) (v := ?_) (a' := ?_) #[T,T,T,T,T,T,T,T,T,T,T,T,T,T,T,T,T,T,T,T,T,T,T,T,T,T,T,T,T,F,F,F,T,T,F,F,F,F] rfl rfl (Z9 HT_.out HW_.out (by kernel_rfl)) (fun _ _ _ h => h) (Or.inl ⟨by rfl, ?_⟩) hHeld ?_ ?_
      rotate_left
      ·
       rintro w' ⟨s0, s1, s2, s3, s4, s5⟩;go_simp
       with_reducible rfl
      rotate_left
      ·
       simp only [Act.put, zA, zB, zD, V7, V9]
       rfl
      refine zU 29 62 #[T,T,T,T,T,T,T,T,T,T,T,T,T,T,T,T,T,T,T,T,T,T,T,T,T,T,T,T,T,T,F,F,T,T,F,F,F,F] ?_;refine G9 (i := 30) (N := some 63) (v := ?_) (a' := ?_) #[T,T,T,T,T,T,T,T,T,T,T,T,T,T,T,T,T,T,T,T,T,T,T,T,T,T,T,T,T,T,T,F,T,T,F,F,F,F] rfl rfl (Z9 HT_.out HW_.out (by kernel_rfl)) (fun _ _ _ h => h) (Or.inl ⟨by rfl, ?_⟩) hHeld ?_ ?_
      rotate_left
      ·
       rintro w' ⟨s0, s1, s2, s3, s4, s5⟩;go_simp
       with_reducible rfl
      rotate_left
      ·
       simp only [Act.put, zA, zB, zD, V7, V9]
       rfl
      refine zU 31 64 #[T,T,T,T,T,T,T,T,T,T,T,T,T,T,T,T,T,T,T,T,T,T,T,T,T,T,T,T,T,T,T,T,T,T,F,F,F,F] ?_;refine G9 (i := 34) (N := some 67) (v := ?_) (a' := ?_) #[T,T,T,T,T,T,T,T,T,T,T,T,T,T,T,T,T,T,T,T,T,T,T,T,T,T,T,T,T,T,T,T,T,T,T,F,F,F] rfl rfl (Z9 HT_.out HW_.out (by kernel_rfl)) (fun _ _ _ h => h) (Or.inl ⟨by rfl, ?_⟩) hHeld ?_ ?_
      rotate_left
      ·
       rintro w' ⟨s0, s1, s2, s3, s4, s5⟩;go_simp
       with_reducible rfl
      rotate_left
      ·
       simp only [Act.put, zA, zB, zD, V7, V9]
       rfl
      refine zU 35 68 #[T,T,T,T,T,T,T,T,T,T,T,T,T,T,T,T,T,T,T,T,T,T,T,T,T,T,T,T,T,T,T,T,T,T,T,T,F,F] ?_;refine zU 36 69 #[T,T,T,T,T,T,T,T,T,T,T,T,T,T,T,T,T,T,T,T,T,T,T,T,T,T,T,T,T,T,T,T,T,T,T,T,T,F] ?_;refine zU 37 70 #[T,T,T,T,T,T,T,T,T,T,T,T,T,T,T,T,T,T,T,T,T,T,T,T,T,T,T,T,T,T,T,T,T,T,T,T,T,T] ?_;refine O7 (U0 HT_.out (by kernel_rfl)) ?_
      try go_wp2
      go_meet
      case rel => exact ⟨_, (((decide ((rd x5_2 (rd (y8 l0 x29_2) 1)) ≥ 0)) == ((rd (y8 l0 x29_2) 2) == 1))), zz, H', ⟨by have := HK1.out; have := HK2.out; first | omega | exact Nat.le_refl _⟩, ⟨by (try simp only [hl5_1]); (try simp only [hl5_2]); (with_reducible repeat (first | apply Kd.P9 | apply Kd.R4 | apply Kd.K7)); exact HO_4.out⟩, ⟨by (try simp only [hl5_1]); (try simp only [hl5_2]); (with_reducible repeat (first | apply Kd.P9 | apply Kd.R4 | apply Kd.K7)); exact HO_5.out⟩, ⟨zb⟩⟩
     case rest =>
      clear HC16;(try clear p2); (try clear p5); (try clear q5); (try clear hx5); (try clear qi5); (try clear c17b0); (try clear c17b1); (try clear hx548_0); (try clear p548); (try clear q548);obtain ⟨kq, x70_15, rfl, HA, HJ15, HO_4, HO_5, HB⟩ := hcut;cases kq with
      | zero => exact absurd HA.out (by simp [d9.j2])
      | succ kj15 =>
       have H := HA.out;clear HA;simp only [d9.j2] at H;by_cases c34 : x70_15 = true
       ·
        subst c34;rw [if_pos rfl] at H;simp only [Option.some.injEq, Prod.mk.injEq] at H;obtain ⟨rfl, rfl⟩ := H;go_wp2;go_ret2
        exact ⟨_, zr, by first | exact Kd.U8 _ _ _ _ _ | exact Kd.q0r _ _ _ _ _ | exact Kd.q0q _ _ _ _ _ | exact Kd.q0s _ _ _ _ _ | exact Kd.q0t _ _ _ _ _, zb⟩
       replace c34 := Bool.eq_false_iff.mpr c34;subst c34;rw [if_neg (show ¬ (false = true) by decide)] at H;obtain ⟨c35, H⟩ := zJ H;have c35b0 := decide_eq_true c35;have c35b1 : decide (2 < (y8 l0 x29_2).length) = true := decide_eq_true (by omega);clear c35;by_cases c36 : (rd (y8 l0 x29_2) 2) = 1
       ·
        rw [if_pos c36] at H;have c36b0 : ((rd (y8 l0 x29_2) 2) == 1) = true := beq_iff_eq.mpr c36;have c36b1 : ((rd (y8 l0 x29_2) 2) != 1) = false := bne_eq_false_iff_eq.mpr c36;clear c36;obtain ⟨c37, H⟩ := zJ H;have c37b0 := decide_eq_true c37;have c37b1 : decide (1 < (y8 l0 x29_2).length) = true := decide_eq_true (by omega);clear c37;obtain ⟨c38, H⟩ := zJ H;have c38b0 := decide_eq_true c38;have c38b1 : decide (0 < (y8 l0 x29_2).length) = true := decide_eq_true (by omega);clear c38;obtain ⟨c39, H⟩ := zJ H;have c39b0 := decide_eq_true c39;clear c39;obtain ⟨c40, H⟩ := zJ H;have c40b0 := decide_eq_true c40;clear c40;obtain ⟨y560, hy560⟩ : ∃ y_ : List Int, y_ = (x5_2.set ((rd (y8 l0 x29_2) 1) : Int).toNat (rd (y8 l0 x29_2) 0)) := ⟨_, rfl⟩;(first | (rw [← hy560] at H; with_reducible replace H := zO H) | rw [← hy560] at H);have Ny560 := zm hy560;clear hy560;have H' := zm H;clear H;have p557 : 0 ≤ (2 : Int) := (by omega);have q557 : 2 < ((y8 l0 x29_2).length : Int) := zd;obtain ⟨ad557, e557, hx557_0⟩ := Kd.Y9 HR547_0.out 2 p557 q557;cases e557;(try simp only [show (2 : Int).toNat = 2 from rfl, Nat.reduceMul, Nat.reduceEqDiff, Go.Addr.add, ↓reduceIte] at hx557_0);have qi557 : (2 < (y8 l0 x29_2).length) = True := eq_true (by omega)
        (try rw [show ((2 : Int)).toNat = 2 from rfl] at hx557_0);replace hx557_0 := zx HB.out hx557_0;replace p557 := eq_true p557;replace q557 := eq_true q557;try go_wp2
        have n0_ := zm (Kd.K7 HO_4.out);have n1_ := zm (Kd.K7 HO_5.out);have n2_ := zm (X3 HB.out);clear HO_4;clear HO_5;clear HB;have HO_4 := n0_;have HO_5 := n1_;have HB := n2_;clear n0_ n1_ n2_;have p558 : 0 ≤ (1 : Int) := (by omega);have q558 : 1 < ((y8 l0 x29_2).length : Int) := zd;obtain ⟨ad558, e558, hx558_0⟩ := Kd.Y9 HR547_0.out 1 p558 q558;have hw558_0 := hx558_0;(try rw [show ((1 : Int)).toNat = 1 from rfl] at hw558_0);(try rw [show 1 * 1 = 1 from rfl] at hw558_0);(try simp only [Nat.reduceMul, Nat.reduceEqDiff, Go.Addr.add, ↓reduceIte] at hw558_0);obtain rfl : ad557 = ad558 := (by injection e558)
        skip
        (try simp only [show (1 : Int).toNat = 1 from rfl, Nat.reduceMul, Nat.reduceEqDiff, Go.Addr.add, ↓reduceIte] at hx558_0);have qi558 : (1 < (y8 l0 x29_2).length) = True := eq_true (by omega)
        (try rw [show ((1 : Int)).toNat = 1 from rfl] at hx558_0);replace hx558_0 := zx HB.out hx558_0;replace p558 := eq_true p558;replace q558 := eq_true q558;have p559 : 0 ≤ (0 : Int) := (by omega);have q559 : 0 < ((y8 l0 x29_2).length : Int) := zd;obtain ⟨ad559, e559, hx559_0⟩ := Kd.Y9 HR547_0.out 0 p559 q559;have hw559_0 := hx559_0;(try rw [show ((0 : Int)).toNat = 0 from rfl] at hw559_0);(try rw [show 0 * 1 = 0 from rfl] at hw559_0);(try rw [Addr.add_zero'] at hw559_0);obtain rfl : ad557 = ad559 := (by injection e559)
        skip
        have qi559 : (0 < (y8 l0 x29_2).length) = True := eq_true (by omega)
        (try rw [show ((0 : Int)).toNat = 0 from rfl] at hx559_0);(try rw [Addr.add_zero'] at hx559_0);replace hx559_0 := zx HB.out hx559_0;replace p559 := eq_true p559;replace q559 := eq_true q559;have p41 : 0 ≤ ((rd (y8 l0 x29_2) 1) : Int) := zd;have q41 : ((rd (y8 l0 x29_2) 1) : Int) < ((x5_2.length : Int) : Int) := zd;obtain ⟨go41, co41, eo41, gb41, gl41, cl41, HG41⟩ := Kd.q30 HO_5.out (by omega);(first | cases eo41 | (injection eo41 with ea_ en_ ec_; (first | subst ea_ | (injection ea_ with ea_; subst ea_)); subst ec_; clear en_));have GB41 := zm gb41;have GG41 := zm HG41;clear gb41 gl41 HG41;obtain ⟨hx41_0, hf41_0⟩ := Kd.q3v 0 HO_5.out ((rd (y8 l0 x29_2) 1) : Int) p41 q41;replace p41 := eq_true p41;replace q41 := eq_true q41;have HP43 := Kd.v90 HO_5.out ((rd (y8 l0 x29_2) 1) : Int) (rd (y8 l0 x29_2) 0);rw [← Ny560.out] at HP43;have HQ43 := zm HP43;clear HP43;refine F7 (n := 9) (S := fun w' => w'.cell? ⟨ad557.block, ad557.off + 1, none⟩ = some (.int .i64 (rd (y8 l0 x29_2) 1)) ∧ w'.cell? ad557 = some (.int .i64 (rd (y8 l0 x29_2) 0))) (ds := [8]) #[F,F,F,F,F,F,F,F,F] (by kernel_rfl) rfl rfl ⟨((HB.out.cell (World.block_lt_of_cell? w _ hw558_0)).trans hw558_0), ((HB.out.cell (World.block_lt_of_cell? w _ hw559_0)).trans hw559_0)⟩ (fun hHeld => ?_); refine H6 d9.v9v d9.v8r (fun HT_ HW_ => ?_)
        generalize wc.drew = w42 at HO_4 HO_5 HB GG41 HQ43 hf41_0 hx41_0 hx558_0 hx559_0 hHeld ⊢;refine zU 0 75 #[T,F,F,F,F,F,F,F,F] ?_;refine zU 1 76 #[T,T,F,F,F,F,F,F,F] ?_;refine zU 2 77 #[T,T,T,F,F,F,F,F,F] ?_;refine zU 4 79 #[T,T,T,F,T,F,F,F,F] ?_;refine zU 5 80 #[T,T,T,F,T,T,F,F,F] ?_;refine G9 (i := 3) (N := some 78) (v := ?_) (a' := ?_) #[T,T,T,T,T,T,F,F,F] rfl rfl (Z9 HT_.out HW_.out (by kernel_rfl)) (fun _ _ _ h => h) (Or.inl ⟨by rfl, ?_⟩) hHeld ?_ ?_
        rotate_left
        ·
         rintro w' ⟨s0, s1⟩;go_simp
         with_reducible rfl
        rotate_left
        ·
         simp only [Act.put, zA, zB, zD, V7, V9]
         rfl
        refine G9 (i := 6) (N := some 81) (v := ?_) (a' := ?_) #[T,T,T,T,T,T,T,F,F] rfl rfl (Z9 HT_.out HW_.out (by kernel_rfl)) (fun _ _ _ h => h) (Or.inl ⟨by rfl, ?_⟩) hHeld ?_ ?_
        rotate_left
        ·
         rintro w' ⟨s0, s1⟩;go_simp
         with_reducible rfl
        rotate_left
        ·
         simp only [Act.put, zA, zB, zD, V7, V9]
         rfl
        refine zU 7 82 #[T,T,T,T,T,T,T,T,F] ?_;refine q4h (i := 8) (N := none) #[T,T,T,T,T,T,T,T,T] rfl rfl (K3 HT_.out (by kernel_rfl)) (by decide) (fun K hK => ?_)
        refine v6z (w1 := ?_) (by rfl) rfl ?_ ?_
        rotate_left
        ·
         go_simp
         rfl
        refine hK.out _ _ ?_
        clear hK K;refine O7 (U0 HT_.out (by kernel_rfl)) ?_
        try go_wp2
        (try simp only [← hl5_2]);go_roundg kj15
        case measure => have := HK1.out; have := HK2.out; have := HJ15.out; omega
        case rel => exact ⟨(x4_2), (y560), (wrap64 (x29_2 + 1)), zz, H', ⟨by have := HK1.out; have := HK2.out; have := HJ15.out; omega⟩, ⟨by (try simp only [hl5_1]); (try simp only [hl5_2]); (with_reducible repeat (first | apply Kd.P9 | apply Kd.R4 | apply Kd.K7)); exact Kd.l5 (Kd.Q8 (p := ⟨go41, ((rd (y8 l0 x29_2) 1) : Int).toNat, none⟩) (Kd.Y7 HO_4.out GG41.out (by decide)) (fun _ hk => hk.2) (.int .i64 (rd (y8 l0 x29_2) 0))) (fun _ hk => trivial)⟩, ⟨by (try simp only [hl5_1]); (try simp only [hl5_2]); (with_reducible repeat (first | apply Kd.P9 | apply Kd.R4 | apply Kd.K7)); exact HQ43.out⟩, ⟨by repeat (first | (with_reducible first | exact HB.out | apply N9 | apply M5 | apply X3 | refine q05 ?_ GB41.out) | exact HB.out)⟩⟩
       rw [if_neg c36] at H;have c36b0 : ((rd (y8 l0 x29_2) 2) == 1) = false := beq_eq_false_iff_ne.mpr c36;have c36b1 : ((rd (y8 l0 x29_2) 2) != 1) = true := bne_iff_ne.mpr c36;obtain ⟨c44, H⟩ := zJ H;have c44b0 := decide_eq_true c44;have c44b1 : decide (1 < (y8 l0 x29_2).length) = true := decide_eq_true (by omega);clear c44;obtain ⟨c45, H⟩ := zJ H;have c45b0 := decide_eq_true c45;clear c45;obtain ⟨c46, H⟩ := zJ H;have c46b0 := decide_eq_true c46;clear c46;obtain ⟨c47, H⟩ := zJ H;have c47b0 := decide_eq_true c47;have c47b1 : decide (0 < (y8 l0 x29_2).length) = true := decide_eq_true (by omega);clear c47;obtain ⟨c48, H⟩ := zJ H;have LMc48 := zm c48;clear c48;obtain ⟨y565, hy565⟩ : ∃ y_ : List (S48), y_ = (x4_2 ++ [(⟨rd (y8 l0 x29_2) 1, rd x5_2 (rd (y8 l0 x29_2) 1), rd (y8 l0 x29_2) 0⟩ : S48)]) := ⟨_, rfl⟩;(first | (rw [← hy565] at H; with_reducible replace H := zO H) | rw [← hy565] at H);have Ny565 := zm hy565;clear hy565;obtain ⟨y569, hy569⟩ : ∃ y_ : List Int, y_ = (x5_2.set ((rd (y8 l0 x29_2) 1) : Int).toNat (-1)) := ⟨_, rfl⟩;(first | (rw [← hy569] at H; with_reducible replace H := zO H) | rw [← hy569] at H);have Ny569 := zm hy569;clear hy569;have H' := zm H;clear H;have p557 : 0 ≤ (2 : Int) := (by omega);have q557 : 2 < ((y8 l0 x29_2).length : Int) := zd;obtain ⟨ad557, e557, hx557_0⟩ := Kd.Y9 HR547_0.out 2 p557 q557;cases e557;(try simp only [show (2 : Int).toNat = 2 from rfl, Nat.reduceMul, Nat.reduceEqDiff, Go.Addr.add, ↓reduceIte] at hx557_0);have qi557 : (2 < (y8 l0 x29_2).length) = True := eq_true (by omega)
       (try rw [show ((2 : Int)).toNat = 2 from rfl] at hx557_0);replace hx557_0 := zx HB.out hx557_0;replace p557 := eq_true p557;replace q557 := eq_true q557;try go_wp2
       have n0_ := zm (Kd.K7 HO_4.out);have n1_ := zm (Kd.K7 HO_5.out);have n2_ := zm (X3 HB.out);clear HO_4;clear HO_5;clear HB;have HO_4 := n0_;have HO_5 := n1_;have HB := n2_;clear n0_ n1_ n2_;have p561 : 0 ≤ (1 : Int) := (by omega);have q561 : 1 < ((y8 l0 x29_2).length : Int) := zd;obtain ⟨ad561, e561, hx561_0⟩ := Kd.Y9 HR547_0.out 1 p561 q561;have hw561_0 := hx561_0;(try rw [show ((1 : Int)).toNat = 1 from rfl] at hw561_0);(try rw [show 1 * 1 = 1 from rfl] at hw561_0);(try simp only [Nat.reduceMul, Nat.reduceEqDiff, Go.Addr.add, ↓reduceIte] at hw561_0);obtain rfl : ad557 = ad561 := (by injection e561)
       skip
       (try simp only [show (1 : Int).toNat = 1 from rfl, Nat.reduceMul, Nat.reduceEqDiff, Go.Addr.add, ↓reduceIte] at hx561_0);have qi561 : (1 < (y8 l0 x29_2).length) = True := eq_true (by omega)
       (try rw [show ((1 : Int)).toNat = 1 from rfl] at hx561_0);replace hx561_0 := zx HB.out hx561_0;replace p561 := eq_true p561;replace q561 := eq_true q561;have p562 : 0 ≤ (1 : Int) := (by omega);have q562 : 1 < ((y8 l0 x29_2).length : Int) := zd;obtain ⟨ad562, e562, hx562_0⟩ := Kd.Y9 HR547_0.out 1 p562 q562;have hw562_0 := hx562_0;(try rw [show ((1 : Int)).toNat = 1 from rfl] at hw562_0);(try rw [show 1 * 1 = 1 from rfl] at hw562_0);(try simp only [Nat.reduceMul, Nat.reduceEqDiff, Go.Addr.add, ↓reduceIte] at hw562_0);obtain rfl : ad557 = ad562 := (by injection e562)
       skip
       (try simp only [show (1 : Int).toNat = 1 from rfl, Nat.reduceMul, Nat.reduceEqDiff, Go.Addr.add, ↓reduceIte] at hx562_0);have qi562 : (1 < (y8 l0 x29_2).length) = True := eq_true (by omega)
       (try rw [show ((1 : Int)).toNat = 1 from rfl] at hx562_0);replace hx562_0 := zx HB.out hx562_0;replace p562 := eq_true p562;replace q562 := eq_true q562;have p563 : 0 ≤ ((rd (y8 l0 x29_2) 1) : Int) := zd;have q563 : (rd (y8 l0 x29_2) 1) < (x5_2.length : Int) := zd;obtain ⟨ad563, e563, hx563_0⟩ := Kd.Y9 (Kd.y9 HO_5.out).2.2 (rd (y8 l0 x29_2) 1) p563 q563;cases e563;replace p563 := eq_true p563;replace q563 := eq_true q563;have p564 : 0 ≤ (0 : Int) := (by omega);have q564 : 0 < ((y8 l0 x29_2).length : Int) := zd;obtain ⟨ad564, e564, hx564_0⟩ := Kd.Y9 HR547_0.out 0 p564 q564;have hw564_0 := hx564_0;(try rw [show ((0 : Int)).toNat = 0 from rfl] at hw564_0);(try rw [show 0 * 1 = 0 from rfl] at hw564_0);(try rw [Addr.add_zero'] at hw564_0);obtain rfl : ad557 = ad564 := (by injection e564)
       skip
       have qi564 : (0 < (y8 l0 x29_2).length) = True := eq_true (by omega)
       (try rw [show ((0 : Int)).toNat = 0 from rfl] at hx564_0);(try rw [Addr.add_zero'] at hx564_0);replace hx564_0 := zx HB.out hx564_0;replace p564 := eq_true p564;replace q564 := eq_true q564;refine F7 (n := 17) (S := fun w' => w'.cell? ⟨ad557.block, ad557.off + 1, none⟩ = some (.int .i64 (rd (y8 l0 x29_2) 1)) ∧ w'.cell? ⟨ad557.block, ad557.off + 1, none⟩ = some (.int .i64 (rd (y8 l0 x29_2) 1)) ∧ w'.cell? (ad563.add ((rd (y8 l0 x29_2) 1)).toNat) = some (.int .i64 (rd x5_2 (rd (y8 l0 x29_2) 1))) ∧ w'.cell? ad557 = some (.int .i64 (rd (y8 l0 x29_2) 0))) (ds := [14, 15]) #[F,F,F,F,F,F,F,F,F,F,F,F,F,F,F,F,F] (by kernel_rfl) rfl rfl ⟨((HB.out.cell (World.block_lt_of_cell? w _ hw561_0)).trans hw561_0), ((HB.out.cell (World.block_lt_of_cell? w _ hw562_0)).trans hw562_0), hx563_0, ((HB.out.cell (World.block_lt_of_cell? w _ hw564_0)).trans hw564_0)⟩ (fun hHeld => ?_); refine H6 d9.v9j d9.v95 (fun HT_ HW_ => ?_)
       generalize wc.drew = w50 at HO_4 HO_5 HB hx561_0 hx562_0 hx563_0 hx564_0 hHeld ⊢;refine zU 0 83 #[T,F,F,F,F,F,F,F,F,F,F,F,F,F,F,F,F] ?_;refine zU 1 84 #[T,T,F,F,F,F,F,F,F,F,F,F,F,F,F,F,F] ?_;refine zU 2 85 #[T,T,T,F,F,F,F,F,F,F,F,F,F,F,F,F,F] ?_;refine zU 4 87 #[T,T,T,F,T,F,F,F,F,F,F,F,F,F,F,F,F] ?_;refine zU 5 88 #[T,T,T,F,T,T,F,F,F,F,F,F,F,F,F,F,F] ?_;refine zU 6 89 #[T,T,T,F,T,T,T,F,F,F,F,F,F,F,F,F,F] ?_;refine zU 10 93 #[T,T,T,F,T,T,T,F,F,F,T,F,F,F,F,F,F] ?_;refine zU 11 94 #[T,T,T,F,T,T,T,F,F,F,T,T,F,F,F,F,F] ?_;refine G9 (i := 3) (N := some 86) (v := ?_) (a' := ?_) #[T,T,T,T,T,T,T,F,F,F,T,T,F,F,F,F,F] rfl rfl (Z9 HT_.out HW_.out (by kernel_rfl)) (fun _ _ _ h => h) (Or.inl ⟨by rfl, ?_⟩) hHeld ?_ ?_
       rotate_left
       ·
        rintro w' ⟨s0, s1, s2, s3⟩;go_simp
        with_reducible rfl
       rotate_left
       ·
        simp only [Act.put, zA, zB, zD, V7, V9]
        rfl
       refine G9 (i := 7) (N := some 90) (v := ?_) (a' := ?_) #[T,T,T,T,T,T,T,T,F,F,T,T,F,F,F,F,F] rfl rfl (Z9 HT_.out HW_.out (by kernel_rfl)) (fun _ _ _ h => h) (Or.inl ⟨by rfl, ?_⟩) hHeld ?_ ?_
       rotate_left
       ·
        rintro w' ⟨s0, s1, s2, s3⟩;go_simp
        with_reducible rfl
       rotate_left
       ·
        simp only [Act.put, zA, zB, zD, V7, V9]
        rfl
       refine zU 8 91 #[T,T,T,T,T,T,T,T,T,F,T,T,F,F,F,F,F] ?_;refine G9 (i := 9) (N := some 92) (v := ?_) (a' := ?_) #[T,T,T,T,T,T,T,T,T,T,T,T,F,F,F,F,F] rfl rfl (Z9 HT_.out HW_.out (by kernel_rfl)) (fun _ _ _ h => h) (Or.inl ⟨by rfl, ?_⟩) hHeld ?_ ?_
       rotate_left
       ·
        rintro w' ⟨s0, s1, s2, s3⟩;go_simp
        with_reducible rfl
       rotate_left
       ·
        simp only [Act.put, zA, zB, zD, V7, V9]
        rfl
       refine G9 (i := 12) (N := some 95) (v := ?_) (a' := ?_) #[T,T,T,T,T,T,T,T,T,T,T,T,T,F,F,F,F] rfl rfl (Z9 HT_.out HW_.out (by kernel_rfl)) (fun _ _ _ h => h) (Or.inl ⟨by rfl, ?_⟩) hHeld ?_ ?_
       rotate_left
       ·
        rintro w' ⟨s0, s1, s2, s3⟩;go_simp
        with_reducible rfl
       rotate_left
       ·
        simp only [Act.put, zA, zB, zD, V7, V9]
        rfl
       refine zU 13 96 #[T,T,T,T,T,T,T,T,T,T,T,T,T,T,F,F,F] ?_;refine q4h (i := 14) (N := some 97) #[T,T,T,T,T,T,T,T,T,T,T,T,T,T,T,F,F] rfl rfl (K3 HT_.out (by kernel_rfl)) (by decide) (fun K hK => ?_)
       refine v0f (w1 := ?_) (v := ?_) (by rfl) rfl ?_ ?_
       rotate_left 2
       ·
        go_simp
        constructor
        ·
         rfl
        ·
         rfl
       refine hK.out _ _ ?_
       clear hK K;refine Y8 (a' := ?_) ?_ ?_;rotate_left
       ·
        show Act.put _ (some 97) _ = _
        simp only [Act.put, zA, zB, zD, V7, V9]
        rfl
       refine q4h (i := 15) (N := some 98) #[T,T,T,T,T,T,T,T,T,T,T,T,T,T,T,T,F] rfl rfl (K3 HT_.out (by kernel_rfl)) (by decide) (fun K hK => ?_)
       refine Kd.q3m k48 (w0 := w) w.heap.size (by rfl) (.tmp 83) (.tmp 97) 24 48 (.agg #[(.int .i64 0), (.int .i64 0), (.int .i64 0)]) 24 rfl Tryz.underlying24 U1 rfl (by decide) (by omega) u4 x4_2 (⟨rd (y8 l0 x29_2) 1, rd x5_2 (rd (y8 l0 x29_2) 1), rd (y8 l0 x29_2) 0⟩ : S48) [.int .i64 (rd (y8 l0 x29_2) 1), .int .i64 (rd x5_2 (rd (y8 l0 x29_2) 1)), .int .i64 (rd (y8 l0 x29_2) 0)] (fun _ => True) (fun _ => False) rfl rfl ?aP (fun _ hk => hk.elim) ?aF ?aO ?aB ?aS ?aL ?_
       (case aP => exact O0 _ _ _ (⟨rd (y8 l0 x29_2) 1, rd x5_2 (rd (y8 l0 x29_2) 1), rd (y8 l0 x29_2) 0⟩ : S48))
       (case aB => exact zb)
       (case aF => exact (fun _ _ => trivial))
       (case aO => exact (zP HO_4.out))
       (case aS => exact (p8 zb))
       (case aL => have := LMc48.out; omega)
       intro v566 w51 ho hb hg hat;rw [← Ny565.out] at ho;have n0_ := zm (Kd.q4r (zP HO_5.out) (Kd.q7m (zP HO_4.out)) (by decide) hg);have n1_ := zm (hb);have n2_ := zm (ho);clear HO_5;clear HB;clear HO_4;have HO_5 := n0_;have HB := n1_;have HO567 := n2_;clear n0_ n1_ n2_;clear ho hb hg hat;refine hK.out _ _ ?_
       clear hK K;refine Y8 (a' := ?_) ?_ ?_;rotate_left
       ·
        show Act.put _ (some 98) _ = _
        simp only [Act.put, zA, zB, zD, V7, V9]
        rfl
       refine zU 16 4 #[T,T,T,T,T,T,T,T,T,T,T,T,T,T,T,T,T] ?_;refine O7 (U0 HT_.out (by kernel_rfl)) ?_
       have p568 : 0 ≤ (1 : Int) := (by omega);have q568 : 1 < ((y8 l0 x29_2).length : Int) := zd;obtain ⟨ad568, e568, hx568_0⟩ := Kd.Y9 HR547_0.out 1 p568 q568;obtain rfl : ad557 = ad568 := (by injection e568)
       skip
       (try simp only [show (1 : Int).toNat = 1 from rfl, Nat.reduceMul, Nat.reduceEqDiff, Go.Addr.add, ↓reduceIte] at hx568_0);have qi568 : (1 < (y8 l0 x29_2).length) = True := eq_true (by omega)
       (try rw [show ((1 : Int)).toNat = 1 from rfl] at hx568_0);replace hx568_0 := zx HB.out hx568_0;replace p568 := eq_true p568;replace q568 := eq_true q568;have p49 : 0 ≤ ((rd (y8 l0 x29_2) 1) : Int) := zd;have q49 : ((rd (y8 l0 x29_2) 1) : Int) < ((x5_2.length : Int) : Int) := zd;obtain ⟨go49, co49, eo49, gb49, gl49, cl49, HG49⟩ := Kd.q30 HO_5.out (by omega);(first | cases eo49 | (injection eo49 with ea_ en_ ec_; (first | subst ea_ | (injection ea_ with ea_; subst ea_)); subst ec_; clear en_));have GB49 := zm gb49;have GG49 := zm HG49;clear gb49 gl49 HG49;(first | simp only [add_plain] at hx563_0 | skip);obtain ⟨hx49_0, hf49_0⟩ := Kd.q3v 0 HO_5.out ((rd (y8 l0 x29_2) 1) : Int) p49 q49;replace p49 := eq_true p49;replace q49 := eq_true q49;obtain ⟨hy52_, hz52_⟩ := Kd.q3v 0 HO_5.out ((rd (y8 l0 x29_2) 1) : Int) (of_decide_eq_true (by first | (with_reducible assumption) | assumption)) (of_decide_eq_true (by first | (with_reducible assumption) | assumption));have HP52 := Kd.v04 HO_5.out ((rd (y8 l0 x29_2) 1) : Int) (-1);try go_wp2_with (first | ((with_reducible refine q2c (t := 3) (p := 103) rfl ?_); refine q1r (t := 3) (p := 103) (v := ?vo_w53) (w1 := (w51.setCell ⟨go49, ((rd (y8 l0 x29_2) 1) : Int).toNat, none⟩ (.int .i64 (-1)))) ?hg ?ho ?hn ?hr ?_; (case ho => rfl); (case hg => rfl); (case hn => rfl); (case hr => first | (go_simp; done) | (go_simp; rfl)); intro w53 hw; have hg : w51.grownBy w53 (some go49) := (by rw [hw]; exact HP52.2); have hp_ : Kd.R (Kd.int .i64) 3 w53 w.heap.size (fun _ => True) (.slice (some ⟨go49, 0, none⟩) x5_2.length co6) y569 := (by rw [hw, Ny569.out]; exact HP52.1); clear HP52; have n0_ := zm (hp_); replace HO567 := zm (Kd.q4r (v := (.slice (some ⟨go49, 0, none⟩) x5_2.length co6)) (zP HO567.out) (Kd.q7m HO_5.out) (by decide) hg); replace HB := zm ((by rw [hw]; exact q05 (HB.out) GB49.out : Below w.heap.size w w53)); replace HO_5 := n0_; clear n0_; clear hg hw hp_))
       (try simp only [← hl5_2]);go_roundg kj15
       case measure => have := HK1.out; have := HK2.out; have := HJ15.out; omega
       case rel => exact ⟨(y565), (y569), (wrap64 (x29_2 + 1)), zz, H', ⟨by have := HK1.out; have := HK2.out; have := HJ15.out; omega⟩, ⟨by (try simp only [hl5_1]); (try simp only [hl5_2]); (with_reducible repeat (first | apply Kd.P9 | apply Kd.R4 | apply Kd.K7)); exact HO567.out⟩, ⟨by (try simp only [hl5_1]); (try simp only [hl5_2]); (with_reducible repeat (first | apply Kd.P9 | apply Kd.R4 | apply Kd.K7)); exact HO_5.out⟩, ⟨zb⟩⟩
end Go.Proofs.YtkfledgkhgcicaaGreat.PFg
