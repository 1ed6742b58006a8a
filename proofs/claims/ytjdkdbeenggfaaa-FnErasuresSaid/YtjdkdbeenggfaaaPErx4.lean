import Derived.Test.YtjdkdbeenggfaaaPErx0
import Derived.Test.YtjdkdbeenggfaaaPErx3
namespace Go.Proofs.Ytjdkdbeenggfaaa.PEr
open Go.RowKit Go.Proofs.YtjdkdbeenggfaaaW.PrintWords Go.Proofs.YtjdkdbeenggfaaaW.PrintLast Go.Proofs.YtjdkdbeenggfaaaW.PrintMore
attribute [local go_sem] max2_int min2_int max_two min_two max_three min_three max_four min_four   -- for this text's walks alone
set_option linter.unusedVariables false
set_option linter.unusedSimpArgs false
mutual
def Q6.l0 : Nat → List ByteArray → List ByteArray → Int → Int → Option (List ByteArray × Bool)
  | 0, _, _, _, _ => none
  | k + 1, x4, x12, x13, x14 => if x14 < x13 then (if 0 ≤ x14 then (if x14 < (x12.length : Int) then ((Q8.f k (rdOf ByteArray.empty x12 x14) 111).bind fun t123 => ((H5.f t123).bind fun t124 => (if (rdOf ByteArray.empty x12 x14).size + t124.size ≤ 9223372036854775807 then (if x4.length < 8796093022208 then (Q6.l0 k (x4 ++ [(rdOf ByteArray.empty x12 x14) ++ t124]) x12 x13 (wrap64 (x14 + 1))) else (none)) else (none)))) else (none)) else (none)) else (Q6.l1 k x4 (⟨#[]⟩ : ByteArray) 0)
def Q6.l1 : Nat → List ByteArray → ByteArray → Int → Option (List ByteArray × Bool)
  | 0, _, _, _ => none
  | k + 1, x4, x7, x8 => if 0 < (x4.length : Int) then (if x8 < ((rdOf ByteArray.empty x4 0).size : Int) then ((J5.f k x4 (wrap64 ((x4.length : Int) + x8))).bind fun t129 => ((Q8.f k t129 111).bind fun t130 => ((H5.f t130).bind fun t131 => (if x7.size + t131.size ≤ 9223372036854775807 then (Q6.l1 k x4 (x7 ++ t131) (wrap64 (x8 + 1))) else (none))))) else (if x4.length < 8796093022208 then (some ((x4 ++ [x7]), true)) else (none))) else (none)
end
def Q6.f (k : Nat) (l0 : List ByteArray) : Option (List ByteArray × Bool) := (l7.f k l0 1 11 (⟨#[46, 111]⟩ : ByteArray)).bind fun t121 => (if t121 = true then (Q6.l0 k ([] : List ByteArray) l0 (l0.length : Int) 0) else (some (([] : List ByteArray), false)))
set_option maxHeartbeats 8000000 in
set_option maxRecDepth 100000 in
theorem Q6.calls (k : Nat) (A0 : Option Addr) (c0 : Nat) (l0 : List ByteArray) (r1 : List ByteArray) (r2 : Bool) (w : World) (hr0 : Kd.C Kd.string w A0 l0.length l0) (hc0 : l0.length ≤ c0) (h : Q6.f k l0 = some (r1, r2)) :
  Calls Try.prog 10 #[.slice A0 l0.length c0] w fun e w' => ∃ v0_ : Value, e = .returned (.tuple #[v0_, .bool r2]) ∧ Kd.R Kd.string 9 w' w.heap.size (fun _ => True) v0_ r1 ∧ Below w.heap.size w w' := by
 have HR0 := zm hr0;have HC0 := zm hc0;clear hr0 hc0;have HB := zm (Below.refl w.heap.size w);have H : ((l7.f k l0 1 11 (⟨#[46, 111]⟩ : ByteArray)).bind fun t121 => (if t121 = true then (Q6.l0 k ([] : List ByteArray) l0 (l0.length : Int) 0) else (some (([] : List ByteArray), false)))) = some (r1, r2) := h;clear h;obtain ⟨t121, A2, H⟩ := zI H;(try dsimp only at H);by_cases c3 : t121 = true
 rotate_left
 ·
  replace c3 := Bool.eq_false_iff.mpr c3;subst c3;rw [if_neg (show ¬ (false = true) by decide)] at H;simp only [Option.some.injEq, Prod.mk.injEq] at H;obtain ⟨rfl, rfl⟩ := H;go_enter Try.func10, Try.ntmps10;go_wp2_with (first | ((with_reducible refine gate_callee (f := 60) rfl ?_); refine goesA_ (some 10) Try.func60 #[.slice A0 l0.length c0, .int .i64 1, .int .i64 11, .string (⟨#[46, 111]⟩ : ByteArray)] rfl ?_; (with_reducible refine (l7.calls k _ _ l0 1 11 (⟨#[46, 111]⟩ : ByteArray) false _ ?side1 ?side2 A2.out).mono ?_); (case side1 => exact zF HR0.out); (case side2 => exact HC0.out); rintro e w' ⟨rfl, ⟨nd, rfl⟩⟩; refine ⟨_, rfl, ?_⟩))
  go_ret2
  exact ⟨_, zr, by first | exact Kd.R_nil _ _ _ _ _ | exact Kd.N_nil _ _ _ _ _ | exact Kd.V_nil _ _ _ _ _ | exact Kd.Q_nil _ _ _ _ _ | exact Kd.S_nil _ _ _ _ _, zb⟩
 subst c3;rw [if_pos rfl] at H;have H' := zm H;clear H;go_enter Try.func10, Try.ntmps10;go_wp2_with (first | ((with_reducible refine gate_callee (f := 60) rfl ?_); refine goesA_ (some 10) Try.func60 #[.slice A0 l0.length c0, .int .i64 1, .int .i64 11, .string (⟨#[46, 111]⟩ : ByteArray)] rfl ?_; (with_reducible refine (l7.calls k _ _ l0 1 11 (⟨#[46, 111]⟩ : ByteArray) true _ ?side1 ?side2 A2.out).mono ?_); (case side1 => exact zF HR0.out); (case side2 => exact HC0.out); rintro e w' ⟨rfl, ⟨nd, rfl⟩⟩; refine ⟨_, rfl, ?_⟩))
 go_loopg [4, 14] k (fun kq v4 v14 w' => ∃ (x4_1 : List ByteArray) (x14_1 : Int), v14 = .int .i64 x14_1 ∧ Aside0 (Q6.l0 kq x4_1 l0 (l0.length : Int) x14_1 = some (r1, r2)) ∧ Aside0 (kq ≤ k) ∧ Aside0 (Kd.R Kd.string 9 w' w.heap.size (fun _ => True) v4 x4_1) ∧ Aside0 (Below w.heap.size w w'))
 case atStart => exact ⟨(([] : List ByteArray)), (0), zz, H', ⟨Nat.le_refl _⟩, ⟨by first | exact Kd.R_nil _ _ _ _ _ | exact Kd.N_nil _ _ _ _ _ | exact Kd.V_nil _ _ _ _ _ | exact Kd.Q_nil _ _ _ _ _ | exact Kd.S_nil _ _ _ _ _⟩, ⟨zb⟩⟩
 case round =>
  clear H';(try clear p2);obtain ⟨x4_1, x14_1, rfl, HA, HK1, HO_4, HB⟩ := hrel;cases gk with
  | zero => exact absurd HA.out (by simp [Q6.l0])
  | succ k1 =>
   have H := HA.out;clear HA;simp only [Q6.l0] at H;by_cases c4 : x14_1 < (l0.length : Int)
   ·
    rw [if_pos c4] at H;have c4b0 := decide_eq_true c4;clear c4;obtain ⟨c5, H⟩ := zJ H;have c5b0 := decide_eq_true c5;clear c5;obtain ⟨c6, H⟩ := zJ H;have c6b0 := decide_eq_true c6;clear c6;obtain ⟨t123, A7, H⟩ := zI H;(try dsimp only at H);obtain ⟨t124, A8, H⟩ := zI H;(try dsimp only at H);obtain ⟨c9, H⟩ := zJ H;have c9b0 := eq_true c9;have c9b1 := decide_eq_true c9;try have c9b2 : (9223372036854775807 < (rdOf ByteArray.empty l0 x14_1).size + t124.size) = False := eq_false (Nat.not_lt.2 c9)
    obtain ⟨c10, H⟩ := zJ H;have LMc10 := zm c10;clear c10;obtain ⟨y125, hy125⟩ : ∃ y_ : List ByteArray, y_ = (x4_1 ++ [(rdOf ByteArray.empty l0 x14_1) ++ t124]) := ⟨_, rfl⟩;(first | (rw [← hy125] at H; with_reducible replace H := zO H) | rw [← hy125] at H);have Ny125 := zm hy125;clear hy125;have H' := zm H;clear H;have p122 : 0 ≤ (x14_1 : Int) := zd;have q122 : x14_1 < (l0.length : Int) := zd;obtain ⟨ad122, e122, hx122_0⟩ := Kd.at_string HR0.out x14_1 p122 q122;cases e122;replace hx122_0 := zx HB.out hx122_0;replace p122 := eq_true p122;replace q122 := eq_true q122;go_wp2_with (first | ((with_reducible refine gate_callee (f := 62) rfl ?_); refine goesA_ (some 21) Try.func62 #[.string (rdOf ByteArray.empty l0 x14_1), .int .u8 111] rfl ?_; (with_reducible refine (Q8.calls k1 (rdOf ByteArray.empty l0 x14_1) 111 t123 _ A7.out).mono ?_); rintro e w' ⟨rfl, ⟨nd, rfl⟩⟩; refine ⟨_, rfl, ?_⟩) | ((with_reducible refine gate_callee (f := 61) rfl ?_); refine goesA_ (some 22) Try.func61 #[.int .i64 t123] rfl ?_; (with_reducible refine (H5.calls t123 t124 _ A8.out).mono ?_); rintro e w' ⟨rfl, ⟨nd, rfl⟩⟩; refine ⟨_, rfl, ?_⟩) | ((with_reducible refine gate_builtin (b := .append) (xs := #[.tmp 18, .tmp 24]) rfl ?_); at_builtin; refine Kd.R_append Kd.string (w0 := w) w.heap.size rfl (.tmp 18) (.tmp 24) 23 9 (.string ⟨#[]⟩) 16 rfl Try.underlying23 q1m rfl (by decide) (by omega) u4 x4_1 ((rdOf ByteArray.empty l0 x14_1) ++ t124) [.string ((rdOf ByteArray.empty l0 x14_1) ++ t124)] (fun _ => True) (fun _ => False) rfl rfl ?aP (fun _ hk => hk.elim) ?aF ?aO ?aB ?aS ?aL ?_; (case aP => exact rfl); (case aB => exact zb); (case aF => exact (fun _ _ => trivial)); (case aO => exact (zP HO_4.out)); (case aS => exact (below_size zb)); (case aL => have := LMc10.out; omega); intro v126 w11 ho hb hg hat; rw [← Ny125.out] at ho; replace HB := zm (hb); have HO127 := zm (ho); clear HO_4; clear ho hb hg hat))
    go_roundg k1
    case measure => have := HK1.out; omega
    case rel => exact ⟨(y125), (wrap64 (x14_1 + 1)), zz, H', ⟨by have := HK1.out; omega⟩, ⟨zP HO127.out⟩, ⟨zb⟩⟩
   rw [if_neg c4] at H;have c4b0 := decide_eq_false c4;clear c4;have H' := zm H;clear H;go_wp2;go_loopg [7, 8] k1 (fun kq v7 v8 w' => ∃ (x7_2 : ByteArray) (x8_2 : Int), v7 = .string x7_2 ∧ v8 = .int .i64 x8_2 ∧ Aside0 (Q6.l1 kq x4_1 x7_2 x8_2 = some (r1, r2)) ∧ Aside0 (kq ≤ k1) ∧ Aside0 (Kd.R Kd.string 9 w' w.heap.size (fun _ => True) u4 x4_1) ∧ Aside0 (Below w.heap.size w w'))
   case atStart => exact ⟨((⟨#[]⟩ : ByteArray)), (0), zz, zz, H', ⟨Nat.le_refl _⟩, ⟨zP HO_4.out⟩, ⟨zb⟩⟩
   case round =>
    clear H';(try clear p1); (try clear q1); (try clear hx1); (try clear p2); (try clear c4b0); (try clear c5b0); (try clear c6b0); (try clear p6); (try clear c9b0); (try clear c9b1); (try clear c9b2); (try clear hx122_0); (try clear p122); (try clear p2); (try clear q122);obtain ⟨x7_2, x8_2, rfl, rfl, HA, HK2, HO_4, HB⟩ := hrel;cases gk with
    | zero => exact absurd HA.out (by simp [Q6.l1])
    | succ k2 =>
     have H := HA.out;clear HA;simp only [Q6.l1] at H;obtain ⟨c12, H⟩ := zJ H;have c12b0 := decide_eq_true c12;have c12b1 : decide (0 < x4_1.length) = true := decide_eq_true (by omega);clear c12;by_cases c13 : x8_2 < ((rdOf ByteArray.empty x4_1 0).size : Int)
     rotate_left
     ·
      rw [if_neg c13] at H;have c13b0 := decide_eq_false c13;clear c13;obtain ⟨c19, H⟩ := zJ H;have LMc19 := zm c19;clear c19;obtain ⟨y132, hy132⟩ : ∃ y_ : List ByteArray, y_ = (x4_1 ++ [x7_2]) := ⟨_, rfl⟩;(first | (rw [← hy132] at H; with_reducible replace H := zO H) | rw [← hy132] at H);have Ny132 := zm hy132;clear hy132;simp only [Option.some.injEq, Prod.mk.injEq] at H;obtain ⟨rfl, rfl⟩ := H;obtain ⟨Ao20, co20, eo20⟩ := Kd.R_slice HO_4.out;subst eo20;have p128 : 0 ≤ (0 : Int) := (by omega);have q128 : 0 < (x4_1.length : Int) := zd;obtain ⟨ad128, e128, hx128_0⟩ := Kd.at_string (Kd.R_reads' HO_4.out).2.2 0 p128 q128;cases e128;have qi128 : (0 < x4_1.length) = True := eq_true (by omega)
      (try rw [show ((0 : Int)).toNat = 0 from rfl] at hx128_0);(try rw [Addr.add_zero'] at hx128_0);replace p128 := eq_true p128;replace q128 := eq_true q128;go_wp2_with (first | ((with_reducible refine gate_builtin (b := .append) (xs := #[.tmp 45, .tmp 47]) rfl ?_); at_builtin; refine Kd.R_append Kd.string (w0 := w) w.heap.size rfl (.tmp 45) (.tmp 47) 23 9 (.string ⟨#[]⟩) 16 rfl Try.underlying23 q1m rfl (by decide) (by omega) (.slice (some ad128) x4_1.length co20) x4_1 x7_2 [.string x7_2] (fun _ => True) (fun _ => False) rfl rfl ?aP (fun _ hk => hk.elim) ?aF ?aO ?aB ?aS ?aL ?_; (case aP => exact rfl); (case aB => exact zb); (case aF => exact (fun _ _ => trivial)); (case aO => exact (zP HO_4.out)); (case aS => exact (below_size zb)); (case aL => have := LMc19.out; omega); intro v133 w21 ho hb hg hat; rw [← Ny132.out] at ho; replace HB := zm (hb); have HO134 := zm (ho); clear HO_4; clear ho hb hg hat))
      go_ret2
      exact ⟨_, zr, zP HO134.out, zb⟩
     rw [if_pos c13] at H;have c13b0 := decide_eq_true c13;clear c13;obtain ⟨t129, A14, H⟩ := zI H;(try dsimp only at H);obtain ⟨t130, A15, H⟩ := zI H;(try dsimp only at H);obtain ⟨t131, A16, H⟩ := zI H;(try dsimp only at H);obtain ⟨c17, H⟩ := zJ H;have c17b0 := eq_true c17;have c17b1 := decide_eq_true c17;try have c17b2 : (9223372036854775807 < x7_2.size + t131.size) = False := eq_false (Nat.not_lt.2 c17)
     have H' := zm H;clear H;obtain ⟨Ao18, co18, eo18⟩ := Kd.R_slice HO_4.out;subst eo18;have p128 : 0 ≤ (0 : Int) := (by omega);have q128 : 0 < (x4_1.length : Int) := zd;obtain ⟨ad128, e128, hx128_0⟩ := Kd.at_string (Kd.R_reads' HO_4.out).2.2 0 p128 q128;cases e128;have qi128 : (0 < x4_1.length) = True := eq_true (by omega)
     (try rw [show ((0 : Int)).toNat = 0 from rfl] at hx128_0);(try rw [Addr.add_zero'] at hx128_0);replace p128 := eq_true p128;replace q128 := eq_true q128;go_wp2_with (first | ((with_reducible refine gate_callee (f := 63) rfl ?_); refine goesA_ (some 41) Try.func63 #[.slice (some ad128) x4_1.length co18, .int .i64 (wrap64 ((x4_1.length : Int) + x8_2))] rfl ?_; (with_reducible refine (J5.calls k2 _ _ x4_1 (wrap64 ((x4_1.length : Int) + x8_2)) t129 _ ?side1 ?side2 A14.out).mono ?_); (case side1 => exact (Kd.R_reads' (zP HO_4.out)).2.2); (case side2 => exact (Kd.R_reads' HO_4.out).2.1); rintro e w' ⟨rfl, ⟨nd, rfl⟩⟩; refine ⟨_, rfl, ?_⟩) | ((with_reducible refine gate_callee (f := 62) rfl ?_); refine goesA_ (some 42) Try.func62 #[.string t129, .int .u8 111] rfl ?_; (with_reducible refine (Q8.calls k2 t129 111 t130 _ A15.out).mono ?_); rintro e w' ⟨rfl, ⟨nd, rfl⟩⟩; refine ⟨_, rfl, ?_⟩) | ((with_reducible refine gate_callee (f := 61) rfl ?_); refine goesA_ (some 43) Try.func61 #[.int .i64 t130] rfl ?_; (with_reducible refine (H5.calls t130 t131 _ A16.out).mono ?_); rintro e w' ⟨rfl, ⟨nd, rfl⟩⟩; refine ⟨_, rfl, ?_⟩))
     go_roundg k2
     case measure => have := HK1.out; have := HK2.out; omega
     case rel => exact ⟨(x7_2 ++ t131), (wrap64 (x8_2 + 1)), zz, zz, H', ⟨by have := HK1.out; have := HK2.out; omega⟩, ⟨zP HO_4.out⟩, ⟨zb⟩⟩
/-- A state of type 71 at block g of W; what its slices lead to came in by w0. -/
def j4 (w0 W : World) (g : Nat) (f0 : List Int) (f1 : Int) (f2 : Int) : Prop := ∃ A0 c0, W.heap[g]? = some (.cells #[.slice A0 f0.length c0, .int .i64 f1, .int .u64 f2] 71 (0, 0)) ∧ w0.heap.size ≤ g ∧ Kd.C (Kd.int .u8) w0 A0 f0.length f0
theorem j4.grown {w0 W : World} {g : Nat} {f0 : List Int} {f1 : Int} {f2 : Int} {W1 : World} {row : Option Nat} (h : j4 w0 W g f0 f1 f2) (hw : W.grownBy W1 row) (hne : some g ≠ row) : j4 w0 W1 g f0 f1 f2 := by
  obtain ⟨A0, c0, hb, hg, hr0⟩ := h
  exact ⟨A0, c0, blk_grown hb hw hne, hg, hr0⟩
theorem j4.q9x {w0 W : World} {g : Nat} {f0 : List Int} {f1 : Int} {f2 : Int} {α : Type} {d : Kd α} {e : Nat} {base : Nat} {ok : Nat → Prop} {v : Value} {xs : List α} (h : j4 w0 W g f0 f1 f2) (ho : Kd.N d e W base ok v xs) (ht : e ≠ 71) : some g ≠ v.ownBlock := by
  obtain ⟨A0, c0, hb, hg, hr0⟩ := h
  exact Kd.N_ne ho hb ht
theorem j4.fresh {w0 W : World} {g : Nat} {f0 : List Int} {f1 : Int} {f2 : Int} (h : j4 w0 W g f0 f1 f2) : ∀ k, W.heap.size ≤ k → k ≠ g := by
  obtain ⟨A0, c0, hb, hg, hr0⟩ := h
  exact Kd.freshB hb
theorem j4.kept {w0 W : World} {g : Nat} {f0 : List Int} {f1 : Int} {f2 : Int} {W1 : World} {S : Nat → Prop} (h : j4 w0 W g f0 f1 f2) (hk : Kept W W1 S) (hne : ¬ S g) : j4 w0 W1 g f0 f1 f2 := by
  obtain ⟨A0, c0, hb, hg, hr0⟩ := h
  exact ⟨A0, c0, blk_kept hb hk hne, hg, hr0⟩
theorem j4.below {w0 W : World} {g : Nat} {f0 : List Int} {f1 : Int} {f2 : Int} {W1 : World} (h : j4 w0 W g f0 f1 f2) (hw : Below W.heap.size W W1) : j4 w0 W1 g f0 f1 f2 := h.grown (grown_of_below hw none) (by simp)
theorem j4.alloc {w0 W : World} {g : Nat} {f0 : List Int} {f1 : Int} {f2 : Int} (h : j4 w0 W g f0 f1 f2) (o : Obj) : j4 w0 (W.alloc o) g f0 f1 f2 := h.below (below_alloc (Below.refl _ _) o)
theorem j4.drewN {w0 W : World} {g : Nat} {f0 : List Int} {f1 : Int} {f2 : Int} (h : j4 w0 W g f0 f1 f2) (m : Nat) : j4 w0 (W.drewN m) g f0 f1 f2 := h
theorem j4.drew {w0 W : World} {g : Nat} {f0 : List Int} {f1 : Int} {f2 : Int} (h : j4 w0 W g f0 f1 f2) : j4 w0 W.drew g f0 f1 f2 := h
theorem j4.at_ {w0 W : World} {g : Nat} {f0 : List Int} {f1 : Int} {f2 : Int} {w' : World} {m : Nat} (hq : W.drewN m = w') (h : j4 w0 W g f0 f1 f2) : j4 w0 w' g f0 f1 f2 := by subst hq; exact j4.drewN h m
theorem j4.apart {w0 W : World} {g : Nat} {f0 : List Int} {f1 : Int} {f2 : Int} {α : Type} {d : Kd α} {e : Nat} {base : Nat} {ok : Nat → Prop} {v : Value} {xs : List α} (h : j4 w0 W g f0 f1 f2) (ho : d.R e W base ok v xs) (ht : ∀ q, q ∈ e :: d.E → q ≠ 71) : d.R e W base (fun k => ok k ∧ k ≠ g) v xs := by
  obtain ⟨A0, c0, hb, hg, hr0⟩ := h
  exact Kd.R_types ho hb ht
theorem j4.own_ne {w0 W : World} {g : Nat} {f0 : List Int} {f1 : Int} {f2 : Int} {α : Type} {d : Kd α} {e : Nat} {base : Nat} {ok : Nat → Prop} {v : Value} {xs : List α} (h : j4 w0 W g f0 f1 f2) (ho : d.R e W base ok v xs) (ht : e ≠ 71) : some g ≠ v.ownBlock := by
  obtain ⟨A0, c0, hb, hg, hr0⟩ := h
  exact Kd.R_ne ho hb ht
theorem j4.q9z {w0 W : World} {g : Nat} {f0 : List Int} {f1 : Int} {f2 : Int} {α : Type} {d : Kd α} {e : Nat} {base : Nat} {ok : Nat → Prop} {v : Value} {xs : List α} (h : j4 w0 W g f0 f1 f2) (ho : d.Q e W base ok v xs) (ht : ∀ q, q ∈ e :: d.E → q ≠ 71) : d.Q e W base (fun k => ok k ∧ k ≠ g) v xs := by
  obtain ⟨A0, c0, hb, hg, hr0⟩ := h
  exact Kd.Q_types ho hb ht
theorem j4.q9y {w0 W : World} {g : Nat} {f0 : List Int} {f1 : Int} {f2 : Int} {α : Type} {d : Kd α} {e : Nat} {base : Nat} {ok : Nat → Prop} {v : Value} {xs : List α} (h : j4 w0 W g f0 f1 f2) (ho : d.Q e W base ok v xs) (ht : e ≠ 71) : some g ≠ v.ownBlock := by
  obtain ⟨A0, c0, hb, hg, hr0⟩ := h
  exact Kd.Q_ne ho hb ht
theorem j4.v02 {w0 W : World} {g : Nat} {f0 : List Int} {f1 : Int} {f2 : Int} {α : Type} {d : Kd α} {e : Nat} {base : Nat} {ok : Nat → Prop} {v : Value} {xs : List α} (h : j4 w0 W g f0 f1 f2) (ho : d.S e W base ok v xs) (ht : ∀ q, q ∈ e :: d.E → q ≠ 71) : d.S e W base (fun k => ok k ∧ k ≠ g) v xs := by
  obtain ⟨A0, c0, hb, hg, hr0⟩ := h
  exact Kd.S_types ho hb ht
theorem j4.q9w {w0 W : World} {g : Nat} {f0 : List Int} {f1 : Int} {f2 : Int} {α : Type} {d : Kd α} {e : Nat} {base : Nat} {ok : Nat → Prop} {v : Value} {xs : List α} (h : j4 w0 W g f0 f1 f2) (ho : d.S e W base ok v xs) (ht : e ≠ 71) : some g ≠ v.ownBlock := by
  obtain ⟨A0, c0, hb, hg, hr0⟩ := h
  exact Kd.S_ne ho hb ht
theorem j4.lt {w0 W : World} {g : Nat} {f0 : List Int} {f1 : Int} {f2 : Int} (h : j4 w0 W g f0 f1 f2) : g < W.heap.size := by
  obtain ⟨A0, c0, hb, hg, hr0⟩ := h
  exact blk_lt hb
theorem j4.ge {w0 W : World} {g : Nat} {f0 : List Int} {f1 : Int} {f2 : Int} (h : j4 w0 W g f0 f1 f2) : w0.heap.size ≤ g := by
  obtain ⟨A0, c0, hb, hg, hr0⟩ := h
  exact hg
theorem j4.v01 {w0 W : World} {g : Nat} {f0 : List Int} {f1 : Int} {f2 : Int} {a : Nat} {cs : Array Value} {t : TypeId} {fr : Nat × Nat} (h : j4 w0 W g f0 f1 f2) (hb2 : W.heap[a]? = some (.cells cs t fr)) (ht : t ≠ 71) : g ≠ a := by
  obtain ⟨A0, c0, hb, hg, hr0⟩ := h
  rintro rfl
  rw [hb] at hb2
  injection hb2 with hb2
  injection hb2 with _ ht2
  exact ht ht2.symm
theorem j4.far {w0 W : World} {g : Nat} {f0 : List Int} {f1 : Int} {f2 : Int} {p : Addr} (h : j4 w0 W g f0 f1 f2) (hne : g ≠ p.block) (u : Value) : j4 w0 (W.setCell p u) g f0 f1 f2 := by
  obtain ⟨A0, c0, hb, hg, hr0⟩ := h
  exact ⟨A0, c0, blk_far hb hne u, hg, hr0⟩
theorem O7 {W : World} {g : Nat} {A0 : Option Addr} {c0 : Nat} {f0 : List Int} {f1 : Int} {f2 : Int} (h : W.heap[g]? = some (.cells #[.slice A0 f0.length c0, .int .i64 f1, .int .u64 f2] 71 (0, 0))) : W.cell? ⟨g, 0, none⟩ = some (.slice A0 f0.length c0) := (blk_cell h 0).trans rfl
theorem q07 {W : World} {g : Nat} {A0 : Option Addr} {c0 : Nat} {f0 : List Int} {f1 : Int} {f2 : Int} (h : W.heap[g]? = some (.cells #[.slice A0 f0.length c0, .int .i64 f1, .int .u64 f2] 71 (0, 0))) : W.cell? ⟨g, 1, none⟩ = some (.int .i64 f1) := (blk_cell h 1).trans rfl
theorem j4.q05 {w0 W : World} {g : Nat} {f0 : List Int} {f1 : Int} {f2 : Int} (h : j4 w0 W g f0 f1 f2) (x : Int) : j4 w0 (W.setCell ⟨g, 1, none⟩ (.int .i64 x)) g f0 x f2 := by
  obtain ⟨A0, c0, hb, hg, hr0⟩ := h
  exact ⟨A0, c0, by simpa using blk_set hb 1 (.int .i64 x), hg, hr0⟩
theorem O6 {W : World} {g : Nat} {A0 : Option Addr} {c0 : Nat} {f0 : List Int} {f1 : Int} {f2 : Int} (h : W.heap[g]? = some (.cells #[.slice A0 f0.length c0, .int .i64 f1, .int .u64 f2] 71 (0, 0))) : W.cell? ⟨g, 2, none⟩ = some (.int .u64 f2) := (blk_cell h 2).trans rfl
theorem j4.q04 {w0 W : World} {g : Nat} {f0 : List Int} {f1 : Int} {f2 : Int} (h : j4 w0 W g f0 f1 f2) (x : Int) : j4 w0 (W.setCell ⟨g, 2, none⟩ (.int .u64 x)) g f0 f1 x := by
  obtain ⟨A0, c0, hb, hg, hr0⟩ := h
  exact ⟨A0, c0, by simpa using blk_set hb 2 (.int .u64 x), hg, hr0⟩
theorem j4.new (w0 W : World) (A0 : Option Addr) (c0 : Nat) (f0 : List Int) (f1 : Int) (f2 : Int) (hB : Below w0.heap.size w0 W) (hr0 : Kd.C (Kd.int .u8) w0 A0 f0.length f0) : j4 w0 (W.alloc (.cells #[.slice A0 f0.length c0, .int .i64 f1, .int .u64 f2] 71)) W.heap.size f0 f1 f2 := ⟨A0, c0, by simpa using heap_alloc_new W _, hB.size, hr0⟩
theorem y8 {w0 W : World} {g : Nat} {f0 : List Int} {f1 : Int} {f2 : Int} (h : j4 w0 W g f0 f1 f2 := by repeat (first | (with_reducible first | exact (Aside0.out (by with_reducible assumption)) | apply j4.alloc | apply j4.drewN | apply j4.drew | apply j4.q05 | apply j4.q04 | refine j4.far ?_ (Aside0.out (by with_reducible assumption)) _) | exact Aside0.out (by assumption))) : j4 w0 W g f0 f1 f2 := h
def W9.f (s0_0 : List Int) (s0_1 : Int) (s0_2 : Int) : Option (Int × Int × Int) := if s0_1 < (s0_0.length : Int) then (if 0 ≤ s0_1 then (if (wrap64 (s0_1 + 1)) ≤ (s0_0.length : Int) then (some (wrap64 (rd s0_0 s0_1), wrap64 (s0_1 + 1), IntKind.u64.wrap ((IntKind.u64.wrap ((IntKind.u64.wrap (s0_2 * 6364136223846793005)) + (IntKind.u64.wrap (wrap64 (rd s0_0 s0_1))))) + 1442695040888963407))) else (some (wrap64 (Go.bits .and .u64 ((IntKind.u64.wrap ((IntKind.u64.wrap ((IntKind.u64.wrap (s0_2 * 6364136223846793005)) + (IntKind.u64.wrap (wrap64 (rd s0_0 s0_1))))) + 1442695040888963407)) / 1099511627776) 255), wrap64 (s0_1 + 1), IntKind.u64.wrap ((IntKind.u64.wrap ((IntKind.u64.wrap (s0_2 * 6364136223846793005)) + (IntKind.u64.wrap (wrap64 (rd s0_0 s0_1))))) + 1442695040888963407)))) else (none)) else (if (wrap64 (s0_1 + 1)) ≤ (s0_0.length : Int) then (some (0, wrap64 (s0_1 + 1), IntKind.u64.wrap ((IntKind.u64.wrap ((IntKind.u64.wrap (s0_2 * 6364136223846793005)) + 0)) + 1442695040888963407))) else (some (wrap64 (Go.bits .and .u64 ((IntKind.u64.wrap ((IntKind.u64.wrap ((IntKind.u64.wrap (s0_2 * 6364136223846793005)) + 0)) + 1442695040888963407)) / 1099511627776) 255), wrap64 (s0_1 + 1), IntKind.u64.wrap ((IntKind.u64.wrap ((IntKind.u64.wrap (s0_2 * 6364136223846793005)) + 0)) + 1442695040888963407))))
set_option maxHeartbeats 8000000 in
set_option maxRecDepth 100000 in
theorem W9.calls (g : Nat) (s0_0 : List Int) (s0_1 : Int) (s0_2 : Int) (r1 : Int) (r2 : Int) (r3 : Int) (w0 w : World) (hI : j4 w0 w g s0_0 s0_1 s0_2) (hB : Below w0.heap.size w0 w) (h : W9.f s0_0 s0_1 s0_2 = some (r1, r2, r3)) :
  Calls Try.prog 129 #[.pointer (some ⟨g, 0, none⟩)] w fun e w' => e = .returned (.int .i64 r1) ∧ j4 w0 w' g s0_0 r2 r3 ∧ Below w0.heap.size w0 w' ∧ KeepBut w w' g none := by
 have HI0 := zm hI;have GHI0 := zm (j4.ge HI0.out);have HK := zm (KeepBut.refl w g none);have HL := zm hB.size;clear hI;have HW0 := zm hB.size;have HB := zm hB;clear hB;have H : (if s0_1 < (s0_0.length : Int) then (if 0 ≤ s0_1 then (if (wrap64 (s0_1 + 1)) ≤ (s0_0.length : Int) then (some (wrap64 (rd s0_0 s0_1), wrap64 (s0_1 + 1), IntKind.u64.wrap ((IntKind.u64.wrap ((IntKind.u64.wrap (s0_2 * 6364136223846793005)) + (IntKind.u64.wrap (wrap64 (rd s0_0 s0_1))))) + 1442695040888963407))) else (some (wrap64 (Go.bits .and .u64 ((IntKind.u64.wrap ((IntKind.u64.wrap ((IntKind.u64.wrap (s0_2 * 6364136223846793005)) + (IntKind.u64.wrap (wrap64 (rd s0_0 s0_1))))) + 1442695040888963407)) / 1099511627776) 255), wrap64 (s0_1 + 1), IntKind.u64.wrap ((IntKind.u64.wrap ((IntKind.u64.wrap (s0_2 * 6364136223846793005)) + (IntKind.u64.wrap (wrap64 (rd s0_0 s0_1))))) + 1442695040888963407)))) else (none)) else (if (wrap64 (s0_1 + 1)) ≤ (s0_0.length : Int) then (some (0, wrap64 (s0_1 + 1), IntKind.u64.wrap ((IntKind.u64.wrap ((IntKind.u64.wrap (s0_2 * 6364136223846793005)) + 0)) + 1442695040888963407))) else (some (wrap64 (Go.bits .and .u64 ((IntKind.u64.wrap ((IntKind.u64.wrap ((IntKind.u64.wrap (s0_2 * 6364136223846793005)) + 0)) + 1442695040888963407)) / 1099511627776) 255), wrap64 (s0_1 + 1), IntKind.u64.wrap ((IntKind.u64.wrap ((IntKind.u64.wrap (s0_2 * 6364136223846793005)) + 0)) + 1442695040888963407))))) = some (r1, r2, r3) := h;clear h;by_cases c2 : s0_1 < (s0_0.length : Int)
 rotate_left
 ·
  rw [if_neg c2] at H;have c2b0 := decide_eq_false c2;clear c2;by_cases c7 : (wrap64 (s0_1 + 1)) ≤ (s0_0.length : Int)
  ·
   rw [if_pos c7] at H;have c7b0 := decide_eq_true c7;clear c7;simp only [Option.some.injEq, Prod.mk.injEq] at H;obtain ⟨rfl, rfl, rfl⟩ := H;obtain ⟨ASz8_0, cSz8_0, HGz8, hgz8, HSz8_0⟩ := HI0.out;have hcz8_0 := O7 HGz8;have hcz8_1 := q07 HGz8;have hcz8_2 := O6 HGz8;have hfz8_1 := blk_frozen HGz8 1;have hfz8_2 := blk_frozen HGz8 2;clear HGz8 hgz8;go_enter Try.func129, Try.ntmps129;go_wp2;repeat (go_quiet (fail); try go_wp2)
   go_ret
   exact ⟨zr, by (try simp only [Int.add_zero]); repeat (first | (with_reducible first | exact HI0.out | apply j4.alloc | apply j4.drewN | apply j4.drew | apply j4.q05 | apply j4.q04) | exact HI0.out), zb, zh⟩
  rw [if_neg c7] at H;have c7b0 := decide_eq_false c7;clear c7;simp only [Option.some.injEq, Prod.mk.injEq] at H;obtain ⟨rfl, rfl, rfl⟩ := H;obtain ⟨ASz9_0, cSz9_0, HGz9, hgz9, HSz9_0⟩ := HI0.out;have hcz9_0 := O7 HGz9;have hcz9_1 := q07 HGz9;have hcz9_2 := O6 HGz9;have hfz9_1 := blk_frozen HGz9 1;have hfz9_2 := blk_frozen HGz9 2;clear HGz9 hgz9;go_enter Try.func129, Try.ntmps129;go_wp2;repeat (go_quiet (fail); try go_wp2)
  go_ret
  exact ⟨zr, by (try simp only [Int.add_zero]); repeat (first | (with_reducible first | exact HI0.out | apply j4.alloc | apply j4.drewN | apply j4.drew | apply j4.q05 | apply j4.q04) | exact HI0.out), zb, zh⟩
 rw [if_pos c2] at H;have c2b0 := decide_eq_true c2;clear c2;obtain ⟨c3, H⟩ := zJ H;have c3b0 := decide_eq_true c3;clear c3;by_cases c4 : (wrap64 (s0_1 + 1)) ≤ (s0_0.length : Int)
 rotate_left
 ·
  rw [if_neg c4] at H;have c4b0 := decide_eq_false c4;clear c4;simp only [Option.some.injEq, Prod.mk.injEq] at H;obtain ⟨rfl, rfl, rfl⟩ := H;obtain ⟨ASz6_0, cSz6_0, HGz6, hgz6, HSz6_0⟩ := HI0.out;have hcz6_0 := O7 HGz6;have hcz6_1 := q07 HGz6;have hcz6_2 := O6 HGz6;have hfz6_1 := blk_frozen HGz6 1;have hfz6_2 := blk_frozen HGz6 2;clear HGz6 hgz6;have p135 : 0 ≤ (s0_1 : Int) := zd;have q135 : s0_1 < (s0_0.length : Int) := zd;obtain ⟨ad135, e135, hx135_0⟩ := Kd.at_int HSz6_0 s0_1 p135 q135;cases e135;replace hx135_0 := pw_cell_below HB.out hx135_0;replace p135 := eq_true p135;replace q135 := eq_true q135;go_enter Try.func129, Try.ntmps129;go_wp2;repeat (go_quiet (fail); try go_wp2)
  go_ret
  exact ⟨zr, by (try simp only [Int.add_zero]); repeat (first | (with_reducible first | exact HI0.out | apply j4.alloc | apply j4.drewN | apply j4.drew | apply j4.q05 | apply j4.q04) | exact HI0.out), zb, zh⟩
 rw [if_pos c4] at H;have c4b0 := decide_eq_true c4;clear c4;simp only [Option.some.injEq, Prod.mk.injEq] at H;obtain ⟨rfl, rfl, rfl⟩ := H;obtain ⟨ASz5_0, cSz5_0, HGz5, hgz5, HSz5_0⟩ := HI0.out;have hcz5_0 := O7 HGz5;have hcz5_1 := q07 HGz5;have hcz5_2 := O6 HGz5;have hfz5_1 := blk_frozen HGz5 1;have hfz5_2 := blk_frozen HGz5 2;clear HGz5 hgz5;have p135 : 0 ≤ (s0_1 : Int) := zd;have q135 : s0_1 < (s0_0.length : Int) := zd;obtain ⟨ad135, e135, hx135_0⟩ := Kd.at_int HSz5_0 s0_1 p135 q135;cases e135;replace hx135_0 := pw_cell_below HB.out hx135_0;replace p135 := eq_true p135;replace q135 := eq_true q135;go_enter Try.func129, Try.ntmps129;go_wp2;repeat (go_quiet (fail); try go_wp2)
 go_ret
 exact ⟨zr, by (try simp only [Int.add_zero]); repeat (first | (with_reducible first | exact HI0.out | apply j4.alloc | apply j4.drewN | apply j4.drew | apply j4.q05 | apply j4.q04) | exact HI0.out), zb, zh⟩
def j5.f (s0_0 : List Int) (s0_1 : Int) (s0_2 : Int) (a1 : Int) : Option (Int × Int × Int) := if a1 ≤ 1 then (some (0, s0_1, s0_2)) else ((W9.f s0_0 s0_1 s0_2).bind fun bt136 => (if a1 > 200 then ((W9.f s0_0 bt136.2.1 bt136.2.2).bind fun bt139 => (if a1 = 0 then (none) else (some (Int.tmod (wrap64 ((wrap64 (bt136.1 * 256)) + bt139.1)) a1, bt139.2.1, bt139.2.2)))) else (if a1 = 0 then (none) else (some (Int.tmod bt136.1 a1, bt136.2.1, bt136.2.2)))))
set_option maxHeartbeats 8000000 in
set_option maxRecDepth 100000 in
theorem j5.calls (g : Nat) (s0_0 : List Int) (s0_1 : Int) (s0_2 : Int) (a1 : Int) (r1 : Int) (r2 : Int) (r3 : Int) (w0 w : World) (hI : j4 w0 w g s0_0 s0_1 s0_2) (hB : Below w0.heap.size w0 w) (h : j5.f s0_0 s0_1 s0_2 a1 = some (r1, r2, r3)) :
  Calls Try.prog 94 #[.pointer (some ⟨g, 0, none⟩), .int .i64 a1] w fun e w' => e = .returned (.int .i64 r1) ∧ j4 w0 w' g s0_0 r2 r3 ∧ Below w0.heap.size w0 w' ∧ KeepBut w w' g none := by
 have HI0 := zm hI;have GHI0 := zm (j4.ge HI0.out);have HK := zm (KeepBut.refl w g none);have HL := zm hB.size;clear hI;have HW0 := zm hB.size;have HB := zm hB;clear hB;have H : (if a1 ≤ 1 then (some (0, s0_1, s0_2)) else ((W9.f s0_0 s0_1 s0_2).bind fun bt136 => (if a1 > 200 then ((W9.f s0_0 bt136.2.1 bt136.2.2).bind fun bt139 => (if a1 = 0 then (none) else (some (Int.tmod (wrap64 ((wrap64 (bt136.1 * 256)) + bt139.1)) a1, bt139.2.1, bt139.2.2)))) else (if a1 = 0 then (none) else (some (Int.tmod bt136.1 a1, bt136.2.1, bt136.2.2)))))) = some (r1, r2, r3) := h;clear h;by_cases c3 : a1 ≤ 1
 ·
  rw [if_pos c3] at H;have c3b0 := decide_eq_true c3;clear c3;simp only [Option.some.injEq, Prod.mk.injEq] at H;obtain ⟨rfl, rfl, rfl⟩ := H;go_enter Try.func94, Try.ntmps94;go_wp2;go_ret
  exact ⟨zr, y8, zb, zh⟩
 rw [if_neg c3] at H;have c3b0 := decide_eq_false c3;clear c3;obtain ⟨⟨t136, t137, t138⟩, A4, H⟩ := zI H;(try dsimp only at H);by_cases c5 : a1 > 200
 rotate_left
 ·
  rw [if_neg c5] at H;have c5b0 : decide (200 < a1) = false := decide_eq_false c5;clear c5;by_cases c10 : a1 = 0
  ·
   rw [if_pos c10] at H;exact absurd H (by simp)
  rw [if_neg c10] at H;have c10b0 : (a1 == 0) = false := beq_eq_false_iff_ne.mpr c10;have c10b1 : (a1 != 0) = true := bne_iff_ne.mpr c10;simp only [Option.some.injEq, Prod.mk.injEq] at H;obtain ⟨rfl, rfl, rfl⟩ := H;go_enter Try.func94, Try.ntmps94;go_wp2_with (first | ((with_reducible refine gate_callee (f := 129) rfl ?_); refine goesA_ (some 9) Try.func129 #[.pointer (some ⟨g, 0, none⟩)] rfl ?_; (with_reducible refine (W9.calls g s0_0 s0_1 s0_2 t136 t137 t138 w0 _ ?side1 ?side2 A4.out).mono ?_); (case side1 => exact y8); (case side2 => exact zb); rintro e w11 ⟨rfl, hi, hb, hk⟩; refine ⟨_, rfl, ?_⟩; replace HK := zm (KeepBut.trans zh hk (.inl rfl)); replace HB := zm (hb); replace HI0 := zm (hi); (try clear hb); (try clear hk); (try clear hi)))
  go_ret
  exact ⟨zr, y8, zb, zh⟩
 rw [if_pos c5] at H;have c5b0 : decide (200 < a1) = true := decide_eq_true c5;clear c5;obtain ⟨⟨t139, t140, t141⟩, A6, H⟩ := zI H;(try dsimp only at H);by_cases c7 : a1 = 0
 ·
  rw [if_pos c7] at H;exact absurd H (by simp)
 rw [if_neg c7] at H;have c7b0 : (a1 == 0) = false := beq_eq_false_iff_ne.mpr c7;have c7b1 : (a1 != 0) = true := bne_iff_ne.mpr c7;simp only [Option.some.injEq, Prod.mk.injEq] at H;obtain ⟨rfl, rfl, rfl⟩ := H;go_enter Try.func94, Try.ntmps94;go_wp2_with (first | ((with_reducible refine gate_callee (f := 129) rfl ?_); refine goesA_ (some 9) Try.func129 #[.pointer (some ⟨g, 0, none⟩)] rfl ?_; (with_reducible refine (W9.calls g s0_0 s0_1 s0_2 t136 t137 t138 w0 _ ?side1 ?side2 A4.out).mono ?_); (case side1 => exact y8); (case side2 => exact zb); rintro e w8 ⟨rfl, hi, hb, hk⟩; refine ⟨_, rfl, ?_⟩; replace HK := zm (KeepBut.trans zh hk (.inl rfl)); replace HB := zm (hb); replace HI0 := zm (hi); (try clear hb); (try clear hk); (try clear hi)) | ((with_reducible refine gate_callee (f := 129) rfl ?_); refine goesA_ (some 15) Try.func129 #[.pointer (some ⟨g, 0, none⟩)] rfl ?_; (with_reducible refine (W9.calls g s0_0 t137 t138 t139 t140 t141 w0 _ ?side1 ?side2 A6.out).mono ?_); (case side1 => exact y8); (case side2 => exact zb); rintro e w9 ⟨rfl, hi, hb, hk⟩; refine ⟨_, rfl, ?_⟩; replace HK := zm (KeepBut.trans zh hk (.inl rfl)); replace HB := zm (hb); replace HI0 := zm (hi); (try clear hb); (try clear hk); (try clear hi)))
 go_ret
 exact ⟨zr, y8, zb, zh⟩
def Q7.f (s0_0 : List Int) (s0_1 : Int) (s0_2 : Int) (a1 : Int) : Option (Bool × Int × Int) := (j5.f s0_0 s0_1 s0_2 a1).bind fun bt142 => (some ((bt142.1 == 0), bt142.2.1, bt142.2.2))
set_option maxHeartbeats 8000000 in
set_option maxRecDepth 100000 in
theorem Q7.calls (g : Nat) (s0_0 : List Int) (s0_1 : Int) (s0_2 : Int) (a1 : Int) (r1 : Bool) (r2 : Int) (r3 : Int) (w0 w : World) (hI : j4 w0 w g s0_0 s0_1 s0_2) (hB : Below w0.heap.size w0 w) (h : Q7.f s0_0 s0_1 s0_2 a1 = some (r1, r2, r3)) :
  Calls Try.prog 106 #[.pointer (some ⟨g, 0, none⟩), .int .i64 a1] w fun e w' => e = .returned (.bool r1) ∧ j4 w0 w' g s0_0 r2 r3 ∧ Below w0.heap.size w0 w' ∧ KeepBut w w' g none := by
 have HI0 := zm hI;have GHI0 := zm (j4.ge HI0.out);have HK := zm (KeepBut.refl w g none);have HL := zm hB.size;clear hI;have HW0 := zm hB.size;have HB := zm hB;clear hB;have H : ((j5.f s0_0 s0_1 s0_2 a1).bind fun bt142 => (some ((bt142.1 == 0), bt142.2.1, bt142.2.2))) = some (r1, r2, r3) := h;clear h;obtain ⟨⟨t142, t143, t144⟩, A3, H⟩ := zI H;(try dsimp only at H);simp only [Option.some.injEq, Prod.mk.injEq] at H;obtain ⟨rfl, rfl, rfl⟩ := H;go_enter Try.func106, Try.ntmps106;go_wp2_with (first | ((with_reducible refine gate_callee (f := 94) rfl ?_); refine goesA_ (some 7) Try.func94 #[.pointer (some ⟨g, 0, none⟩), .int .i64 a1] rfl ?_; (with_reducible refine (j5.calls g s0_0 s0_1 s0_2 a1 t142 t143 t144 w0 _ ?side1 ?side2 A3.out).mono ?_); (case side1 => exact y8); (case side2 => exact zb); rintro e w4 ⟨rfl, hi, hb, hk⟩; refine ⟨_, rfl, ?_⟩; replace HK := zm (KeepBut.trans zh hk (.inl rfl)); replace HB := zm (hb); replace HI0 := zm (hi); (try clear hb); (try clear hk); (try clear hi)))
 go_ret
 exact ⟨zr, y8, zb, zh⟩
def o6.f (s0_0 : List Int) (s0_1 : Int) (s0_2 : Int) (l1 : List Int) : Option (Int × Int × Int) := (j5.f s0_0 s0_1 s0_2 (l1.length : Int)).bind fun bt145 => (if 0 ≤ bt145.1 then (if bt145.1 < (l1.length : Int) then (some (rd l1 bt145.1, bt145.2.1, bt145.2.2)) else (none)) else (none))
set_option maxHeartbeats 8000000 in
set_option maxRecDepth 100000 in
theorem o6.calls (g : Nat) (s0_0 : List Int) (s0_1 : Int) (s0_2 : Int) (A1 : Option Addr) (c1 : Nat) (l1 : List Int) (r1 : Int) (r2 : Int) (r3 : Int) (w0 w : World) (hI : j4 w0 w g s0_0 s0_1 s0_2) (hB : Below w0.heap.size w0 w) (hr1 : Kd.C (Kd.int .i64) w A1 l1.length l1) (hc1 : l1.length ≤ c1) (hf1 : ∀ ad, A1 = some ad → 0 < l1.length → ad.block ≠ g) (h : o6.f s0_0 s0_1 s0_2 l1 = some (r1, r2, r3)) :
  Calls Try.prog 107 #[.pointer (some ⟨g, 0, none⟩), .slice A1 l1.length c1] w fun e w' => e = .returned (.int .i64 r1) ∧ j4 w0 w' g s0_0 r2 r3 ∧ Below w0.heap.size w0 w' ∧ KeepBut w w' g none := by
 have HR1 := zm hr1;have HC1 := zm hc1;clear hr1 hc1;have HI0 := zm hI;have GHI0 := zm (j4.ge HI0.out);have HK := zm (KeepBut.refl w g none);have HL := zm hB.size;clear hI;have HW0 := zm hB.size;have HB := zm hB;clear hB;have H : ((j5.f s0_0 s0_1 s0_2 (l1.length : Int)).bind fun bt145 => (if 0 ≤ bt145.1 then (if bt145.1 < (l1.length : Int) then (some (rd l1 bt145.1, bt145.2.1, bt145.2.2)) else (none)) else (none))) = some (r1, r2, r3) := h;clear h;obtain ⟨⟨t145, t146, t147⟩, A3, H⟩ := zI H;(try dsimp only at H);obtain ⟨c4, H⟩ := zJ H;have c4b0 := decide_eq_true c4;clear c4;obtain ⟨c5, H⟩ := zJ H;have c5b0 := decide_eq_true c5;clear c5;simp only [Option.some.injEq, Prod.mk.injEq] at H;obtain ⟨rfl, rfl, rfl⟩ := H;go_enter Try.func107, Try.ntmps107;go_wp2_with (first | ((with_reducible refine gate_callee (f := 94) rfl ?_); refine goesA_ (some 9) Try.func94 #[.pointer (some ⟨g, 0, none⟩), .int .i64 (l1.length : Int)] rfl ?_; (with_reducible refine (j5.calls g s0_0 s0_1 s0_2 (l1.length : Int) t145 t146 t147 w0 _ ?side1 ?side2 A3.out).mono ?_); (case side1 => exact y8); (case side2 => exact zb); rintro e w6 ⟨rfl, hi, hb, hk⟩; refine ⟨_, rfl, ?_⟩; replace HK := zm (KeepBut.trans zh hk (.inl rfl)); replace HB := zm (hb); replace HI0 := zm (hi); (try clear hb); (try clear hk); (try clear hi); have p148 : 0 ≤ (t145 : Int) := zd; have q148 : t145 < (l1.length : Int) := zd; obtain ⟨ad148, e148, hx148_0⟩ := Kd.at_int HR1.out t145 p148 q148; cases e148; replace hx148_0 := keep_cell HK.out hx148_0 (by first | (rw [add_block]; exact hf1 _ rfl (by omega)) | exact hf1 _ rfl (by omega) | exact hf1 ad148 rfl (by omega)); replace p148 := eq_true p148; replace q148 := eq_true q148))
 go_ret
 exact ⟨zr, y8, zb, zh⟩
def K7.f (s0_0 : List Int) (s0_1 : Int) (s0_2 : Int) (l1 : List ByteArray) : Option (ByteArray × Int × Int) := (j5.f s0_0 s0_1 s0_2 (l1.length : Int)).bind fun bt149 => (if 0 ≤ bt149.1 then (if bt149.1 < (l1.length : Int) then (some (rdOf ByteArray.empty l1 bt149.1, bt149.2.1, bt149.2.2)) else (none)) else (none))
set_option maxHeartbeats 8000000 in
set_option maxRecDepth 100000 in
theorem K7.calls (g : Nat) (s0_0 : List Int) (s0_1 : Int) (s0_2 : Int) (A1 : Option Addr) (c1 : Nat) (l1 : List ByteArray) (r1 : ByteArray) (r2 : Int) (r3 : Int) (w0 w : World) (hI : j4 w0 w g s0_0 s0_1 s0_2) (hB : Below w0.heap.size w0 w) (hr1 : Kd.C Kd.string w A1 l1.length l1) (hc1 : l1.length ≤ c1) (hf1 : ∀ ad, A1 = some ad → 0 < l1.length → ad.block ≠ g) (h : K7.f s0_0 s0_1 s0_2 l1 = some (r1, r2, r3)) :
  Calls Try.prog 108 #[.pointer (some ⟨g, 0, none⟩), .slice A1 l1.length c1] w fun e w' => e = .returned (.string r1) ∧ j4 w0 w' g s0_0 r2 r3 ∧ Below w0.heap.size w0 w' ∧ KeepBut w w' g none := by
 have HR1 := zm hr1;have HC1 := zm hc1;clear hr1 hc1;have HI0 := zm hI;have GHI0 := zm (j4.ge HI0.out);have HK := zm (KeepBut.refl w g none);have HL := zm hB.size;clear hI;have HW0 := zm hB.size;have HB := zm hB;clear hB;have H : ((j5.f s0_0 s0_1 s0_2 (l1.length : Int)).bind fun bt149 => (if 0 ≤ bt149.1 then (if bt149.1 < (l1.length : Int) then (some (rdOf ByteArray.empty l1 bt149.1, bt149.2.1, bt149.2.2)) else (none)) else (none))) = some (r1, r2, r3) := h;clear h;obtain ⟨⟨t149, t150, t151⟩, A3, H⟩ := zI H;(try dsimp only at H);obtain ⟨c4, H⟩ := zJ H;have c4b0 := decide_eq_true c4;clear c4;obtain ⟨c5, H⟩ := zJ H;have c5b0 := decide_eq_true c5;clear c5;simp only [Option.some.injEq, Prod.mk.injEq] at H;obtain ⟨rfl, rfl, rfl⟩ := H;go_enter Try.func108, Try.ntmps108;go_wp2_with (first | ((with_reducible refine gate_callee (f := 94) rfl ?_); refine goesA_ (some 9) Try.func94 #[.pointer (some ⟨g, 0, none⟩), .int .i64 (l1.length : Int)] rfl ?_; (with_reducible refine (j5.calls g s0_0 s0_1 s0_2 (l1.length : Int) t149 t150 t151 w0 _ ?side1 ?side2 A3.out).mono ?_); (case side1 => exact y8); (case side2 => exact zb); rintro e w6 ⟨rfl, hi, hb, hk⟩; refine ⟨_, rfl, ?_⟩; replace HK := zm (KeepBut.trans zh hk (.inl rfl)); replace HB := zm (hb); replace HI0 := zm (hi); (try clear hb); (try clear hk); (try clear hi); have p152 : 0 ≤ (t149 : Int) := zd; have q152 : t149 < (l1.length : Int) := zd; obtain ⟨ad152, e152, hx152_0⟩ := Kd.at_string HR1.out t149 p152 q152; cases e152; replace hx152_0 := keep_cell HK.out hx152_0 (by first | (rw [add_block]; exact hf1 _ rfl (by omega)) | exact hf1 _ rfl (by omega) | exact hf1 ad152 rfl (by omega)); replace p152 := eq_true p152; replace q152 := eq_true q152))
 go_ret
 exact ⟨zr, y8, zb, zh⟩
end Go.Proofs.Ytjdkdbeenggfaaa.PEr
