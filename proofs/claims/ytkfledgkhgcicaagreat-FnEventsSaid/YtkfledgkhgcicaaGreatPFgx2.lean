import Derived.Test.YtkfledgkhgcicaaGreatPFgx0
namespace Go.Proofs.YtkfledgkhgcicaaGreat.PFg
open Go.RowKit Go.Proofs.YtkfledgkhgcicaaGreatW.PrintWords Go.Proofs.YtkfledgkhgcicaaGreatW.PrintLast Go.Proofs.YtkfledgkhgcicaaGreatW.PrintMore
attribute [local go_sem] P8 P5 E5 E8 M4 M0 P6 P7   -- for this text's walks alone
set_option linter.unusedVariables false
set_option linter.unusedSimpArgs false
def q0w.f (l0 : List Int) (l1 : List Int) : Option (Bool) := if (l0.length : Int) > 1048576 then (some true) else (some (decide ((l1.length : Int) > (wrap64 (1048576 - (l0.length : Int))))))
set_option maxHeartbeats 8000000 in
set_option maxRecDepth 100000 in
theorem q0w.calls (A0 : Option Addr) (c0 : Nat) (l0 : List Int) (A1 : Option Addr) (c1 : Nat) (l1 : List Int) (r : Bool) (w : World) (hr0 : Kd.C (Kd.int .u8) w A0 l0.length l0) (hc0 : l0.length ≤ c0) (hr1 : Kd.C (Kd.int .u8) w A1 l1.length l1) (hc1 : l1.length ≤ c1) (h : q0w.f l0 l1 = some r) :
  Calls Tryz.prog 4 #[.slice A0 l0.length c0, .slice A1 l1.length c1] w fun e w' => e = .returned (.bool r) ∧ G6 w w' := by
 have HR0 := zm hr0;have HC0 := zm hc0;clear hr0 hc0;have HR1 := zm hr1;have HC1 := zm hc1;clear hr1 hc1;have H : (if (l0.length : Int) > 1048576 then (some true) else (some (decide ((l1.length : Int) > (wrap64 (1048576 - (l0.length : Int))))))) = some r := h;clear h;by_cases c3 : (l0.length : Int) > 1048576
 ·
  rw [if_pos c3] at H;have c3b0 : decide (1048576 < (l0.length : Int)) = true := decide_eq_true c3;have c3b1 : decide (1048576 < l0.length) = true := decide_eq_true (by omega);clear c3;obtain rfl := Option.some.inj H;go_enter Tryz.func4, Tryz.ntmps4;go_wp2;go_ret
  exact ⟨zz, zw⟩
 rw [if_neg c3] at H;have c3b0 : decide (1048576 < (l0.length : Int)) = false := decide_eq_false c3;have c3b1 : decide (1048576 < l0.length) = false := decide_eq_false (by omega);clear c3;obtain rfl := Option.some.inj H;go_enter Tryz.func4, Tryz.ntmps4;go_wp2;go_ret
 exact ⟨zz, zw⟩
/-- A state of type 58 at block g of W; what its slices lead to came in by w0. -/
def y5 (w0 W : World) (g : Nat) (f0 : List Int) (f1 : Int) (f2 : Int) : Prop := ∃ A0 c0, W.heap[g]? = some (.cells #[.slice A0 f0.length c0, .int .i64 f1, .int .u64 f2] 58 (0, 0)) ∧ w0.heap.size ≤ g ∧ Kd.C (Kd.int .u8) w0 A0 f0.length f0
theorem y5.grown {w0 W : World} {g : Nat} {f0 : List Int} {f1 : Int} {f2 : Int} {W1 : World} {row : Option Nat} (h : y5 w0 W g f0 f1 f2) (hw : W.grownBy W1 row) (hne : some g ≠ row) : y5 w0 W1 g f0 f1 f2 := by
  obtain ⟨A0, c0, hb, hg, hr0⟩ := h
  exact ⟨A0, c0, H5 hb hw hne, hg, hr0⟩
theorem y5.j0h {w0 W : World} {g : Nat} {f0 : List Int} {f1 : Int} {f2 : Int} {α : Type} {d : Kd α} {e : Nat} {base : Nat} {ok : Nat → Prop} {v : Value} {xs : List α} (h : y5 w0 W g f0 f1 f2) (ho : Kd.N d e W base ok v xs) (ht : e ≠ 58) : some g ≠ v.ownBlock := by
  obtain ⟨A0, c0, hb, hg, hr0⟩ := h
  exact Kd.j04 ho hb ht
theorem y5.fresh {w0 W : World} {g : Nat} {f0 : List Int} {f1 : Int} {f2 : Int} (h : y5 w0 W g f0 f1 f2) : ∀ k, W.heap.size ≤ k → k ≠ g := by
  obtain ⟨A0, c0, hb, hg, hr0⟩ := h
  exact Kd.q0x hb
theorem y5.kept {w0 W : World} {g : Nat} {f0 : List Int} {f1 : Int} {f2 : Int} {W1 : World} {S : Nat → Prop} (h : y5 w0 W g f0 f1 f2) (hk : Kept W W1 S) (hne : ¬ S g) : y5 w0 W1 g f0 f1 f2 := by
  obtain ⟨A0, c0, hb, hg, hr0⟩ := h
  exact ⟨A0, c0, q9j hb hk hne, hg, hr0⟩
theorem y5.below {w0 W : World} {g : Nat} {f0 : List Int} {f1 : Int} {f2 : Int} {W1 : World} (h : y5 w0 W g f0 f1 f2) (hw : Below W.heap.size W W1) : y5 w0 W1 g f0 f1 f2 := h.grown (q4w hw none) (by simp)
theorem y5.alloc {w0 W : World} {g : Nat} {f0 : List Int} {f1 : Int} {f2 : Int} (h : y5 w0 W g f0 f1 f2) (o : Obj) : y5 w0 (W.alloc o) g f0 f1 f2 := h.below (N9 (Below.refl _ _) o)
theorem y5.drewN {w0 W : World} {g : Nat} {f0 : List Int} {f1 : Int} {f2 : Int} (h : y5 w0 W g f0 f1 f2) (m : Nat) : y5 w0 (W.drewN m) g f0 f1 f2 := h
theorem y5.drew {w0 W : World} {g : Nat} {f0 : List Int} {f1 : Int} {f2 : Int} (h : y5 w0 W g f0 f1 f2) : y5 w0 W.drew g f0 f1 f2 := h
theorem y5.at_ {w0 W : World} {g : Nat} {f0 : List Int} {f1 : Int} {f2 : Int} {w' : World} {m : Nat} (hq : W.drewN m = w') (h : y5 w0 W g f0 f1 f2) : y5 w0 w' g f0 f1 f2 := by subst hq; exact y5.drewN h m
theorem y5.apart {w0 W : World} {g : Nat} {f0 : List Int} {f1 : Int} {f2 : Int} {α : Type} {d : Kd α} {e : Nat} {base : Nat} {ok : Nat → Prop} {v : Value} {xs : List α} (h : y5 w0 W g f0 f1 f2) (ho : d.R e W base ok v xs) (ht : ∀ q, q ∈ e :: d.E → q ≠ 58) : d.R e W base (fun k => ok k ∧ k ≠ g) v xs := by
  obtain ⟨A0, c0, hb, hg, hr0⟩ := h
  exact Kd.Y7 ho hb ht
theorem y5.own_ne {w0 W : World} {g : Nat} {f0 : List Int} {f1 : Int} {f2 : Int} {α : Type} {d : Kd α} {e : Nat} {base : Nat} {ok : Nat → Prop} {v : Value} {xs : List α} (h : y5 w0 W g f0 f1 f2) (ho : d.R e W base ok v xs) (ht : e ≠ 58) : some g ≠ v.ownBlock := by
  obtain ⟨A0, c0, hb, hg, hr0⟩ := h
  exact Kd.q7l ho hb ht
theorem y5.j0l {w0 W : World} {g : Nat} {f0 : List Int} {f1 : Int} {f2 : Int} {α : Type} {d : Kd α} {e : Nat} {base : Nat} {ok : Nat → Prop} {v : Value} {xs : List α} (h : y5 w0 W g f0 f1 f2) (ho : d.Q e W base ok v xs) (ht : ∀ q, q ∈ e :: d.E → q ≠ 58) : d.Q e W base (fun k => ok k ∧ k ≠ g) v xs := by
  obtain ⟨A0, c0, hb, hg, hr0⟩ := h
  exact Kd.v7b ho hb ht
theorem y5.j0i {w0 W : World} {g : Nat} {f0 : List Int} {f1 : Int} {f2 : Int} {α : Type} {d : Kd α} {e : Nat} {base : Nat} {ok : Nat → Prop} {v : Value} {xs : List α} (h : y5 w0 W g f0 f1 f2) (ho : d.Q e W base ok v xs) (ht : e ≠ 58) : some g ≠ v.ownBlock := by
  obtain ⟨A0, c0, hb, hg, hr0⟩ := h
  exact Kd.j0b ho hb ht
theorem y5.q0n {w0 W : World} {g : Nat} {f0 : List Int} {f1 : Int} {f2 : Int} {α : Type} {d : Kd α} {e : Nat} {base : Nat} {ok : Nat → Prop} {v : Value} {xs : List α} (h : y5 w0 W g f0 f1 f2) (ho : d.S e W base ok v xs) (ht : ∀ q, q ∈ e :: d.E → q ≠ 58) : d.S e W base (fun k => ok k ∧ k ≠ g) v xs := by
  obtain ⟨A0, c0, hb, hg, hr0⟩ := h
  exact Kd.I8 ho hb ht
theorem y5.R3 {w0 W : World} {g : Nat} {f0 : List Int} {f1 : Int} {f2 : Int} {α : Type} {d : Kd α} {e : Nat} {base : Nat} {ok : Nat → Prop} {v : Value} {xs : List α} (h : y5 w0 W g f0 f1 f2) (ho : d.S e W base ok v xs) (ht : e ≠ 58) : some g ≠ v.ownBlock := by
  obtain ⟨A0, c0, hb, hg, hr0⟩ := h
  exact Kd.q6d ho hb ht
theorem y5.lt {w0 W : World} {g : Nat} {f0 : List Int} {f1 : Int} {f2 : Int} (h : y5 w0 W g f0 f1 f2) : g < W.heap.size := by
  obtain ⟨A0, c0, hb, hg, hr0⟩ := h
  exact q2g hb
theorem y5.ge {w0 W : World} {g : Nat} {f0 : List Int} {f1 : Int} {f2 : Int} (h : y5 w0 W g f0 f1 f2) : w0.heap.size ≤ g := by
  obtain ⟨A0, c0, hb, hg, hr0⟩ := h
  exact hg
theorem y5.j0k {w0 W : World} {g : Nat} {f0 : List Int} {f1 : Int} {f2 : Int} {a : Nat} {cs : Array Value} {t : TypeId} {fr : Nat × Nat} (h : y5 w0 W g f0 f1 f2) (hb2 : W.heap[a]? = some (.cells cs t fr)) (ht : t ≠ 58) : g ≠ a := by
  obtain ⟨A0, c0, hb, hg, hr0⟩ := h
  rintro rfl
  rw [hb] at hb2
  injection hb2 with hb2
  injection hb2 with _ ht2
  exact ht ht2.symm
theorem y5.far {w0 W : World} {g : Nat} {f0 : List Int} {f1 : Int} {f2 : Int} {p : Addr} (h : y5 w0 W g f0 f1 f2) (hne : g ≠ p.block) (u : Value) : y5 w0 (W.setCell p u) g f0 f1 f2 := by
  obtain ⟨A0, c0, hb, hg, hr0⟩ := h
  exact ⟨A0, c0, q50 hb hne u, hg, hr0⟩
theorem q4b {W : World} {g : Nat} {A0 : Option Addr} {c0 : Nat} {f0 : List Int} {f1 : Int} {f2 : Int} (h : W.heap[g]? = some (.cells #[.slice A0 f0.length c0, .int .i64 f1, .int .u64 f2] 58 (0, 0))) : W.cell? ⟨g, 0, none⟩ = some (.slice A0 f0.length c0) := (l7 h 0).trans rfl
theorem q4i {W : World} {g : Nat} {A0 : Option Addr} {c0 : Nat} {f0 : List Int} {f1 : Int} {f2 : Int} (h : W.heap[g]? = some (.cells #[.slice A0 f0.length c0, .int .i64 f1, .int .u64 f2] 58 (0, 0))) : W.cell? ⟨g, 1, none⟩ = some (.int .i64 f1) := (l7 h 1).trans rfl
theorem y5.q6v {w0 W : World} {g : Nat} {f0 : List Int} {f1 : Int} {f2 : Int} (h : y5 w0 W g f0 f1 f2) (x : Int) : y5 w0 (W.setCell ⟨g, 1, none⟩ (.int .i64 x)) g f0 x f2 := by
  obtain ⟨A0, c0, hb, hg, hr0⟩ := h
  exact ⟨A0, c0, by simpa using q5v hb 1 (.int .i64 x), hg, hr0⟩
theorem q4d {W : World} {g : Nat} {A0 : Option Addr} {c0 : Nat} {f0 : List Int} {f1 : Int} {f2 : Int} (h : W.heap[g]? = some (.cells #[.slice A0 f0.length c0, .int .i64 f1, .int .u64 f2] 58 (0, 0))) : W.cell? ⟨g, 2, none⟩ = some (.int .u64 f2) := (l7 h 2).trans rfl
theorem y5.q71 {w0 W : World} {g : Nat} {f0 : List Int} {f1 : Int} {f2 : Int} (h : y5 w0 W g f0 f1 f2) (x : Int) : y5 w0 (W.setCell ⟨g, 2, none⟩ (.int .u64 x)) g f0 f1 x := by
  obtain ⟨A0, c0, hb, hg, hr0⟩ := h
  exact ⟨A0, c0, by simpa using q5v hb 2 (.int .u64 x), hg, hr0⟩
theorem y5.new (w0 W : World) (A0 : Option Addr) (c0 : Nat) (f0 : List Int) (f1 : Int) (f2 : Int) (hB : Below w0.heap.size w0 W) (hr0 : Kd.C (Kd.int .u8) w0 A0 f0.length f0) : y5 w0 (W.alloc (.cells #[.slice A0 f0.length c0, .int .i64 f1, .int .u64 f2] 58)) W.heap.size f0 f1 f2 := ⟨A0, c0, by simpa using heap_alloc_new W _, hB.size, hr0⟩
theorem Q0 {w0 W : World} {g : Nat} {f0 : List Int} {f1 : Int} {f2 : Int} (h : y5 w0 W g f0 f1 f2 := by repeat (first | (with_reducible first | exact (z8.out (by with_reducible assumption)) | apply y5.alloc | apply y5.drewN | apply y5.drew | apply y5.q6v | apply y5.q71 | refine y5.far ?_ (z8.out (by with_reducible assumption)) _) | exact z8.out (by assumption))) : y5 w0 W g f0 f1 f2 := h
def M9.f (s0_0 : List Int) (s0_1 : Int) (s0_2 : Int) : Option (Int × Int × Int) := if s0_1 < (s0_0.length : Int) then (if 0 ≤ s0_1 then (if (wrap64 (s0_1 + 1)) ≤ (s0_0.length : Int) then (some (wrap64 (rd s0_0 s0_1), wrap64 (s0_1 + 1), IntKind.u64.wrap ((IntKind.u64.wrap ((IntKind.u64.wrap (s0_2 * 6364136223846793005)) + (IntKind.u64.wrap (wrap64 (rd s0_0 s0_1))))) + 1442695040888963407))) else (some (wrap64 (Go.bits .and .u64 ((IntKind.u64.wrap ((IntKind.u64.wrap ((IntKind.u64.wrap (s0_2 * 6364136223846793005)) + (IntKind.u64.wrap (wrap64 (rd s0_0 s0_1))))) + 1442695040888963407)) / 1099511627776) 255), wrap64 (s0_1 + 1), IntKind.u64.wrap ((IntKind.u64.wrap ((IntKind.u64.wrap (s0_2 * 6364136223846793005)) + (IntKind.u64.wrap (wrap64 (rd s0_0 s0_1))))) + 1442695040888963407)))) else (none)) else (if (wrap64 (s0_1 + 1)) ≤ (s0_0.length : Int) then (some (0, wrap64 (s0_1 + 1), IntKind.u64.wrap ((IntKind.u64.wrap ((IntKind.u64.wrap (s0_2 * 6364136223846793005)) + 0)) + 1442695040888963407))) else (some (wrap64 (Go.bits .and .u64 ((IntKind.u64.wrap ((IntKind.u64.wrap ((IntKind.u64.wrap (s0_2 * 6364136223846793005)) + 0)) + 1442695040888963407)) / 1099511627776) 255), wrap64 (s0_1 + 1), IntKind.u64.wrap ((IntKind.u64.wrap ((IntKind.u64.wrap (s0_2 * 6364136223846793005)) + 0)) + 1442695040888963407))))
set_option maxHeartbeats 8000000 in
set_option maxRecDepth 100000 in
theorem M9.calls (g : Nat) (s0_0 : List Int) (s0_1 : Int) (s0_2 : Int) (r1 : Int) (r2 : Int) (r3 : Int) (w0 w : World) (hI : y5 w0 w g s0_0 s0_1 s0_2) (hB : Below w0.heap.size w0 w) (h : M9.f s0_0 s0_1 s0_2 = some (r1, r2, r3)) :
  Calls Tryz.prog 63 #[.pointer (some ⟨g, 0, none⟩)] w fun e w' => e = .returned (.int .i64 r1) ∧ y5 w0 w' g s0_0 r2 r3 ∧ Below w0.heap.size w0 w' ∧ l8 w w' g none := by
 have HI0 := zm hI;have GHI0 := zm (y5.ge HI0.out);have HK := zm (l8.refl w g none);have HL := zm hB.size;clear hI;have HW0 := zm hB.size;have HB := zm hB;clear hB;have H : (if s0_1 < (s0_0.length : Int) then (if 0 ≤ s0_1 then (if (wrap64 (s0_1 + 1)) ≤ (s0_0.length : Int) then (some (wrap64 (rd s0_0 s0_1), wrap64 (s0_1 + 1), IntKind.u64.wrap ((IntKind.u64.wrap ((IntKind.u64.wrap (s0_2 * 6364136223846793005)) + (IntKind.u64.wrap (wrap64 (rd s0_0 s0_1))))) + 1442695040888963407))) else (some (wrap64 (Go.bits .and .u64 ((IntKind.u64.wrap ((IntKind.u64.wrap ((IntKind.u64.wrap (s0_2 * 6364136223846793005)) + (IntKind.u64.wrap (wrap64 (rd s0_0 s0_1))))) + 1442695040888963407)) / 1099511627776) 255), wrap64 (s0_1 + 1), IntKind.u64.wrap ((IntKind.u64.wrap ((IntKind.u64.wrap (s0_2 * 6364136223846793005)) + (IntKind.u64.wrap (wrap64 (rd s0_0 s0_1))))) + 1442695040888963407)))) else (none)) else (if (wrap64 (s0_1 + 1)) ≤ (s0_0.length : Int) then (some (0, wrap64 (s0_1 + 1), IntKind.u64.wrap ((IntKind.u64.wrap ((IntKind.u64.wrap (s0_2 * 6364136223846793005)) + 0)) + 1442695040888963407))) else (some (wrap64 (Go.bits .and .u64 ((IntKind.u64.wrap ((IntKind.u64.wrap ((IntKind.u64.wrap (s0_2 * 6364136223846793005)) + 0)) + 1442695040888963407)) / 1099511627776) 255), wrap64 (s0_1 + 1), IntKind.u64.wrap ((IntKind.u64.wrap ((IntKind.u64.wrap (s0_2 * 6364136223846793005)) + 0)) + 1442695040888963407))))) = some (r1, r2, r3) := h;clear h;by_cases c2 : s0_1 < (s0_0.length : Int)
 rotate_left
 ·
  rw [if_neg c2] at H;have c2b0 := decide_eq_false c2;clear c2;by_cases c7 : (wrap64 (s0_1 + 1)) ≤ (s0_0.length : Int)
  ·
   rw [if_pos c7] at H;have c7b0 := decide_eq_true c7;clear c7;simp only [Option.some.injEq, Prod.mk.injEq] at H;obtain ⟨rfl, rfl, rfl⟩ := H;obtain ⟨ASz8_0, cSz8_0, HGz8, hgz8, HSz8_0⟩ := HI0.out;have hcz8_0 := q4b HGz8;have hcz8_1 := q4i HGz8;have hcz8_2 := q4d HGz8;have hfz8_1 := R8 HGz8 1;have hfz8_2 := R8 HGz8 2;clear HGz8 hgz8;go_enter Tryz.func63, Tryz.ntmps63;go_wp2;repeat (go_quiet (fail); try go_wp2)
   go_ret
   exact ⟨zr, by (try simp only [Int.add_zero]); repeat (first | (with_reducible first | exact HI0.out | apply y5.alloc | apply y5.drewN | apply y5.drew | apply y5.q6v | apply y5.q71) | exact HI0.out), zb, zh⟩
  rw [if_neg c7] at H;have c7b0 := decide_eq_false c7;clear c7;simp only [Option.some.injEq, Prod.mk.injEq] at H;obtain ⟨rfl, rfl, rfl⟩ := H;obtain ⟨ASz9_0, cSz9_0, HGz9, hgz9, HSz9_0⟩ := HI0.out;have hcz9_0 := q4b HGz9;have hcz9_1 := q4i HGz9;have hcz9_2 := q4d HGz9;have hfz9_1 := R8 HGz9 1;have hfz9_2 := R8 HGz9 2;clear HGz9 hgz9;go_enter Tryz.func63, Tryz.ntmps63;go_wp2;repeat (go_quiet (fail); try go_wp2)
  go_ret
  exact ⟨zr, by (try simp only [Int.add_zero]); repeat (first | (with_reducible first | exact HI0.out | apply y5.alloc | apply y5.drewN | apply y5.drew | apply y5.q6v | apply y5.q71) | exact HI0.out), zb, zh⟩
 rw [if_pos c2] at H;have c2b0 := decide_eq_true c2;clear c2;obtain ⟨c3, H⟩ := zJ H;have c3b0 := decide_eq_true c3;clear c3;by_cases c4 : (wrap64 (s0_1 + 1)) ≤ (s0_0.length : Int)
 rotate_left
 ·
  rw [if_neg c4] at H;have c4b0 := decide_eq_false c4;clear c4;simp only [Option.some.injEq, Prod.mk.injEq] at H;obtain ⟨rfl, rfl, rfl⟩ := H;obtain ⟨ASz6_0, cSz6_0, HGz6, hgz6, HSz6_0⟩ := HI0.out;have hcz6_0 := q4b HGz6;have hcz6_1 := q4i HGz6;have hcz6_2 := q4d HGz6;have hfz6_1 := R8 HGz6 1;have hfz6_2 := R8 HGz6 2;clear HGz6 hgz6;have p101 : 0 ≤ (s0_1 : Int) := zd;have q101 : s0_1 < (s0_0.length : Int) := zd;obtain ⟨ad101, e101, hx101_0⟩ := Kd.Y9 HSz6_0 s0_1 p101 q101;cases e101;replace hx101_0 := q0m HB.out hx101_0;replace p101 := eq_true p101;replace q101 := eq_true q101;go_enter Tryz.func63, Tryz.ntmps63;go_wp2;repeat (go_quiet (fail); try go_wp2)
  go_ret
  exact ⟨zr, by (try simp only [Int.add_zero]); repeat (first | (with_reducible first | exact HI0.out | apply y5.alloc | apply y5.drewN | apply y5.drew | apply y5.q6v | apply y5.q71) | exact HI0.out), zb, zh⟩
 rw [if_pos c4] at H;have c4b0 := decide_eq_true c4;clear c4;simp only [Option.some.injEq, Prod.mk.injEq] at H;obtain ⟨rfl, rfl, rfl⟩ := H;obtain ⟨ASz5_0, cSz5_0, HGz5, hgz5, HSz5_0⟩ := HI0.out;have hcz5_0 := q4b HGz5;have hcz5_1 := q4i HGz5;have hcz5_2 := q4d HGz5;have hfz5_1 := R8 HGz5 1;have hfz5_2 := R8 HGz5 2;clear HGz5 hgz5;have p101 : 0 ≤ (s0_1 : Int) := zd;have q101 : s0_1 < (s0_0.length : Int) := zd;obtain ⟨ad101, e101, hx101_0⟩ := Kd.Y9 HSz5_0 s0_1 p101 q101;cases e101;replace hx101_0 := q0m HB.out hx101_0;replace p101 := eq_true p101;replace q101 := eq_true q101;go_enter Tryz.func63, Tryz.ntmps63;go_wp2;repeat (go_quiet (fail); try go_wp2)
 go_ret
 exact ⟨zr, by (try simp only [Int.add_zero]); repeat (first | (with_reducible first | exact HI0.out | apply y5.alloc | apply y5.drewN | apply y5.drew | apply y5.q6v | apply y5.q71) | exact HI0.out), zb, zh⟩
def o6.f (s0_0 : List Int) (s0_1 : Int) (s0_2 : Int) (a1 : Int) : Option (Int × Int × Int) := if a1 ≤ 1 then (some (0, s0_1, s0_2)) else ((M9.f s0_0 s0_1 s0_2).bind fun bt102 => (if a1 > 200 then ((M9.f s0_0 bt102.2.1 bt102.2.2).bind fun bt105 => (if a1 = 0 then (none) else (some (Int.tmod (wrap64 ((wrap64 (bt102.1 * 256)) + bt105.1)) a1, bt105.2.1, bt105.2.2)))) else (if a1 = 0 then (none) else (some (Int.tmod bt102.1 a1, bt102.2.1, bt102.2.2)))))
set_option maxHeartbeats 8000000 in
set_option maxRecDepth 100000 in
theorem o6.calls (g : Nat) (s0_0 : List Int) (s0_1 : Int) (s0_2 : Int) (a1 : Int) (r1 : Int) (r2 : Int) (r3 : Int) (w0 w : World) (hI : y5 w0 w g s0_0 s0_1 s0_2) (hB : Below w0.heap.size w0 w) (h : o6.f s0_0 s0_1 s0_2 a1 = some (r1, r2, r3)) :
  Calls Tryz.prog 38 #[.pointer (some ⟨g, 0, none⟩), .int .i64 a1] w fun e w' => e = .returned (.int .i64 r1) ∧ y5 w0 w' g s0_0 r2 r3 ∧ Below w0.heap.size w0 w' ∧ l8 w w' g none := by
 have HI0 := zm hI;have GHI0 := zm (y5.ge HI0.out);have HK := zm (l8.refl w g none);have HL := zm hB.size;clear hI;have HW0 := zm hB.size;have HB := zm hB;clear hB;have H : (if a1 ≤ 1 then (some (0, s0_1, s0_2)) else ((M9.f s0_0 s0_1 s0_2).bind fun bt102 => (if a1 > 200 then ((M9.f s0_0 bt102.2.1 bt102.2.2).bind fun bt105 => (if a1 = 0 then (none) else (some (Int.tmod (wrap64 ((wrap64 (bt102.1 * 256)) + bt105.1)) a1, bt105.2.1, bt105.2.2)))) else (if a1 = 0 then (none) else (some (Int.tmod bt102.1 a1, bt102.2.1, bt102.2.2)))))) = some (r1, r2, r3) := h;clear h;by_cases c3 : a1 ≤ 1
 ·
  rw [if_pos c3] at H;have c3b0 := decide_eq_true c3;clear c3;simp only [Option.some.injEq, Prod.mk.injEq] at H;obtain ⟨rfl, rfl, rfl⟩ := H;go_enter Tryz.func38, Tryz.ntmps38;go_wp2;go_ret
  exact ⟨zr, Q0, zb, zh⟩
 rw [if_neg c3] at H;have c3b0 := decide_eq_false c3;clear c3;obtain ⟨⟨t102, t103, t104⟩, A4, H⟩ := zI H;(try dsimp only at H);by_cases c5 : a1 > 200
 rotate_left
 ·
  rw [if_neg c5] at H;have c5b0 : decide (200 < a1) = false := decide_eq_false c5;clear c5;by_cases c10 : a1 = 0
  ·
   rw [if_pos c10] at H;exact absurd H (by simp)
  rw [if_neg c10] at H;have c10b0 : (a1 == 0) = false := beq_eq_false_iff_ne.mpr c10;have c10b1 : (a1 != 0) = true := bne_iff_ne.mpr c10;simp only [Option.some.injEq, Prod.mk.injEq] at H;obtain ⟨rfl, rfl, rfl⟩ := H;go_enter Tryz.func38, Tryz.ntmps38;go_wp2_with (first | ((with_reducible refine y7 (f := 63) rfl ?_); refine o7 (some 9) Tryz.func63 #[.pointer (some ⟨g, 0, none⟩)] rfl ?_; (with_reducible refine (M9.calls g s0_0 s0_1 s0_2 t102 t103 t104 w0 _ ?side1 ?side2 A4.out).mono ?_); (case side1 => exact Q0); (case side2 => exact zb); rintro e w11 ⟨rfl, hi, hb, hk⟩; refine ⟨_, rfl, ?_⟩; replace HK := zm (l8.trans zh hk (.inl rfl)); replace HB := zm (hb); replace HI0 := zm (hi); (try clear hb); (try clear hk); (try clear hi)))
  go_ret
  exact ⟨zr, Q0, zb, zh⟩
 rw [if_pos c5] at H;have c5b0 : decide (200 < a1) = true := decide_eq_true c5;clear c5;obtain ⟨⟨t105, t106, t107⟩, A6, H⟩ := zI H;(try dsimp only at H);by_cases c7 : a1 = 0
 ·
  rw [if_pos c7] at H;exact absurd H (by simp)
 rw [if_neg c7] at H;have c7b0 : (a1 == 0) = false := beq_eq_false_iff_ne.mpr c7;have c7b1 : (a1 != 0) = true := bne_iff_ne.mpr c7;simp only [Option.some.injEq, Prod.mk.injEq] at H;obtain ⟨rfl, rfl, rfl⟩ := H;go_enter Tryz.func38, Tryz.ntmps38;go_wp2_with (first | ((with_reducible refine y7 (f := 63) rfl ?_); refine o7 (some 9) Tryz.func63 #[.pointer (some ⟨g, 0, none⟩)] rfl ?_; (with_reducible refine (M9.calls g s0_0 s0_1 s0_2 t102 t103 t104 w0 _ ?side1 ?side2 A4.out).mono ?_); (case side1 => exact Q0); (case side2 => exact zb); rintro e w8 ⟨rfl, hi, hb, hk⟩; refine ⟨_, rfl, ?_⟩; replace HK := zm (l8.trans zh hk (.inl rfl)); replace HB := zm (hb); replace HI0 := zm (hi); (try clear hb); (try clear hk); (try clear hi)) | ((with_reducible refine y7 (f := 63) rfl ?_); refine o7 (some 15) Tryz.func63 #[.pointer (some ⟨g, 0, none⟩)] rfl ?_; (with_reducible refine (M9.calls g s0_0 t103 t104 t105 t106 t107 w0 _ ?side1 ?side2 A6.out).mono ?_); (case side1 => exact Q0); (case side2 => exact zb); rintro e w9 ⟨rfl, hi, hb, hk⟩; refine ⟨_, rfl, ?_⟩; replace HK := zm (l8.trans zh hk (.inl rfl)); replace HB := zm (hb); replace HI0 := zm (hi); (try clear hb); (try clear hk); (try clear hi)))
 go_ret
 exact ⟨zr, Q0, zb, zh⟩
def L8.f (s0_0 : List Int) (s0_1 : Int) (s0_2 : Int) (a1 : Int) : Option (Bool × Int × Int) := (o6.f s0_0 s0_1 s0_2 a1).bind fun bt108 => (some ((bt108.1 == 0), bt108.2.1, bt108.2.2))
set_option maxHeartbeats 8000000 in
set_option maxRecDepth 100000 in
theorem L8.calls (g : Nat) (s0_0 : List Int) (s0_1 : Int) (s0_2 : Int) (a1 : Int) (r1 : Bool) (r2 : Int) (r3 : Int) (w0 w : World) (hI : y5 w0 w g s0_0 s0_1 s0_2) (hB : Below w0.heap.size w0 w) (h : L8.f s0_0 s0_1 s0_2 a1 = some (r1, r2, r3)) :
  Calls Tryz.prog 60 #[.pointer (some ⟨g, 0, none⟩), .int .i64 a1] w fun e w' => e = .returned (.bool r1) ∧ y5 w0 w' g s0_0 r2 r3 ∧ Below w0.heap.size w0 w' ∧ l8 w w' g none := by
 have HI0 := zm hI;have GHI0 := zm (y5.ge HI0.out);have HK := zm (l8.refl w g none);have HL := zm hB.size;clear hI;have HW0 := zm hB.size;have HB := zm hB;clear hB;have H : ((o6.f s0_0 s0_1 s0_2 a1).bind fun bt108 => (some ((bt108.1 == 0), bt108.2.1, bt108.2.2))) = some (r1, r2, r3) := h;clear h;obtain ⟨⟨t108, t109, t110⟩, A3, H⟩ := zI H;(try dsimp only at H);simp only [Option.some.injEq, Prod.mk.injEq] at H;obtain ⟨rfl, rfl, rfl⟩ := H;go_enter Tryz.func60, Tryz.ntmps60;go_wp2_with (first | ((with_reducible refine y7 (f := 38) rfl ?_); refine o7 (some 7) Tryz.func38 #[.pointer (some ⟨g, 0, none⟩), .int .i64 a1] rfl ?_; (with_reducible refine (o6.calls g s0_0 s0_1 s0_2 a1 t108 t109 t110 w0 _ ?side1 ?side2 A3.out).mono ?_); (case side1 => exact Q0); (case side2 => exact zb); rintro e w4 ⟨rfl, hi, hb, hk⟩; refine ⟨_, rfl, ?_⟩; replace HK := zm (l8.trans zh hk (.inl rfl)); replace HB := zm (hb); replace HI0 := zm (hi); (try clear hb); (try clear hk); (try clear hi)))
 go_ret
 exact ⟨zr, Q0, zb, zh⟩
def K9.f (a0 : Int) (a1 : Int) (a2 : Int) : Option (Bool) := if a0 ≥ a1 then (some (decide (a0 ≤ a2))) else (some false)
set_option maxHeartbeats 8000000 in
set_option maxRecDepth 100000 in
theorem K9.calls (a0 : Int) (a1 : Int) (a2 : Int) (r : Bool) (w : World) (h : K9.f a0 a1 a2 = some r) :
  Calls Tryz.prog 42 #[.int .i64 a0, .int .i64 a1, .int .i64 a2] w fun e w' => e = .returned (.bool r) ∧ G6 w w' := by
 have H : (if a0 ≥ a1 then (some (decide (a0 ≤ a2))) else (some false)) = some r := h;clear h;by_cases c4 : a0 ≥ a1
 ·
  rw [if_pos c4] at H;have c4b0 : decide (a1 ≤ a0) = true := decide_eq_true c4;clear c4;obtain rfl := Option.some.inj H;go_enter Tryz.func42, Tryz.ntmps42;go_wp2;go_ret
  exact ⟨zz, zw⟩
 rw [if_neg c4] at H;have c4b0 : decide (a1 ≤ a0) = false := decide_eq_false c4;clear c4;obtain rfl := Option.some.inj H;go_enter Tryz.func42, Tryz.ntmps42;go_wp2;go_ret
 exact ⟨zz, zw⟩
def q0v.f (a0_0 : Int) (a0_1 : Int) (a0_2 : Int) : Option (Bool) := (K9.f a0_0 0 19).bind fun t112 => (if t112 = true then ((K9.f a0_1 0 1999).bind fun t113 => (if t113 = true then ((K9.f a0_2 (wrap64 (a0_1 + 1)) 2000).bind fun t114 => (some t114)) else (some false))) else (some false))
set_option maxHeartbeats 8000000 in
set_option maxRecDepth 100000 in
theorem q0v.calls (a0_0 : Int) (a0_1 : Int) (a0_2 : Int) (r : Bool) (w : World) (h : q0v.f a0_0 a0_1 a0_2 = some r) :
  Calls Tryz.prog 50 #[.agg #[.int .i64 a0_0, .int .i64 a0_1, .int .i64 a0_2]] w fun e w' => e = .returned (.bool r) ∧ Below w.heap.size w w' := by
 have hu48 := Tryz.underlying48;have HB := zm (Below.refl w.heap.size w);have H : ((K9.f a0_0 0 19).bind fun t112 => (if t112 = true then ((K9.f a0_1 0 1999).bind fun t113 => (if t113 = true then ((K9.f a0_2 (wrap64 (a0_1 + 1)) 2000).bind fun t114 => (some t114)) else (some false))) else (some false))) = some r := h;clear h;obtain ⟨t112, A2, H⟩ := zI H;(try dsimp only at H);by_cases c3 : t112 = true
 rotate_left
 ·
  replace c3 := Bool.eq_false_iff.mpr c3;subst c3;rw [if_neg (show ¬ (false = true) by decide)] at H;obtain rfl := Option.some.inj H;go_enter Tryz.func50, Tryz.ntmps50;go_wp2_with (first | ((with_reducible refine Q6 (N := 1) rfl ?_); refine V5 ?hg (N := 1) ?hd (cs := #[.int .i64 a0_0, .int .i64 a0_1, .int .i64 a0_2]) (t := 48) ?hr ?_; (case hd => rfl); (case hg => rfl); (case hr => first | (go_simp; done) | (go_simp; rfl)); intro gb111 hg w11 hbox hb; have n0_ := zm (q9 zb hb); have BK111 := zm (hbox); have GW111 := zm (zs hg zb : w.heap.size ≤ gb111); have GE111 := zm (zs hg zb : w.heap.size ≤ gb111); replace HB := n0_; clear n0_; clear hb hbox hg; obtain ⟨hcz12_0, hcz12_1, hcz12_2, hfz12_0, hfz12_1, hfz12_2⟩ := zc3 BK111.out) | ((with_reducible refine y7 (f := 42) rfl ?_); refine o7 (some 5) Tryz.func42 #[.int .i64 a0_0, .int .i64 0, .int .i64 19] rfl ?_; (with_reducible refine (K9.calls a0_0 0 19 false _ A2.out).mono ?_); rintro e w' ⟨rfl, ⟨nd, rfl⟩⟩; refine ⟨_, rfl, ?_⟩))
  go_ret
  exact ⟨zr, zb⟩
 subst c3;rw [if_pos rfl] at H;obtain ⟨t113, A4, H⟩ := zI H;(try dsimp only at H);by_cases c5 : t113 = true
 rotate_left
 ·
  replace c5 := Bool.eq_false_iff.mpr c5;subst c5;rw [if_neg (show ¬ (false = true) by decide)] at H;obtain rfl := Option.some.inj H;go_enter Tryz.func50, Tryz.ntmps50;go_wp2_with (first | ((with_reducible refine Q6 (N := 1) rfl ?_); refine V5 ?hg (N := 1) ?hd (cs := #[.int .i64 a0_0, .int .i64 a0_1, .int .i64 a0_2]) (t := 48) ?hr ?_; (case hd => rfl); (case hg => rfl); (case hr => first | (go_simp; done) | (go_simp; rfl)); intro gb111 hg w9 hbox hb; have n0_ := zm (q9 zb hb); have BK111 := zm (hbox); have GW111 := zm (zs hg zb : w.heap.size ≤ gb111); have GE111 := zm (zs hg zb : w.heap.size ≤ gb111); replace HB := n0_; clear n0_; clear hb hbox hg; obtain ⟨hcz10_0, hcz10_1, hcz10_2, hfz10_0, hfz10_1, hfz10_2⟩ := zc3 BK111.out) | ((with_reducible refine y7 (f := 42) rfl ?_); refine o7 (some 5) Tryz.func42 #[.int .i64 a0_0, .int .i64 0, .int .i64 19] rfl ?_; (with_reducible refine (K9.calls a0_0 0 19 true _ A2.out).mono ?_); rintro e w' ⟨rfl, ⟨nd, rfl⟩⟩; refine ⟨_, rfl, ?_⟩) | (go_at_call 42; (with_reducible refine (K9.calls a0_1 0 1999 false _ A4.out).mono ?_); rintro e w' ⟨rfl, ⟨nd, rfl⟩⟩))
  go_ret
  exact ⟨zr, zb⟩
 subst c5;rw [if_pos rfl] at H;obtain ⟨t114, A6, H⟩ := zI H;(try dsimp only at H);obtain rfl := Option.some.inj H;go_enter Tryz.func50, Tryz.ntmps50;go_wp2_with (first | ((with_reducible refine Q6 (N := 1) rfl ?_); refine V5 ?hg (N := 1) ?hd (cs := #[.int .i64 a0_0, .int .i64 a0_1, .int .i64 a0_2]) (t := 48) ?hr ?_; (case hd => rfl); (case hg => rfl); (case hr => first | (go_simp; done) | (go_simp; rfl)); intro gb111 hg w7 hbox hb; have n0_ := zm (q9 zb hb); have BK111 := zm (hbox); have GW111 := zm (zs hg zb : w.heap.size ≤ gb111); have GE111 := zm (zs hg zb : w.heap.size ≤ gb111); replace HB := n0_; clear n0_; clear hb hbox hg; obtain ⟨hcz8_0, hcz8_1, hcz8_2, hfz8_0, hfz8_1, hfz8_2⟩ := zc3 BK111.out) | ((with_reducible refine y7 (f := 42) rfl ?_); refine o7 (some 5) Tryz.func42 #[.int .i64 a0_0, .int .i64 0, .int .i64 19] rfl ?_; (with_reducible refine (K9.calls a0_0 0 19 true _ A2.out).mono ?_); rintro e w' ⟨rfl, ⟨nd, rfl⟩⟩; refine ⟨_, rfl, ?_⟩) | (go_at_call 42; (with_reducible refine (K9.calls a0_1 0 1999 true _ A4.out).mono ?_); rintro e w' ⟨rfl, ⟨nd, rfl⟩⟩) | (go_at_call 42; (with_reducible refine (K9.calls a0_2 (wrap64 (a0_1 + 1)) 2000 t114 _ A6.out).mono ?_); rintro e w' ⟨rfl, ⟨nd, rfl⟩⟩))
 go_ret
 exact ⟨zr, zb⟩
def C8.f (a0_0 : Int) (a0_1 : Int) (a0_2 : Int) (a1_0 : Int) (a1_1 : Int) (a1_2 : Int) : Option (Bool) := if a0_1 < a1_1 then (some true) else (if a0_1 = a1_1 then (some (decide (a0_0 < a1_0))) else (some false))
set_option maxHeartbeats 8000000 in
set_option maxRecDepth 100000 in
theorem C8.calls (a0_0 : Int) (a0_1 : Int) (a0_2 : Int) (a1_0 : Int) (a1_1 : Int) (a1_2 : Int) (r : Bool) (w : World) (h : C8.f a0_0 a0_1 a0_2 a1_0 a1_1 a1_2 = some r) :
  Calls Tryz.prog 51 #[.agg #[.int .i64 a0_0, .int .i64 a0_1, .int .i64 a0_2], .agg #[.int .i64 a1_0, .int .i64 a1_1, .int .i64 a1_2]] w fun e w' => e = .returned (.bool r) ∧ Below w.heap.size w w' := by
 have hu48 := Tryz.underlying48;have HB := zm (Below.refl w.heap.size w);have H : (if a0_1 < a1_1 then (some true) else (if a0_1 = a1_1 then (some (decide (a0_0 < a1_0))) else (some false))) = some r := h;clear h;by_cases c3 : a0_1 < a1_1
 ·
  rw [if_pos c3] at H;have c3b0 := decide_eq_true c3;clear c3;obtain rfl := Option.some.inj H;go_enter Tryz.func51, Tryz.ntmps51;go_wp2_with (first | ((with_reducible refine Q6 (N := 2) rfl ?_); refine V5 ?hg (N := 2) ?hd (cs := #[.int .i64 a0_0, .int .i64 a0_1, .int .i64 a0_2]) (t := 48) ?hr ?_; (case hd => rfl); (case hg => rfl); (case hr => first | (go_simp; done) | (go_simp; rfl)); intro gb115 hg w4 hbox hb; have n0_ := zm (q9 zb hb); have BK115 := zm (hbox); have GW115 := zm (zs hg zb : w.heap.size ≤ gb115); have GE115 := zm (zs hg zb : w.heap.size ≤ gb115); replace HB := n0_; clear n0_; clear hb hbox hg) | ((with_reducible refine Q6 (N := 3) rfl ?_); refine V5 ?hg (N := 3) ?hd (cs := #[.int .i64 a1_0, .int .i64 a1_1, .int .i64 a1_2]) (t := 48) ?hr ?_; (case hd => rfl); (case hg => rfl); (case hr => first | (go_simp; done) | (go_simp; rfl)); intro gb116 hg w5 hbox hb; have n0_ := zm (o5 (g := gb115) zk hb); have n1_ := zm (q9 zb hb); have BK116 := zm (hbox); have GW116 := zm (zs hg zb : w.heap.size ≤ gb116); have GE116 := zm (zs hg zb : w.heap.size ≤ gb116); have NB115_116 := zm (zl hg zk : gb115 ≠ gb116); have NB116_115 := zm (zg hg zk : gb116 ≠ gb115); replace BK115 := n0_; replace HB := n1_; clear n0_ n1_; clear hb hbox hg; have hnb6 := NB115_116.out; have hnc6 := NB116_115.out; obtain ⟨hcz7_0, hcz7_1, hcz7_2, hfz7_0, hfz7_1, hfz7_2⟩ := zc3 BK115.out; obtain ⟨hcz8_0, hcz8_1, hcz8_2, hfz8_0, hfz8_1, hfz8_2⟩ := zc3 BK116.out))
  go_ret
  exact ⟨zr, zb⟩
 rw [if_neg c3] at H;have c3b0 := decide_eq_false c3;clear c3;by_cases c9 : a0_1 = a1_1
 rotate_left
 ·
  rw [if_neg c9] at H;have c9b0 : (a0_1 == a1_1) = false := beq_eq_false_iff_ne.mpr c9;have c9b1 : (a0_1 != a1_1) = true := bne_iff_ne.mpr c9;obtain rfl := Option.some.inj H;go_enter Tryz.func51, Tryz.ntmps51;go_wp2_with (first | ((with_reducible refine Q6 (N := 2) rfl ?_); refine V5 ?hg (N := 2) ?hd (cs := #[.int .i64 a0_0, .int .i64 a0_1, .int .i64 a0_2]) (t := 48) ?hr ?_; (case hd => rfl); (case hg => rfl); (case hr => first | (go_simp; done) | (go_simp; rfl)); intro gb115 hg w15 hbox hb; have n0_ := zm (q9 zb hb); have BK115 := zm (hbox); have GW115 := zm (zs hg zb : w.heap.size ≤ gb115); have GE115 := zm (zs hg zb : w.heap.size ≤ gb115); replace HB := n0_; clear n0_; clear hb hbox hg) | ((with_reducible refine Q6 (N := 3) rfl ?_); refine V5 ?hg (N := 3) ?hd (cs := #[.int .i64 a1_0, .int .i64 a1_1, .int .i64 a1_2]) (t := 48) ?hr ?_; (case hd => rfl); (case hg => rfl); (case hr => first | (go_simp; done) | (go_simp; rfl)); intro gb116 hg w16 hbox hb; have n0_ := zm (o5 (g := gb115) zk hb); have n1_ := zm (q9 zb hb); have BK116 := zm (hbox); have GW116 := zm (zs hg zb : w.heap.size ≤ gb116); have GE116 := zm (zs hg zb : w.heap.size ≤ gb116); have NB115_116 := zm (zl hg zk : gb115 ≠ gb116); have NB116_115 := zm (zg hg zk : gb116 ≠ gb115); replace BK115 := n0_; replace HB := n1_; clear n0_ n1_; clear hb hbox hg; have hnb17 := NB115_116.out; have hnc17 := NB116_115.out; obtain ⟨hcz18_0, hcz18_1, hcz18_2, hfz18_0, hfz18_1, hfz18_2⟩ := zc3 BK115.out; obtain ⟨hcz19_0, hcz19_1, hcz19_2, hfz19_0, hfz19_1, hfz19_2⟩ := zc3 BK116.out))
  go_ret
  exact ⟨zr, zb⟩
 rw [if_pos c9] at H;have c9b0 : (a0_1 == a1_1) = true := beq_iff_eq.mpr c9;have c9b1 : (a0_1 != a1_1) = false := bne_eq_false_iff_eq.mpr c9;clear c9;obtain rfl := Option.some.inj H;go_enter Tryz.func51, Tryz.ntmps51;go_wp2_with (first | ((with_reducible refine Q6 (N := 2) rfl ?_); refine V5 ?hg (N := 2) ?hd (cs := #[.int .i64 a0_0, .int .i64 a0_1, .int .i64 a0_2]) (t := 48) ?hr ?_; (case hd => rfl); (case hg => rfl); (case hr => first | (go_simp; done) | (go_simp; rfl)); intro gb115 hg w10 hbox hb; have n0_ := zm (q9 zb hb); have BK115 := zm (hbox); have GW115 := zm (zs hg zb : w.heap.size ≤ gb115); have GE115 := zm (zs hg zb : w.heap.size ≤ gb115); replace HB := n0_; clear n0_; clear hb hbox hg) | ((with_reducible refine Q6 (N := 3) rfl ?_); refine V5 ?hg (N := 3) ?hd (cs := #[.int .i64 a1_0, .int .i64 a1_1, .int .i64 a1_2]) (t := 48) ?hr ?_; (case hd => rfl); (case hg => rfl); (case hr => first | (go_simp; done) | (go_simp; rfl)); intro gb116 hg w11 hbox hb; have n0_ := zm (o5 (g := gb115) zk hb); have n1_ := zm (q9 zb hb); have BK116 := zm (hbox); have GW116 := zm (zs hg zb : w.heap.size ≤ gb116); have GE116 := zm (zs hg zb : w.heap.size ≤ gb116); have NB115_116 := zm (zl hg zk : gb115 ≠ gb116); have NB116_115 := zm (zg hg zk : gb116 ≠ gb115); replace BK115 := n0_; replace HB := n1_; clear n0_ n1_; clear hb hbox hg; have hnb12 := NB115_116.out; have hnc12 := NB116_115.out; obtain ⟨hcz13_0, hcz13_1, hcz13_2, hfz13_0, hfz13_1, hfz13_2⟩ := zc3 BK115.out; obtain ⟨hcz14_0, hcz14_1, hcz14_2, hfz14_0, hfz14_1, hfz14_2⟩ := zc3 BK116.out))
 go_ret
 exact ⟨zr, zb⟩
end Go.Proofs.YtkfledgkhgcicaaGreat.PFg
