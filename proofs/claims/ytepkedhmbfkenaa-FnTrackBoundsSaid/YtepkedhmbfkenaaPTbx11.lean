-- Written for this claim by a program of this session (wip/tpl/patchprint.py), not by print.sh.
import Derived.Test.YtepkedhmbfkenaaPTbx0
import Derived.Test.YtepkedhmbfkenaaPTbx1
import Derived.Test.YtepkedhmbfkenaaPTbx4
import Derived.Test.YtepkedhmbfkenaaPTbx6
namespace Go.Proofs.Ytepkedhmbfkenaa.PTb
open Go.RowKit Go.Proofs.YtepkedhmbfkenaaW.PrintWords Go.Proofs.YtepkedhmbfkenaaW.PrintLast Go.Proofs.YtepkedhmbfkenaaW.PrintMore
attribute [local go_sem] max2_int min2_int max_two min_two max_three min_three max_four min_four   -- for this text's walks alone
set_option linter.unusedVariables false
set_option linter.unusedSimpArgs false

/-! ### laws_qInts: function 49 -/
def laws_qInts.l0 : Nat → List Int → List Int → Int → Int → Option (Bool)
  | 0, _, _, _, _ => none
  | k + 1, x0, x1, x12, x13 => if x13 < x12 then (if 0 ≤ x13 then (if x13 < (x0.length : Int) then (if x13 < (x1.length : Int) then (if (rd x0 x13) = (rd x1 x13) then (laws_qInts.l0 k x0 x1 x12 (wrap64 (x13 + 1))) else (some false)) else (none)) else (none)) else (none)) else (some true)
def laws_qInts.f (k : Nat) (l0 : List Int) (l1 : List Int) : Option (Bool) := if (l0.length : Int) = (l1.length : Int) then (laws_qInts.l0 k l0 l1 (l0.length : Int) 0) else (some false)
theorem laws_qInts.mono_l : ∀ k, (∀ y0 y1 y2 y3, LeO (laws_qInts.l0 k y0 y1 y2 y3) (laws_qInts.l0 (k + 1) y0 y1 y2 y3))
  | 0 => fun _ _ _ _ r h => by simp [laws_qInts.l0] at h
  | k + 1 => by
    have ih0 := laws_qInts.mono_l k
    · intro y0 y1 y2 y3
      unfold laws_qInts.l0
      repeat' first
      | (with_reducible exact ih0 _ _ _ _)
      | (with_reducible exact LeO.refl _)
      | (with_reducible exact LeO.none _)
      | (with_reducible refine LeO.ite ?_ ?_)
      | (with_reducible refine LeO.bind ?_ (fun _ => ?_))
      | exact ih0 _ _ _ _
      | exact LeO.none _
      | refine LeO.ite ?_ ?_
      | refine LeO.bind ?_ (fun _ => ?_)
theorem laws_qInts.mono : ∀ a0 a1 k, LeO (laws_qInts.f k a0 a1) (laws_qInts.f (k + 1) a0 a1) := by
  intro a0 a1 k
  have ih0 := laws_qInts.mono_l k
  unfold laws_qInts.f
  repeat' first
      | (with_reducible exact ih0 _ _ _ _)
      | (with_reducible exact LeO.refl _)
      | (with_reducible exact LeO.none _)
      | (with_reducible refine LeO.ite ?_ ?_)
      | (with_reducible refine LeO.bind ?_ (fun _ => ?_))
      | exact ih0 _ _ _ _
      | exact LeO.none _
      | refine LeO.ite ?_ ?_
      | refine LeO.bind ?_ (fun _ => ?_)
set_option maxHeartbeats 8000000 in
set_option maxRecDepth 100000 in
theorem laws_qInts.calls (k : Nat) (A0 : Option Addr) (c0 : Nat) (l0 : List Int) (A1 : Option Addr) (c1 : Nat) (l1 : List Int) (r : Bool) (w : World) (hr0 : Kd.C (Kd.int .i64) w A0 l0.length l0) (hc0 : l0.length ≤ c0) (hr1 : Kd.C (Kd.int .i64) w A1 l1.length l1) (hc1 : l1.length ≤ c1) (h : laws_qInts.f k l0 l1 = some r) :
  Calls Try.prog 49 #[.slice A0 l0.length c0, .slice A1 l1.length c1] w fun e w' => e = .returned (.bool r) ∧ Drawn0 w w' := by
 have HR0 := zm hr0
 have HC0 := zm hc0
 clear hr0 hc0
 have HR1 := zm hr1
 have HC1 := zm hc1
 clear hr1 hc1
 have H : (if (l0.length : Int) = (l1.length : Int) then (laws_qInts.l0 k l0 l1 (l0.length : Int) 0) else (some false)) = some r := h
 clear h
 by_cases c3 : (l0.length : Int) = (l1.length : Int)
 ·
  rw [if_pos c3] at H
  have c3b0 : ((l0.length : Int) == (l1.length : Int)) = true := beq_iff_eq.mpr c3
  have c3b1 : ((l0.length : Int) != (l1.length : Int)) = false := bne_eq_false_iff_eq.mpr c3
  have c3b2 : (l0.length == l1.length) = true := by first | simpa using c3 | (simp at c3 ⊢; omega)
  clear c3
  have H' := zm H
  clear H
  go_enter Try.func49, Try.ntmps49
  go_wp2
  repeat (go_quiet (fail); try go_wp2)
  go_loopg [13] k (fun kq v13 w' => ∃ (x13_1 : Int), v13 = .int .i64 x13_1 ∧ Aside0 (laws_qInts.l0 kq l0 l1 (l0.length : Int) x13_1 = some r) ∧ Aside0 (kq ≤ k) ∧ Drawn0 w w')
  case atStart => exact ⟨(0), (by first | rfl | (simp; done) | (simp [*]; done)), H', ⟨Nat.le_refl _⟩, by repeat (first | exact Drawn0.refl _ | apply Drawn0.step)⟩
  case round =>
   clear H'
   (try clear c1); (try clear p2); (try clear c3); (try clear c3b0); (try clear c3b1); (try clear c3b2)
   obtain ⟨x13_1, rfl, HA, HK1, ⟨m1, rfl⟩⟩ := hrel
   cases gk with
   | zero => exact absurd HA.out (by simp [laws_qInts.l0])
   | succ k1 =>
    have H := HA.out
    clear HA
    simp only [laws_qInts.l0] at H
    by_cases c4 : x13_1 < (l0.length : Int)
    ·
     rw [if_pos c4] at H
     have c4b0 : decide (x13_1 < (l0.length : Int)) = true := decide_eq_true c4
     clear c4
     by_cases c5 : 0 ≤ x13_1
     ·
      rw [if_pos c5] at H
      have c5b0 : decide (0 ≤ x13_1) = true := decide_eq_true c5
      clear c5
      by_cases c6 : x13_1 < (l0.length : Int)
      ·
       rw [if_pos c6] at H
       have c6b0 : decide (x13_1 < (l0.length : Int)) = true := decide_eq_true c6
       clear c6
       by_cases c7 : x13_1 < (l1.length : Int)
       ·
        rw [if_pos c7] at H
        have c7b0 : decide (x13_1 < (l1.length : Int)) = true := decide_eq_true c7
        clear c7
        by_cases c8 : (rd l0 x13_1) = (rd l1 x13_1)
        ·
         rw [if_pos c8] at H
         have c8b0 : ((rd l0 x13_1) == (rd l1 x13_1)) = true := beq_iff_eq.mpr c8
         have c8b1 : ((rd l0 x13_1) != (rd l1 x13_1)) = false := bne_eq_false_iff_eq.mpr c8
         clear c8
         have H' := zm H
         clear H
         have p389 : 0 ≤ (x13_1 : Int) := zd
         have q389 : x13_1 < (l0.length : Int) := zd
         obtain ⟨ad389, e389, hx389_0⟩ := Kd.at_int HR0.out x13_1 p389 q389
         cases e389
         replace p389 := eq_true p389
         replace q389 := eq_true q389
         have p390 : 0 ≤ (x13_1 : Int) := zd
         have q390 : x13_1 < (l1.length : Int) := zd
         obtain ⟨ad390, e390, hx390_0⟩ := Kd.at_int HR1.out x13_1 p390 q390
         cases e390
         replace p390 := eq_true p390
         replace q390 := eq_true q390
         go_wp2
         repeat (go_quiet (fail); try go_wp2)
         go_roundg k1
         case measure => have := HK1.out; omega
         case rel => exact ⟨(wrap64 (x13_1 + 1)), (by first | rfl | (simp; done) | (simp [*]; done)), H', ⟨by have := HK1.out; omega⟩, by repeat (first | exact Drawn0.refl _ | apply Drawn0.step)⟩
        ·
         rw [if_neg c8] at H
         have c8b0 : ((rd l0 x13_1) == (rd l1 x13_1)) = false := beq_eq_false_iff_ne.mpr c8
         have c8b1 : ((rd l0 x13_1) != (rd l1 x13_1)) = true := bne_iff_ne.mpr c8
         obtain rfl := Option.some.inj H
         have p389 : 0 ≤ (x13_1 : Int) := zd
         have q389 : x13_1 < (l0.length : Int) := zd
         obtain ⟨ad389, e389, hx389_0⟩ := Kd.at_int HR0.out x13_1 p389 q389
         cases e389
         replace p389 := eq_true p389
         replace q389 := eq_true q389
         have p390 : 0 ≤ (x13_1 : Int) := zd
         have q390 : x13_1 < (l1.length : Int) := zd
         obtain ⟨ad390, e390, hx390_0⟩ := Kd.at_int HR1.out x13_1 p390 q390
         cases e390
         replace p390 := eq_true p390
         replace q390 := eq_true q390
         go_wp2
         repeat (go_quiet (fail); try go_wp2)
         go_ret
         exact ⟨by first | rfl | (simp; done) | (simp [*]; done), by repeat (first | exact Drawn0.refl _ | apply Drawn0.step)⟩
       ·
        rw [if_neg c7] at H
        exact absurd H (by simp)
      ·
       rw [if_neg c6] at H
       exact absurd H (by simp)
     ·
      rw [if_neg c5] at H
      exact absurd H (by simp)
    ·
     rw [if_neg c4] at H
     have c4b0 : decide (x13_1 < (l0.length : Int)) = false := decide_eq_false c4
     clear c4
     obtain rfl := Option.some.inj H
     go_wp2
     repeat (go_quiet (fail); try go_wp2)
     go_ret
     exact ⟨by first | rfl | (simp; done) | (simp [*]; done), by repeat (first | exact Drawn0.refl _ | apply Drawn0.step)⟩
 ·
  rw [if_neg c3] at H
  have c3b0 : ((l0.length : Int) == (l1.length : Int)) = false := beq_eq_false_iff_ne.mpr c3
  have c3b1 : ((l0.length : Int) != (l1.length : Int)) = true := bne_iff_ne.mpr c3
  have c3b2 : (l0.length == l1.length) = false := by first | simpa using c3 | (simp at c3 ⊢; omega)
  obtain rfl := Option.some.inj H
  go_enter Try.func49, Try.ntmps49
  go_wp2
  repeat (go_quiet (fail); try go_wp2)
  go_ret
  exact ⟨by first | rfl | (simp; done) | (simp [*]; done), by repeat (first | exact Drawn0.refl _ | apply Drawn0.step)⟩

/-! ### laws_qAbs: function 50 -/
def laws_qAbs.f (a0 : Int) : Option (Int) := if a0 < 0 then (some (wrap64 (-a0))) else (some a0)
set_option maxHeartbeats 8000000 in
set_option maxRecDepth 100000 in
theorem laws_qAbs.calls (a0 : Int) (r : Int) (w : World) (h : laws_qAbs.f a0 = some r) :
  Calls Try.prog 50 #[.int .i64 a0] w fun e w' => e = .returned (.int .i64 r) ∧ Drawn0 w w' := by
 have H : (if a0 < 0 then (some (wrap64 (-a0))) else (some a0)) = some r := h
 clear h
 by_cases c2 : a0 < 0
 ·
  rw [if_pos c2] at H
  have c2b0 : decide (a0 < 0) = true := decide_eq_true c2
  clear c2
  obtain rfl := Option.some.inj H
  go_enter Try.func50, Try.ntmps50
  go_wp2
  go_ret
  exact ⟨by first | rfl | (simp; done) | (simp [*]; done), by repeat (first | exact Drawn0.refl _ | apply Drawn0.step)⟩
 ·
  rw [if_neg c2] at H
  have c2b0 : decide (a0 < 0) = false := decide_eq_false c2
  clear c2
  obtain rfl := Option.some.inj H
  go_enter Try.func50, Try.ntmps50
  go_wp2
  go_ret
  exact ⟨by first | rfl | (simp; done) | (simp [*]; done), by repeat (first | exact Drawn0.refl _ | apply Drawn0.step)⟩

/-- A state of type 115 at block g of W; what its slices lead to came in by w0. -/
def IsS115 (w0 W : World) (g : Nat) (f0 : List Int) (f1 : Int) (f2 : Int) : Prop := ∃ A0 c0, W.heap[g]? = some (.cells #[.slice A0 f0.length c0, .int .i64 f1, .int .u64 f2] 115 (0, 0)) ∧ w0.heap.size ≤ g ∧ Kd.C (Kd.int .u8) w0 A0 f0.length f0
theorem IsS115.grown {w0 W : World} {g : Nat} {f0 : List Int} {f1 : Int} {f2 : Int} {W1 : World} {row : Option Nat} (h : IsS115 w0 W g f0 f1 f2) (hw : W.grownBy W1 row) (hne : some g ≠ row) : IsS115 w0 W1 g f0 f1 f2 := by
  obtain ⟨A0, c0, hb, hg, hr0⟩ := h
  exact ⟨A0, c0, blk_grown hb hw hne, hg, hr0⟩
theorem IsS115.own_neN {w0 W : World} {g : Nat} {f0 : List Int} {f1 : Int} {f2 : Int} {α : Type} {d : Kd α} {e : Nat} {base : Nat} {ok : Nat → Prop} {v : Value} {xs : List α} (h : IsS115 w0 W g f0 f1 f2) (ho : Kd.N d e W base ok v xs) (ht : e ≠ 115) : some g ≠ v.ownBlock := by
  obtain ⟨A0, c0, hb, hg, hr0⟩ := h
  exact Kd.N_ne ho hb ht
theorem IsS115.fresh {w0 W : World} {g : Nat} {f0 : List Int} {f1 : Int} {f2 : Int} (h : IsS115 w0 W g f0 f1 f2) : ∀ k, W.heap.size ≤ k → k ≠ g := by
  obtain ⟨A0, c0, hb, hg, hr0⟩ := h
  exact Kd.freshB hb
theorem IsS115.kept {w0 W : World} {g : Nat} {f0 : List Int} {f1 : Int} {f2 : Int} {W1 : World} {S : Nat → Prop} (h : IsS115 w0 W g f0 f1 f2) (hk : Kept W W1 S) (hne : ¬ S g) : IsS115 w0 W1 g f0 f1 f2 := by
  obtain ⟨A0, c0, hb, hg, hr0⟩ := h
  exact ⟨A0, c0, blk_kept hb hk hne, hg, hr0⟩
theorem IsS115.below {w0 W : World} {g : Nat} {f0 : List Int} {f1 : Int} {f2 : Int} {W1 : World} (h : IsS115 w0 W g f0 f1 f2) (hw : Below W.heap.size W W1) : IsS115 w0 W1 g f0 f1 f2 := h.grown (grown_of_below hw none) (by simp)
theorem IsS115.alloc {w0 W : World} {g : Nat} {f0 : List Int} {f1 : Int} {f2 : Int} (h : IsS115 w0 W g f0 f1 f2) (o : Obj) : IsS115 w0 (W.alloc o) g f0 f1 f2 := h.below (below_alloc (Below.refl _ _) o)
theorem IsS115.drewN {w0 W : World} {g : Nat} {f0 : List Int} {f1 : Int} {f2 : Int} (h : IsS115 w0 W g f0 f1 f2) (m : Nat) : IsS115 w0 (W.drewN m) g f0 f1 f2 := h
theorem IsS115.drew {w0 W : World} {g : Nat} {f0 : List Int} {f1 : Int} {f2 : Int} (h : IsS115 w0 W g f0 f1 f2) : IsS115 w0 W.drew g f0 f1 f2 := h
theorem IsS115.at_ {w0 W : World} {g : Nat} {f0 : List Int} {f1 : Int} {f2 : Int} {w' : World} {m : Nat} (hq : W.drewN m = w') (h : IsS115 w0 W g f0 f1 f2) : IsS115 w0 w' g f0 f1 f2 := by subst hq; exact IsS115.drewN h m
theorem IsS115.apart {w0 W : World} {g : Nat} {f0 : List Int} {f1 : Int} {f2 : Int} {α : Type} {d : Kd α} {e : Nat} {base : Nat} {ok : Nat → Prop} {v : Value} {xs : List α} (h : IsS115 w0 W g f0 f1 f2) (ho : d.R e W base ok v xs) (ht : ∀ q, q ∈ e :: d.E → q ≠ 115) : d.R e W base (fun k => ok k ∧ k ≠ g) v xs := by
  obtain ⟨A0, c0, hb, hg, hr0⟩ := h
  exact Kd.R_types ho hb ht
theorem IsS115.own_ne {w0 W : World} {g : Nat} {f0 : List Int} {f1 : Int} {f2 : Int} {α : Type} {d : Kd α} {e : Nat} {base : Nat} {ok : Nat → Prop} {v : Value} {xs : List α} (h : IsS115 w0 W g f0 f1 f2) (ho : d.R e W base ok v xs) (ht : e ≠ 115) : some g ≠ v.ownBlock := by
  obtain ⟨A0, c0, hb, hg, hr0⟩ := h
  exact Kd.R_ne ho hb ht
theorem IsS115.apartQ {w0 W : World} {g : Nat} {f0 : List Int} {f1 : Int} {f2 : Int} {α : Type} {d : Kd α} {e : Nat} {base : Nat} {ok : Nat → Prop} {v : Value} {xs : List α} (h : IsS115 w0 W g f0 f1 f2) (ho : d.Q e W base ok v xs) (ht : ∀ q, q ∈ e :: d.E → q ≠ 115) : d.Q e W base (fun k => ok k ∧ k ≠ g) v xs := by
  obtain ⟨A0, c0, hb, hg, hr0⟩ := h
  exact Kd.Q_types ho hb ht
theorem IsS115.own_neQ {w0 W : World} {g : Nat} {f0 : List Int} {f1 : Int} {f2 : Int} {α : Type} {d : Kd α} {e : Nat} {base : Nat} {ok : Nat → Prop} {v : Value} {xs : List α} (h : IsS115 w0 W g f0 f1 f2) (ho : d.Q e W base ok v xs) (ht : e ≠ 115) : some g ≠ v.ownBlock := by
  obtain ⟨A0, c0, hb, hg, hr0⟩ := h
  exact Kd.Q_ne ho hb ht
theorem IsS115.apartS {w0 W : World} {g : Nat} {f0 : List Int} {f1 : Int} {f2 : Int} {α : Type} {d : Kd α} {e : Nat} {base : Nat} {ok : Nat → Prop} {v : Value} {xs : List α} (h : IsS115 w0 W g f0 f1 f2) (ho : d.S e W base ok v xs) (ht : ∀ q, q ∈ e :: d.E → q ≠ 115) : d.S e W base (fun k => ok k ∧ k ≠ g) v xs := by
  obtain ⟨A0, c0, hb, hg, hr0⟩ := h
  exact Kd.S_types ho hb ht
theorem IsS115.own_neS {w0 W : World} {g : Nat} {f0 : List Int} {f1 : Int} {f2 : Int} {α : Type} {d : Kd α} {e : Nat} {base : Nat} {ok : Nat → Prop} {v : Value} {xs : List α} (h : IsS115 w0 W g f0 f1 f2) (ho : d.S e W base ok v xs) (ht : e ≠ 115) : some g ≠ v.ownBlock := by
  obtain ⟨A0, c0, hb, hg, hr0⟩ := h
  exact Kd.S_ne ho hb ht
theorem IsS115.lt {w0 W : World} {g : Nat} {f0 : List Int} {f1 : Int} {f2 : Int} (h : IsS115 w0 W g f0 f1 f2) : g < W.heap.size := by
  obtain ⟨A0, c0, hb, hg, hr0⟩ := h
  exact blk_lt hb
theorem IsS115.ge {w0 W : World} {g : Nat} {f0 : List Int} {f1 : Int} {f2 : Int} (h : IsS115 w0 W g f0 f1 f2) : w0.heap.size ≤ g := by
  obtain ⟨A0, c0, hb, hg, hr0⟩ := h
  exact hg
theorem IsS115.ne_blk {w0 W : World} {g : Nat} {f0 : List Int} {f1 : Int} {f2 : Int} {a : Nat} {cs : Array Value} {t : TypeId} {fr : Nat × Nat} (h : IsS115 w0 W g f0 f1 f2) (hb2 : W.heap[a]? = some (.cells cs t fr)) (ht : t ≠ 115) : g ≠ a := by
  obtain ⟨A0, c0, hb, hg, hr0⟩ := h
  rintro rfl
  rw [hb] at hb2
  injection hb2 with hb2
  injection hb2 with _ ht2
  exact ht ht2.symm
theorem IsS115.far {w0 W : World} {g : Nat} {f0 : List Int} {f1 : Int} {f2 : Int} {p : Addr} (h : IsS115 w0 W g f0 f1 f2) (hne : g ≠ p.block) (u : Value) : IsS115 w0 (W.setCell p u) g f0 f1 f2 := by
  obtain ⟨A0, c0, hb, hg, hr0⟩ := h
  exact ⟨A0, c0, blk_far hb hne u, hg, hr0⟩
theorem cellS115_0 {W : World} {g : Nat} {A0 : Option Addr} {c0 : Nat} {f0 : List Int} {f1 : Int} {f2 : Int} (h : W.heap[g]? = some (.cells #[.slice A0 f0.length c0, .int .i64 f1, .int .u64 f2] 115 (0, 0))) : W.cell? ⟨g, 0, none⟩ = some (.slice A0 f0.length c0) := (blk_cell h 0).trans rfl
theorem cellS115_1 {W : World} {g : Nat} {A0 : Option Addr} {c0 : Nat} {f0 : List Int} {f1 : Int} {f2 : Int} (h : W.heap[g]? = some (.cells #[.slice A0 f0.length c0, .int .i64 f1, .int .u64 f2] 115 (0, 0))) : W.cell? ⟨g, 1, none⟩ = some (.int .i64 f1) := (blk_cell h 1).trans rfl
theorem IsS115.set_1 {w0 W : World} {g : Nat} {f0 : List Int} {f1 : Int} {f2 : Int} (h : IsS115 w0 W g f0 f1 f2) (x : Int) : IsS115 w0 (W.setCell ⟨g, 1, none⟩ (.int .i64 x)) g f0 x f2 := by
  obtain ⟨A0, c0, hb, hg, hr0⟩ := h
  exact ⟨A0, c0, by simpa using blk_set hb 1 (.int .i64 x), hg, hr0⟩
theorem cellS115_2 {W : World} {g : Nat} {A0 : Option Addr} {c0 : Nat} {f0 : List Int} {f1 : Int} {f2 : Int} (h : W.heap[g]? = some (.cells #[.slice A0 f0.length c0, .int .i64 f1, .int .u64 f2] 115 (0, 0))) : W.cell? ⟨g, 2, none⟩ = some (.int .u64 f2) := (blk_cell h 2).trans rfl
theorem IsS115.set_2 {w0 W : World} {g : Nat} {f0 : List Int} {f1 : Int} {f2 : Int} (h : IsS115 w0 W g f0 f1 f2) (x : Int) : IsS115 w0 (W.setCell ⟨g, 2, none⟩ (.int .u64 x)) g f0 f1 x := by
  obtain ⟨A0, c0, hb, hg, hr0⟩ := h
  exact ⟨A0, c0, by simpa using blk_set hb 2 (.int .u64 x), hg, hr0⟩
theorem IsS115.new (w0 W : World) (A0 : Option Addr) (c0 : Nat) (f0 : List Int) (f1 : Int) (f2 : Int) (hB : Below w0.heap.size w0 W) (hr0 : Kd.C (Kd.int .u8) w0 A0 f0.length f0) : IsS115 w0 (W.alloc (.cells #[.slice A0 f0.length c0, .int .i64 f1, .int .u64 f2] 115)) W.heap.size f0 f1 f2 := ⟨A0, c0, by simpa using heap_alloc_new W _, hB.size, hr0⟩
theorem z115i {w0 W : World} {g : Nat} {f0 : List Int} {f1 : Int} {f2 : Int} (h : IsS115 w0 W g f0 f1 f2 := by repeat (first | (with_reducible first | exact (Aside0.out (by with_reducible assumption)) | apply IsS115.alloc | apply IsS115.drewN | apply IsS115.drew | apply IsS115.set_1 | apply IsS115.set_2 | refine IsS115.far ?_ (Aside0.out (by with_reducible assumption)) _) | exact Aside0.out (by assumption))) : IsS115 w0 W g f0 f1 f2 := h

/-! ### spec_l1Cur_next: function 156 -/
def spec_l1Cur_next.f (s0_0 : List Int) (s0_1 : Int) (s0_2 : Int) : Option (Int × Int × Int) := if s0_1 < (s0_0.length : Int) then (if 0 ≤ s0_1 then (if (wrap64 (s0_1 + 1)) ≤ (s0_0.length : Int) then (some (wrap64 (rd s0_0 s0_1), wrap64 (s0_1 + 1), IntKind.u64.wrap ((IntKind.u64.wrap ((IntKind.u64.wrap (s0_2 * 6364136223846793005)) + (IntKind.u64.wrap (wrap64 (rd s0_0 s0_1))))) + 1442695040888963407))) else (some (wrap64 (Go.bits .and .u64 ((IntKind.u64.wrap ((IntKind.u64.wrap ((IntKind.u64.wrap (s0_2 * 6364136223846793005)) + (IntKind.u64.wrap (wrap64 (rd s0_0 s0_1))))) + 1442695040888963407)) / 1099511627776) 255), wrap64 (s0_1 + 1), IntKind.u64.wrap ((IntKind.u64.wrap ((IntKind.u64.wrap (s0_2 * 6364136223846793005)) + (IntKind.u64.wrap (wrap64 (rd s0_0 s0_1))))) + 1442695040888963407)))) else (none)) else (if (wrap64 (s0_1 + 1)) ≤ (s0_0.length : Int) then (some (0, wrap64 (s0_1 + 1), IntKind.u64.wrap ((IntKind.u64.wrap ((IntKind.u64.wrap (s0_2 * 6364136223846793005)) + 0)) + 1442695040888963407))) else (some (wrap64 (Go.bits .and .u64 ((IntKind.u64.wrap ((IntKind.u64.wrap ((IntKind.u64.wrap (s0_2 * 6364136223846793005)) + 0)) + 1442695040888963407)) / 1099511627776) 255), wrap64 (s0_1 + 1), IntKind.u64.wrap ((IntKind.u64.wrap ((IntKind.u64.wrap (s0_2 * 6364136223846793005)) + 0)) + 1442695040888963407))))
set_option maxHeartbeats 8000000 in
set_option maxRecDepth 100000 in
theorem spec_l1Cur_next.calls (g : Nat) (s0_0 : List Int) (s0_1 : Int) (s0_2 : Int) (r1 : Int) (r2 : Int) (r3 : Int) (w0 w : World) (hI : IsS115 w0 w g s0_0 s0_1 s0_2) (hB : Below w0.heap.size w0 w) (h : spec_l1Cur_next.f s0_0 s0_1 s0_2 = some (r1, r2, r3)) :
  Calls Try.prog 156 #[.pointer (some ⟨g, 0, none⟩)] w fun e w' => e = .returned (.int .i64 r1) ∧ IsS115 w0 w' g s0_0 r2 r3 ∧ Below w0.heap.size w0 w' ∧ KeepBut w w' g none := by
 have HI0 := zm hI
 have GHI0 := zm (IsS115.ge HI0.out)
 have HK := zm (KeepBut.refl w g none)
 have HL := zm hB.size
 clear hI
 have HW0 := zm hB.size
 have HB := zm hB
 clear hB
 have H : (if s0_1 < (s0_0.length : Int) then (if 0 ≤ s0_1 then (if (wrap64 (s0_1 + 1)) ≤ (s0_0.length : Int) then (some (wrap64 (rd s0_0 s0_1), wrap64 (s0_1 + 1), IntKind.u64.wrap ((IntKind.u64.wrap ((IntKind.u64.wrap (s0_2 * 6364136223846793005)) + (IntKind.u64.wrap (wrap64 (rd s0_0 s0_1))))) + 1442695040888963407))) else (some (wrap64 (Go.bits .and .u64 ((IntKind.u64.wrap ((IntKind.u64.wrap ((IntKind.u64.wrap (s0_2 * 6364136223846793005)) + (IntKind.u64.wrap (wrap64 (rd s0_0 s0_1))))) + 1442695040888963407)) / 1099511627776) 255), wrap64 (s0_1 + 1), IntKind.u64.wrap ((IntKind.u64.wrap ((IntKind.u64.wrap (s0_2 * 6364136223846793005)) + (IntKind.u64.wrap (wrap64 (rd s0_0 s0_1))))) + 1442695040888963407)))) else (none)) else (if (wrap64 (s0_1 + 1)) ≤ (s0_0.length : Int) then (some (0, wrap64 (s0_1 + 1), IntKind.u64.wrap ((IntKind.u64.wrap ((IntKind.u64.wrap (s0_2 * 6364136223846793005)) + 0)) + 1442695040888963407))) else (some (wrap64 (Go.bits .and .u64 ((IntKind.u64.wrap ((IntKind.u64.wrap ((IntKind.u64.wrap (s0_2 * 6364136223846793005)) + 0)) + 1442695040888963407)) / 1099511627776) 255), wrap64 (s0_1 + 1), IntKind.u64.wrap ((IntKind.u64.wrap ((IntKind.u64.wrap (s0_2 * 6364136223846793005)) + 0)) + 1442695040888963407))))) = some (r1, r2, r3) := h
 clear h
 by_cases c2 : s0_1 < (s0_0.length : Int)
 ·
  rw [if_pos c2] at H
  have c2b0 : decide (s0_1 < (s0_0.length : Int)) = true := decide_eq_true c2
  clear c2
  by_cases c3 : 0 ≤ s0_1
  ·
   rw [if_pos c3] at H
   have c3b0 : decide (0 ≤ s0_1) = true := decide_eq_true c3
   clear c3
   by_cases c4 : (wrap64 (s0_1 + 1)) ≤ (s0_0.length : Int)
   ·
    rw [if_pos c4] at H
    have c4b0 : decide ((wrap64 (s0_1 + 1)) ≤ (s0_0.length : Int)) = true := decide_eq_true c4
    clear c4
    simp only [Option.some.injEq, Prod.mk.injEq] at H
    obtain ⟨rfl, rfl, rfl⟩ := H
    obtain ⟨ASz5_0, cSz5_0, HGz5, hgz5, HSz5_0⟩ := HI0.out
    have hcz5_0 := cellS115_0 HGz5
    have hcz5_1 := cellS115_1 HGz5
    have hcz5_2 := cellS115_2 HGz5
    have hfz5_1 := blk_frozen HGz5 1
    have hfz5_2 := blk_frozen HGz5 2
    clear HGz5 hgz5
    have p391 : 0 ≤ (s0_1 : Int) := zd
    have q391 : s0_1 < (s0_0.length : Int) := zd
    obtain ⟨ad391, e391, hx391_0⟩ := Kd.at_int HSz5_0 s0_1 p391 q391
    cases e391
    replace hx391_0 := pw_cell_below HB.out hx391_0
    replace p391 := eq_true p391
    replace q391 := eq_true q391
    go_enter Try.func156, Try.ntmps156
    go_wp2
    repeat (go_quiet (fail); try go_wp2)
    go_ret
    exact ⟨zr, by (try simp only [Int.add_zero]); repeat (first | (with_reducible first | exact HI0.out | apply IsS115.alloc | apply IsS115.drewN | apply IsS115.drew | apply IsS115.set_1 | apply IsS115.set_2) | exact HI0.out), zb, zh⟩
   ·
    rw [if_neg c4] at H
    have c4b0 : decide ((wrap64 (s0_1 + 1)) ≤ (s0_0.length : Int)) = false := decide_eq_false c4
    clear c4
    simp only [Option.some.injEq, Prod.mk.injEq] at H
    obtain ⟨rfl, rfl, rfl⟩ := H
    obtain ⟨ASz6_0, cSz6_0, HGz6, hgz6, HSz6_0⟩ := HI0.out
    have hcz6_0 := cellS115_0 HGz6
    have hcz6_1 := cellS115_1 HGz6
    have hcz6_2 := cellS115_2 HGz6
    have hfz6_1 := blk_frozen HGz6 1
    have hfz6_2 := blk_frozen HGz6 2
    clear HGz6 hgz6
    have p391 : 0 ≤ (s0_1 : Int) := zd
    have q391 : s0_1 < (s0_0.length : Int) := zd
    obtain ⟨ad391, e391, hx391_0⟩ := Kd.at_int HSz6_0 s0_1 p391 q391
    cases e391
    replace hx391_0 := pw_cell_below HB.out hx391_0
    replace p391 := eq_true p391
    replace q391 := eq_true q391
    go_enter Try.func156, Try.ntmps156
    go_wp2
    repeat (go_quiet (fail); try go_wp2)
    go_ret
    exact ⟨zr, by (try simp only [Int.add_zero]); repeat (first | (with_reducible first | exact HI0.out | apply IsS115.alloc | apply IsS115.drewN | apply IsS115.drew | apply IsS115.set_1 | apply IsS115.set_2) | exact HI0.out), zb, zh⟩
  ·
   rw [if_neg c3] at H
   exact absurd H (by simp)
 ·
  rw [if_neg c2] at H
  have c2b0 : decide (s0_1 < (s0_0.length : Int)) = false := decide_eq_false c2
  clear c2
  by_cases c7 : (wrap64 (s0_1 + 1)) ≤ (s0_0.length : Int)
  ·
   rw [if_pos c7] at H
   have c7b0 : decide ((wrap64 (s0_1 + 1)) ≤ (s0_0.length : Int)) = true := decide_eq_true c7
   clear c7
   simp only [Option.some.injEq, Prod.mk.injEq] at H
   obtain ⟨rfl, rfl, rfl⟩ := H
   obtain ⟨ASz8_0, cSz8_0, HGz8, hgz8, HSz8_0⟩ := HI0.out
   have hcz8_0 := cellS115_0 HGz8
   have hcz8_1 := cellS115_1 HGz8
   have hcz8_2 := cellS115_2 HGz8
   have hfz8_1 := blk_frozen HGz8 1
   have hfz8_2 := blk_frozen HGz8 2
   clear HGz8 hgz8
   go_enter Try.func156, Try.ntmps156
   go_wp2
   repeat (go_quiet (fail); try go_wp2)
   go_ret
   exact ⟨zr, by (try simp only [Int.add_zero]); repeat (first | (with_reducible first | exact HI0.out | apply IsS115.alloc | apply IsS115.drewN | apply IsS115.drew | apply IsS115.set_1 | apply IsS115.set_2) | exact HI0.out), zb, zh⟩
  ·
   rw [if_neg c7] at H
   have c7b0 : decide ((wrap64 (s0_1 + 1)) ≤ (s0_0.length : Int)) = false := decide_eq_false c7
   clear c7
   simp only [Option.some.injEq, Prod.mk.injEq] at H
   obtain ⟨rfl, rfl, rfl⟩ := H
   obtain ⟨ASz9_0, cSz9_0, HGz9, hgz9, HSz9_0⟩ := HI0.out
   have hcz9_0 := cellS115_0 HGz9
   have hcz9_1 := cellS115_1 HGz9
   have hcz9_2 := cellS115_2 HGz9
   have hfz9_1 := blk_frozen HGz9 1
   have hfz9_2 := blk_frozen HGz9 2
   clear HGz9 hgz9
   go_enter Try.func156, Try.ntmps156
   go_wp2
   repeat (go_quiet (fail); try go_wp2)
   go_ret
   exact ⟨zr, by (try simp only [Int.add_zero]); repeat (first | (with_reducible first | exact HI0.out | apply IsS115.alloc | apply IsS115.drewN | apply IsS115.drew | apply IsS115.set_1 | apply IsS115.set_2) | exact HI0.out), zb, zh⟩

/-! ### spec_l1Cur_pick: function 121 -/
def spec_l1Cur_pick.f (s0_0 : List Int) (s0_1 : Int) (s0_2 : Int) (a1 : Int) : Option (Int × Int × Int) := if a1 ≤ 1 then (some (0, s0_1, s0_2)) else ((spec_l1Cur_next.f s0_0 s0_1 s0_2).bind fun bt392 => (if a1 > 200 then ((spec_l1Cur_next.f s0_0 bt392.2.1 bt392.2.2).bind fun bt395 => (if a1 = 0 then (none) else (some (Int.tmod (wrap64 ((wrap64 (bt392.1 * 256)) + bt395.1)) a1, bt395.2.1, bt395.2.2)))) else (if a1 = 0 then (none) else (some (Int.tmod bt392.1 a1, bt392.2.1, bt392.2.2)))))
set_option maxHeartbeats 8000000 in
set_option maxRecDepth 100000 in
theorem spec_l1Cur_pick.calls (g : Nat) (s0_0 : List Int) (s0_1 : Int) (s0_2 : Int) (a1 : Int) (r1 : Int) (r2 : Int) (r3 : Int) (w0 w : World) (hI : IsS115 w0 w g s0_0 s0_1 s0_2) (hB : Below w0.heap.size w0 w) (h : spec_l1Cur_pick.f s0_0 s0_1 s0_2 a1 = some (r1, r2, r3)) :
  Calls Try.prog 121 #[.pointer (some ⟨g, 0, none⟩), .int .i64 a1] w fun e w' => e = .returned (.int .i64 r1) ∧ IsS115 w0 w' g s0_0 r2 r3 ∧ Below w0.heap.size w0 w' ∧ KeepBut w w' g none := by
 have HI0 := zm hI
 have GHI0 := zm (IsS115.ge HI0.out)
 have HK := zm (KeepBut.refl w g none)
 have HL := zm hB.size
 clear hI
 have HW0 := zm hB.size
 have HB := zm hB
 clear hB
 have H : (if a1 ≤ 1 then (some (0, s0_1, s0_2)) else ((spec_l1Cur_next.f s0_0 s0_1 s0_2).bind fun bt392 => (if a1 > 200 then ((spec_l1Cur_next.f s0_0 bt392.2.1 bt392.2.2).bind fun bt395 => (if a1 = 0 then (none) else (some (Int.tmod (wrap64 ((wrap64 (bt392.1 * 256)) + bt395.1)) a1, bt395.2.1, bt395.2.2)))) else (if a1 = 0 then (none) else (some (Int.tmod bt392.1 a1, bt392.2.1, bt392.2.2)))))) = some (r1, r2, r3) := h
 clear h
 by_cases c3 : a1 ≤ 1
 ·
  rw [if_pos c3] at H
  have c3b0 : decide (a1 ≤ 1) = true := decide_eq_true c3
  clear c3
  simp only [Option.some.injEq, Prod.mk.injEq] at H
  obtain ⟨rfl, rfl, rfl⟩ := H
  go_enter Try.func121, Try.ntmps121
  go_wp2
  go_ret
  exact ⟨zr, z115i, zb, zh⟩
 ·
  rw [if_neg c3] at H
  have c3b0 : decide (a1 ≤ 1) = false := decide_eq_false c3
  clear c3
  replace H := Option.bind_eq_some_iff.mp H
  obtain ⟨⟨t392, t393, t394⟩, A40, H⟩ := H
  (try dsimp only at H)
  have A4 := zm A40
  clear A40
  by_cases c5 : a1 > 200
  ·
   rw [if_pos c5] at H
   have c5b0 : decide (200 < a1) = true := decide_eq_true c5
   clear c5
   replace H := Option.bind_eq_some_iff.mp H
   obtain ⟨⟨t395, t396, t397⟩, A60, H⟩ := H
   (try dsimp only at H)
   have A6 := zm A60
   clear A60
   by_cases c7 : a1 = 0
   ·
    rw [if_pos c7] at H
    exact absurd H (by simp)
   ·
    rw [if_neg c7] at H
    have c7b0 : (a1 == 0) = false := beq_eq_false_iff_ne.mpr c7
    have c7b1 : (a1 != 0) = true := bne_iff_ne.mpr c7
    simp only [Option.some.injEq, Prod.mk.injEq] at H
    obtain ⟨rfl, rfl, rfl⟩ := H
    go_enter Try.func121, Try.ntmps121
    go_wp2_with (first | ((with_reducible refine gate_callee (f := 156) rfl ?_); refine goesA_ (some 9) Try.func156 #[.pointer (some ⟨g, 0, none⟩)] rfl ?_; (with_reducible refine (spec_l1Cur_next.calls g s0_0 s0_1 s0_2 t392 t393 t394 w0 _ ?side1 ?side2 A4.out).mono ?_); (case side1 => repeat (first | (with_reducible first | exact HI0.out | apply IsS115.alloc | apply IsS115.drewN | apply IsS115.drew | apply IsS115.set_1 | apply IsS115.set_2) | exact HI0.out)); (case side2 => repeat (first | (with_reducible first | exact HB.out | apply below_alloc | apply pw_below_drewN | apply below_drew1 | refine below_set ?_ (IsS115.ge HI0.out)) | exact HB.out)); rintro e w8 ⟨rfl, hi, hb, hk⟩; refine ⟨_, rfl, ?_⟩; have n0_ := zm (KeepBut.trans zh hk (.inl rfl)); have n1_ := zm (hb); have n2_ := zm (hi); clear HK; clear HB; clear HI0; have HK := n0_; have HB := n1_; have HI0 := n2_; clear n0_ n1_ n2_; (try clear hb); (try clear hb2); (try clear hk); (try clear hi)) | ((with_reducible refine gate_callee (f := 156) rfl ?_); refine goesA_ (some 15) Try.func156 #[.pointer (some ⟨g, 0, none⟩)] rfl ?_; (with_reducible refine (spec_l1Cur_next.calls g s0_0 t393 t394 t395 t396 t397 w0 _ ?side1 ?side2 A6.out).mono ?_); (case side1 => repeat (first | (with_reducible first | exact HI0.out | apply IsS115.alloc | apply IsS115.drewN | apply IsS115.drew | apply IsS115.set_1 | apply IsS115.set_2) | exact HI0.out)); (case side2 => repeat (first | (with_reducible first | exact HB.out | apply below_alloc | apply pw_below_drewN | apply below_drew1 | refine below_set ?_ (IsS115.ge HI0.out)) | exact HB.out)); rintro e w9 ⟨rfl, hi, hb, hk⟩; refine ⟨_, rfl, ?_⟩; have n0_ := zm (KeepBut.trans zh hk (.inl rfl)); have n1_ := zm (hb); have n2_ := zm (hi); clear HK; clear HB; clear HI0; have HK := n0_; have HB := n1_; have HI0 := n2_; clear n0_ n1_ n2_; (try clear hb); (try clear hb2); (try clear hk); (try clear hi)))
    go_ret
    exact ⟨zr, z115i, zb, zh⟩
  ·
   rw [if_neg c5] at H
   have c5b0 : decide (200 < a1) = false := decide_eq_false c5
   clear c5
   by_cases c10 : a1 = 0
   ·
    rw [if_pos c10] at H
    exact absurd H (by simp)
   ·
    rw [if_neg c10] at H
    have c10b0 : (a1 == 0) = false := beq_eq_false_iff_ne.mpr c10
    have c10b1 : (a1 != 0) = true := bne_iff_ne.mpr c10
    simp only [Option.some.injEq, Prod.mk.injEq] at H
    obtain ⟨rfl, rfl, rfl⟩ := H
    go_enter Try.func121, Try.ntmps121
    go_wp2_with (first | ((with_reducible refine gate_callee (f := 156) rfl ?_); refine goesA_ (some 9) Try.func156 #[.pointer (some ⟨g, 0, none⟩)] rfl ?_; (with_reducible refine (spec_l1Cur_next.calls g s0_0 s0_1 s0_2 t392 t393 t394 w0 _ ?side1 ?side2 A4.out).mono ?_); (case side1 => repeat (first | (with_reducible first | exact HI0.out | apply IsS115.alloc | apply IsS115.drewN | apply IsS115.drew | apply IsS115.set_1 | apply IsS115.set_2) | exact HI0.out)); (case side2 => repeat (first | (with_reducible first | exact HB.out | apply below_alloc | apply pw_below_drewN | apply below_drew1 | refine below_set ?_ (IsS115.ge HI0.out)) | exact HB.out)); rintro e w11 ⟨rfl, hi, hb, hk⟩; refine ⟨_, rfl, ?_⟩; have n0_ := zm (KeepBut.trans zh hk (.inl rfl)); have n1_ := zm (hb); have n2_ := zm (hi); clear HK; clear HB; clear HI0; have HK := n0_; have HB := n1_; have HI0 := n2_; clear n0_ n1_ n2_; (try clear hb); (try clear hb2); (try clear hk); (try clear hi)))
    go_ret
    exact ⟨zr, z115i, zb, zh⟩

/-! ### spec_l1Cur_among: function 120 -/
def spec_l1Cur_among.f (s0_0 : List Int) (s0_1 : Int) (s0_2 : Int) (l1 : List Int) : Option (Int × Int × Int) := (spec_l1Cur_pick.f s0_0 s0_1 s0_2 (l1.length : Int)).bind fun bt398 => (if 0 ≤ bt398.1 then (if bt398.1 < (l1.length : Int) then (some (rd l1 bt398.1, bt398.2.1, bt398.2.2)) else (none)) else (none))
set_option maxHeartbeats 8000000 in
set_option maxRecDepth 100000 in
theorem spec_l1Cur_among.calls (g : Nat) (s0_0 : List Int) (s0_1 : Int) (s0_2 : Int) (A1 : Option Addr) (c1 : Nat) (l1 : List Int) (r1 : Int) (r2 : Int) (r3 : Int) (w0 w : World) (hI : IsS115 w0 w g s0_0 s0_1 s0_2) (hB : Below w0.heap.size w0 w) (hr1 : Kd.C (Kd.int .i64) w A1 l1.length l1) (hc1 : l1.length ≤ c1) (hf1 : ∀ ad, A1 = some ad → 0 < l1.length → ad.block ≠ g) (h : spec_l1Cur_among.f s0_0 s0_1 s0_2 l1 = some (r1, r2, r3)) :
  Calls Try.prog 120 #[.pointer (some ⟨g, 0, none⟩), .slice A1 l1.length c1] w fun e w' => e = .returned (.int .i64 r1) ∧ IsS115 w0 w' g s0_0 r2 r3 ∧ Below w0.heap.size w0 w' ∧ KeepBut w w' g none := by
 have HR1 := zm hr1
 have HC1 := zm hc1
 clear hr1 hc1
 have HI0 := zm hI
 have GHI0 := zm (IsS115.ge HI0.out)
 have HK := zm (KeepBut.refl w g none)
 have HL := zm hB.size
 clear hI
 have HW0 := zm hB.size
 have HB := zm hB
 clear hB
 have H : ((spec_l1Cur_pick.f s0_0 s0_1 s0_2 (l1.length : Int)).bind fun bt398 => (if 0 ≤ bt398.1 then (if bt398.1 < (l1.length : Int) then (some (rd l1 bt398.1, bt398.2.1, bt398.2.2)) else (none)) else (none))) = some (r1, r2, r3) := h
 clear h
 replace H := Option.bind_eq_some_iff.mp H
 obtain ⟨⟨t398, t399, t400⟩, A30, H⟩ := H
 (try dsimp only at H)
 have A3 := zm A30
 clear A30
 by_cases c4 : 0 ≤ t398
 ·
  rw [if_pos c4] at H
  have c4b0 : decide (0 ≤ t398) = true := decide_eq_true c4
  clear c4
  by_cases c5 : t398 < (l1.length : Int)
  ·
   rw [if_pos c5] at H
   have c5b0 : decide (t398 < (l1.length : Int)) = true := decide_eq_true c5
   clear c5
   simp only [Option.some.injEq, Prod.mk.injEq] at H
   obtain ⟨rfl, rfl, rfl⟩ := H
   go_enter Try.func120, Try.ntmps120
   go_wp2_with (first | ((with_reducible refine gate_callee (f := 121) rfl ?_); refine goesA_ (some 9) Try.func121 #[.pointer (some ⟨g, 0, none⟩), .int .i64 (l1.length : Int)] rfl ?_; (with_reducible refine (spec_l1Cur_pick.calls g s0_0 s0_1 s0_2 (l1.length : Int) t398 t399 t400 w0 _ ?side1 ?side2 A3.out).mono ?_); (case side1 => repeat (first | (with_reducible first | exact HI0.out | apply IsS115.alloc | apply IsS115.drewN | apply IsS115.drew | apply IsS115.set_1 | apply IsS115.set_2) | exact HI0.out)); (case side2 => repeat (first | (with_reducible first | exact HB.out | apply below_alloc | apply pw_below_drewN | apply below_drew1 | refine below_set ?_ (IsS115.ge HI0.out)) | exact HB.out)); rintro e w6 ⟨rfl, hi, hb, hk⟩; refine ⟨_, rfl, ?_⟩; have n0_ := zm (KeepBut.trans zh hk (.inl rfl)); have n1_ := zm (hb); have n2_ := zm (hi); clear HK; clear HB; clear HI0; have HK := n0_; have HB := n1_; have HI0 := n2_; clear n0_ n1_ n2_; (try clear hb); (try clear hb2); (try clear hk); (try clear hi); have p401 : 0 ≤ (t398 : Int) := zd; have q401 : t398 < (l1.length : Int) := zd; obtain ⟨ad401, e401, hx401_0⟩ := Kd.at_int HR1.out t398 p401 q401; cases e401; replace hx401_0 := keep_cell HK.out hx401_0 (by first | (rw [add_block]; exact hf1 _ rfl (by omega)) | exact hf1 _ rfl (by omega) | exact hf1 ad401 rfl (by omega)); replace p401 := eq_true p401; replace q401 := eq_true q401))
   go_ret
   exact ⟨zr, z115i, zb, zh⟩
  ·
   rw [if_neg c5] at H
   exact absurd H (by simp)
 ·
  rw [if_neg c4] at H
  exact absurd H (by simp)

/-! ### spec_l1Cur_controller: function 112 -/
def spec_l1Cur_controller.f (s0_0 : List Int) (s0_1 : Int) (s0_2 : Int) : Option (Int × Int × Int × Int) := (spec_l1Cur_pick.f s0_0 s0_1 s0_2 60).bind fun bt403 => ((spec_l1Cur_among.f s0_0 bt403.2.1 bt403.2.2 (([0, 5, 20, bt403.1, 200] : List Int))).bind fun bt409 => ((spec_l1Cur_pick.f s0_0 bt409.2.1 bt409.2.2 60).bind fun bt412 => ((spec_l1Cur_among.f s0_0 bt412.2.1 bt412.2.2 (([1, 5, 20, wrap64 (1 + bt412.1), 100] : List Int))).bind fun bt418 => ((spec_l1Cur_pick.f s0_0 bt418.2.1 bt418.2.2 24).bind fun bt422 => (if bt422.1 = 0 then ((spec_l1Cur_among.f s0_0 bt422.2.1 bt422.2.2 (([(-1), 201] : List Int))).bind fun bt428 => (some (bt428.1, bt418.1, bt428.2.1, bt428.2.2))) else (if bt422.1 = 1 then ((spec_l1Cur_among.f s0_0 bt422.2.1 bt422.2.2 (([0, 101] : List Int))).bind fun bt434 => (some (bt409.1, bt434.1, bt434.2.1, bt434.2.2))) else (some (bt409.1, bt418.1, bt422.2.1, bt422.2.2))))))))
set_option maxHeartbeats 8000000 in
set_option maxRecDepth 100000 in
theorem spec_l1Cur_controller.calls (g : Nat) (s0_0 : List Int) (s0_1 : Int) (s0_2 : Int) (r1 : Int) (r2 : Int) (r3 : Int) (r4 : Int) (w0 w : World) (hI : IsS115 w0 w g s0_0 s0_1 s0_2) (hB : Below w0.heap.size w0 w) (h : spec_l1Cur_controller.f s0_0 s0_1 s0_2 = some (r1, r2, r3, r4)) :
  Calls Try.prog 112 #[.pointer (some ⟨g, 0, none⟩)] w fun e w' => e = .returned (.agg #[.int .i64 r1, .int .i64 r2]) ∧ IsS115 w0 w' g s0_0 r3 r4 ∧ Below w0.heap.size w0 w' ∧ KeepBut w w' g none := by
 have hu47 := Try.underlying47
 have HI0 := zm hI
 have GHI0 := zm (IsS115.ge HI0.out)
 have HK := zm (KeepBut.refl w g none)
 have HL := zm hB.size
 clear hI
 have HW0 := zm hB.size
 have HB := zm hB
 clear hB
 have H : ((spec_l1Cur_pick.f s0_0 s0_1 s0_2 60).bind fun bt403 => ((spec_l1Cur_among.f s0_0 bt403.2.1 bt403.2.2 (([0, 5, 20, bt403.1, 200] : List Int))).bind fun bt409 => ((spec_l1Cur_pick.f s0_0 bt409.2.1 bt409.2.2 60).bind fun bt412 => ((spec_l1Cur_among.f s0_0 bt412.2.1 bt412.2.2 (([1, 5, 20, wrap64 (1 + bt412.1), 100] : List Int))).bind fun bt418 => ((spec_l1Cur_pick.f s0_0 bt418.2.1 bt418.2.2 24).bind fun bt422 => (if bt422.1 = 0 then ((spec_l1Cur_among.f s0_0 bt422.2.1 bt422.2.2 (([(-1), 201] : List Int))).bind fun bt428 => (some (bt428.1, bt418.1, bt428.2.1, bt428.2.2))) else (if bt422.1 = 1 then ((spec_l1Cur_among.f s0_0 bt422.2.1 bt422.2.2 (([0, 101] : List Int))).bind fun bt434 => (some (bt409.1, bt434.1, bt434.2.1, bt434.2.2))) else (some (bt409.1, bt418.1, bt422.2.1, bt422.2.2))))))))) = some (r1, r2, r3, r4) := h
 clear h
 replace H := Option.bind_eq_some_iff.mp H
 obtain ⟨⟨t403, t404, t405⟩, A20, H⟩ := H
 (try dsimp only at H)
 have A2 := zm A20
 clear A20
 obtain ⟨y406, hy406⟩ : ∃ y_ : List Int, y_ = (([0, 5, 20, t403, 200] : List Int)) := ⟨_, rfl⟩
 replace H : ((spec_l1Cur_among.f s0_0 t404 t405 y406).bind fun bt409 => ((spec_l1Cur_pick.f s0_0 bt409.2.1 bt409.2.2 60).bind fun bt412 => ((spec_l1Cur_among.f s0_0 bt412.2.1 bt412.2.2 (([1, 5, 20, wrap64 (1 + bt412.1), 100] : List Int))).bind fun bt418 => ((spec_l1Cur_pick.f s0_0 bt418.2.1 bt418.2.2 24).bind fun bt422 => (if bt422.1 = 0 then ((spec_l1Cur_among.f s0_0 bt422.2.1 bt422.2.2 (([(-1), 201] : List Int))).bind fun bt428 => (some (bt428.1, bt418.1, bt428.2.1, bt428.2.2))) else (if bt422.1 = 1 then ((spec_l1Cur_among.f s0_0 bt422.2.1 bt422.2.2 (([0, 101] : List Int))).bind fun bt434 => (some (bt409.1, bt434.1, bt434.2.1, bt434.2.2))) else (some (bt409.1, bt418.1, bt422.2.1, bt422.2.2)))))))) = some (r1, r2, r3, r4) := by first | (rw [hy406]; with_reducible exact H) | (have H2_ := (Option.bind_some _ _).symm.trans H; rw [hy406]; with_reducible exact H2_) | (have H2_ := (Option.bind_some _ _).symm.trans H; with_reducible exact H2_) | with_reducible exact H | (rw [hy406]; exact H) | exact H
 have Ny406 := zm hy406
 clear hy406
 replace H := Option.bind_eq_some_iff.mp H
 obtain ⟨⟨t409, t410, t411⟩, A30, H⟩ := H
 (try dsimp only at H)
 have A3 := zm A30
 clear A30
 replace H := Option.bind_eq_some_iff.mp H
 obtain ⟨⟨t412, t413, t414⟩, A40, H⟩ := H
 (try dsimp only at H)
 have A4 := zm A40
 clear A40
 obtain ⟨y415, hy415⟩ : ∃ y_ : List Int, y_ = (([1, 5, 20, wrap64 (1 + t412), 100] : List Int)) := ⟨_, rfl⟩
 replace H : ((spec_l1Cur_among.f s0_0 t413 t414 y415).bind fun bt418 => ((spec_l1Cur_pick.f s0_0 bt418.2.1 bt418.2.2 24).bind fun bt422 => (if bt422.1 = 0 then ((spec_l1Cur_among.f s0_0 bt422.2.1 bt422.2.2 (([(-1), 201] : List Int))).bind fun bt428 => (some (bt428.1, bt418.1, bt428.2.1, bt428.2.2))) else (if bt422.1 = 1 then ((spec_l1Cur_among.f s0_0 bt422.2.1 bt422.2.2 (([0, 101] : List Int))).bind fun bt434 => (some (t409, bt434.1, bt434.2.1, bt434.2.2))) else (some (t409, bt418.1, bt422.2.1, bt422.2.2)))))) = some (r1, r2, r3, r4) := by first | (rw [hy415]; with_reducible exact H) | (have H2_ := (Option.bind_some _ _).symm.trans H; rw [hy415]; with_reducible exact H2_) | (have H2_ := (Option.bind_some _ _).symm.trans H; with_reducible exact H2_) | with_reducible exact H | (rw [hy415]; exact H) | exact H
 have Ny415 := zm hy415
 clear hy415
 replace H := Option.bind_eq_some_iff.mp H
 obtain ⟨⟨t418, t419, t420⟩, A50, H⟩ := H
 (try dsimp only at H)
 have A5 := zm A50
 clear A50
 replace H := Option.bind_eq_some_iff.mp H
 obtain ⟨⟨t422, t423, t424⟩, A60, H⟩ := H
 (try dsimp only at H)
 have A6 := zm A60
 clear A60
 by_cases c7 : t422 = 0
 ·
  rw [if_pos c7] at H
  have c7b0 : (t422 == 0) = true := beq_iff_eq.mpr c7
  have c7b1 : (t422 != 0) = false := bne_eq_false_iff_eq.mpr c7
  clear c7
  obtain ⟨y425, hy425⟩ : ∃ y_ : List Int, y_ = (([(-1), 201] : List Int)) := ⟨_, rfl⟩
  replace H : ((spec_l1Cur_among.f s0_0 t423 t424 y425).bind fun bt428 => (some (bt428.1, t418, bt428.2.1, bt428.2.2))) = some (r1, r2, r3, r4) := by first | (rw [hy425]; with_reducible exact H) | (have H2_ := (Option.bind_some _ _).symm.trans H; rw [hy425]; with_reducible exact H2_) | (have H2_ := (Option.bind_some _ _).symm.trans H; with_reducible exact H2_) | with_reducible exact H | (rw [hy425]; exact H) | exact H
  have Ny425 := zm hy425
  clear hy425
  replace H := Option.bind_eq_some_iff.mp H
  obtain ⟨⟨t428, t429, t430⟩, A80, H⟩ := H
  (try dsimp only at H)
  have A8 := zm A80
  clear A80
  simp only [Option.some.injEq, Prod.mk.injEq] at H
  obtain ⟨rfl, rfl, rfl, rfl⟩ := H
  go_enter Try.func112, Try.ntmps112
  go_wp2_with (first | ((with_reducible refine gate_dst (N := 2) rfl ?_); refine box_event ?hg (N := 2) ?hd (cs := #[.int .i64 0, .int .i64 0]) (t := 47) ?hr ?_; (case hd => rfl); (case hg => rfl); (case hr => first | (go_simp; done) | (go_simp; rfl)); intro gb402 hg w9 hbox hb; have n0_ := zm (IsS115.below z115i hb); have n1_ := zm (KeepBut.trans zh (KeepBut.of_below hb g none) (.inl rfl)); have n2_ := zm (below_step zb hb); have n3_ := zm (hbox); have n4_ := zm ((by rw [hg]; exact (keep_size (w := w) (g := g) (row := none) zh) : w.heap.size ≤ gb402)); have n5_ := zm ((Nat.le_trans HW0.out (by rw [hg]; exact (keep_size (w := w) (g := g) (row := none) zh) : w.heap.size ≤ gb402) : w0.heap.size ≤ gb402)); have n6_ := zm ((by rw [hg]; exact Nat.ne_of_lt (IsS115.lt (show IsS115 w0 _ g s0_0 s0_1 s0_2 from z115i)) : g ≠ gb402)); have n7_ := zm ((by rw [hg]; exact Nat.ne_of_gt (IsS115.lt (show IsS115 w0 _ g s0_0 s0_1 s0_2 from z115i)) : gb402 ≠ g)); clear HI0; clear HK; clear HB; have HI0 := n0_; have HK := n1_; have HB := n2_; have BK402 := n3_; have GW402 := n4_; have GE402 := n5_; have NB0_402 := n6_; have NB402_0 := n7_; clear n0_ n1_ n2_ n3_ n4_ n5_ n6_ n7_; clear hb hbox hg) | ((with_reducible refine gate_callee (f := 121) rfl ?_); refine goesA_ (some 6) Try.func121 #[.pointer (some ⟨g, 0, none⟩), .int .i64 60] rfl ?_; (with_reducible refine (spec_l1Cur_pick.calls g s0_0 s0_1 s0_2 60 t403 t404 t405 w0 _ ?side1 ?side2 A2.out).mono ?_); (case side1 => repeat (first | (with_reducible first | exact HI0.out | apply IsS115.alloc | apply IsS115.drewN | apply IsS115.drew | apply IsS115.set_1 | apply IsS115.set_2 | refine IsS115.far ?_ NB0_402.out _) | exact HI0.out)); (case side2 => repeat (first | (with_reducible first | exact HB.out | apply below_alloc | apply pw_below_drewN | apply below_drew1 | refine below_set ?_ (IsS115.ge HI0.out) | refine below_set ?_ GE402.out) | exact HB.out)); rintro e w10 ⟨rfl, hi, hb, hk⟩; refine ⟨_, rfl, ?_⟩; have n0_ := zm (KeepBut.blk hk (g' := gb402) (o := .cells #[.int .i64 0, .int .i64 0] 47 (0, 0)) zk NB402_0.out (by simp)); have n1_ := zm (KeepBut.trans (zh (w := w)) hk (.inl rfl)); have n2_ := zm (hb); have n3_ := zm (hi); clear BK402; clear HK; clear HB; clear HI0; have BK402 := n0_; have HK := n1_; have HB := n2_; have HI0 := n3_; clear n0_ n1_ n2_ n3_; (try clear hb); (try clear hb2); (try clear hk); (try clear hi)) | ((with_reducible refine gate_dst (N := 7) rfl ?_); refine Kd.R_lit (Kd.int .i64) _ 3 ?hg (N := 7) ?hd (xs := ([0, 5, 20, t403, 200] : List Int)) (inner := [.int .i64 0, .int .i64 5, .int .i64 20, .int .i64 t403, .int .i64 200]) (ok := fun _ => True) (okp := fun _ => True) ?hr ?hp (fun _ hk => hk) trivial (Below.refl _ _) (Nat.le_refl _) (by simp) ?_; (case hd => rfl); (case hg => rfl); (case hr => first | (go_simp; done) | (go_simp; rfl)); (case hp => exact (Reps.one (show Kd.M (Kd.int .i64) _ _ _ 0 [.int .i64 0] from rfl) (Reps.one (show Kd.M (Kd.int .i64) _ _ _ 5 [.int .i64 5] from rfl) (Reps.one (show Kd.M (Kd.int .i64) _ _ _ 20 [.int .i64 20] from rfl) (Reps.one (show Kd.M (Kd.int .i64) _ _ _ t403 [.int .i64 t403] from rfl) (Reps.one (show Kd.M (Kd.int .i64) _ _ _ 200 [.int .i64 200] from rfl) (Reps.none _ _))))))); intro v407 w11 ho12 hb hg_ hnew_; clear hg_ hnew_; (first | rw [← Ny406.out] at ho12 | (simp only [Int.reduceToNat] at ho12; rw [← Ny406.out] at ho12)); have n0_ := zm (Kd.R_lower ho12 (keep_size (w := w) (g := g) (row := none) (zh (w := w)))); have n1_ := zm (IsS115.below z115i hb); have n2_ := zm (blk_below (g := gb402) zk hb); have n3_ := zm (KeepBut.trans (zh (w := w)) (KeepBut.of_below hb g none) (.inl rfl)); have n4_ := zm (below_step zb hb); clear HI0; clear BK402; clear HK; clear HB; have HO408 := n0_; have HI0 := n1_; have BK402 := n2_; have HK := n3_; have HB := n4_; clear n0_ n1_ n2_ n3_ n4_; clear hb ho12; obtain ⟨Ao13, co13, eo13⟩ := Kd.R_slice HO408.out; subst eo13) | ((with_reducible refine gate_callee (f := 120) rfl ?_); refine goesA_ (some 8) Try.func120 #[.pointer (some ⟨g, 0, none⟩), .slice Ao13 y406.length co13] rfl ?_; (with_reducible refine (spec_l1Cur_among.calls g s0_0 t404 t405 _ _ y406 t409 t410 t411 w0 _ ?side1 ?side2 ?side3 ?side4 ?side5 A3.out).mono ?_); (case side1 => repeat (first | (with_reducible first | exact HI0.out | apply IsS115.alloc | apply IsS115.drewN | apply IsS115.drew | apply IsS115.set_1 | apply IsS115.set_2 | refine IsS115.far ?_ NB0_402.out _) | exact HI0.out)); (case side2 => repeat (first | (with_reducible first | exact HB.out | apply below_alloc | apply pw_below_drewN | apply below_drew1 | refine below_set ?_ (IsS115.ge HI0.out) | refine below_set ?_ GE402.out) | exact HB.out)); (case side3 => repeat (first | exact (Kd.R_reads' HO408.out).2.2 | (with_reducible refine Kd.C_alloc ?_ _) | (with_reducible refine Kd.C_drewN ?_ _) | (with_reducible refine Kd.C_drew ?_))); (case side4 => exact (Kd.R_reads' HO408.out).2.1); (case side5 => exact far_slice (IsS115.own_ne HI0.out HO408.out (by decide))); rintro e w14 ⟨rfl, hi, hb, hk⟩; refine ⟨_, rfl, ?_⟩; have n0_ := zm (KeepBut.blk hk (g' := gb402) (o := .cells #[.int .i64 0, .int .i64 0] 47 (0, 0)) zk NB402_0.out (by simp)); have n1_ := zm (Kd.R_mono (Kd.R_keep (IsS115.apart (show IsS115 w0 _ g s0_0 t404 t405 from z115i) (by (with_reducible repeat (first | apply Kd.R_alloc | apply Kd.R_drewN | apply Kd.R_drew)); exact HO408.out) (by decide)) hk (fun _ h => h.2)) (fun _ h => h.1)); have n2_ := zm (KeepBut.trans (zh (w := w)) hk (.inl rfl)); have n3_ := zm (hb); have n4_ := zm (hi); clear BK402; clear HO408; clear HK; clear HB; clear HI0; have BK402 := n0_; have HO408 := n1_; have HK := n2_; have HB := n3_; have HI0 := n4_; clear n0_ n1_ n2_ n3_ n4_; (try clear hb); (try clear hb2); (try clear hk); (try clear hi)) | ((with_reducible refine gate_callee (f := 121) rfl ?_); refine goesA_ (some 11) Try.func121 #[.pointer (some ⟨g, 0, none⟩), .int .i64 60] rfl ?_; (with_reducible refine (spec_l1Cur_pick.calls g s0_0 t410 t411 60 t412 t413 t414 w0 _ ?side1 ?side2 A4.out).mono ?_); (case side1 => repeat (first | (with_reducible first | exact HI0.out | apply IsS115.alloc | apply IsS115.drewN | apply IsS115.drew | apply IsS115.set_1 | apply IsS115.set_2 | refine IsS115.far ?_ NB0_402.out _) | exact HI0.out)); (case side2 => repeat (first | (with_reducible first | exact HB.out | apply below_alloc | apply pw_below_drewN | apply below_drew1 | refine below_set ?_ (IsS115.ge HI0.out) | refine below_set ?_ GE402.out) | exact HB.out)); rintro e w15 ⟨rfl, hi, hb, hk⟩; refine ⟨_, rfl, ?_⟩; have n0_ := zm (KeepBut.blk hk (g' := gb402) (o := .cells #[.int .i64 0, .int .i64 0] 47 (0, 0)) zk NB402_0.out (by simp)); have n1_ := zm (Kd.R_mono (Kd.R_keep (IsS115.apart (show IsS115 w0 _ g s0_0 t410 t411 from z115i) (by (with_reducible repeat (first | apply Kd.R_alloc | apply Kd.R_drewN | apply Kd.R_drew)); exact HO408.out) (by decide)) hk (fun _ h => h.2)) (fun _ h => h.1)); have n2_ := zm (KeepBut.trans (zh (w := w)) hk (.inl rfl)); have n3_ := zm (hb); have n4_ := zm (hi); clear BK402; clear HO408; clear HK; clear HB; clear HI0; have BK402 := n0_; have HO408 := n1_; have HK := n2_; have HB := n3_; have HI0 := n4_; clear n0_ n1_ n2_ n3_ n4_; (try clear hb); (try clear hb2); (try clear hk); (try clear hi)) | ((with_reducible refine gate_dst (N := 13) rfl ?_); refine Kd.R_lit (Kd.int .i64) _ 3 ?hg (N := 13) ?hd (xs := ([1, 5, 20, wrap64 (1 + t412), 100] : List Int)) (inner := [.int .i64 1, .int .i64 5, .int .i64 20, .int .i64 (wrap64 (1 + t412)), .int .i64 100]) (ok := fun _ => True) (okp := fun _ => True) ?hr ?hp (fun _ hk => hk) trivial (Below.refl _ _) (Nat.le_refl _) (by simp) ?_; (case hd => rfl); (case hg => rfl); (case hr => first | (go_simp; done) | (go_simp; rfl)); (case hp => exact (Reps.one (show Kd.M (Kd.int .i64) _ _ _ 1 [.int .i64 1] from rfl) (Reps.one (show Kd.M (Kd.int .i64) _ _ _ 5 [.int .i64 5] from rfl) (Reps.one (show Kd.M (Kd.int .i64) _ _ _ 20 [.int .i64 20] from rfl) (Reps.one (show Kd.M (Kd.int .i64) _ _ _ (wrap64 (1 + t412)) [.int .i64 (wrap64 (1 + t412))] from rfl) (Reps.one (show Kd.M (Kd.int .i64) _ _ _ 100 [.int .i64 100] from rfl) (Reps.none _ _))))))); intro v416 w16 ho17 hb hg_ hnew_; clear hg_ hnew_; (first | rw [← Ny415.out] at ho17 | (simp only [Int.reduceToNat] at ho17; rw [← Ny415.out] at ho17)); have n0_ := zm (Kd.R_elder' (by (with_reducible repeat (first | apply Kd.R_alloc | apply Kd.R_drewN | apply Kd.R_drew)); exact HO408.out) (Kd.R_base ho17) hb); have n1_ := zm (Kd.R_lower (Kd.R_new' ho17 (Kd.R_lt (by (with_reducible repeat (first | apply Kd.R_alloc | apply Kd.R_drewN | apply Kd.R_drew)); exact HO408.out))) (keep_size (w := w) (g := g) (row := none) (zh (w := w)))); have n2_ := zm (IsS115.below z115i hb); have n3_ := zm (blk_below (g := gb402) zk hb); have n4_ := zm (KeepBut.trans (zh (w := w)) (KeepBut.of_below hb g none) (.inl rfl)); have n5_ := zm (below_step zb hb); clear HO408; clear HI0; clear BK402; clear HK; clear HB; have HO408 := n0_; have HO417 := n1_; have HI0 := n2_; have BK402 := n3_; have HK := n4_; have HB := n5_; clear n0_ n1_ n2_ n3_ n4_ n5_; clear hb ho17; obtain ⟨Ao18, co18, eo18⟩ := Kd.R_slice HO417.out; subst eo18) | ((with_reducible refine gate_callee (f := 120) rfl ?_); refine goesA_ (some 14) Try.func120 #[.pointer (some ⟨g, 0, none⟩), .slice Ao18 y415.length co18] rfl ?_; (with_reducible refine (spec_l1Cur_among.calls g s0_0 t413 t414 _ _ y415 t418 t419 t420 w0 _ ?side1 ?side2 ?side3 ?side4 ?side5 A5.out).mono ?_); (case side1 => repeat (first | (with_reducible first | exact HI0.out | apply IsS115.alloc | apply IsS115.drewN | apply IsS115.drew | apply IsS115.set_1 | apply IsS115.set_2 | refine IsS115.far ?_ NB0_402.out _) | exact HI0.out)); (case side2 => repeat (first | (with_reducible first | exact HB.out | apply below_alloc | apply pw_below_drewN | apply below_drew1 | refine below_set ?_ (IsS115.ge HI0.out) | refine below_set ?_ GE402.out) | exact HB.out)); (case side3 => repeat (first | exact (Kd.R_reads' HO417.out).2.2 | (with_reducible refine Kd.C_alloc ?_ _) | (with_reducible refine Kd.C_drewN ?_ _) | (with_reducible refine Kd.C_drew ?_))); (case side4 => exact (Kd.R_reads' HO417.out).2.1); (case side5 => exact far_slice (IsS115.own_ne HI0.out HO417.out (by decide))); rintro e w19 ⟨rfl, hi, hb, hk⟩; refine ⟨_, rfl, ?_⟩; have n0_ := zm (KeepBut.blk hk (g' := gb402) (o := .cells #[.int .i64 0, .int .i64 0] 47 (0, 0)) zk NB402_0.out (by simp)); have n1_ := zm (Kd.R_mono (Kd.R_keep (IsS115.apart (show IsS115 w0 _ g s0_0 t413 t414 from z115i) (by (with_reducible repeat (first | apply Kd.R_alloc | apply Kd.R_drewN | apply Kd.R_drew)); exact HO408.out) (by decide)) hk (fun _ h => h.2)) (fun _ h => h.1)); have n2_ := zm (Kd.R_mono (Kd.R_keep (IsS115.apart (show IsS115 w0 _ g s0_0 t413 t414 from z115i) (by (with_reducible repeat (first | apply Kd.R_alloc | apply Kd.R_drewN | apply Kd.R_drew)); exact HO417.out) (by decide)) hk (fun _ h => h.2)) (fun _ h => h.1)); have n3_ := zm (KeepBut.trans (zh (w := w)) hk (.inl rfl)); have n4_ := zm (hb); have n5_ := zm (hi); clear BK402; clear HO408; clear HO417; clear HK; clear HB; clear HI0; have BK402 := n0_; have HO408 := n1_; have HO417 := n2_; have HK := n3_; have HB := n4_; have HI0 := n5_; clear n0_ n1_ n2_ n3_ n4_ n5_; (try clear hb); (try clear hb2); (try clear hk); (try clear hi)) | ((with_reducible refine gate_dst (N := 3) rfl ?_); refine box_event ?hg (N := 3) ?hd (cs := #[.int .i64 0, .int .i64 0]) (t := 47) ?hr ?_; (case hd => rfl); (case hg => rfl); (case hr => first | (go_simp; done) | (go_simp; rfl)); intro gb421 hg w20 hbox hb; have n0_ := zm (Kd.R_below (by (with_reducible repeat (first | apply Kd.R_alloc | apply Kd.R_drewN | apply Kd.R_drew)); exact HO408.out) hb); have n1_ := zm (Kd.R_below (by (with_reducible repeat (first | apply Kd.R_alloc | apply Kd.R_drewN | apply Kd.R_drew)); exact HO417.out) hb); have n2_ := zm (IsS115.below z115i hb); have n3_ := zm (blk_below (g := gb402) zk hb); have n4_ := zm (KeepBut.trans (zh (w := w)) (KeepBut.of_below hb g none) (.inl rfl)); have n5_ := zm (below_step zb hb); have n6_ := zm (hbox); have n7_ := zm ((by rw [hg]; exact (keep_size (w := w) (g := g) (row := none) (zh (w := w))) : w.heap.size ≤ gb421)); have n8_ := zm ((Nat.le_trans HW0.out (by rw [hg]; exact (keep_size (w := w) (g := g) (row := none) (zh (w := w))) : w.heap.size ≤ gb421) : w0.heap.size ≤ gb421)); have n9_ := zm (zl hg zk : gb402 ≠ gb421); have n10_ := zm (zg hg zk : gb421 ≠ gb402); have n11_ := zm ((by rw [hg]; exact Nat.ne_of_lt (IsS115.lt (show IsS115 w0 _ g s0_0 t419 t420 from z115i)) : g ≠ gb421)); have n12_ := zm ((by rw [hg]; exact Nat.ne_of_gt (IsS115.lt (show IsS115 w0 _ g s0_0 t419 t420 from z115i)) : gb421 ≠ g)); clear HO408; clear HO417; clear HI0; clear BK402; clear HK; clear HB; have HO408 := n0_; have HO417 := n1_; have HI0 := n2_; have BK402 := n3_; have HK := n4_; have HB := n5_; have BK421 := n6_; have GW421 := n7_; have GE421 := n8_; have NB402_421 := n9_; have NB421_402 := n10_; have NB0_421 := n11_; have NB421_0 := n12_; clear n0_ n1_ n2_ n3_ n4_ n5_ n6_ n7_ n8_ n9_ n10_ n11_ n12_; clear hb hbox hg; have hnb21 := NB421_402.out; have hnc21 := NB402_421.out; have hnb22 := NB421_0.out; have hnc22 := NB0_421.out; obtain ⟨hcz23_0, hcz23_1, hfz23_0, hfz23_1⟩ := zc2 BK421.out) | ((with_reducible refine gate_callee (f := 121) rfl ?_); refine goesA_ (some 17) Try.func121 #[.pointer (some ⟨g, 0, none⟩), .int .i64 24] rfl ?_; (with_reducible refine (spec_l1Cur_pick.calls g s0_0 t419 t420 24 t422 t423 t424 w0 _ ?side1 ?side2 A6.out).mono ?_); (case side1 => repeat (first | (with_reducible first | exact HI0.out | apply IsS115.alloc | apply IsS115.drewN | apply IsS115.drew | apply IsS115.set_1 | apply IsS115.set_2 | refine IsS115.far ?_ NB0_402.out _ | refine IsS115.far ?_ NB0_421.out _) | exact HI0.out)); (case side2 => repeat (first | (with_reducible first | exact HB.out | apply below_alloc | apply pw_below_drewN | apply below_drew1 | refine below_set ?_ (IsS115.ge HI0.out) | refine below_set ?_ GE402.out | refine below_set ?_ GE421.out) | exact HB.out)); rintro e w24 ⟨rfl, hi, hb, hk⟩; refine ⟨_, rfl, ?_⟩; have n0_ := zm (KeepBut.blk hk (g' := gb402) (o := .cells #[.int .i64 0, .int .i64 0] 47 (0, 0)) zK NB402_0.out (by simp)); have n1_ := zm (Kd.R_mono (Kd.R_keep (IsS115.apart (show IsS115 w0 _ g s0_0 t419 t420 from z115i) (by (with_reducible repeat (first | apply Kd.R_alloc | apply Kd.R_drewN | apply Kd.R_drew)); exact (Kd.R_mono (Kd.R_far (p := ⟨gb421, 1, none⟩) (Kd.R_far (p := ⟨gb421, 0, none⟩) (Kd.R_types HO408.out BK421.out (by decide)) (fun _ hk => hk.2) (.int .i64 t409)) (fun _ hk => hk.2) (.int .i64 t418)) (fun _ h_ => h_.1))) (by decide)) hk (fun _ h => h.2)) (fun _ h => h.1)); have n2_ := zm (Kd.R_mono (Kd.R_keep (IsS115.apart (show IsS115 w0 _ g s0_0 t419 t420 from z115i) (by (with_reducible repeat (first | apply Kd.R_alloc | apply Kd.R_drewN | apply Kd.R_drew)); exact (Kd.R_mono (Kd.R_far (p := ⟨gb421, 1, none⟩) (Kd.R_far (p := ⟨gb421, 0, none⟩) (Kd.R_types HO417.out BK421.out (by decide)) (fun _ hk => hk.2) (.int .i64 t409)) (fun _ hk => hk.2) (.int .i64 t418)) (fun _ h_ => h_.1))) (by decide)) hk (fun _ h => h.2)) (fun _ h => h.1)); have n3_ := zm (KeepBut.blk hk (g' := gb421) (o := .cells #[.int .i64 t409, .int .i64 t418] 47 (0, 0)) (by (with_reducible repeat (first | refine blk_drewN ?_ _ | refine blk_drew ?_ | refine blk_alloc ?_ _)); refine blk_put (cs := #[.int .i64 t409, .int .i64 0]) ?_ 1 _ rfl; (with_reducible repeat (first | refine blk_drewN ?_ _ | refine blk_drew ?_ | refine blk_alloc ?_ _)); refine blk_put (cs := #[.int .i64 0, .int .i64 0]) ?_ 0 _ rfl; (with_reducible repeat (first | refine blk_drewN ?_ _ | refine blk_drew ?_ | refine blk_alloc ?_ _)); exact BK421.out) NB421_0.out (by simp)); have n4_ := zm (KeepBut.trans (zh (w := w)) hk (.inl rfl)); have n5_ := zm (hb); have n6_ := zm (hi); clear BK402; clear HO408; clear HO417; clear BK421; clear HK; clear HB; clear HI0; have BK402 := n0_; have HO408 := n1_; have HO417 := n2_; have BK421 := n3_; have HK := n4_; have HB := n5_; have HI0 := n6_; clear n0_ n1_ n2_ n3_ n4_ n5_ n6_; (try clear hb); (try clear hb2); (try clear hk); (try clear hi)) | ((with_reducible refine gate_dst (N := 21) rfl ?_); refine Kd.R_lit (Kd.int .i64) _ 3 ?hg (N := 21) ?hd (xs := ([(-1), 201] : List Int)) (inner := [.int .i64 (-1), .int .i64 201]) (ok := fun _ => True) (okp := fun _ => True) ?hr ?hp (fun _ hk => hk) trivial (Below.refl _ _) (Nat.le_refl _) (by simp) ?_; (case hd => rfl); (case hg => rfl); (case hr => first | (go_simp; done) | (go_simp; rfl)); (case hp => exact (Reps.one (show Kd.M (Kd.int .i64) _ _ _ (-1) [.int .i64 (-1)] from rfl) (Reps.one (show Kd.M (Kd.int .i64) _ _ _ 201 [.int .i64 201] from rfl) (Reps.none _ _)))); intro v426 w25 ho26 hb hg_ hnew_; clear hg_ hnew_; (first | rw [← Ny425.out] at ho26 | (simp only [Int.reduceToNat] at ho26; rw [← Ny425.out] at ho26)); have n0_ := zm (Kd.R_elder' (by (with_reducible repeat (first | apply Kd.R_alloc | apply Kd.R_drewN | apply Kd.R_drew)); exact HO408.out) (Kd.R_base ho26) hb); have n1_ := zm (Kd.R_elder' (by (with_reducible repeat (first | apply Kd.R_alloc | apply Kd.R_drewN | apply Kd.R_drew)); exact HO417.out) (Kd.R_base ho26) hb); have n2_ := zm (Kd.R_lower (Kd.R_new' (Kd.R_new' ho26 (Kd.R_lt (by (with_reducible repeat (first | apply Kd.R_alloc | apply Kd.R_drewN | apply Kd.R_drew)); exact HO408.out))) (Kd.R_lt (by (with_reducible repeat (first | apply Kd.R_alloc | apply Kd.R_drewN | apply Kd.R_drew)); exact HO417.out))) (keep_size (w := w) (g := g) (row := none) (zh (w := w)))); have n3_ := zm (IsS115.below z115i hb); have n4_ := zm (blk_below (g := gb402) zk hb); have n5_ := zm (blk_below (g := gb421) zk hb); have n6_ := zm (KeepBut.trans (zh (w := w)) (KeepBut.of_below hb g none) (.inl rfl)); have n7_ := zm (below_step zb hb); clear HO408; clear HO417; clear HI0; clear BK402; clear BK421; clear HK; clear HB; have HO408 := n0_; have HO417 := n1_; have HO427 := n2_; have HI0 := n3_; have BK402 := n4_; have BK421 := n5_; have HK := n6_; have HB := n7_; clear n0_ n1_ n2_ n3_ n4_ n5_ n6_ n7_; clear hb ho26; obtain ⟨Ao27, co27, eo27⟩ := Kd.R_slice HO427.out; subst eo27) | ((with_reducible refine gate_callee (f := 120) rfl ?_); refine goesA_ (some 22) Try.func120 #[.pointer (some ⟨g, 0, none⟩), .slice Ao27 y425.length co27] rfl ?_; (with_reducible refine (spec_l1Cur_among.calls g s0_0 t423 t424 _ _ y425 t428 t429 t430 w0 _ ?side1 ?side2 ?side3 ?side4 ?side5 A8.out).mono ?_); (case side1 => repeat (first | (with_reducible first | exact HI0.out | apply IsS115.alloc | apply IsS115.drewN | apply IsS115.drew | apply IsS115.set_1 | apply IsS115.set_2 | refine IsS115.far ?_ NB0_402.out _ | refine IsS115.far ?_ NB0_421.out _) | exact HI0.out)); (case side2 => repeat (first | (with_reducible first | exact HB.out | apply below_alloc | apply pw_below_drewN | apply below_drew1 | refine below_set ?_ (IsS115.ge HI0.out) | refine below_set ?_ GE402.out | refine below_set ?_ GE421.out) | exact HB.out)); (case side3 => repeat (first | exact (Kd.R_reads' HO427.out).2.2 | (with_reducible refine Kd.C_alloc ?_ _) | (with_reducible refine Kd.C_drewN ?_ _) | (with_reducible refine Kd.C_drew ?_))); (case side4 => exact (Kd.R_reads' HO427.out).2.1); (case side5 => exact far_slice (IsS115.own_ne HI0.out HO427.out (by decide))); rintro e w28 ⟨rfl, hi, hb, hk⟩; refine ⟨_, rfl, ?_⟩; have n0_ := zm (KeepBut.blk hk (g' := gb402) (o := .cells #[.int .i64 0, .int .i64 0] 47 (0, 0)) zk NB402_0.out (by simp)); have n1_ := zm (Kd.R_mono (Kd.R_keep (IsS115.apart (show IsS115 w0 _ g s0_0 t423 t424 from z115i) (by (with_reducible repeat (first | apply Kd.R_alloc | apply Kd.R_drewN | apply Kd.R_drew)); exact HO408.out) (by decide)) hk (fun _ h => h.2)) (fun _ h => h.1)); have n2_ := zm (Kd.R_mono (Kd.R_keep (IsS115.apart (show IsS115 w0 _ g s0_0 t423 t424 from z115i) (by (with_reducible repeat (first | apply Kd.R_alloc | apply Kd.R_drewN | apply Kd.R_drew)); exact HO417.out) (by decide)) hk (fun _ h => h.2)) (fun _ h => h.1)); have n3_ := zm (KeepBut.blk hk (g' := gb421) (o := .cells #[.int .i64 t409, .int .i64 t418] 47 (0, 0)) zk NB421_0.out (by simp)); have n4_ := zm (Kd.R_mono (Kd.R_keep (IsS115.apart (show IsS115 w0 _ g s0_0 t423 t424 from z115i) (by (with_reducible repeat (first | apply Kd.R_alloc | apply Kd.R_drewN | apply Kd.R_drew)); exact HO427.out) (by decide)) hk (fun _ h => h.2)) (fun _ h => h.1)); have n5_ := zm (KeepBut.trans (zh (w := w)) hk (.inl rfl)); have n6_ := zm (hb); have n7_ := zm (hi); clear BK402; clear HO408; clear HO417; clear BK421; clear HO427; clear HK; clear HB; clear HI0; have BK402 := n0_; have HO408 := n1_; have HO417 := n2_; have BK421 := n3_; have HO427 := n4_; have HK := n5_; have HB := n6_; have HI0 := n7_; clear n0_ n1_ n2_ n3_ n4_ n5_ n6_ n7_; (try clear hb); (try clear hb2); (try clear hk); (try clear hi); obtain ⟨hcz29_0, hcz29_1, hfz29_0, hfz29_1⟩ := zc2 BK421.out; have hnb30 := NB402_0.out; have hnc30 := NB0_402.out; obtain ⟨hcz31_0, hcz31_1, hfz31_0, hfz31_1⟩ := zc2 BK402.out))
  refine bodyPost_ret (results_cell_row rfl _ _ gb402 47 #[.int .i64 t428, .int .i64 t418] (0, 0) _ rfl (by (with_reducible repeat (first | refine blk_drewN ?_ _ | refine blk_drew ?_ | refine blk_alloc ?_ _)); refine blk_put (cs := #[.int .i64 t428, .int .i64 0]) ?_ 1 _ rfl; (with_reducible repeat (first | refine blk_drewN ?_ _ | refine blk_drew ?_ | refine blk_alloc ?_ _)); refine blk_put (cs := #[.int .i64 0, .int .i64 0]) ?_ 0 _ rfl; (with_reducible repeat (first | refine blk_drewN ?_ _ | refine blk_drew ?_ | refine blk_alloc ?_ _)); refine blk_far ?_ NB402_421.out _; (with_reducible repeat (first | refine blk_drewN ?_ _ | refine blk_drew ?_ | refine blk_alloc ?_ _)); exact BK402.out) Try.underlying47 rfl (by kernel_rfl)) rfl ?_
  exact ⟨zr, z115i, zb, zh (w := w)⟩
 ·
  rw [if_neg c7] at H
  have c7b0 : (t422 == 0) = false := beq_eq_false_iff_ne.mpr c7
  have c7b1 : (t422 != 0) = true := bne_iff_ne.mpr c7
  by_cases c32 : t422 = 1
  ·
   rw [if_pos c32] at H
   have c32b0 : (t422 == 1) = true := beq_iff_eq.mpr c32
   have c32b1 : (t422 != 1) = false := bne_eq_false_iff_eq.mpr c32
   clear c32
   obtain ⟨y431, hy431⟩ : ∃ y_ : List Int, y_ = (([0, 101] : List Int)) := ⟨_, rfl⟩
   replace H : ((spec_l1Cur_among.f s0_0 t423 t424 y431).bind fun bt434 => (some (t409, bt434.1, bt434.2.1, bt434.2.2))) = some (r1, r2, r3, r4) := by first | (rw [hy431]; with_reducible exact H) | (have H2_ := (Option.bind_some _ _).symm.trans H; rw [hy431]; with_reducible exact H2_) | (have H2_ := (Option.bind_some _ _).symm.trans H; with_reducible exact H2_) | with_reducible exact H | (rw [hy431]; exact H) | exact H
   have Ny431 := zm hy431
   clear hy431
   replace H := Option.bind_eq_some_iff.mp H
   obtain ⟨⟨t434, t435, t436⟩, A330, H⟩ := H
   (try dsimp only at H)
   have A33 := zm A330
   clear A330
   simp only [Option.some.injEq, Prod.mk.injEq] at H
   obtain ⟨rfl, rfl, rfl, rfl⟩ := H
   go_enter Try.func112, Try.ntmps112
   go_wp2_with (first | ((with_reducible refine gate_dst (N := 2) rfl ?_); refine box_event ?hg (N := 2) ?hd (cs := #[.int .i64 0, .int .i64 0]) (t := 47) ?hr ?_; (case hd => rfl); (case hg => rfl); (case hr => first | (go_simp; done) | (go_simp; rfl)); intro gb402 hg w34 hbox hb; have n0_ := zm (IsS115.below z115i hb); have n1_ := zm (KeepBut.trans zh (KeepBut.of_below hb g none) (.inl rfl)); have n2_ := zm (below_step zb hb); have n3_ := zm (hbox); have n4_ := zm ((by rw [hg]; exact (keep_size (w := w) (g := g) (row := none) zh) : w.heap.size ≤ gb402)); have n5_ := zm ((Nat.le_trans HW0.out (by rw [hg]; exact (keep_size (w := w) (g := g) (row := none) zh) : w.heap.size ≤ gb402) : w0.heap.size ≤ gb402)); have n6_ := zm ((by rw [hg]; exact Nat.ne_of_lt (IsS115.lt (show IsS115 w0 _ g s0_0 s0_1 s0_2 from z115i)) : g ≠ gb402)); have n7_ := zm ((by rw [hg]; exact Nat.ne_of_gt (IsS115.lt (show IsS115 w0 _ g s0_0 s0_1 s0_2 from z115i)) : gb402 ≠ g)); clear HI0; clear HK; clear HB; have HI0 := n0_; have HK := n1_; have HB := n2_; have BK402 := n3_; have GW402 := n4_; have GE402 := n5_; have NB0_402 := n6_; have NB402_0 := n7_; clear n0_ n1_ n2_ n3_ n4_ n5_ n6_ n7_; clear hb hbox hg) | ((with_reducible refine gate_callee (f := 121) rfl ?_); refine goesA_ (some 6) Try.func121 #[.pointer (some ⟨g, 0, none⟩), .int .i64 60] rfl ?_; (with_reducible refine (spec_l1Cur_pick.calls g s0_0 s0_1 s0_2 60 t403 t404 t405 w0 _ ?side1 ?side2 A2.out).mono ?_); (case side1 => repeat (first | (with_reducible first | exact HI0.out | apply IsS115.alloc | apply IsS115.drewN | apply IsS115.drew | apply IsS115.set_1 | apply IsS115.set_2 | refine IsS115.far ?_ NB0_402.out _) | exact HI0.out)); (case side2 => repeat (first | (with_reducible first | exact HB.out | apply below_alloc | apply pw_below_drewN | apply below_drew1 | refine below_set ?_ (IsS115.ge HI0.out) | refine below_set ?_ GE402.out) | exact HB.out)); rintro e w35 ⟨rfl, hi, hb, hk⟩; refine ⟨_, rfl, ?_⟩; have n0_ := zm (KeepBut.blk hk (g' := gb402) (o := .cells #[.int .i64 0, .int .i64 0] 47 (0, 0)) zk NB402_0.out (by simp)); have n1_ := zm (KeepBut.trans (zh (w := w)) hk (.inl rfl)); have n2_ := zm (hb); have n3_ := zm (hi); clear BK402; clear HK; clear HB; clear HI0; have BK402 := n0_; have HK := n1_; have HB := n2_; have HI0 := n3_; clear n0_ n1_ n2_ n3_; (try clear hb); (try clear hb2); (try clear hk); (try clear hi)) | ((with_reducible refine gate_dst (N := 7) rfl ?_); refine Kd.R_lit (Kd.int .i64) _ 3 ?hg (N := 7) ?hd (xs := ([0, 5, 20, t403, 200] : List Int)) (inner := [.int .i64 0, .int .i64 5, .int .i64 20, .int .i64 t403, .int .i64 200]) (ok := fun _ => True) (okp := fun _ => True) ?hr ?hp (fun _ hk => hk) trivial (Below.refl _ _) (Nat.le_refl _) (by simp) ?_; (case hd => rfl); (case hg => rfl); (case hr => first | (go_simp; done) | (go_simp; rfl)); (case hp => exact (Reps.one (show Kd.M (Kd.int .i64) _ _ _ 0 [.int .i64 0] from rfl) (Reps.one (show Kd.M (Kd.int .i64) _ _ _ 5 [.int .i64 5] from rfl) (Reps.one (show Kd.M (Kd.int .i64) _ _ _ 20 [.int .i64 20] from rfl) (Reps.one (show Kd.M (Kd.int .i64) _ _ _ t403 [.int .i64 t403] from rfl) (Reps.one (show Kd.M (Kd.int .i64) _ _ _ 200 [.int .i64 200] from rfl) (Reps.none _ _))))))); intro v407 w36 ho37 hb hg_ hnew_; clear hg_ hnew_; (first | rw [← Ny406.out] at ho37 | (simp only [Int.reduceToNat] at ho37; rw [← Ny406.out] at ho37)); have n0_ := zm (Kd.R_lower ho37 (keep_size (w := w) (g := g) (row := none) (zh (w := w)))); have n1_ := zm (IsS115.below z115i hb); have n2_ := zm (blk_below (g := gb402) zk hb); have n3_ := zm (KeepBut.trans (zh (w := w)) (KeepBut.of_below hb g none) (.inl rfl)); have n4_ := zm (below_step zb hb); clear HI0; clear BK402; clear HK; clear HB; have HO408 := n0_; have HI0 := n1_; have BK402 := n2_; have HK := n3_; have HB := n4_; clear n0_ n1_ n2_ n3_ n4_; clear hb ho37; obtain ⟨Ao38, co38, eo38⟩ := Kd.R_slice HO408.out; subst eo38) | ((with_reducible refine gate_callee (f := 120) rfl ?_); refine goesA_ (some 8) Try.func120 #[.pointer (some ⟨g, 0, none⟩), .slice Ao38 y406.length co38] rfl ?_; (with_reducible refine (spec_l1Cur_among.calls g s0_0 t404 t405 _ _ y406 t409 t410 t411 w0 _ ?side1 ?side2 ?side3 ?side4 ?side5 A3.out).mono ?_); (case side1 => repeat (first | (with_reducible first | exact HI0.out | apply IsS115.alloc | apply IsS115.drewN | apply IsS115.drew | apply IsS115.set_1 | apply IsS115.set_2 | refine IsS115.far ?_ NB0_402.out _) | exact HI0.out)); (case side2 => repeat (first | (with_reducible first | exact HB.out | apply below_alloc | apply pw_below_drewN | apply below_drew1 | refine below_set ?_ (IsS115.ge HI0.out) | refine below_set ?_ GE402.out) | exact HB.out)); (case side3 => repeat (first | exact (Kd.R_reads' HO408.out).2.2 | (with_reducible refine Kd.C_alloc ?_ _) | (with_reducible refine Kd.C_drewN ?_ _) | (with_reducible refine Kd.C_drew ?_))); (case side4 => exact (Kd.R_reads' HO408.out).2.1); (case side5 => exact far_slice (IsS115.own_ne HI0.out HO408.out (by decide))); rintro e w39 ⟨rfl, hi, hb, hk⟩; refine ⟨_, rfl, ?_⟩; have n0_ := zm (KeepBut.blk hk (g' := gb402) (o := .cells #[.int .i64 0, .int .i64 0] 47 (0, 0)) zk NB402_0.out (by simp)); have n1_ := zm (Kd.R_mono (Kd.R_keep (IsS115.apart (show IsS115 w0 _ g s0_0 t404 t405 from z115i) (by (with_reducible repeat (first | apply Kd.R_alloc | apply Kd.R_drewN | apply Kd.R_drew)); exact HO408.out) (by decide)) hk (fun _ h => h.2)) (fun _ h => h.1)); have n2_ := zm (KeepBut.trans (zh (w := w)) hk (.inl rfl)); have n3_ := zm (hb); have n4_ := zm (hi); clear BK402; clear HO408; clear HK; clear HB; clear HI0; have BK402 := n0_; have HO408 := n1_; have HK := n2_; have HB := n3_; have HI0 := n4_; clear n0_ n1_ n2_ n3_ n4_; (try clear hb); (try clear hb2); (try clear hk); (try clear hi)) | ((with_reducible refine gate_callee (f := 121) rfl ?_); refine goesA_ (some 11) Try.func121 #[.pointer (some ⟨g, 0, none⟩), .int .i64 60] rfl ?_; (with_reducible refine (spec_l1Cur_pick.calls g s0_0 t410 t411 60 t412 t413 t414 w0 _ ?side1 ?side2 A4.out).mono ?_); (case side1 => repeat (first | (with_reducible first | exact HI0.out | apply IsS115.alloc | apply IsS115.drewN | apply IsS115.drew | apply IsS115.set_1 | apply IsS115.set_2 | refine IsS115.far ?_ NB0_402.out _) | exact HI0.out)); (case side2 => repeat (first | (with_reducible first | exact HB.out | apply below_alloc | apply pw_below_drewN | apply below_drew1 | refine below_set ?_ (IsS115.ge HI0.out) | refine below_set ?_ GE402.out) | exact HB.out)); rintro e w40 ⟨rfl, hi, hb, hk⟩; refine ⟨_, rfl, ?_⟩; have n0_ := zm (KeepBut.blk hk (g' := gb402) (o := .cells #[.int .i64 0, .int .i64 0] 47 (0, 0)) zk NB402_0.out (by simp)); have n1_ := zm (Kd.R_mono (Kd.R_keep (IsS115.apart (show IsS115 w0 _ g s0_0 t410 t411 from z115i) (by (with_reducible repeat (first | apply Kd.R_alloc | apply Kd.R_drewN | apply Kd.R_drew)); exact HO408.out) (by decide)) hk (fun _ h => h.2)) (fun _ h => h.1)); have n2_ := zm (KeepBut.trans (zh (w := w)) hk (.inl rfl)); have n3_ := zm (hb); have n4_ := zm (hi); clear BK402; clear HO408; clear HK; clear HB; clear HI0; have BK402 := n0_; have HO408 := n1_; have HK := n2_; have HB := n3_; have HI0 := n4_; clear n0_ n1_ n2_ n3_ n4_; (try clear hb); (try clear hb2); (try clear hk); (try clear hi)) | ((with_reducible refine gate_dst (N := 13) rfl ?_); refine Kd.R_lit (Kd.int .i64) _ 3 ?hg (N := 13) ?hd (xs := ([1, 5, 20, wrap64 (1 + t412), 100] : List Int)) (inner := [.int .i64 1, .int .i64 5, .int .i64 20, .int .i64 (wrap64 (1 + t412)), .int .i64 100]) (ok := fun _ => True) (okp := fun _ => True) ?hr ?hp (fun _ hk => hk) trivial (Below.refl _ _) (Nat.le_refl _) (by simp) ?_; (case hd => rfl); (case hg => rfl); (case hr => first | (go_simp; done) | (go_simp; rfl)); (case hp => exact (Reps.one (show Kd.M (Kd.int .i64) _ _ _ 1 [.int .i64 1] from rfl) (Reps.one (show Kd.M (Kd.int .i64) _ _ _ 5 [.int .i64 5] from rfl) (Reps.one (show Kd.M (Kd.int .i64) _ _ _ 20 [.int .i64 20] from rfl) (Reps.one (show Kd.M (Kd.int .i64) _ _ _ (wrap64 (1 + t412)) [.int .i64 (wrap64 (1 + t412))] from rfl) (Reps.one (show Kd.M (Kd.int .i64) _ _ _ 100 [.int .i64 100] from rfl) (Reps.none _ _))))))); intro v416 w41 ho42 hb hg_ hnew_; clear hg_ hnew_; (first | rw [← Ny415.out] at ho42 | (simp only [Int.reduceToNat] at ho42; rw [← Ny415.out] at ho42)); have n0_ := zm (Kd.R_elder' (by (with_reducible repeat (first | apply Kd.R_alloc | apply Kd.R_drewN | apply Kd.R_drew)); exact HO408.out) (Kd.R_base ho42) hb); have n1_ := zm (Kd.R_lower (Kd.R_new' ho42 (Kd.R_lt (by (with_reducible repeat (first | apply Kd.R_alloc | apply Kd.R_drewN | apply Kd.R_drew)); exact HO408.out))) (keep_size (w := w) (g := g) (row := none) (zh (w := w)))); have n2_ := zm (IsS115.below z115i hb); have n3_ := zm (blk_below (g := gb402) zk hb); have n4_ := zm (KeepBut.trans (zh (w := w)) (KeepBut.of_below hb g none) (.inl rfl)); have n5_ := zm (below_step zb hb); clear HO408; clear HI0; clear BK402; clear HK; clear HB; have HO408 := n0_; have HO417 := n1_; have HI0 := n2_; have BK402 := n3_; have HK := n4_; have HB := n5_; clear n0_ n1_ n2_ n3_ n4_ n5_; clear hb ho42; obtain ⟨Ao43, co43, eo43⟩ := Kd.R_slice HO417.out; subst eo43) | ((with_reducible refine gate_callee (f := 120) rfl ?_); refine goesA_ (some 14) Try.func120 #[.pointer (some ⟨g, 0, none⟩), .slice Ao43 y415.length co43] rfl ?_; (with_reducible refine (spec_l1Cur_among.calls g s0_0 t413 t414 _ _ y415 t418 t419 t420 w0 _ ?side1 ?side2 ?side3 ?side4 ?side5 A5.out).mono ?_); (case side1 => repeat (first | (with_reducible first | exact HI0.out | apply IsS115.alloc | apply IsS115.drewN | apply IsS115.drew | apply IsS115.set_1 | apply IsS115.set_2 | refine IsS115.far ?_ NB0_402.out _) | exact HI0.out)); (case side2 => repeat (first | (with_reducible first | exact HB.out | apply below_alloc | apply pw_below_drewN | apply below_drew1 | refine below_set ?_ (IsS115.ge HI0.out) | refine below_set ?_ GE402.out) | exact HB.out)); (case side3 => repeat (first | exact (Kd.R_reads' HO417.out).2.2 | (with_reducible refine Kd.C_alloc ?_ _) | (with_reducible refine Kd.C_drewN ?_ _) | (with_reducible refine Kd.C_drew ?_))); (case side4 => exact (Kd.R_reads' HO417.out).2.1); (case side5 => exact far_slice (IsS115.own_ne HI0.out HO417.out (by decide))); rintro e w44 ⟨rfl, hi, hb, hk⟩; refine ⟨_, rfl, ?_⟩; have n0_ := zm (KeepBut.blk hk (g' := gb402) (o := .cells #[.int .i64 0, .int .i64 0] 47 (0, 0)) zk NB402_0.out (by simp)); have n1_ := zm (Kd.R_mono (Kd.R_keep (IsS115.apart (show IsS115 w0 _ g s0_0 t413 t414 from z115i) (by (with_reducible repeat (first | apply Kd.R_alloc | apply Kd.R_drewN | apply Kd.R_drew)); exact HO408.out) (by decide)) hk (fun _ h => h.2)) (fun _ h => h.1)); have n2_ := zm (Kd.R_mono (Kd.R_keep (IsS115.apart (show IsS115 w0 _ g s0_0 t413 t414 from z115i) (by (with_reducible repeat (first | apply Kd.R_alloc | apply Kd.R_drewN | apply Kd.R_drew)); exact HO417.out) (by decide)) hk (fun _ h => h.2)) (fun _ h => h.1)); have n3_ := zm (KeepBut.trans (zh (w := w)) hk (.inl rfl)); have n4_ := zm (hb); have n5_ := zm (hi); clear BK402; clear HO408; clear HO417; clear HK; clear HB; clear HI0; have BK402 := n0_; have HO408 := n1_; have HO417 := n2_; have HK := n3_; have HB := n4_; have HI0 := n5_; clear n0_ n1_ n2_ n3_ n4_ n5_; (try clear hb); (try clear hb2); (try clear hk); (try clear hi)) | ((with_reducible refine gate_dst (N := 3) rfl ?_); refine box_event ?hg (N := 3) ?hd (cs := #[.int .i64 0, .int .i64 0]) (t := 47) ?hr ?_; (case hd => rfl); (case hg => rfl); (case hr => first | (go_simp; done) | (go_simp; rfl)); intro gb421 hg w45 hbox hb; have n0_ := zm (Kd.R_below (by (with_reducible repeat (first | apply Kd.R_alloc | apply Kd.R_drewN | apply Kd.R_drew)); exact HO408.out) hb); have n1_ := zm (Kd.R_below (by (with_reducible repeat (first | apply Kd.R_alloc | apply Kd.R_drewN | apply Kd.R_drew)); exact HO417.out) hb); have n2_ := zm (IsS115.below z115i hb); have n3_ := zm (blk_below (g := gb402) zk hb); have n4_ := zm (KeepBut.trans (zh (w := w)) (KeepBut.of_below hb g none) (.inl rfl)); have n5_ := zm (below_step zb hb); have n6_ := zm (hbox); have n7_ := zm ((by rw [hg]; exact (keep_size (w := w) (g := g) (row := none) (zh (w := w))) : w.heap.size ≤ gb421)); have n8_ := zm ((Nat.le_trans HW0.out (by rw [hg]; exact (keep_size (w := w) (g := g) (row := none) (zh (w := w))) : w.heap.size ≤ gb421) : w0.heap.size ≤ gb421)); have n9_ := zm (zl hg zk : gb402 ≠ gb421); have n10_ := zm (zg hg zk : gb421 ≠ gb402); have n11_ := zm ((by rw [hg]; exact Nat.ne_of_lt (IsS115.lt (show IsS115 w0 _ g s0_0 t419 t420 from z115i)) : g ≠ gb421)); have n12_ := zm ((by rw [hg]; exact Nat.ne_of_gt (IsS115.lt (show IsS115 w0 _ g s0_0 t419 t420 from z115i)) : gb421 ≠ g)); clear HO408; clear HO417; clear HI0; clear BK402; clear HK; clear HB; have HO408 := n0_; have HO417 := n1_; have HI0 := n2_; have BK402 := n3_; have HK := n4_; have HB := n5_; have BK421 := n6_; have GW421 := n7_; have GE421 := n8_; have NB402_421 := n9_; have NB421_402 := n10_; have NB0_421 := n11_; have NB421_0 := n12_; clear n0_ n1_ n2_ n3_ n4_ n5_ n6_ n7_ n8_ n9_ n10_ n11_ n12_; clear hb hbox hg; have hnb46 := NB421_402.out; have hnc46 := NB402_421.out; have hnb47 := NB421_0.out; have hnc47 := NB0_421.out; obtain ⟨hcz48_0, hcz48_1, hfz48_0, hfz48_1⟩ := zc2 BK421.out) | ((with_reducible refine gate_callee (f := 121) rfl ?_); refine goesA_ (some 17) Try.func121 #[.pointer (some ⟨g, 0, none⟩), .int .i64 24] rfl ?_; (with_reducible refine (spec_l1Cur_pick.calls g s0_0 t419 t420 24 t422 t423 t424 w0 _ ?side1 ?side2 A6.out).mono ?_); (case side1 => repeat (first | (with_reducible first | exact HI0.out | apply IsS115.alloc | apply IsS115.drewN | apply IsS115.drew | apply IsS115.set_1 | apply IsS115.set_2 | refine IsS115.far ?_ NB0_402.out _ | refine IsS115.far ?_ NB0_421.out _) | exact HI0.out)); (case side2 => repeat (first | (with_reducible first | exact HB.out | apply below_alloc | apply pw_below_drewN | apply below_drew1 | refine below_set ?_ (IsS115.ge HI0.out) | refine below_set ?_ GE402.out | refine below_set ?_ GE421.out) | exact HB.out)); rintro e w49 ⟨rfl, hi, hb, hk⟩; refine ⟨_, rfl, ?_⟩; have n0_ := zm (KeepBut.blk hk (g' := gb402) (o := .cells #[.int .i64 0, .int .i64 0] 47 (0, 0)) zK NB402_0.out (by simp)); have n1_ := zm (Kd.R_mono (Kd.R_keep (IsS115.apart (show IsS115 w0 _ g s0_0 t419 t420 from z115i) (by (with_reducible repeat (first | apply Kd.R_alloc | apply Kd.R_drewN | apply Kd.R_drew)); exact (Kd.R_mono (Kd.R_far (p := ⟨gb421, 1, none⟩) (Kd.R_far (p := ⟨gb421, 0, none⟩) (Kd.R_types HO408.out BK421.out (by decide)) (fun _ hk => hk.2) (.int .i64 t409)) (fun _ hk => hk.2) (.int .i64 t418)) (fun _ h_ => h_.1))) (by decide)) hk (fun _ h => h.2)) (fun _ h => h.1)); have n2_ := zm (Kd.R_mono (Kd.R_keep (IsS115.apart (show IsS115 w0 _ g s0_0 t419 t420 from z115i) (by (with_reducible repeat (first | apply Kd.R_alloc | apply Kd.R_drewN | apply Kd.R_drew)); exact (Kd.R_mono (Kd.R_far (p := ⟨gb421, 1, none⟩) (Kd.R_far (p := ⟨gb421, 0, none⟩) (Kd.R_types HO417.out BK421.out (by decide)) (fun _ hk => hk.2) (.int .i64 t409)) (fun _ hk => hk.2) (.int .i64 t418)) (fun _ h_ => h_.1))) (by decide)) hk (fun _ h => h.2)) (fun _ h => h.1)); have n3_ := zm (KeepBut.blk hk (g' := gb421) (o := .cells #[.int .i64 t409, .int .i64 t418] 47 (0, 0)) (by (with_reducible repeat (first | refine blk_drewN ?_ _ | refine blk_drew ?_ | refine blk_alloc ?_ _)); refine blk_put (cs := #[.int .i64 t409, .int .i64 0]) ?_ 1 _ rfl; (with_reducible repeat (first | refine blk_drewN ?_ _ | refine blk_drew ?_ | refine blk_alloc ?_ _)); refine blk_put (cs := #[.int .i64 0, .int .i64 0]) ?_ 0 _ rfl; (with_reducible repeat (first | refine blk_drewN ?_ _ | refine blk_drew ?_ | refine blk_alloc ?_ _)); exact BK421.out) NB421_0.out (by simp)); have n4_ := zm (KeepBut.trans (zh (w := w)) hk (.inl rfl)); have n5_ := zm (hb); have n6_ := zm (hi); clear BK402; clear HO408; clear HO417; clear BK421; clear HK; clear HB; clear HI0; have BK402 := n0_; have HO408 := n1_; have HO417 := n2_; have BK421 := n3_; have HK := n4_; have HB := n5_; have HI0 := n6_; clear n0_ n1_ n2_ n3_ n4_ n5_ n6_; (try clear hb); (try clear hb2); (try clear hk); (try clear hi)) | ((with_reducible refine gate_dst (N := 27) rfl ?_); refine Kd.R_lit (Kd.int .i64) _ 3 ?hg (N := 27) ?hd (xs := ([0, 101] : List Int)) (inner := [.int .i64 0, .int .i64 101]) (ok := fun _ => True) (okp := fun _ => True) ?hr ?hp (fun _ hk => hk) trivial (Below.refl _ _) (Nat.le_refl _) (by simp) ?_; (case hd => rfl); (case hg => rfl); (case hr => first | (go_simp; done) | (go_simp; rfl)); (case hp => exact (Reps.one (show Kd.M (Kd.int .i64) _ _ _ 0 [.int .i64 0] from rfl) (Reps.one (show Kd.M (Kd.int .i64) _ _ _ 101 [.int .i64 101] from rfl) (Reps.none _ _)))); intro v432 w50 ho51 hb hg_ hnew_; clear hg_ hnew_; (first | rw [← Ny431.out] at ho51 | (simp only [Int.reduceToNat] at ho51; rw [← Ny431.out] at ho51)); have n0_ := zm (Kd.R_elder' (by (with_reducible repeat (first | apply Kd.R_alloc | apply Kd.R_drewN | apply Kd.R_drew)); exact HO408.out) (Kd.R_base ho51) hb); have n1_ := zm (Kd.R_elder' (by (with_reducible repeat (first | apply Kd.R_alloc | apply Kd.R_drewN | apply Kd.R_drew)); exact HO417.out) (Kd.R_base ho51) hb); have n2_ := zm (Kd.R_lower (Kd.R_new' (Kd.R_new' ho51 (Kd.R_lt (by (with_reducible repeat (first | apply Kd.R_alloc | apply Kd.R_drewN | apply Kd.R_drew)); exact HO408.out))) (Kd.R_lt (by (with_reducible repeat (first | apply Kd.R_alloc | apply Kd.R_drewN | apply Kd.R_drew)); exact HO417.out))) (keep_size (w := w) (g := g) (row := none) (zh (w := w)))); have n3_ := zm (IsS115.below z115i hb); have n4_ := zm (blk_below (g := gb402) zk hb); have n5_ := zm (blk_below (g := gb421) zk hb); have n6_ := zm (KeepBut.trans (zh (w := w)) (KeepBut.of_below hb g none) (.inl rfl)); have n7_ := zm (below_step zb hb); clear HO408; clear HO417; clear HI0; clear BK402; clear BK421; clear HK; clear HB; have HO408 := n0_; have HO417 := n1_; have HO433 := n2_; have HI0 := n3_; have BK402 := n4_; have BK421 := n5_; have HK := n6_; have HB := n7_; clear n0_ n1_ n2_ n3_ n4_ n5_ n6_ n7_; clear hb ho51; obtain ⟨Ao52, co52, eo52⟩ := Kd.R_slice HO433.out; subst eo52) | ((with_reducible refine gate_callee (f := 120) rfl ?_); refine goesA_ (some 28) Try.func120 #[.pointer (some ⟨g, 0, none⟩), .slice Ao52 y431.length co52] rfl ?_; (with_reducible refine (spec_l1Cur_among.calls g s0_0 t423 t424 _ _ y431 t434 t435 t436 w0 _ ?side1 ?side2 ?side3 ?side4 ?side5 A33.out).mono ?_); (case side1 => repeat (first | (with_reducible first | exact HI0.out | apply IsS115.alloc | apply IsS115.drewN | apply IsS115.drew | apply IsS115.set_1 | apply IsS115.set_2 | refine IsS115.far ?_ NB0_402.out _ | refine IsS115.far ?_ NB0_421.out _) | exact HI0.out)); (case side2 => repeat (first | (with_reducible first | exact HB.out | apply below_alloc | apply pw_below_drewN | apply below_drew1 | refine below_set ?_ (IsS115.ge HI0.out) | refine below_set ?_ GE402.out | refine below_set ?_ GE421.out) | exact HB.out)); (case side3 => repeat (first | exact (Kd.R_reads' HO433.out).2.2 | (with_reducible refine Kd.C_alloc ?_ _) | (with_reducible refine Kd.C_drewN ?_ _) | (with_reducible refine Kd.C_drew ?_))); (case side4 => exact (Kd.R_reads' HO433.out).2.1); (case side5 => exact far_slice (IsS115.own_ne HI0.out HO433.out (by decide))); rintro e w53 ⟨rfl, hi, hb, hk⟩; refine ⟨_, rfl, ?_⟩; have n0_ := zm (KeepBut.blk hk (g' := gb402) (o := .cells #[.int .i64 0, .int .i64 0] 47 (0, 0)) zk NB402_0.out (by simp)); have n1_ := zm (Kd.R_mono (Kd.R_keep (IsS115.apart (show IsS115 w0 _ g s0_0 t423 t424 from z115i) (by (with_reducible repeat (first | apply Kd.R_alloc | apply Kd.R_drewN | apply Kd.R_drew)); exact HO408.out) (by decide)) hk (fun _ h => h.2)) (fun _ h => h.1)); have n2_ := zm (Kd.R_mono (Kd.R_keep (IsS115.apart (show IsS115 w0 _ g s0_0 t423 t424 from z115i) (by (with_reducible repeat (first | apply Kd.R_alloc | apply Kd.R_drewN | apply Kd.R_drew)); exact HO417.out) (by decide)) hk (fun _ h => h.2)) (fun _ h => h.1)); have n3_ := zm (KeepBut.blk hk (g' := gb421) (o := .cells #[.int .i64 t409, .int .i64 t418] 47 (0, 0)) zk NB421_0.out (by simp)); have n4_ := zm (Kd.R_mono (Kd.R_keep (IsS115.apart (show IsS115 w0 _ g s0_0 t423 t424 from z115i) (by (with_reducible repeat (first | apply Kd.R_alloc | apply Kd.R_drewN | apply Kd.R_drew)); exact HO433.out) (by decide)) hk (fun _ h => h.2)) (fun _ h => h.1)); have n5_ := zm (KeepBut.trans (zh (w := w)) hk (.inl rfl)); have n6_ := zm (hb); have n7_ := zm (hi); clear BK402; clear HO408; clear HO417; clear BK421; clear HO433; clear HK; clear HB; clear HI0; have BK402 := n0_; have HO408 := n1_; have HO417 := n2_; have BK421 := n3_; have HO433 := n4_; have HK := n5_; have HB := n6_; have HI0 := n7_; clear n0_ n1_ n2_ n3_ n4_ n5_ n6_ n7_; (try clear hb); (try clear hb2); (try clear hk); (try clear hi); obtain ⟨hcz54_0, hcz54_1, hfz54_0, hfz54_1⟩ := zc2 BK421.out; have hnb55 := NB402_0.out; have hnc55 := NB0_402.out; obtain ⟨hcz56_0, hcz56_1, hfz56_0, hfz56_1⟩ := zc2 BK402.out))
   refine bodyPost_ret (results_cell_row rfl _ _ gb402 47 #[.int .i64 t409, .int .i64 t434] (0, 0) _ rfl (by (with_reducible repeat (first | refine blk_drewN ?_ _ | refine blk_drew ?_ | refine blk_alloc ?_ _)); refine blk_put (cs := #[.int .i64 t409, .int .i64 0]) ?_ 1 _ rfl; (with_reducible repeat (first | refine blk_drewN ?_ _ | refine blk_drew ?_ | refine blk_alloc ?_ _)); refine blk_put (cs := #[.int .i64 0, .int .i64 0]) ?_ 0 _ rfl; (with_reducible repeat (first | refine blk_drewN ?_ _ | refine blk_drew ?_ | refine blk_alloc ?_ _)); refine blk_far ?_ NB402_421.out _; (with_reducible repeat (first | refine blk_drewN ?_ _ | refine blk_drew ?_ | refine blk_alloc ?_ _)); exact BK402.out) Try.underlying47 rfl (by kernel_rfl)) rfl ?_
   exact ⟨zr, z115i, zb, zh (w := w)⟩
  ·
   rw [if_neg c32] at H
   have c32b0 : (t422 == 1) = false := beq_eq_false_iff_ne.mpr c32
   have c32b1 : (t422 != 1) = true := bne_iff_ne.mpr c32
   simp only [Option.some.injEq, Prod.mk.injEq] at H
   obtain ⟨rfl, rfl, rfl, rfl⟩ := H
   go_enter Try.func112, Try.ntmps112
   go_wp2_with (first | ((with_reducible refine gate_dst (N := 2) rfl ?_); refine box_event ?hg (N := 2) ?hd (cs := #[.int .i64 0, .int .i64 0]) (t := 47) ?hr ?_; (case hd => rfl); (case hg => rfl); (case hr => first | (go_simp; done) | (go_simp; rfl)); intro gb402 hg w57 hbox hb; have n0_ := zm (IsS115.below z115i hb); have n1_ := zm (KeepBut.trans zh (KeepBut.of_below hb g none) (.inl rfl)); have n2_ := zm (below_step zb hb); have n3_ := zm (hbox); have n4_ := zm ((by rw [hg]; exact (keep_size (w := w) (g := g) (row := none) zh) : w.heap.size ≤ gb402)); have n5_ := zm ((Nat.le_trans HW0.out (by rw [hg]; exact (keep_size (w := w) (g := g) (row := none) zh) : w.heap.size ≤ gb402) : w0.heap.size ≤ gb402)); have n6_ := zm ((by rw [hg]; exact Nat.ne_of_lt (IsS115.lt (show IsS115 w0 _ g s0_0 s0_1 s0_2 from z115i)) : g ≠ gb402)); have n7_ := zm ((by rw [hg]; exact Nat.ne_of_gt (IsS115.lt (show IsS115 w0 _ g s0_0 s0_1 s0_2 from z115i)) : gb402 ≠ g)); clear HI0; clear HK; clear HB; have HI0 := n0_; have HK := n1_; have HB := n2_; have BK402 := n3_; have GW402 := n4_; have GE402 := n5_; have NB0_402 := n6_; have NB402_0 := n7_; clear n0_ n1_ n2_ n3_ n4_ n5_ n6_ n7_; clear hb hbox hg) | ((with_reducible refine gate_callee (f := 121) rfl ?_); refine goesA_ (some 6) Try.func121 #[.pointer (some ⟨g, 0, none⟩), .int .i64 60] rfl ?_; (with_reducible refine (spec_l1Cur_pick.calls g s0_0 s0_1 s0_2 60 t403 t404 t405 w0 _ ?side1 ?side2 A2.out).mono ?_); (case side1 => repeat (first | (with_reducible first | exact HI0.out | apply IsS115.alloc | apply IsS115.drewN | apply IsS115.drew | apply IsS115.set_1 | apply IsS115.set_2 | refine IsS115.far ?_ NB0_402.out _) | exact HI0.out)); (case side2 => repeat (first | (with_reducible first | exact HB.out | apply below_alloc | apply pw_below_drewN | apply below_drew1 | refine below_set ?_ (IsS115.ge HI0.out) | refine below_set ?_ GE402.out) | exact HB.out)); rintro e w58 ⟨rfl, hi, hb, hk⟩; refine ⟨_, rfl, ?_⟩; have n0_ := zm (KeepBut.blk hk (g' := gb402) (o := .cells #[.int .i64 0, .int .i64 0] 47 (0, 0)) zk NB402_0.out (by simp)); have n1_ := zm (KeepBut.trans (zh (w := w)) hk (.inl rfl)); have n2_ := zm (hb); have n3_ := zm (hi); clear BK402; clear HK; clear HB; clear HI0; have BK402 := n0_; have HK := n1_; have HB := n2_; have HI0 := n3_; clear n0_ n1_ n2_ n3_; (try clear hb); (try clear hb2); (try clear hk); (try clear hi)) | ((with_reducible refine gate_dst (N := 7) rfl ?_); refine Kd.R_lit (Kd.int .i64) _ 3 ?hg (N := 7) ?hd (xs := ([0, 5, 20, t403, 200] : List Int)) (inner := [.int .i64 0, .int .i64 5, .int .i64 20, .int .i64 t403, .int .i64 200]) (ok := fun _ => True) (okp := fun _ => True) ?hr ?hp (fun _ hk => hk) trivial (Below.refl _ _) (Nat.le_refl _) (by simp) ?_; (case hd => rfl); (case hg => rfl); (case hr => first | (go_simp; done) | (go_simp; rfl)); (case hp => exact (Reps.one (show Kd.M (Kd.int .i64) _ _ _ 0 [.int .i64 0] from rfl) (Reps.one (show Kd.M (Kd.int .i64) _ _ _ 5 [.int .i64 5] from rfl) (Reps.one (show Kd.M (Kd.int .i64) _ _ _ 20 [.int .i64 20] from rfl) (Reps.one (show Kd.M (Kd.int .i64) _ _ _ t403 [.int .i64 t403] from rfl) (Reps.one (show Kd.M (Kd.int .i64) _ _ _ 200 [.int .i64 200] from rfl) (Reps.none _ _))))))); intro v407 w59 ho60 hb hg_ hnew_; clear hg_ hnew_; (first | rw [← Ny406.out] at ho60 | (simp only [Int.reduceToNat] at ho60; rw [← Ny406.out] at ho60)); have n0_ := zm (Kd.R_lower ho60 (keep_size (w := w) (g := g) (row := none) (zh (w := w)))); have n1_ := zm (IsS115.below z115i hb); have n2_ := zm (blk_below (g := gb402) zk hb); have n3_ := zm (KeepBut.trans (zh (w := w)) (KeepBut.of_below hb g none) (.inl rfl)); have n4_ := zm (below_step zb hb); clear HI0; clear BK402; clear HK; clear HB; have HO408 := n0_; have HI0 := n1_; have BK402 := n2_; have HK := n3_; have HB := n4_; clear n0_ n1_ n2_ n3_ n4_; clear hb ho60; obtain ⟨Ao61, co61, eo61⟩ := Kd.R_slice HO408.out; subst eo61) | ((with_reducible refine gate_callee (f := 120) rfl ?_); refine goesA_ (some 8) Try.func120 #[.pointer (some ⟨g, 0, none⟩), .slice Ao61 y406.length co61] rfl ?_; (with_reducible refine (spec_l1Cur_among.calls g s0_0 t404 t405 _ _ y406 t409 t410 t411 w0 _ ?side1 ?side2 ?side3 ?side4 ?side5 A3.out).mono ?_); (case side1 => repeat (first | (with_reducible first | exact HI0.out | apply IsS115.alloc | apply IsS115.drewN | apply IsS115.drew | apply IsS115.set_1 | apply IsS115.set_2 | refine IsS115.far ?_ NB0_402.out _) | exact HI0.out)); (case side2 => repeat (first | (with_reducible first | exact HB.out | apply below_alloc | apply pw_below_drewN | apply below_drew1 | refine below_set ?_ (IsS115.ge HI0.out) | refine below_set ?_ GE402.out) | exact HB.out)); (case side3 => repeat (first | exact (Kd.R_reads' HO408.out).2.2 | (with_reducible refine Kd.C_alloc ?_ _) | (with_reducible refine Kd.C_drewN ?_ _) | (with_reducible refine Kd.C_drew ?_))); (case side4 => exact (Kd.R_reads' HO408.out).2.1); (case side5 => exact far_slice (IsS115.own_ne HI0.out HO408.out (by decide))); rintro e w62 ⟨rfl, hi, hb, hk⟩; refine ⟨_, rfl, ?_⟩; have n0_ := zm (KeepBut.blk hk (g' := gb402) (o := .cells #[.int .i64 0, .int .i64 0] 47 (0, 0)) zk NB402_0.out (by simp)); have n1_ := zm (Kd.R_mono (Kd.R_keep (IsS115.apart (show IsS115 w0 _ g s0_0 t404 t405 from z115i) (by (with_reducible repeat (first | apply Kd.R_alloc | apply Kd.R_drewN | apply Kd.R_drew)); exact HO408.out) (by decide)) hk (fun _ h => h.2)) (fun _ h => h.1)); have n2_ := zm (KeepBut.trans (zh (w := w)) hk (.inl rfl)); have n3_ := zm (hb); have n4_ := zm (hi); clear BK402; clear HO408; clear HK; clear HB; clear HI0; have BK402 := n0_; have HO408 := n1_; have HK := n2_; have HB := n3_; have HI0 := n4_; clear n0_ n1_ n2_ n3_ n4_; (try clear hb); (try clear hb2); (try clear hk); (try clear hi)) | ((with_reducible refine gate_callee (f := 121) rfl ?_); refine goesA_ (some 11) Try.func121 #[.pointer (some ⟨g, 0, none⟩), .int .i64 60] rfl ?_; (with_reducible refine (spec_l1Cur_pick.calls g s0_0 t410 t411 60 t412 t413 t414 w0 _ ?side1 ?side2 A4.out).mono ?_); (case side1 => repeat (first | (with_reducible first | exact HI0.out | apply IsS115.alloc | apply IsS115.drewN | apply IsS115.drew | apply IsS115.set_1 | apply IsS115.set_2 | refine IsS115.far ?_ NB0_402.out _) | exact HI0.out)); (case side2 => repeat (first | (with_reducible first | exact HB.out | apply below_alloc | apply pw_below_drewN | apply below_drew1 | refine below_set ?_ (IsS115.ge HI0.out) | refine below_set ?_ GE402.out) | exact HB.out)); rintro e w63 ⟨rfl, hi, hb, hk⟩; refine ⟨_, rfl, ?_⟩; have n0_ := zm (KeepBut.blk hk (g' := gb402) (o := .cells #[.int .i64 0, .int .i64 0] 47 (0, 0)) zk NB402_0.out (by simp)); have n1_ := zm (Kd.R_mono (Kd.R_keep (IsS115.apart (show IsS115 w0 _ g s0_0 t410 t411 from z115i) (by (with_reducible repeat (first | apply Kd.R_alloc | apply Kd.R_drewN | apply Kd.R_drew)); exact HO408.out) (by decide)) hk (fun _ h => h.2)) (fun _ h => h.1)); have n2_ := zm (KeepBut.trans (zh (w := w)) hk (.inl rfl)); have n3_ := zm (hb); have n4_ := zm (hi); clear BK402; clear HO408; clear HK; clear HB; clear HI0; have BK402 := n0_; have HO408 := n1_; have HK := n2_; have HB := n3_; have HI0 := n4_; clear n0_ n1_ n2_ n3_ n4_; (try clear hb); (try clear hb2); (try clear hk); (try clear hi)) | ((with_reducible refine gate_dst (N := 13) rfl ?_); refine Kd.R_lit (Kd.int .i64) _ 3 ?hg (N := 13) ?hd (xs := ([1, 5, 20, wrap64 (1 + t412), 100] : List Int)) (inner := [.int .i64 1, .int .i64 5, .int .i64 20, .int .i64 (wrap64 (1 + t412)), .int .i64 100]) (ok := fun _ => True) (okp := fun _ => True) ?hr ?hp (fun _ hk => hk) trivial (Below.refl _ _) (Nat.le_refl _) (by simp) ?_; (case hd => rfl); (case hg => rfl); (case hr => first | (go_simp; done) | (go_simp; rfl)); (case hp => exact (Reps.one (show Kd.M (Kd.int .i64) _ _ _ 1 [.int .i64 1] from rfl) (Reps.one (show Kd.M (Kd.int .i64) _ _ _ 5 [.int .i64 5] from rfl) (Reps.one (show Kd.M (Kd.int .i64) _ _ _ 20 [.int .i64 20] from rfl) (Reps.one (show Kd.M (Kd.int .i64) _ _ _ (wrap64 (1 + t412)) [.int .i64 (wrap64 (1 + t412))] from rfl) (Reps.one (show Kd.M (Kd.int .i64) _ _ _ 100 [.int .i64 100] from rfl) (Reps.none _ _))))))); intro v416 w64 ho65 hb hg_ hnew_; clear hg_ hnew_; (first | rw [← Ny415.out] at ho65 | (simp only [Int.reduceToNat] at ho65; rw [← Ny415.out] at ho65)); have n0_ := zm (Kd.R_elder' (by (with_reducible repeat (first | apply Kd.R_alloc | apply Kd.R_drewN | apply Kd.R_drew)); exact HO408.out) (Kd.R_base ho65) hb); have n1_ := zm (Kd.R_lower (Kd.R_new' ho65 (Kd.R_lt (by (with_reducible repeat (first | apply Kd.R_alloc | apply Kd.R_drewN | apply Kd.R_drew)); exact HO408.out))) (keep_size (w := w) (g := g) (row := none) (zh (w := w)))); have n2_ := zm (IsS115.below z115i hb); have n3_ := zm (blk_below (g := gb402) zk hb); have n4_ := zm (KeepBut.trans (zh (w := w)) (KeepBut.of_below hb g none) (.inl rfl)); have n5_ := zm (below_step zb hb); clear HO408; clear HI0; clear BK402; clear HK; clear HB; have HO408 := n0_; have HO417 := n1_; have HI0 := n2_; have BK402 := n3_; have HK := n4_; have HB := n5_; clear n0_ n1_ n2_ n3_ n4_ n5_; clear hb ho65; obtain ⟨Ao66, co66, eo66⟩ := Kd.R_slice HO417.out; subst eo66) | ((with_reducible refine gate_callee (f := 120) rfl ?_); refine goesA_ (some 14) Try.func120 #[.pointer (some ⟨g, 0, none⟩), .slice Ao66 y415.length co66] rfl ?_; (with_reducible refine (spec_l1Cur_among.calls g s0_0 t413 t414 _ _ y415 t418 t419 t420 w0 _ ?side1 ?side2 ?side3 ?side4 ?side5 A5.out).mono ?_); (case side1 => repeat (first | (with_reducible first | exact HI0.out | apply IsS115.alloc | apply IsS115.drewN | apply IsS115.drew | apply IsS115.set_1 | apply IsS115.set_2 | refine IsS115.far ?_ NB0_402.out _) | exact HI0.out)); (case side2 => repeat (first | (with_reducible first | exact HB.out | apply below_alloc | apply pw_below_drewN | apply below_drew1 | refine below_set ?_ (IsS115.ge HI0.out) | refine below_set ?_ GE402.out) | exact HB.out)); (case side3 => repeat (first | exact (Kd.R_reads' HO417.out).2.2 | (with_reducible refine Kd.C_alloc ?_ _) | (with_reducible refine Kd.C_drewN ?_ _) | (with_reducible refine Kd.C_drew ?_))); (case side4 => exact (Kd.R_reads' HO417.out).2.1); (case side5 => exact far_slice (IsS115.own_ne HI0.out HO417.out (by decide))); rintro e w67 ⟨rfl, hi, hb, hk⟩; refine ⟨_, rfl, ?_⟩; have n0_ := zm (KeepBut.blk hk (g' := gb402) (o := .cells #[.int .i64 0, .int .i64 0] 47 (0, 0)) zk NB402_0.out (by simp)); have n1_ := zm (Kd.R_mono (Kd.R_keep (IsS115.apart (show IsS115 w0 _ g s0_0 t413 t414 from z115i) (by (with_reducible repeat (first | apply Kd.R_alloc | apply Kd.R_drewN | apply Kd.R_drew)); exact HO408.out) (by decide)) hk (fun _ h => h.2)) (fun _ h => h.1)); have n2_ := zm (Kd.R_mono (Kd.R_keep (IsS115.apart (show IsS115 w0 _ g s0_0 t413 t414 from z115i) (by (with_reducible repeat (first | apply Kd.R_alloc | apply Kd.R_drewN | apply Kd.R_drew)); exact HO417.out) (by decide)) hk (fun _ h => h.2)) (fun _ h => h.1)); have n3_ := zm (KeepBut.trans (zh (w := w)) hk (.inl rfl)); have n4_ := zm (hb); have n5_ := zm (hi); clear BK402; clear HO408; clear HO417; clear HK; clear HB; clear HI0; have BK402 := n0_; have HO408 := n1_; have HO417 := n2_; have HK := n3_; have HB := n4_; have HI0 := n5_; clear n0_ n1_ n2_ n3_ n4_ n5_; (try clear hb); (try clear hb2); (try clear hk); (try clear hi)) | ((with_reducible refine gate_dst (N := 3) rfl ?_); refine box_event ?hg (N := 3) ?hd (cs := #[.int .i64 0, .int .i64 0]) (t := 47) ?hr ?_; (case hd => rfl); (case hg => rfl); (case hr => first | (go_simp; done) | (go_simp; rfl)); intro gb421 hg w68 hbox hb; have n0_ := zm (Kd.R_below (by (with_reducible repeat (first | apply Kd.R_alloc | apply Kd.R_drewN | apply Kd.R_drew)); exact HO408.out) hb); have n1_ := zm (Kd.R_below (by (with_reducible repeat (first | apply Kd.R_alloc | apply Kd.R_drewN | apply Kd.R_drew)); exact HO417.out) hb); have n2_ := zm (IsS115.below z115i hb); have n3_ := zm (blk_below (g := gb402) zk hb); have n4_ := zm (KeepBut.trans (zh (w := w)) (KeepBut.of_below hb g none) (.inl rfl)); have n5_ := zm (below_step zb hb); have n6_ := zm (hbox); have n7_ := zm ((by rw [hg]; exact (keep_size (w := w) (g := g) (row := none) (zh (w := w))) : w.heap.size ≤ gb421)); have n8_ := zm ((Nat.le_trans HW0.out (by rw [hg]; exact (keep_size (w := w) (g := g) (row := none) (zh (w := w))) : w.heap.size ≤ gb421) : w0.heap.size ≤ gb421)); have n9_ := zm (zl hg zk : gb402 ≠ gb421); have n10_ := zm (zg hg zk : gb421 ≠ gb402); have n11_ := zm ((by rw [hg]; exact Nat.ne_of_lt (IsS115.lt (show IsS115 w0 _ g s0_0 t419 t420 from z115i)) : g ≠ gb421)); have n12_ := zm ((by rw [hg]; exact Nat.ne_of_gt (IsS115.lt (show IsS115 w0 _ g s0_0 t419 t420 from z115i)) : gb421 ≠ g)); clear HO408; clear HO417; clear HI0; clear BK402; clear HK; clear HB; have HO408 := n0_; have HO417 := n1_; have HI0 := n2_; have BK402 := n3_; have HK := n4_; have HB := n5_; have BK421 := n6_; have GW421 := n7_; have GE421 := n8_; have NB402_421 := n9_; have NB421_402 := n10_; have NB0_421 := n11_; have NB421_0 := n12_; clear n0_ n1_ n2_ n3_ n4_ n5_ n6_ n7_ n8_ n9_ n10_ n11_ n12_; clear hb hbox hg; have hnb69 := NB421_402.out; have hnc69 := NB402_421.out; have hnb70 := NB421_0.out; have hnc70 := NB0_421.out; obtain ⟨hcz71_0, hcz71_1, hfz71_0, hfz71_1⟩ := zc2 BK421.out) | ((with_reducible refine gate_callee (f := 121) rfl ?_); refine goesA_ (some 17) Try.func121 #[.pointer (some ⟨g, 0, none⟩), .int .i64 24] rfl ?_; (with_reducible refine (spec_l1Cur_pick.calls g s0_0 t419 t420 24 t422 t423 t424 w0 _ ?side1 ?side2 A6.out).mono ?_); (case side1 => repeat (first | (with_reducible first | exact HI0.out | apply IsS115.alloc | apply IsS115.drewN | apply IsS115.drew | apply IsS115.set_1 | apply IsS115.set_2 | refine IsS115.far ?_ NB0_402.out _ | refine IsS115.far ?_ NB0_421.out _) | exact HI0.out)); (case side2 => repeat (first | (with_reducible first | exact HB.out | apply below_alloc | apply pw_below_drewN | apply below_drew1 | refine below_set ?_ (IsS115.ge HI0.out) | refine below_set ?_ GE402.out | refine below_set ?_ GE421.out) | exact HB.out)); rintro e w72 ⟨rfl, hi, hb, hk⟩; refine ⟨_, rfl, ?_⟩; have n0_ := zm (KeepBut.blk hk (g' := gb402) (o := .cells #[.int .i64 0, .int .i64 0] 47 (0, 0)) zK NB402_0.out (by simp)); have n1_ := zm (Kd.R_mono (Kd.R_keep (IsS115.apart (show IsS115 w0 _ g s0_0 t419 t420 from z115i) (by (with_reducible repeat (first | apply Kd.R_alloc | apply Kd.R_drewN | apply Kd.R_drew)); exact (Kd.R_mono (Kd.R_far (p := ⟨gb421, 1, none⟩) (Kd.R_far (p := ⟨gb421, 0, none⟩) (Kd.R_types HO408.out BK421.out (by decide)) (fun _ hk => hk.2) (.int .i64 t409)) (fun _ hk => hk.2) (.int .i64 t418)) (fun _ h_ => h_.1))) (by decide)) hk (fun _ h => h.2)) (fun _ h => h.1)); have n2_ := zm (Kd.R_mono (Kd.R_keep (IsS115.apart (show IsS115 w0 _ g s0_0 t419 t420 from z115i) (by (with_reducible repeat (first | apply Kd.R_alloc | apply Kd.R_drewN | apply Kd.R_drew)); exact (Kd.R_mono (Kd.R_far (p := ⟨gb421, 1, none⟩) (Kd.R_far (p := ⟨gb421, 0, none⟩) (Kd.R_types HO417.out BK421.out (by decide)) (fun _ hk => hk.2) (.int .i64 t409)) (fun _ hk => hk.2) (.int .i64 t418)) (fun _ h_ => h_.1))) (by decide)) hk (fun _ h => h.2)) (fun _ h => h.1)); have n3_ := zm (KeepBut.blk hk (g' := gb421) (o := .cells #[.int .i64 t409, .int .i64 t418] 47 (0, 0)) (by (with_reducible repeat (first | refine blk_drewN ?_ _ | refine blk_drew ?_ | refine blk_alloc ?_ _)); refine blk_put (cs := #[.int .i64 t409, .int .i64 0]) ?_ 1 _ rfl; (with_reducible repeat (first | refine blk_drewN ?_ _ | refine blk_drew ?_ | refine blk_alloc ?_ _)); refine blk_put (cs := #[.int .i64 0, .int .i64 0]) ?_ 0 _ rfl; (with_reducible repeat (first | refine blk_drewN ?_ _ | refine blk_drew ?_ | refine blk_alloc ?_ _)); exact BK421.out) NB421_0.out (by simp)); have n4_ := zm (KeepBut.trans (zh (w := w)) hk (.inl rfl)); have n5_ := zm (hb); have n6_ := zm (hi); clear BK402; clear HO408; clear HO417; clear BK421; clear HK; clear HB; clear HI0; have BK402 := n0_; have HO408 := n1_; have HO417 := n2_; have BK421 := n3_; have HK := n4_; have HB := n5_; have HI0 := n6_; clear n0_ n1_ n2_ n3_ n4_ n5_ n6_; (try clear hb); (try clear hb2); (try clear hk); (try clear hi); obtain ⟨hcz73_0, hcz73_1, hfz73_0, hfz73_1⟩ := zc2 BK421.out; have hnb74 := NB402_0.out; have hnc74 := NB0_402.out; obtain ⟨hcz75_0, hcz75_1, hfz75_0, hfz75_1⟩ := zc2 BK402.out))
   refine bodyPost_ret (results_cell_row rfl _ _ gb402 47 #[.int .i64 t409, .int .i64 t418] (0, 0) _ rfl (by (with_reducible repeat (first | refine blk_drewN ?_ _ | refine blk_drew ?_ | refine blk_alloc ?_ _)); refine blk_put (cs := #[.int .i64 t409, .int .i64 0]) ?_ 1 _ rfl; (with_reducible repeat (first | refine blk_drewN ?_ _ | refine blk_drew ?_ | refine blk_alloc ?_ _)); refine blk_put (cs := #[.int .i64 0, .int .i64 0]) ?_ 0 _ rfl; (with_reducible repeat (first | refine blk_drewN ?_ _ | refine blk_drew ?_ | refine blk_alloc ?_ _)); exact BK402.out) Try.underlying47 rfl (by kernel_rfl)) rfl ?_
   exact ⟨zr, z115i, zb, zh (w := w)⟩

/-! ### spec_l1Cur_greatestDrift: function 140 -/
def spec_l1Cur_greatestDrift.f (s0_0 : List Int) (s0_1 : Int) (s0_2 : Int) : Option (Int × Int × Int) := (spec_l1Cur_pick.f s0_0 s0_1 s0_2 51).bind fun bt437 => ((spec_l1Cur_among.f s0_0 bt437.2.1 bt437.2.2 (([51, (-1)] : List Int))).bind fun bt443 => ((spec_l1Cur_among.f s0_0 bt443.2.1 bt443.2.2 (([0, 1, 3, 10, bt437.1, 50, bt443.1] : List Int))).bind fun bt449 => (some (bt449.1, bt449.2.1, bt449.2.2))))
set_option maxHeartbeats 8000000 in
set_option maxRecDepth 100000 in
theorem spec_l1Cur_greatestDrift.calls (g : Nat) (s0_0 : List Int) (s0_1 : Int) (s0_2 : Int) (r1 : Int) (r2 : Int) (r3 : Int) (w0 w : World) (hI : IsS115 w0 w g s0_0 s0_1 s0_2) (hB : Below w0.heap.size w0 w) (h : spec_l1Cur_greatestDrift.f s0_0 s0_1 s0_2 = some (r1, r2, r3)) :
  Calls Try.prog 140 #[.pointer (some ⟨g, 0, none⟩)] w fun e w' => e = .returned (.int .i64 r1) ∧ IsS115 w0 w' g s0_0 r2 r3 ∧ Below w0.heap.size w0 w' ∧ KeepBut w w' g none := by
 have HI0 := zm hI
 have GHI0 := zm (IsS115.ge HI0.out)
 have HK := zm (KeepBut.refl w g none)
 have HL := zm hB.size
 clear hI
 have HW0 := zm hB.size
 have HB := zm hB
 clear hB
 have H : ((spec_l1Cur_pick.f s0_0 s0_1 s0_2 51).bind fun bt437 => ((spec_l1Cur_among.f s0_0 bt437.2.1 bt437.2.2 (([51, (-1)] : List Int))).bind fun bt443 => ((spec_l1Cur_among.f s0_0 bt443.2.1 bt443.2.2 (([0, 1, 3, 10, bt437.1, 50, bt443.1] : List Int))).bind fun bt449 => (some (bt449.1, bt449.2.1, bt449.2.2))))) = some (r1, r2, r3) := h
 clear h
 replace H := Option.bind_eq_some_iff.mp H
 obtain ⟨⟨t437, t438, t439⟩, A20, H⟩ := H
 (try dsimp only at H)
 have A2 := zm A20
 clear A20
 obtain ⟨y440, hy440⟩ : ∃ y_ : List Int, y_ = (([51, (-1)] : List Int)) := ⟨_, rfl⟩
 replace H : ((spec_l1Cur_among.f s0_0 t438 t439 y440).bind fun bt443 => ((spec_l1Cur_among.f s0_0 bt443.2.1 bt443.2.2 (([0, 1, 3, 10, t437, 50, bt443.1] : List Int))).bind fun bt449 => (some (bt449.1, bt449.2.1, bt449.2.2)))) = some (r1, r2, r3) := by first | (rw [hy440]; with_reducible exact H) | (have H2_ := (Option.bind_some _ _).symm.trans H; rw [hy440]; with_reducible exact H2_) | (have H2_ := (Option.bind_some _ _).symm.trans H; with_reducible exact H2_) | with_reducible exact H | (rw [hy440]; exact H) | exact H
 have Ny440 := zm hy440
 clear hy440
 replace H := Option.bind_eq_some_iff.mp H
 obtain ⟨⟨t443, t444, t445⟩, A30, H⟩ := H
 (try dsimp only at H)
 have A3 := zm A30
 clear A30
 obtain ⟨y446, hy446⟩ : ∃ y_ : List Int, y_ = (([0, 1, 3, 10, t437, 50, t443] : List Int)) := ⟨_, rfl⟩
 replace H : ((spec_l1Cur_among.f s0_0 t444 t445 y446).bind fun bt449 => (some (bt449.1, bt449.2.1, bt449.2.2))) = some (r1, r2, r3) := by first | (rw [hy446]; with_reducible exact H) | (have H2_ := (Option.bind_some _ _).symm.trans H; rw [hy446]; with_reducible exact H2_) | (have H2_ := (Option.bind_some _ _).symm.trans H; with_reducible exact H2_) | with_reducible exact H | (rw [hy446]; exact H) | exact H
 have Ny446 := zm hy446
 clear hy446
 replace H := Option.bind_eq_some_iff.mp H
 obtain ⟨⟨t449, t450, t451⟩, A40, H⟩ := H
 (try dsimp only at H)
 have A4 := zm A40
 clear A40
 simp only [Option.some.injEq, Prod.mk.injEq] at H
 obtain ⟨rfl, rfl, rfl⟩ := H
 go_enter Try.func140, Try.ntmps140
 go_wp2_with (first | ((with_reducible refine gate_callee (f := 121) rfl ?_); refine goesA_ (some 5) Try.func121 #[.pointer (some ⟨g, 0, none⟩), .int .i64 51] rfl ?_; (with_reducible refine (spec_l1Cur_pick.calls g s0_0 s0_1 s0_2 51 t437 t438 t439 w0 _ ?side1 ?side2 A2.out).mono ?_); (case side1 => repeat (first | (with_reducible first | exact HI0.out | apply IsS115.alloc | apply IsS115.drewN | apply IsS115.drew | apply IsS115.set_1 | apply IsS115.set_2) | exact HI0.out)); (case side2 => repeat (first | (with_reducible first | exact HB.out | apply below_alloc | apply pw_below_drewN | apply below_drew1 | refine below_set ?_ (IsS115.ge HI0.out)) | exact HB.out)); rintro e w5 ⟨rfl, hi, hb, hk⟩; refine ⟨_, rfl, ?_⟩; have n0_ := zm (KeepBut.trans zh hk (.inl rfl)); have n1_ := zm (hb); have n2_ := zm (hi); clear HK; clear HB; clear HI0; have HK := n0_; have HB := n1_; have HI0 := n2_; clear n0_ n1_ n2_; (try clear hb); (try clear hb2); (try clear hk); (try clear hi)) | ((with_reducible refine gate_dst (N := 7) rfl ?_); refine Kd.R_lit (Kd.int .i64) _ 3 ?hg (N := 7) ?hd (xs := ([51, (-1)] : List Int)) (inner := [.int .i64 51, .int .i64 (-1)]) (ok := fun _ => True) (okp := fun _ => True) ?hr ?hp (fun _ hk => hk) trivial (Below.refl _ _) (Nat.le_refl _) (by simp) ?_; (case hd => rfl); (case hg => rfl); (case hr => first | (go_simp; done) | (go_simp; rfl)); (case hp => exact (Reps.one (show Kd.M (Kd.int .i64) _ _ _ 51 [.int .i64 51] from rfl) (Reps.one (show Kd.M (Kd.int .i64) _ _ _ (-1) [.int .i64 (-1)] from rfl) (Reps.none _ _)))); intro v441 w6 ho7 hb hg_ hnew_; clear hg_ hnew_; (first | rw [← Ny440.out] at ho7 | (simp only [Int.reduceToNat] at ho7; rw [← Ny440.out] at ho7)); have n0_ := zm (Kd.R_lower ho7 (keep_size (w := w) (g := g) (row := none) zh)); have n1_ := zm (IsS115.below z115i hb); have n2_ := zm (KeepBut.trans zh (KeepBut.of_below hb g none) (.inl rfl)); have n3_ := zm (below_step zb hb); clear HI0; clear HK; clear HB; have HO442 := n0_; have HI0 := n1_; have HK := n2_; have HB := n3_; clear n0_ n1_ n2_ n3_; clear hb ho7; obtain ⟨Ao8, co8, eo8⟩ := Kd.R_slice HO442.out; subst eo8) | ((with_reducible refine gate_callee (f := 120) rfl ?_); refine goesA_ (some 8) Try.func120 #[.pointer (some ⟨g, 0, none⟩), .slice Ao8 y440.length co8] rfl ?_; (with_reducible refine (spec_l1Cur_among.calls g s0_0 t438 t439 _ _ y440 t443 t444 t445 w0 _ ?side1 ?side2 ?side3 ?side4 ?side5 A3.out).mono ?_); (case side1 => repeat (first | (with_reducible first | exact HI0.out | apply IsS115.alloc | apply IsS115.drewN | apply IsS115.drew | apply IsS115.set_1 | apply IsS115.set_2) | exact HI0.out)); (case side2 => repeat (first | (with_reducible first | exact HB.out | apply below_alloc | apply pw_below_drewN | apply below_drew1 | refine below_set ?_ (IsS115.ge HI0.out)) | exact HB.out)); (case side3 => repeat (first | exact (Kd.R_reads' HO442.out).2.2 | (with_reducible refine Kd.C_alloc ?_ _) | (with_reducible refine Kd.C_drewN ?_ _) | (with_reducible refine Kd.C_drew ?_))); (case side4 => exact (Kd.R_reads' HO442.out).2.1); (case side5 => exact far_slice (IsS115.own_ne HI0.out HO442.out (by decide))); rintro e w9 ⟨rfl, hi, hb, hk⟩; refine ⟨_, rfl, ?_⟩; have n0_ := zm (Kd.R_mono (Kd.R_keep (IsS115.apart (show IsS115 w0 _ g s0_0 t438 t439 from z115i) (by (with_reducible repeat (first | apply Kd.R_alloc | apply Kd.R_drewN | apply Kd.R_drew)); exact HO442.out) (by decide)) hk (fun _ h => h.2)) (fun _ h => h.1)); have n1_ := zm (KeepBut.trans zh hk (.inl rfl)); have n2_ := zm (hb); have n3_ := zm (hi); clear HO442; clear HK; clear HB; clear HI0; have HO442 := n0_; have HK := n1_; have HB := n2_; have HI0 := n3_; clear n0_ n1_ n2_ n3_; (try clear hb); (try clear hb2); (try clear hk); (try clear hi)) | ((with_reducible refine gate_dst (N := 9) rfl ?_); refine Kd.R_lit (Kd.int .i64) _ 3 ?hg (N := 9) ?hd (xs := ([0, 1, 3, 10, t437, 50, t443] : List Int)) (inner := [.int .i64 0, .int .i64 1, .int .i64 3, .int .i64 10, .int .i64 t437, .int .i64 50, .int .i64 t443]) (ok := fun _ => True) (okp := fun _ => True) ?hr ?hp (fun _ hk => hk) trivial (Below.refl _ _) (Nat.le_refl _) (by simp) ?_; (case hd => rfl); (case hg => rfl); (case hr => first | (go_simp; done) | (go_simp; rfl)); (case hp => exact (Reps.one (show Kd.M (Kd.int .i64) _ _ _ 0 [.int .i64 0] from rfl) (Reps.one (show Kd.M (Kd.int .i64) _ _ _ 1 [.int .i64 1] from rfl) (Reps.one (show Kd.M (Kd.int .i64) _ _ _ 3 [.int .i64 3] from rfl) (Reps.one (show Kd.M (Kd.int .i64) _ _ _ 10 [.int .i64 10] from rfl) (Reps.one (show Kd.M (Kd.int .i64) _ _ _ t437 [.int .i64 t437] from rfl) (Reps.one (show Kd.M (Kd.int .i64) _ _ _ 50 [.int .i64 50] from rfl) (Reps.one (show Kd.M (Kd.int .i64) _ _ _ t443 [.int .i64 t443] from rfl) (Reps.none _ _))))))))); intro v447 w10 ho11 hb hg_ hnew_; clear hg_ hnew_; (first | rw [← Ny446.out] at ho11 | (simp only [Int.reduceToNat] at ho11; rw [← Ny446.out] at ho11)); have n0_ := zm (Kd.R_elder' (by (with_reducible repeat (first | apply Kd.R_alloc | apply Kd.R_drewN | apply Kd.R_drew)); exact HO442.out) (Kd.R_base ho11) hb); have n1_ := zm (Kd.R_lower (Kd.R_new' ho11 (Kd.R_lt (by (with_reducible repeat (first | apply Kd.R_alloc | apply Kd.R_drewN | apply Kd.R_drew)); exact HO442.out))) (keep_size (w := w) (g := g) (row := none) zh)); have n2_ := zm (IsS115.below z115i hb); have n3_ := zm (KeepBut.trans zh (KeepBut.of_below hb g none) (.inl rfl)); have n4_ := zm (below_step zb hb); clear HO442; clear HI0; clear HK; clear HB; have HO442 := n0_; have HO448 := n1_; have HI0 := n2_; have HK := n3_; have HB := n4_; clear n0_ n1_ n2_ n3_ n4_; clear hb ho11; obtain ⟨Ao12, co12, eo12⟩ := Kd.R_slice HO448.out; subst eo12) | ((with_reducible refine gate_callee (f := 120) rfl ?_); refine goesA_ (some 10) Try.func120 #[.pointer (some ⟨g, 0, none⟩), .slice Ao12 y446.length co12] rfl ?_; (with_reducible refine (spec_l1Cur_among.calls g s0_0 t444 t445 _ _ y446 t449 t450 t451 w0 _ ?side1 ?side2 ?side3 ?side4 ?side5 A4.out).mono ?_); (case side1 => repeat (first | (with_reducible first | exact HI0.out | apply IsS115.alloc | apply IsS115.drewN | apply IsS115.drew | apply IsS115.set_1 | apply IsS115.set_2) | exact HI0.out)); (case side2 => repeat (first | (with_reducible first | exact HB.out | apply below_alloc | apply pw_below_drewN | apply below_drew1 | refine below_set ?_ (IsS115.ge HI0.out)) | exact HB.out)); (case side3 => repeat (first | exact (Kd.R_reads' HO448.out).2.2 | (with_reducible refine Kd.C_alloc ?_ _) | (with_reducible refine Kd.C_drewN ?_ _) | (with_reducible refine Kd.C_drew ?_))); (case side4 => exact (Kd.R_reads' HO448.out).2.1); (case side5 => exact far_slice (IsS115.own_ne HI0.out HO448.out (by decide))); rintro e w13 ⟨rfl, hi, hb, hk⟩; refine ⟨_, rfl, ?_⟩; have n0_ := zm (Kd.R_mono (Kd.R_keep (IsS115.apart (show IsS115 w0 _ g s0_0 t444 t445 from z115i) (by (with_reducible repeat (first | apply Kd.R_alloc | apply Kd.R_drewN | apply Kd.R_drew)); exact HO442.out) (by decide)) hk (fun _ h => h.2)) (fun _ h => h.1)); have n1_ := zm (Kd.R_mono (Kd.R_keep (IsS115.apart (show IsS115 w0 _ g s0_0 t444 t445 from z115i) (by (with_reducible repeat (first | apply Kd.R_alloc | apply Kd.R_drewN | apply Kd.R_drew)); exact HO448.out) (by decide)) hk (fun _ h => h.2)) (fun _ h => h.1)); have n2_ := zm (KeepBut.trans zh hk (.inl rfl)); have n3_ := zm (hb); have n4_ := zm (hi); clear HO442; clear HO448; clear HK; clear HB; clear HI0; have HO442 := n0_; have HO448 := n1_; have HK := n2_; have HB := n3_; have HI0 := n4_; clear n0_ n1_ n2_ n3_ n4_; (try clear hb); (try clear hb2); (try clear hk); (try clear hi)))
 go_ret
 exact ⟨zr, z115i, zb, zh⟩

/-! ### spec_DrawSafeBound: function 68 -/
def spec_DrawSafeBound.f (l0 : List Int) : Option (Int × Int × Int) := (spec_l1Cur_controller.f l0 0 0).bind fun bt454 => ((spec_l1Cur_greatestDrift.f l0 bt454.2.2.1 bt454.2.2.2).bind fun bt458 => (some (bt454.1, bt454.2.1, bt458.1)))
set_option maxHeartbeats 8000000 in
set_option maxRecDepth 100000 in
theorem spec_DrawSafeBound.calls (A0 : Option Addr) (c0 : Nat) (l0 : List Int) (r1 : Int) (r2 : Int) (r3 : Int) (w : World) (hr0 : Kd.C (Kd.int .u8) w A0 l0.length l0) (hc0 : l0.length ≤ c0) (h : spec_DrawSafeBound.f l0 = some (r1, r2, r3)) :
  Calls Try.prog 68 #[.slice A0 l0.length c0] w fun e w' => e = .returned (.tuple #[.agg #[.int .i64 r1, .int .i64 r2], .int .i64 r3]) ∧ Below w.heap.size w w' := by
 have hu47 := Try.underlying47
 have hu115 := Try.underlying115
 have HR0 := zm hr0
 have HC0 := zm hc0
 clear hr0 hc0
 have HB := zm (Below.refl w.heap.size w)
 have H : ((spec_l1Cur_controller.f l0 0 0).bind fun bt454 => ((spec_l1Cur_greatestDrift.f l0 bt454.2.2.1 bt454.2.2.2).bind fun bt458 => (some (bt454.1, bt454.2.1, bt458.1)))) = some (r1, r2, r3) := h
 clear h
 replace H := Option.bind_eq_some_iff.mp H
 obtain ⟨⟨t454, t455, t456, t457⟩, A20, H⟩ := H
 (try dsimp only at H)
 have A2 := zm A20
 clear A20
 replace H := Option.bind_eq_some_iff.mp H
 obtain ⟨⟨t458, t459, t460⟩, A30, H⟩ := H
 (try dsimp only at H)
 have A3 := zm A30
 clear A30
 simp only [Option.some.injEq, Prod.mk.injEq] at H
 obtain ⟨rfl, rfl, rfl⟩ := H
 go_enter Try.func68, Try.ntmps68
 go_wp2_with (first | ((with_reducible refine gate_dst (N := 2) rfl ?_); refine box_event ?hg (N := 2) ?hd (cs := #[.int .i64 0, .int .i64 0]) (t := 47) ?hr ?_; (case hd => rfl); (case hg => rfl); (case hr => first | (go_simp; done) | (go_simp; rfl)); intro gb452 hg w4 hbox hb; have n0_ := zm (below_step zb hb); have n1_ := zm (hbox); have n2_ := zm (zs hg zb : w.heap.size ≤ gb452); have n3_ := zm (zs hg zb : w.heap.size ≤ gb452); clear HB; have HB := n0_; have BK452 := n1_; have GW452 := n2_; have GE452 := n3_; clear n0_ n1_ n2_ n3_; clear hb hbox hg) | ((with_reducible refine gate_dst (N := 7) rfl ?_); refine box_event ?hg (N := 7) ?hd (cs := #[.slice A0 l0.length c0, .int .i64 0, .int .u64 0]) (t := 115) ?hr ?_; (case hd => rfl); (case hg => rfl); (case hr => first | (go_simp; done) | (go_simp; rfl)); intro gb453 hg w5 hbox hb; have n0_ := zm (blk_below (g := gb452) zk hb); have n1_ := zm (below_step zb hb); have n2_ := zm ((show IsS115 w _ gb453 l0 0 0 from ⟨_, _, hbox, (by rw [hg]; exact (below_size zb) : w.heap.size ≤ gb453), HR0.out⟩)); have n3_ := zm (zs hg zb : w.heap.size ≤ gb453); have n4_ := zm (zs hg zb : w.heap.size ≤ gb453); have n5_ := zm (zl hg zk : gb452 ≠ gb453); have n6_ := zm (zg hg zk : gb453 ≠ gb452); clear BK452; clear HB; have BK452 := n0_; have HB := n1_; have HI453 := n2_; have GW453 := n3_; have GE453 := n4_; have NB452_453 := n5_; have NB453_452 := n6_; clear n0_ n1_ n2_ n3_ n4_ n5_ n6_; clear hb hbox hg) | ((with_reducible refine gate_callee (f := 112) rfl ?_); refine goesA_ (some 9) Try.func112 #[.pointer (some ⟨gb453, 0, none⟩)] rfl ?_; (with_reducible refine (spec_l1Cur_controller.calls gb453 l0 0 0 t454 t455 t456 t457 w _ ?side1 ?side2 A2.out).mono ?_); (case side1 => repeat (first | (with_reducible first | exact HI453.out | apply IsS115.alloc | apply IsS115.drewN | apply IsS115.drew | apply IsS115.set_1 | apply IsS115.set_2 | refine IsS115.far ?_ NB453_452.out _) | exact HI453.out)); (case side2 => repeat (first | (with_reducible first | exact HB.out | apply below_alloc | apply pw_below_drewN | apply below_drew1 | refine below_set ?_ (IsS115.ge HI453.out) | refine below_set ?_ GE452.out) | exact HB.out)); rintro e w6 ⟨rfl, hi, hb, hk⟩; refine ⟨_, rfl, ?_⟩; have n0_ := zm (KeepBut.blk hk (g' := gb452) (o := .cells #[.int .i64 0, .int .i64 0] 47 (0, 0)) zk NB452_453.out (by simp)); have n1_ := zm (hb); have n2_ := zm (hi); clear BK452; clear HB; clear HI453; have BK452 := n0_; have HB := n1_; have HI453 := n2_; clear n0_ n1_ n2_; (try clear hb); (try clear hb2); (try clear hk); (try clear hi)) | ((with_reducible refine gate_callee (f := 140) rfl ?_); refine goesA_ (some 11) Try.func140 #[.pointer (some ⟨gb453, 0, none⟩)] rfl ?_; (with_reducible refine (spec_l1Cur_greatestDrift.calls gb453 l0 t456 t457 t458 t459 t460 w _ ?side1 ?side2 A3.out).mono ?_); (case side1 => repeat (first | (with_reducible first | exact HI453.out | apply IsS115.alloc | apply IsS115.drewN | apply IsS115.drew | apply IsS115.set_1 | apply IsS115.set_2 | refine IsS115.far ?_ NB453_452.out _) | exact HI453.out)); (case side2 => repeat (first | (with_reducible first | exact HB.out | apply below_alloc | apply pw_below_drewN | apply below_drew1 | refine below_set ?_ (IsS115.ge HI453.out) | refine below_set ?_ GE452.out) | exact HB.out)); rintro e w7 ⟨rfl, hi, hb, hk⟩; refine ⟨_, rfl, ?_⟩; have n0_ := zm (KeepBut.blk hk (g' := gb452) (o := .cells #[.int .i64 0, .int .i64 0] 47 (0, 0)) zk NB452_453.out (by simp)); have n1_ := zm (hb); have n2_ := zm (hi); clear BK452; clear HB; clear HI453; have BK452 := n0_; have HB := n1_; have HI453 := n2_; clear n0_ n1_ n2_; (try clear hb); (try clear hb2); (try clear hk); (try clear hi); have hnb8 := NB452_453.out; have hnc8 := NB453_452.out; obtain ⟨hcz9_0, hcz9_1, hfz9_0, hfz9_1⟩ := zc2 BK452.out))
 refine bodyPost_ret (results_ct rfl _ _ gb452 47 #[.int .i64 t454, .int .i64 t455] (0, 0) _ rfl (by (with_reducible repeat (first | refine blk_drewN ?_ _ | refine blk_drew ?_ | refine blk_alloc ?_ _)); refine blk_put (cs := #[.int .i64 t454, .int .i64 0]) ?_ 1 _ rfl; (with_reducible repeat (first | refine blk_drewN ?_ _ | refine blk_drew ?_ | refine blk_alloc ?_ _)); refine blk_put (cs := #[.int .i64 0, .int .i64 0]) ?_ 0 _ rfl; (with_reducible repeat (first | refine blk_drewN ?_ _ | refine blk_drew ?_ | refine blk_alloc ?_ _)); exact BK452.out) Try.underlying47 rfl (by kernel_rfl)) rfl ?_
 exact ⟨zr, zb⟩

/-! ### impl_SafeBound: function 69 -/
def impl_SafeBound.f (a0_0 : Int) (a0_1 : Int) (a1 : Int) : Option (Int × Bool) := (impl_IsController.f a0_0 a0_1).bind fun t462 => (if t462 = true then ((impl_isMostDrift.f a1).bind fun t463 => (if t463 = true then (if a0_1 < a1 then (some (0, false)) else (some (mx a0_0 (wrap64 ((wrap64 (a0_1 - a0_0)) - 1)), true))) else (some (0, false)))) else (some (0, false)))
set_option maxHeartbeats 8000000 in
set_option maxRecDepth 100000 in
theorem impl_SafeBound.calls (a0_0 : Int) (a0_1 : Int) (a1 : Int) (r1 : Int) (r2 : Bool) (w : World) (h : impl_SafeBound.f a0_0 a0_1 a1 = some (r1, r2)) :
  Calls Try.prog 69 #[.agg #[.int .i64 a0_0, .int .i64 a0_1], .int .i64 a1] w fun e w' => e = .returned (.tuple #[.int .i64 r1, .bool r2]) ∧ Below w.heap.size w w' := by
 have hu47 := Try.underlying47
 have HB := zm (Below.refl w.heap.size w)
 have H : ((impl_IsController.f a0_0 a0_1).bind fun t462 => (if t462 = true then ((impl_isMostDrift.f a1).bind fun t463 => (if t463 = true then (if a0_1 < a1 then (some (0, false)) else (some (mx a0_0 (wrap64 ((wrap64 (a0_1 - a0_0)) - 1)), true))) else (some (0, false)))) else (some (0, false)))) = some (r1, r2) := h
 clear h
 replace H := Option.bind_eq_some_iff.mp H
 obtain ⟨t462, A30, H⟩ := H
 (try dsimp only at H)
 have A3 := zm A30
 clear A30
 by_cases c4 : t462 = true
 ·
  subst c4
  have H1 : ((impl_isMostDrift.f a1).bind fun t463 => (if t463 = true then (if a0_1 < a1 then (some (0, false)) else (some (mx a0_0 (wrap64 ((wrap64 (a0_1 - a0_0)) - 1)), true))) else (some (0, false)))) = some (r1, r2) := by rw [if_pos rfl] at H; exact H
  clear H
  have H := H1
  clear H1
  replace H := Option.bind_eq_some_iff.mp H
  obtain ⟨t463, A50, H⟩ := H
  (try dsimp only at H)
  have A5 := zm A50
  clear A50
  by_cases c6 : t463 = true
  ·
   subst c6
   have H1 : (if a0_1 < a1 then (some (0, false)) else (some (mx a0_0 (wrap64 ((wrap64 (a0_1 - a0_0)) - 1)), true))) = some (r1, r2) := by rw [if_pos rfl] at H; exact H
   clear H
   have H := H1
   clear H1
   by_cases c7 : a0_1 < a1
   ·
    rw [if_pos c7] at H
    have c7b0 : decide (a0_1 < a1) = true := decide_eq_true c7
    clear c7
    simp only [Option.some.injEq, Prod.mk.injEq] at H
    obtain ⟨rfl, rfl⟩ := H
    go_enter Try.func69, Try.ntmps69
    go_wp2_with (first | ((with_reducible refine gate_dst (N := 2) rfl ?_); refine box_event ?hg (N := 2) ?hd (cs := #[.int .i64 a0_0, .int .i64 a0_1]) (t := 47) ?hr ?_; (case hd => rfl); (case hg => rfl); (case hr => first | (go_simp; done) | (go_simp; rfl)); intro gb461 hg w8 hbox hb; have n0_ := zm (below_step zb hb); have n1_ := zm (hbox); have n2_ := zm (zs hg zb : w.heap.size ≤ gb461); have n3_ := zm (zs hg zb : w.heap.size ≤ gb461); clear HB; have HB := n0_; have BK461 := n1_; have GW461 := n2_; have GE461 := n3_; clear n0_ n1_ n2_ n3_; clear hb hbox hg; obtain ⟨hcz9_0, hcz9_1, hfz9_0, hfz9_1⟩ := zc2 BK461.out) | ((with_reducible refine gate_callee (f := 76) rfl ?_); refine goesA_ (some 7) Try.func76 #[.agg #[.int .i64 a0_0, .int .i64 a0_1]] rfl ?_; (with_reducible refine (impl_IsController.calls a0_0 a0_1 true _ A3.out).mono ?_); rintro e w10 ⟨rfl, hb⟩; refine ⟨_, rfl, ?_⟩; have n0_ := zm (blk_below (g := gb461) zk hb); have n1_ := zm (below_step zb hb); clear BK461; clear HB; have BK461 := n0_; have HB := n1_; clear n0_ n1_; (try clear hb); (try clear hb2); (try clear hk); (try clear hi)) | (go_at_call 98; (with_reducible refine (impl_isMostDrift.calls a1 true _ A5.out).mono ?_); rintro e w' ⟨rfl, ⟨nd, rfl⟩⟩; obtain ⟨hcz11_0, hcz11_1, hfz11_0, hfz11_1⟩ := zc2 BK461.out))
    go_ret2
    exact ⟨zr, zb⟩
   ·
    rw [if_neg c7] at H
    have c7b0 : decide (a0_1 < a1) = false := decide_eq_false c7
    clear c7
    obtain ⟨ji12, hji12⟩ : ∃ j_ : Int, (mx a0_0 (wrap64 ((wrap64 (a0_1 - a0_0)) - 1))) = j_ := ⟨_, rfl⟩
    replace H : (some (ji12, true)) = some (r1, r2) := by first | (rw [hji12] at H; exact H) | (simp only [hji12] at H ⊢; exact H)
    (try rw [hji12] at A3)
    (try rw [hji12] at A5)
    have hji12_ : (if a0_0 < (wrap64 ((wrap64 (a0_1 - a0_0)) - 1)) then (wrap64 ((wrap64 (a0_1 - a0_0)) - 1)) else a0_0) = ji12 := hji12
    simp only [Option.some.injEq, Prod.mk.injEq] at H
    obtain ⟨rfl, rfl⟩ := H
    go_enter Try.func69, Try.ntmps69
    go_wp2_with (first | ((with_reducible refine gate_dst (N := 2) rfl ?_); refine box_event ?hg (N := 2) ?hd (cs := #[.int .i64 a0_0, .int .i64 a0_1]) (t := 47) ?hr ?_; (case hd => rfl); (case hg => rfl); (case hr => first | (go_simp; done) | (go_simp; rfl)); intro gb461 hg w13 hbox hb; have n0_ := zm (below_step zb hb); have n1_ := zm (hbox); have n2_ := zm (zs hg zb : w.heap.size ≤ gb461); have n3_ := zm (zs hg zb : w.heap.size ≤ gb461); clear HB; have HB := n0_; have BK461 := n1_; have GW461 := n2_; have GE461 := n3_; clear n0_ n1_ n2_ n3_; clear hb hbox hg; obtain ⟨hcz14_0, hcz14_1, hfz14_0, hfz14_1⟩ := zc2 BK461.out) | ((with_reducible refine gate_callee (f := 76) rfl ?_); refine goesA_ (some 7) Try.func76 #[.agg #[.int .i64 a0_0, .int .i64 a0_1]] rfl ?_; (with_reducible refine (impl_IsController.calls a0_0 a0_1 true _ A3.out).mono ?_); rintro e w15 ⟨rfl, hb⟩; refine ⟨_, rfl, ?_⟩; have n0_ := zm (blk_below (g := gb461) zk hb); have n1_ := zm (below_step zb hb); clear BK461; clear HB; have BK461 := n0_; have HB := n1_; clear n0_ n1_; (try clear hb); (try clear hb2); (try clear hk); (try clear hi)) | (go_at_call 98; (with_reducible refine (impl_isMostDrift.calls a1 true _ A5.out).mono ?_); rintro e w' ⟨rfl, ⟨nd, rfl⟩⟩; obtain ⟨hcz16_0, hcz16_1, hfz16_0, hfz16_1⟩ := zc2 BK461.out))
    go_ret2
    exact ⟨by first | rfl | (simp [errW_none, errW_some] <;> rfl) | (simp only [← hji12]; first | rfl | (simp [errW_none, errW_some] <;> rfl)) | (simp [*, errW_none, errW_some] <;> rfl), zb⟩
  ·
   replace c6 := Bool.eq_false_iff.mpr c6
   subst c6
   have H1 : (some (0, false)) = some (r1, r2) := by rw [if_neg (show ¬ (false = true) by decide)] at H; exact H
   clear H
   have H := H1
   clear H1
   simp only [Option.some.injEq, Prod.mk.injEq] at H
   obtain ⟨rfl, rfl⟩ := H
   go_enter Try.func69, Try.ntmps69
   go_wp2_with (first | ((with_reducible refine gate_dst (N := 2) rfl ?_); refine box_event ?hg (N := 2) ?hd (cs := #[.int .i64 a0_0, .int .i64 a0_1]) (t := 47) ?hr ?_; (case hd => rfl); (case hg => rfl); (case hr => first | (go_simp; done) | (go_simp; rfl)); intro gb461 hg w17 hbox hb; have n0_ := zm (below_step zb hb); have n1_ := zm (hbox); have n2_ := zm (zs hg zb : w.heap.size ≤ gb461); have n3_ := zm (zs hg zb : w.heap.size ≤ gb461); clear HB; have HB := n0_; have BK461 := n1_; have GW461 := n2_; have GE461 := n3_; clear n0_ n1_ n2_ n3_; clear hb hbox hg; obtain ⟨hcz18_0, hcz18_1, hfz18_0, hfz18_1⟩ := zc2 BK461.out) | ((with_reducible refine gate_callee (f := 76) rfl ?_); refine goesA_ (some 7) Try.func76 #[.agg #[.int .i64 a0_0, .int .i64 a0_1]] rfl ?_; (with_reducible refine (impl_IsController.calls a0_0 a0_1 true _ A3.out).mono ?_); rintro e w19 ⟨rfl, hb⟩; refine ⟨_, rfl, ?_⟩; have n0_ := zm (blk_below (g := gb461) zk hb); have n1_ := zm (below_step zb hb); clear BK461; clear HB; have BK461 := n0_; have HB := n1_; clear n0_ n1_; (try clear hb); (try clear hb2); (try clear hk); (try clear hi)) | (go_at_call 98; (with_reducible refine (impl_isMostDrift.calls a1 false _ A5.out).mono ?_); rintro e w' ⟨rfl, ⟨nd, rfl⟩⟩))
   go_ret2
   exact ⟨zr, zb⟩
 ·
  replace c4 := Bool.eq_false_iff.mpr c4
  subst c4
  have H1 : (some (0, false)) = some (r1, r2) := by rw [if_neg (show ¬ (false = true) by decide)] at H; exact H
  clear H
  have H := H1
  clear H1
  simp only [Option.some.injEq, Prod.mk.injEq] at H
  obtain ⟨rfl, rfl⟩ := H
  go_enter Try.func69, Try.ntmps69
  go_wp2_with (first | ((with_reducible refine gate_dst (N := 2) rfl ?_); refine box_event ?hg (N := 2) ?hd (cs := #[.int .i64 a0_0, .int .i64 a0_1]) (t := 47) ?hr ?_; (case hd => rfl); (case hg => rfl); (case hr => first | (go_simp; done) | (go_simp; rfl)); intro gb461 hg w20 hbox hb; have n0_ := zm (below_step zb hb); have n1_ := zm (hbox); have n2_ := zm (zs hg zb : w.heap.size ≤ gb461); have n3_ := zm (zs hg zb : w.heap.size ≤ gb461); clear HB; have HB := n0_; have BK461 := n1_; have GW461 := n2_; have GE461 := n3_; clear n0_ n1_ n2_ n3_; clear hb hbox hg; obtain ⟨hcz21_0, hcz21_1, hfz21_0, hfz21_1⟩ := zc2 BK461.out) | ((with_reducible refine gate_callee (f := 76) rfl ?_); refine goesA_ (some 7) Try.func76 #[.agg #[.int .i64 a0_0, .int .i64 a0_1]] rfl ?_; (with_reducible refine (impl_IsController.calls a0_0 a0_1 false _ A3.out).mono ?_); rintro e w22 ⟨rfl, hb⟩; refine ⟨_, rfl, ?_⟩; have n0_ := zm (blk_below (g := gb461) zk hb); have n1_ := zm (below_step zb hb); clear BK461; clear HB; have BK461 := n0_; have HB := n1_; clear n0_ n1_; (try clear hb); (try clear hb2); (try clear hk); (try clear hi)))
  go_ret2
  exact ⟨zr, zb⟩

/-! ### spec_SafeBound: function 70 -/
def spec_SafeBound.f (a0_0 : Int) (a0_1 : Int) (a1 : Int) : Option (Int × Bool) := (spec_tkMost.f a0_0 a0_1 a1).bind fun t465 => (if t465 = true then (if a0_1 < a1 then (some (0, false)) else ((spec_tkBound.f a0_0 a0_1).bind fun t466 => (some (t466, true)))) else (some (0, false)))
set_option maxHeartbeats 8000000 in
set_option maxRecDepth 100000 in
theorem spec_SafeBound.calls (a0_0 : Int) (a0_1 : Int) (a1 : Int) (r1 : Int) (r2 : Bool) (w : World) (h : spec_SafeBound.f a0_0 a0_1 a1 = some (r1, r2)) :
  Calls Try.prog 70 #[.agg #[.int .i64 a0_0, .int .i64 a0_1], .int .i64 a1] w fun e w' => e = .returned (.tuple #[.int .i64 r1, .bool r2]) ∧ Below w.heap.size w w' := by
 have hu47 := Try.underlying47
 have HB := zm (Below.refl w.heap.size w)
 have H : ((spec_tkMost.f a0_0 a0_1 a1).bind fun t465 => (if t465 = true then (if a0_1 < a1 then (some (0, false)) else ((spec_tkBound.f a0_0 a0_1).bind fun t466 => (some (t466, true)))) else (some (0, false)))) = some (r1, r2) := h
 clear h
 replace H := Option.bind_eq_some_iff.mp H
 obtain ⟨t465, A30, H⟩ := H
 (try dsimp only at H)
 have A3 := zm A30
 clear A30
 by_cases c4 : t465 = true
 ·
  subst c4
  have H1 : (if a0_1 < a1 then (some (0, false)) else ((spec_tkBound.f a0_0 a0_1).bind fun t466 => (some (t466, true)))) = some (r1, r2) := by rw [if_pos rfl] at H; exact H
  clear H
  have H := H1
  clear H1
  by_cases c5 : a0_1 < a1
  ·
   rw [if_pos c5] at H
   have c5b0 : decide (a0_1 < a1) = true := decide_eq_true c5
   clear c5
   simp only [Option.some.injEq, Prod.mk.injEq] at H
   obtain ⟨rfl, rfl⟩ := H
   go_enter Try.func70, Try.ntmps70
   go_wp2_with (first | ((with_reducible refine gate_dst (N := 2) rfl ?_); refine box_event ?hg (N := 2) ?hd (cs := #[.int .i64 a0_0, .int .i64 a0_1]) (t := 47) ?hr ?_; (case hd => rfl); (case hg => rfl); (case hr => first | (go_simp; done) | (go_simp; rfl)); intro gb464 hg w6 hbox hb; have n0_ := zm (below_step zb hb); have n1_ := zm (hbox); have n2_ := zm (zs hg zb : w.heap.size ≤ gb464); have n3_ := zm (zs hg zb : w.heap.size ≤ gb464); clear HB; have HB := n0_; have BK464 := n1_; have GW464 := n2_; have GE464 := n3_; clear n0_ n1_ n2_ n3_; clear hb hbox hg; obtain ⟨hcz7_0, hcz7_1, hfz7_0, hfz7_1⟩ := zc2 BK464.out) | ((with_reducible refine gate_callee (f := 93) rfl ?_); refine goesA_ (some 8) Try.func93 #[.agg #[.int .i64 a0_0, .int .i64 a0_1], .int .i64 a1] rfl ?_; (with_reducible refine (spec_tkMost.calls a0_0 a0_1 a1 true _ A3.out).mono ?_); rintro e w8 ⟨rfl, hb⟩; refine ⟨_, rfl, ?_⟩; have n0_ := zm (blk_below (g := gb464) zk hb); have n1_ := zm (below_step zb hb); clear BK464; clear HB; have BK464 := n0_; have HB := n1_; clear n0_ n1_; (try clear hb); (try clear hb2); (try clear hk); (try clear hi); obtain ⟨hcz9_0, hcz9_1, hfz9_0, hfz9_1⟩ := zc2 BK464.out))
   go_ret2
   exact ⟨zr, zb⟩
  ·
   rw [if_neg c5] at H
   have c5b0 : decide (a0_1 < a1) = false := decide_eq_false c5
   clear c5
   replace H := Option.bind_eq_some_iff.mp H
   obtain ⟨t466, A100, H⟩ := H
   (try dsimp only at H)
   have A10 := zm A100
   clear A100
   simp only [Option.some.injEq, Prod.mk.injEq] at H
   obtain ⟨rfl, rfl⟩ := H
   go_enter Try.func70, Try.ntmps70
   go_wp2_with (first | ((with_reducible refine gate_dst (N := 2) rfl ?_); refine box_event ?hg (N := 2) ?hd (cs := #[.int .i64 a0_0, .int .i64 a0_1]) (t := 47) ?hr ?_; (case hd => rfl); (case hg => rfl); (case hr => first | (go_simp; done) | (go_simp; rfl)); intro gb464 hg w11 hbox hb; have n0_ := zm (below_step zb hb); have n1_ := zm (hbox); have n2_ := zm (zs hg zb : w.heap.size ≤ gb464); have n3_ := zm (zs hg zb : w.heap.size ≤ gb464); clear HB; have HB := n0_; have BK464 := n1_; have GW464 := n2_; have GE464 := n3_; clear n0_ n1_ n2_ n3_; clear hb hbox hg; obtain ⟨hcz12_0, hcz12_1, hfz12_0, hfz12_1⟩ := zc2 BK464.out) | ((with_reducible refine gate_callee (f := 93) rfl ?_); refine goesA_ (some 8) Try.func93 #[.agg #[.int .i64 a0_0, .int .i64 a0_1], .int .i64 a1] rfl ?_; (with_reducible refine (spec_tkMost.calls a0_0 a0_1 a1 true _ A3.out).mono ?_); rintro e w13 ⟨rfl, hb⟩; refine ⟨_, rfl, ?_⟩; have n0_ := zm (blk_below (g := gb464) zk hb); have n1_ := zm (below_step zb hb); clear BK464; clear HB; have BK464 := n0_; have HB := n1_; clear n0_ n1_; (try clear hb); (try clear hb2); (try clear hk); (try clear hi); obtain ⟨hcz14_0, hcz14_1, hfz14_0, hfz14_1⟩ := zc2 BK464.out) | ((with_reducible refine gate_callee (f := 94) rfl ?_); refine goesA_ (some 17) Try.func94 #[.agg #[.int .i64 a0_0, .int .i64 a0_1]] rfl ?_; (with_reducible refine (spec_tkBound.calls a0_0 a0_1 t466 _ A10.out).mono ?_); rintro e w15 ⟨rfl, hb⟩; refine ⟨_, rfl, ?_⟩; have n0_ := zm (blk_below (g := gb464) zk hb); have n1_ := zm (below_step zb hb); clear BK464; clear HB; have BK464 := n0_; have HB := n1_; clear n0_ n1_; (try clear hb); (try clear hb2); (try clear hk); (try clear hi)))
   go_ret2
   exact ⟨zr, zb⟩
 ·
  replace c4 := Bool.eq_false_iff.mpr c4
  subst c4
  have H1 : (some (0, false)) = some (r1, r2) := by rw [if_neg (show ¬ (false = true) by decide)] at H; exact H
  clear H
  have H := H1
  clear H1
  simp only [Option.some.injEq, Prod.mk.injEq] at H
  obtain ⟨rfl, rfl⟩ := H
  go_enter Try.func70, Try.ntmps70
  go_wp2_with (first | ((with_reducible refine gate_dst (N := 2) rfl ?_); refine box_event ?hg (N := 2) ?hd (cs := #[.int .i64 a0_0, .int .i64 a0_1]) (t := 47) ?hr ?_; (case hd => rfl); (case hg => rfl); (case hr => first | (go_simp; done) | (go_simp; rfl)); intro gb464 hg w16 hbox hb; have n0_ := zm (below_step zb hb); have n1_ := zm (hbox); have n2_ := zm (zs hg zb : w.heap.size ≤ gb464); have n3_ := zm (zs hg zb : w.heap.size ≤ gb464); clear HB; have HB := n0_; have BK464 := n1_; have GW464 := n2_; have GE464 := n3_; clear n0_ n1_ n2_ n3_; clear hb hbox hg; obtain ⟨hcz17_0, hcz17_1, hfz17_0, hfz17_1⟩ := zc2 BK464.out) | ((with_reducible refine gate_callee (f := 93) rfl ?_); refine goesA_ (some 8) Try.func93 #[.agg #[.int .i64 a0_0, .int .i64 a0_1], .int .i64 a1] rfl ?_; (with_reducible refine (spec_tkMost.calls a0_0 a0_1 a1 false _ A3.out).mono ?_); rintro e w18 ⟨rfl, hb⟩; refine ⟨_, rfl, ?_⟩; have n0_ := zm (blk_below (g := gb464) zk hb); have n1_ := zm (below_step zb hb); clear BK464; clear HB; have BK464 := n0_; have HB := n1_; clear n0_ n1_; (try clear hb); (try clear hb2); (try clear hk); (try clear hi)))
  go_ret2
  exact ⟨zr, zb⟩

/-! ### spec_l1Cur_offset: function 113 -/
def spec_l1Cur_offset.f (s0_0 : List Int) (s0_1 : Int) (s0_2 : Int) : Option (Int × Int × Int) := (spec_l1Cur_pick.f s0_0 s0_1 s0_2 200).bind fun bt467 => ((spec_l1Cur_among.f s0_0 bt467.2.1 bt467.2.2 (([1001, (-1001)] : List Int))).bind fun bt473 => ((spec_l1Cur_among.f s0_0 bt473.2.1 bt473.2.2 (([0, 0, 5, (-20), wrap64 (bt467.1 - 100), 1000, (-1000), bt473.1] : List Int))).bind fun bt479 => (some (bt479.1, bt479.2.1, bt479.2.2))))
set_option maxHeartbeats 8000000 in
set_option maxRecDepth 100000 in
theorem spec_l1Cur_offset.calls (g : Nat) (s0_0 : List Int) (s0_1 : Int) (s0_2 : Int) (r1 : Int) (r2 : Int) (r3 : Int) (w0 w : World) (hI : IsS115 w0 w g s0_0 s0_1 s0_2) (hB : Below w0.heap.size w0 w) (h : spec_l1Cur_offset.f s0_0 s0_1 s0_2 = some (r1, r2, r3)) :
  Calls Try.prog 113 #[.pointer (some ⟨g, 0, none⟩)] w fun e w' => e = .returned (.int .i64 r1) ∧ IsS115 w0 w' g s0_0 r2 r3 ∧ Below w0.heap.size w0 w' ∧ KeepBut w w' g none := by
 have HI0 := zm hI
 have GHI0 := zm (IsS115.ge HI0.out)
 have HK := zm (KeepBut.refl w g none)
 have HL := zm hB.size
 clear hI
 have HW0 := zm hB.size
 have HB := zm hB
 clear hB
 have H : ((spec_l1Cur_pick.f s0_0 s0_1 s0_2 200).bind fun bt467 => ((spec_l1Cur_among.f s0_0 bt467.2.1 bt467.2.2 (([1001, (-1001)] : List Int))).bind fun bt473 => ((spec_l1Cur_among.f s0_0 bt473.2.1 bt473.2.2 (([0, 0, 5, (-20), wrap64 (bt467.1 - 100), 1000, (-1000), bt473.1] : List Int))).bind fun bt479 => (some (bt479.1, bt479.2.1, bt479.2.2))))) = some (r1, r2, r3) := h
 clear h
 replace H := Option.bind_eq_some_iff.mp H
 obtain ⟨⟨t467, t468, t469⟩, A20, H⟩ := H
 (try dsimp only at H)
 have A2 := zm A20
 clear A20
 obtain ⟨y470, hy470⟩ : ∃ y_ : List Int, y_ = (([1001, (-1001)] : List Int)) := ⟨_, rfl⟩
 replace H : ((spec_l1Cur_among.f s0_0 t468 t469 y470).bind fun bt473 => ((spec_l1Cur_among.f s0_0 bt473.2.1 bt473.2.2 (([0, 0, 5, (-20), wrap64 (t467 - 100), 1000, (-1000), bt473.1] : List Int))).bind fun bt479 => (some (bt479.1, bt479.2.1, bt479.2.2)))) = some (r1, r2, r3) := by first | (rw [hy470]; with_reducible exact H) | (have H2_ := (Option.bind_some _ _).symm.trans H; rw [hy470]; with_reducible exact H2_) | (have H2_ := (Option.bind_some _ _).symm.trans H; with_reducible exact H2_) | with_reducible exact H | (rw [hy470]; exact H) | exact H
 have Ny470 := zm hy470
 clear hy470
 replace H := Option.bind_eq_some_iff.mp H
 obtain ⟨⟨t473, t474, t475⟩, A30, H⟩ := H
 (try dsimp only at H)
 have A3 := zm A30
 clear A30
 obtain ⟨y476, hy476⟩ : ∃ y_ : List Int, y_ = (([0, 0, 5, (-20), wrap64 (t467 - 100), 1000, (-1000), t473] : List Int)) := ⟨_, rfl⟩
 replace H : ((spec_l1Cur_among.f s0_0 t474 t475 y476).bind fun bt479 => (some (bt479.1, bt479.2.1, bt479.2.2))) = some (r1, r2, r3) := by first | (rw [hy476]; with_reducible exact H) | (have H2_ := (Option.bind_some _ _).symm.trans H; rw [hy476]; with_reducible exact H2_) | (have H2_ := (Option.bind_some _ _).symm.trans H; with_reducible exact H2_) | with_reducible exact H | (rw [hy476]; exact H) | exact H
 have Ny476 := zm hy476
 clear hy476
 replace H := Option.bind_eq_some_iff.mp H
 obtain ⟨⟨t479, t480, t481⟩, A40, H⟩ := H
 (try dsimp only at H)
 have A4 := zm A40
 clear A40
 simp only [Option.some.injEq, Prod.mk.injEq] at H
 obtain ⟨rfl, rfl, rfl⟩ := H
 go_enter Try.func113, Try.ntmps113
 go_wp2_with (first | ((with_reducible refine gate_callee (f := 121) rfl ?_); refine goesA_ (some 5) Try.func121 #[.pointer (some ⟨g, 0, none⟩), .int .i64 200] rfl ?_; (with_reducible refine (spec_l1Cur_pick.calls g s0_0 s0_1 s0_2 200 t467 t468 t469 w0 _ ?side1 ?side2 A2.out).mono ?_); (case side1 => repeat (first | (with_reducible first | exact HI0.out | apply IsS115.alloc | apply IsS115.drewN | apply IsS115.drew | apply IsS115.set_1 | apply IsS115.set_2) | exact HI0.out)); (case side2 => repeat (first | (with_reducible first | exact HB.out | apply below_alloc | apply pw_below_drewN | apply below_drew1 | refine below_set ?_ (IsS115.ge HI0.out)) | exact HB.out)); rintro e w5 ⟨rfl, hi, hb, hk⟩; refine ⟨_, rfl, ?_⟩; have n0_ := zm (KeepBut.trans zh hk (.inl rfl)); have n1_ := zm (hb); have n2_ := zm (hi); clear HK; clear HB; clear HI0; have HK := n0_; have HB := n1_; have HI0 := n2_; clear n0_ n1_ n2_; (try clear hb); (try clear hb2); (try clear hk); (try clear hi)) | ((with_reducible refine gate_dst (N := 8) rfl ?_); refine Kd.R_lit (Kd.int .i64) _ 3 ?hg (N := 8) ?hd (xs := ([1001, (-1001)] : List Int)) (inner := [.int .i64 1001, .int .i64 (-1001)]) (ok := fun _ => True) (okp := fun _ => True) ?hr ?hp (fun _ hk => hk) trivial (Below.refl _ _) (Nat.le_refl _) (by simp) ?_; (case hd => rfl); (case hg => rfl); (case hr => first | (go_simp; done) | (go_simp; rfl)); (case hp => exact (Reps.one (show Kd.M (Kd.int .i64) _ _ _ 1001 [.int .i64 1001] from rfl) (Reps.one (show Kd.M (Kd.int .i64) _ _ _ (-1001) [.int .i64 (-1001)] from rfl) (Reps.none _ _)))); intro v471 w6 ho7 hb hg_ hnew_; clear hg_ hnew_; (first | rw [← Ny470.out] at ho7 | (simp only [Int.reduceToNat] at ho7; rw [← Ny470.out] at ho7)); have n0_ := zm (Kd.R_lower ho7 (keep_size (w := w) (g := g) (row := none) zh)); have n1_ := zm (IsS115.below z115i hb); have n2_ := zm (KeepBut.trans zh (KeepBut.of_below hb g none) (.inl rfl)); have n3_ := zm (below_step zb hb); clear HI0; clear HK; clear HB; have HO472 := n0_; have HI0 := n1_; have HK := n2_; have HB := n3_; clear n0_ n1_ n2_ n3_; clear hb ho7; obtain ⟨Ao8, co8, eo8⟩ := Kd.R_slice HO472.out; subst eo8) | ((with_reducible refine gate_callee (f := 120) rfl ?_); refine goesA_ (some 9) Try.func120 #[.pointer (some ⟨g, 0, none⟩), .slice Ao8 y470.length co8] rfl ?_; (with_reducible refine (spec_l1Cur_among.calls g s0_0 t468 t469 _ _ y470 t473 t474 t475 w0 _ ?side1 ?side2 ?side3 ?side4 ?side5 A3.out).mono ?_); (case side1 => repeat (first | (with_reducible first | exact HI0.out | apply IsS115.alloc | apply IsS115.drewN | apply IsS115.drew | apply IsS115.set_1 | apply IsS115.set_2) | exact HI0.out)); (case side2 => repeat (first | (with_reducible first | exact HB.out | apply below_alloc | apply pw_below_drewN | apply below_drew1 | refine below_set ?_ (IsS115.ge HI0.out)) | exact HB.out)); (case side3 => repeat (first | exact (Kd.R_reads' HO472.out).2.2 | (with_reducible refine Kd.C_alloc ?_ _) | (with_reducible refine Kd.C_drewN ?_ _) | (with_reducible refine Kd.C_drew ?_))); (case side4 => exact (Kd.R_reads' HO472.out).2.1); (case side5 => exact far_slice (IsS115.own_ne HI0.out HO472.out (by decide))); rintro e w9 ⟨rfl, hi, hb, hk⟩; refine ⟨_, rfl, ?_⟩; have n0_ := zm (Kd.R_mono (Kd.R_keep (IsS115.apart (show IsS115 w0 _ g s0_0 t468 t469 from z115i) (by (with_reducible repeat (first | apply Kd.R_alloc | apply Kd.R_drewN | apply Kd.R_drew)); exact HO472.out) (by decide)) hk (fun _ h => h.2)) (fun _ h => h.1)); have n1_ := zm (KeepBut.trans zh hk (.inl rfl)); have n2_ := zm (hb); have n3_ := zm (hi); clear HO472; clear HK; clear HB; clear HI0; have HO472 := n0_; have HK := n1_; have HB := n2_; have HI0 := n3_; clear n0_ n1_ n2_ n3_; (try clear hb); (try clear hb2); (try clear hk); (try clear hi)) | ((with_reducible refine gate_dst (N := 10) rfl ?_); refine Kd.R_lit (Kd.int .i64) _ 3 ?hg (N := 10) ?hd (xs := ([0, 0, 5, (-20), wrap64 (t467 - 100), 1000, (-1000), t473] : List Int)) (inner := [.int .i64 0, .int .i64 0, .int .i64 5, .int .i64 (-20), .int .i64 (wrap64 (t467 - 100)), .int .i64 1000, .int .i64 (-1000), .int .i64 t473]) (ok := fun _ => True) (okp := fun _ => True) ?hr ?hp (fun _ hk => hk) trivial (Below.refl _ _) (Nat.le_refl _) (by simp) ?_; (case hd => rfl); (case hg => rfl); (case hr => first | (go_simp; done) | (go_simp; rfl)); (case hp => exact (Reps.one (show Kd.M (Kd.int .i64) _ _ _ 0 [.int .i64 0] from rfl) (Reps.one (show Kd.M (Kd.int .i64) _ _ _ 0 [.int .i64 0] from rfl) (Reps.one (show Kd.M (Kd.int .i64) _ _ _ 5 [.int .i64 5] from rfl) (Reps.one (show Kd.M (Kd.int .i64) _ _ _ (-20) [.int .i64 (-20)] from rfl) (Reps.one (show Kd.M (Kd.int .i64) _ _ _ (wrap64 (t467 - 100)) [.int .i64 (wrap64 (t467 - 100))] from rfl) (Reps.one (show Kd.M (Kd.int .i64) _ _ _ 1000 [.int .i64 1000] from rfl) (Reps.one (show Kd.M (Kd.int .i64) _ _ _ (-1000) [.int .i64 (-1000)] from rfl) (Reps.one (show Kd.M (Kd.int .i64) _ _ _ t473 [.int .i64 t473] from rfl) (Reps.none _ _)))))))))); intro v477 w10 ho11 hb hg_ hnew_; clear hg_ hnew_; (first | rw [← Ny476.out] at ho11 | (simp only [Int.reduceToNat] at ho11; rw [← Ny476.out] at ho11)); have n0_ := zm (Kd.R_elder' (by (with_reducible repeat (first | apply Kd.R_alloc | apply Kd.R_drewN | apply Kd.R_drew)); exact HO472.out) (Kd.R_base ho11) hb); have n1_ := zm (Kd.R_lower (Kd.R_new' ho11 (Kd.R_lt (by (with_reducible repeat (first | apply Kd.R_alloc | apply Kd.R_drewN | apply Kd.R_drew)); exact HO472.out))) (keep_size (w := w) (g := g) (row := none) zh)); have n2_ := zm (IsS115.below z115i hb); have n3_ := zm (KeepBut.trans zh (KeepBut.of_below hb g none) (.inl rfl)); have n4_ := zm (below_step zb hb); clear HO472; clear HI0; clear HK; clear HB; have HO472 := n0_; have HO478 := n1_; have HI0 := n2_; have HK := n3_; have HB := n4_; clear n0_ n1_ n2_ n3_ n4_; clear hb ho11; obtain ⟨Ao12, co12, eo12⟩ := Kd.R_slice HO478.out; subst eo12) | ((with_reducible refine gate_callee (f := 120) rfl ?_); refine goesA_ (some 11) Try.func120 #[.pointer (some ⟨g, 0, none⟩), .slice Ao12 y476.length co12] rfl ?_; (with_reducible refine (spec_l1Cur_among.calls g s0_0 t474 t475 _ _ y476 t479 t480 t481 w0 _ ?side1 ?side2 ?side3 ?side4 ?side5 A4.out).mono ?_); (case side1 => repeat (first | (with_reducible first | exact HI0.out | apply IsS115.alloc | apply IsS115.drewN | apply IsS115.drew | apply IsS115.set_1 | apply IsS115.set_2) | exact HI0.out)); (case side2 => repeat (first | (with_reducible first | exact HB.out | apply below_alloc | apply pw_below_drewN | apply below_drew1 | refine below_set ?_ (IsS115.ge HI0.out)) | exact HB.out)); (case side3 => repeat (first | exact (Kd.R_reads' HO478.out).2.2 | (with_reducible refine Kd.C_alloc ?_ _) | (with_reducible refine Kd.C_drewN ?_ _) | (with_reducible refine Kd.C_drew ?_))); (case side4 => exact (Kd.R_reads' HO478.out).2.1); (case side5 => exact far_slice (IsS115.own_ne HI0.out HO478.out (by decide))); rintro e w13 ⟨rfl, hi, hb, hk⟩; refine ⟨_, rfl, ?_⟩; have n0_ := zm (Kd.R_mono (Kd.R_keep (IsS115.apart (show IsS115 w0 _ g s0_0 t474 t475 from z115i) (by (with_reducible repeat (first | apply Kd.R_alloc | apply Kd.R_drewN | apply Kd.R_drew)); exact HO472.out) (by decide)) hk (fun _ h => h.2)) (fun _ h => h.1)); have n1_ := zm (Kd.R_mono (Kd.R_keep (IsS115.apart (show IsS115 w0 _ g s0_0 t474 t475 from z115i) (by (with_reducible repeat (first | apply Kd.R_alloc | apply Kd.R_drewN | apply Kd.R_drew)); exact HO478.out) (by decide)) hk (fun _ h => h.2)) (fun _ h => h.1)); have n2_ := zm (KeepBut.trans zh hk (.inl rfl)); have n3_ := zm (hb); have n4_ := zm (hi); clear HO472; clear HO478; clear HK; clear HB; clear HI0; have HO472 := n0_; have HO478 := n1_; have HK := n2_; have HB := n3_; have HI0 := n4_; clear n0_ n1_ n2_ n3_ n4_; (try clear hb); (try clear hb2); (try clear hk); (try clear hi)))
 go_ret
 exact ⟨zr, z115i, zb, zh⟩

/-! ### spec_l1Cur_one: function 139 -/
def spec_l1Cur_one.f (s0_0 : List Int) (s0_1 : Int) (s0_2 : Int) (a1 : Int) : Option (Bool × Int × Int) := (spec_l1Cur_pick.f s0_0 s0_1 s0_2 a1).bind fun bt482 => (some ((bt482.1 == 0), bt482.2.1, bt482.2.2))
set_option maxHeartbeats 8000000 in
set_option maxRecDepth 100000 in
theorem spec_l1Cur_one.calls (g : Nat) (s0_0 : List Int) (s0_1 : Int) (s0_2 : Int) (a1 : Int) (r1 : Bool) (r2 : Int) (r3 : Int) (w0 w : World) (hI : IsS115 w0 w g s0_0 s0_1 s0_2) (hB : Below w0.heap.size w0 w) (h : spec_l1Cur_one.f s0_0 s0_1 s0_2 a1 = some (r1, r2, r3)) :
  Calls Try.prog 139 #[.pointer (some ⟨g, 0, none⟩), .int .i64 a1] w fun e w' => e = .returned (.bool r1) ∧ IsS115 w0 w' g s0_0 r2 r3 ∧ Below w0.heap.size w0 w' ∧ KeepBut w w' g none := by
 have HI0 := zm hI
 have GHI0 := zm (IsS115.ge HI0.out)
 have HK := zm (KeepBut.refl w g none)
 have HL := zm hB.size
 clear hI
 have HW0 := zm hB.size
 have HB := zm hB
 clear hB
 have H : ((spec_l1Cur_pick.f s0_0 s0_1 s0_2 a1).bind fun bt482 => (some ((bt482.1 == 0), bt482.2.1, bt482.2.2))) = some (r1, r2, r3) := h
 clear h
 replace H := Option.bind_eq_some_iff.mp H
 obtain ⟨⟨t482, t483, t484⟩, A30, H⟩ := H
 (try dsimp only at H)
 have A3 := zm A30
 clear A30
 simp only [Option.some.injEq, Prod.mk.injEq] at H
 obtain ⟨rfl, rfl, rfl⟩ := H
 go_enter Try.func139, Try.ntmps139
 go_wp2_with (first | ((with_reducible refine gate_callee (f := 121) rfl ?_); refine goesA_ (some 7) Try.func121 #[.pointer (some ⟨g, 0, none⟩), .int .i64 a1] rfl ?_; (with_reducible refine (spec_l1Cur_pick.calls g s0_0 s0_1 s0_2 a1 t482 t483 t484 w0 _ ?side1 ?side2 A3.out).mono ?_); (case side1 => repeat (first | (with_reducible first | exact HI0.out | apply IsS115.alloc | apply IsS115.drewN | apply IsS115.drew | apply IsS115.set_1 | apply IsS115.set_2) | exact HI0.out)); (case side2 => repeat (first | (with_reducible first | exact HB.out | apply below_alloc | apply pw_below_drewN | apply below_drew1 | refine below_set ?_ (IsS115.ge HI0.out)) | exact HB.out)); rintro e w4 ⟨rfl, hi, hb, hk⟩; refine ⟨_, rfl, ?_⟩; have n0_ := zm (KeepBut.trans zh hk (.inl rfl)); have n1_ := zm (hb); have n2_ := zm (hi); clear HK; clear HB; clear HI0; have HK := n0_; have HB := n1_; have HI0 := n2_; clear n0_ n1_ n2_; (try clear hb); (try clear hb2); (try clear hk); (try clear hi)))
 go_ret
 exact ⟨zr, z115i, zb, zh⟩

end Go.Proofs.Ytepkedhmbfkenaa.PTb
