/- For all drawn sheets, events lead back to the sheet, each hole has two, and no step has more open tracks than told. (P15): the plain part: what the program computes and what the reference computes agree, for all arguments. No conditions beyond the arguments' own kinds. -/
import Derived.Test.YtkfledgkhgcicaaGreatPFgx0
import Derived.Test.YtkfledgkhgcicaaGreatPFgx1
import Derived.Test.YtkfledgkhgcicaaGreatPFgx2
import Derived.Test.YtkfledgkhgcicaaGreatPFgx3
import Derived.Test.YtkfledgkhgcicaaGreatPFgx4
import Derived.Test.YtkfledgkhgcicaaGreatPFgx5
import Derived.Test.YtkfledgkhgcicaaGreatPFgx6
import Derived.Test.YtkfledgkhgcicaaGreatPFgx7
import Derived.Test.YtkfledgkhgcicaaGreatPFgx8
import Derived.Test.YtkfledgkhgcicaaGreatPFgx9
import Derived.Test.YtkfledgkhgcicaaGreatPFgx10
import Derived.Test.YtkfledgkhgcicaaGreatPFgx11
import Derived.Test.YtkfledgkhgcicaaGreatPFgx12
import Derived.Test.YtkfledgkhgcicaaGreatPFgx13
import Derived.Test.YtkfledgkhgcicaaGreatPFgx14
import Derived.Test.YtkfledgkhgcicaaGreatPFgx15
import Derived.Test.YtkfledgkhgcicaaGreatPFgx16
import Derived.Test.YtkfledgkhgcicaaGreatPFgx17
import Derived.Test.YtkfledgkhgcicaaGreatPFgx19
import Derived.Test.YtkfledgkhgcicaaGreatOpn
namespace Go.Proofs.YtkfledgkhgcicaaGreat.Pure
open Go.RowKit Go.Proofs.YtkfledgkhgcicaaGreat.PFg Go.Proofs.YtkfledgkhgcicaaGreatW.PrintWords Go.Proofs.YtkfledgkhgcicaaGreatW.PrintLast Go.Proofs.YtkfledgkhgcicaaGreatW.PrintMore
theorem LeO.ite {α : Type} {c : Prop} [Decidable c] {a a' b b' : Option α} (h : LeO a a') (h' : LeO b b') : LeO (if c then a else b) (if c then a' else b') := by split <;> assumption
theorem Q3.mono_l : ∀ k, (∀ y0 y1 y2 y3, LeO (Q3.l0 k y0 y1 y2 y3) (Q3.l0 (k + 1) y0 y1 y2 y3)) ∧ (∀ y0 y1 y2 y3 y4 y5 y6 y7 y8, LeO (Q3.j1 k y0 y1 y2 y3 y4 y5 y6 y7 y8) (Q3.j1 (k + 1) y0 y1 y2 y3 y4 y5 y6 y7 y8)) ∧ (∀ y0 y1 y2 y3 y4 y5 y6 y7 y8 y9, LeO (Q3.l1 k y0 y1 y2 y3 y4 y5 y6 y7 y8 y9) (Q3.l1 (k + 1) y0 y1 y2 y3 y4 y5 y6 y7 y8 y9))
  | 0 => ⟨fun _ _ _ _ r h => by simp [Q3.l0] at h, fun _ _ _ _ _ _ _ _ _ r h => by simp [Q3.j1] at h, fun _ _ _ _ _ _ _ _ _ _ r h => by simp [Q3.l1] at h⟩
  | k + 1 => by
    obtain ⟨ih0, ih1, ih2⟩ := Q3.mono_l k
    refine ⟨?_, ?_, ?_⟩
    · intro y0 y1 y2 y3
      unfold Q3.l0
      repeat' first
      | (with_reducible exact ih0 _ _ _ _)
      | (with_reducible exact ih1 _ _ _ _ _ _ _ _ _)
      | (with_reducible exact ih2 _ _ _ _ _ _ _ _ _ _)
      | (with_reducible exact LeO.refl _)
      | (with_reducible exact LeO.none _)
      | (with_reducible refine LeO.ite ?_ ?_)
      | (with_reducible refine LeO.bind ?_ (fun _ => ?_))
      | exact ih0 _ _ _ _
      | exact ih1 _ _ _ _ _ _ _ _ _
      | exact ih2 _ _ _ _ _ _ _ _ _ _
      | exact LeO.none _
      | refine LeO.ite ?_ ?_
      | refine LeO.bind ?_ (fun _ => ?_)
    · intro y0 y1 y2 y3 y4 y5 y6 y7 y8
      unfold Q3.j1
      repeat' first
      | (with_reducible exact ih0 _ _ _ _)
      | (with_reducible exact ih1 _ _ _ _ _ _ _ _ _)
      | (with_reducible exact ih2 _ _ _ _ _ _ _ _ _ _)
      | (with_reducible exact LeO.refl _)
      | (with_reducible exact LeO.none _)
      | (with_reducible refine LeO.ite ?_ ?_)
      | (with_reducible refine LeO.bind ?_ (fun _ => ?_))
      | exact ih0 _ _ _ _
      | exact ih1 _ _ _ _ _ _ _ _ _
      | exact ih2 _ _ _ _ _ _ _ _ _ _
      | exact LeO.none _
      | refine LeO.ite ?_ ?_
      | refine LeO.bind ?_ (fun _ => ?_)
    · intro y0 y1 y2 y3 y4 y5 y6 y7 y8 y9
      unfold Q3.l1
      repeat' first
      | (with_reducible exact ih0 _ _ _ _)
      | (with_reducible exact ih1 _ _ _ _ _ _ _ _ _)
      | (with_reducible exact ih2 _ _ _ _ _ _ _ _ _ _)
      | (with_reducible exact LeO.refl _)
      | (with_reducible exact LeO.none _)
      | (with_reducible refine LeO.ite ?_ ?_)
      | (with_reducible refine LeO.bind ?_ (fun _ => ?_))
      | exact ih0 _ _ _ _
      | exact ih1 _ _ _ _ _ _ _ _ _
      | exact ih2 _ _ _ _ _ _ _ _ _ _
      | exact LeO.none _
      | refine LeO.ite ?_ ?_
      | refine LeO.bind ?_ (fun _ => ?_)
theorem Q3.mono : ∀ a0 k, LeO (Q3.f k a0) (Q3.f (k + 1) a0) := by
  intro a0 k
  obtain ⟨ih0, ih1, ih2⟩ := Q3.mono_l k
  unfold Q3.f
  repeat' first
      | (with_reducible exact ih0 _ _ _ _)
      | (with_reducible exact ih1 _ _ _ _ _ _ _ _ _)
      | (with_reducible exact ih2 _ _ _ _ _ _ _ _ _ _)
      | (with_reducible exact LeO.refl _)
      | (with_reducible exact LeO.none _)
      | (with_reducible refine LeO.ite ?_ ?_)
      | (with_reducible refine LeO.bind ?_ (fun _ => ?_))
      | exact ih0 _ _ _ _
      | exact ih1 _ _ _ _ _ _ _ _ _
      | exact ih2 _ _ _ _ _ _ _ _ _ _
      | exact LeO.none _
      | refine LeO.ite ?_ ?_
      | refine LeO.bind ?_ (fun _ => ?_)
theorem C9 {x : Int} (h0 : -9223372036854775808 ≤ x) (h1 : x ≤ 9223372036854775807) : wrap64 x = x := by unfold wrap64; omega
theorem o8 {α : Type} {c : Prop} [Decidable c] {g f : Nat → Option α} {r : α} (h : c) (e : Ev g r) : Ev (fun k => if c then g k else f k) r := by
 simp only [if_pos h]; exact e
theorem Y3 {α : Type} {c : Prop} [Decidable c] {g f : Nat → Option α} {r : α} (h : ¬ c) (e : Ev f r) : Ev (fun k => if c then g k else f k) r := by
 simp only [if_neg h]; exact e
theorem evC {α β : Type} {o : Option α} {f : Nat → α → Option β} {a : α} {r : β} (h : o = some a) (e : Ev (fun n => f n a) r) : Ev (fun n => o.bind (f n)) r := by
 subst h; exact e
theorem I4 {α : Type} {r q : α} (h : r = q) : Ev (fun _ => some r) q := by subst h; exact Ev.now r
theorem q1k {α : Type} {g : Nat → Option α} {r q : α} (h : Ev g r) (e : r = q) : Ev g q := e ▸ h
theorem q2a {α : Type} {c : Prop} [Decidable c] {g f : Nat → Option α} {r q : α} (h : c → Ev g r) (h' : ¬ c → Ev f q) : Ev (fun k => if c then g k else f k) (if c then r else q) := by
 by_cases hc : c
 ·simp only [if_pos hc]; exact h hc
 ·simp only [if_neg hc]; exact h' hc
theorem q0i {α : Type} {c : Prop} [Decidable c] {g f : Nat → Option α} {r : α} (h : c → Ev g r) (h' : ¬ c → Ev f r) : Ev (fun k => if c then g k else f k) r := by
 by_cases hc : c
 ·simp only [if_pos hc]; exact h hc
 ·simp only [if_neg hc]; exact h' hc
theorem j02 {p : Prop} [Decidable p] (h : p) : some true = some (decide p) := by rw [decide_eq_true h]
theorem q3p {p : Prop} [Decidable p] (h : ¬ p) : some false = some (decide p) := by rw [decide_eq_false h]
theorem q53 {p q : Prop} [Decidable p] [Decidable q] (h : p ↔ q) : some (decide p) = some (decide q) := by rw [decide_eq_decide.mpr h]
theorem v8l {p : Prop} [Decidable p] (h : ¬ p) : false = decide p := by rw [decide_eq_false h]
theorem v96 {p q : Prop} [Decidable p] [Decidable q] (h : p ↔ q) : decide p = decide q := decide_eq_decide.mpr h
theorem v3w {α : Type} {p : α → Bool} {x : α} {suf : List α} {q : Bool} (h : p x = false) : false = ((x :: suf).all p && q) := by simp [h]
theorem q5w {α : Type} {p : α → Bool} {x : α} {suf : List α} {q : Bool} (h : p x = true) : (suf.all p && q) = ((x :: suf).all p && q) := by simp [h]
theorem q08 {α : Type} {l pre : List α} (h : l = pre ++ []) : ¬ ((pre.length : Int) < (l.length : Int)) := by subst h; simp
theorem F6 {α : Type} {l pre suf : List α} {x : α} (h : l = pre ++ x :: suf) (hl : l.length ≤ 4611686018427387904) (z : α) :
  (pre.length : Int) < (l.length : Int) ∧ (0 : Int) ≤ (pre.length : Int) ∧ wrap64 ((pre.length : Int) + 1) = ((pre ++ [x]).length : Int) ∧ l.getD (pre.length : Int).toNat z = x ∧ l = (pre ++ [x]) ++ suf := by
 subst h
 simp at hl
 refine ⟨by simp; omega, by omega, ?_, by simp, by simp⟩
 rw [C9 (by omega) (by omega)]; simp
theorem q5e (a b c : Int) : K9.f a b c = some (decide (b ≤ a ∧ a ≤ c)) := by
 unfold K9.f
 split
 ·exact q53 (by omega)
 ·exact q3p (by omega)
theorem v7a (a b : Int) : mx a b = max a b := by unfold mx; omega
def hole (x : S48) : Prop := 0 ≤ x.f0 ∧ x.f0 ≤ 19 ∧ 0 ≤ x.f1 ∧ x.f1 < x.f2 ∧ x.f2 ≤ 2000
instance (x : S48) : Decidable (hole x) := by unfold hole; exact inferInstance
def hbef (a b : S48) : Prop := a.f1 < b.f1 ∨ (a.f1 = b.f1 ∧ a.f0 < b.f0)
instance (a b : S48) : Decidable (hbef a b) := by unfold hbef; exact inferInstance
def hfree (x y : S48) : Bool := !decide (y.f0 = x.f0 ∧ y.f2 ≥ x.f1)
def q1p (pre : List S48) (x : S48) : Bool := decide (hole x) && (decide (pre = [] ∨ hbef (pre.getD (pre.length - 1) z48) x) && pre.all (hfree x))
def D9 : List S48 → List S48 → Bool
 | _, [] => true
 | pre, x :: suf => q1p pre x && D9 (pre ++ [x]) suf
def V8 (l : List S48) : Bool := D9 [] l && decide (l.length ≤ 60)
theorem v3p (x : S48) : q0v.f x.f0 x.f1 x.f2 = some (decide (hole x)) := by
 unfold q0v.f; simp only [q5e, Option.bind_some, decide_eq_true_eq]
 split
 ·split
  ·rw [C9 (by omega) (by omega)]; exact q53 (by unfold hole; omega)
  ·exact q3p (by unfold hole; omega)
 ·exact q3p (by unfold hole; omega)
theorem v4g (x : S48) : q0u.f x.f0 x.f1 x.f2 = some (decide (hole x)) := by
 unfold q0u.f q03.f
 by_cases c : x.f0 ≥ 0
 ·rw [if_pos c]; simp only [Option.bind_some, decide_eq_true_eq]
  split
  ·split
   ·split
    ·exact q53 (by unfold hole; omega)
    ·exact q3p (by unfold hole; omega)
   ·exact q3p (by unfold hole; omega)
  ·exact q3p (by unfold hole; omega)
 ·rw [if_neg c]; simp only [Option.bind_some, Bool.false_eq_true, if_false]
  exact q3p (by unfold hole; omega)
theorem q65 (a b : S48) : C8.f a.f0 a.f1 a.f2 b.f0 b.f1 b.f2 = some (decide (hbef a b)) := by
 unfold C8.f
 split
 ·exact j02 (by unfold hbef; omega)
 ·split
  ·exact q53 (by unfold hbef; omega)
  ·exact q3p (by unfold hbef; omega)
theorem v0w (a b : S48) : U9.f a.f0 a.f1 a.f2 b.f0 b.f1 b.f2 = some (decide (hbef a b)) := by
 unfold U9.f
 split
 ·exact q53 (by unfold hbef; omega)
 ·exact q53 (by unfold hbef; omega)
theorem q5u {x y : S48} (h : ¬ (y.f0 = x.f0 ∧ y.f2 ≥ x.f1)) : hfree x y = true := by unfold hfree; rw [decide_eq_false h]; rfl
theorem v1x {x y : S48} (h : y.f0 = x.f0 ∧ y.f2 ≥ x.f1) : hfree x y = false := by unfold hfree; rw [decide_eq_true h]; rfl
theorem v3o (l : List S48) (i : Int) (x : S48) (l' : List S48) (n : Int) (q : Bool) (hq : Ev (fun k => Q7.l0 k l l' n (wrap64 (i + 1))) q) (p : List S48) (hl : p.length ≤ 1048576) :
  ∀ (suf pre : List S48), p = pre ++ suf → Ev (fun k => Q7.l1 k l l' n i p (p.length : Int) (pre.length : Int) x.f0 x.f1 x.f2) (suf.all (hfree x) && q) := by
 intro suf
 induction suf with
 | nil =>
  intro pre h
  refine Ev.step (fun k => Q7.l1.eq_2 ..) ?_
  simp only [q08 h, if_false]
  exact q1k hq (by simp)
 | cons y suf ih =>
  intro pre h
  obtain ⟨h1, h2, h3, h4, h5⟩ := F6 h (by omega) z48
  refine Ev.step (fun k => Q7.l1.eq_2 ..) ?_
  simp only [h1, h2, h3, q8, h4, if_true]
  refine q0i (fun c => q0i (fun c' => I4 (v3w (v1x ⟨c.symm, c'⟩))) (fun c' => q1k (ih _ h5) (q5w (q5u (fun r => c' r.2))))) (fun c => q1k (ih _ h5) (q5w (q5u (fun r => c r.1.symm))))
theorem v4v (l : List S48) (hl : l.length ≤ 1048576) : ∀ (suf pre : List S48), l = pre ++ suf → Ev (fun k => Q7.l0 k l l (l.length : Int) (pre.length : Int)) (D9 pre suf && decide (l.length ≤ 60)) := by
 intro suf
 induction suf with
 | nil =>
  intro pre h
  refine Ev.step (fun k => Q7.l0.eq_2 ..) ?_
  simp only [q08 h, if_false]
  exact I4 (by rw [D9, Bool.true_and]; exact v96 (by omega))
 | cons x suf ih =>
  intro pre h
  obtain ⟨h1, h2, h3, h4, h5⟩ := F6 h (by omega) z48
  have hpl : pre.length ≤ 1048576 := by omega
  have hj : ∀ b : Bool, b = !decide (pre = [] ∨ hbef (pre.getD (pre.length - 1) z48) x) → hole x → Ev (fun k => Q7.j1 k l (pre.length : Int) l (l.length : Int) (pre.length : Int) b x.f0 x.f1 x.f2) (D9 pre (x :: suf) && decide (l.length ≤ 60)) := by
   intro b hb hx
   refine Ev.step (fun k => Q7.j1.eq_2 ..) ?_
   by_cases c : pre = [] ∨ hbef (pre.getD (pre.length - 1) z48) x
   ·rw [decide_eq_true c] at hb; subst hb
    refine Y3 (by simp) (o8 h2 (o8 (by omega) ?_))
    simp only [Option.bind_some]
    have e : l.take (pre.length : Int).toNat = pre := by rw [h]; simp
    rw [e]
    refine q1k (v3o l (pre.length : Int) x l (l.length : Int) _ (by rw [h3]; exact ih _ h5) pre (by omega) pre [] rfl) ?_
    simp only [D9, q1p, decide_eq_true hx, decide_eq_true c, Bool.true_and, Bool.and_assoc]
   ·rw [decide_eq_false c] at hb; subst hb
    refine o8 rfl (I4 ?_)
    simp only [D9, q1p, decide_eq_false c, Bool.false_and, Bool.and_false]
  refine Ev.step (fun k => Q7.l0.eq_2 ..) ?_
  simp only [h1, h2, q8, h4, if_true, v3p, Option.bind_some, decide_eq_true_eq]
  refine q0i (fun hx => ?_) (fun hx => Ev.step (fun k => Q7.j1.eq_2 ..) (o8 rfl (I4 (by simp only [D9, q1p, decide_eq_false hx, Bool.false_and]))))
  by_cases c : 0 < pre.length
  ·rw [C9 (x := (pre.length : Int) - 1) (by omega) (by omega)]
   refine o8 (by omega) (o8 (by omega) (o8 (by omega) ?_))
   have e : l.getD ((pre.length : Int) - 1).toNat z48 = pre.getD (pre.length - 1) z48 := by
    rw [show ((pre.length : Int) - 1).toNat = pre.length - 1 by omega, h, List.getD_eq_getElem?_getD, List.getD_eq_getElem?_getD, List.getElem?_append_left (by omega)]
   rw [e, q65]
   simp only [Option.bind_some]
   refine hj _ ?_ hx
   congr 1
   refine decide_eq_decide.mpr ⟨fun r => .inr r, fun r => r.resolve_left (fun z => by rw [z] at c; simp at c)⟩
  ·refine Y3 (by omega) (hj _ ?_ hx)
   have : pre = [] := List.eq_nil_of_length_eq_zero (by omega)
   rw [decide_eq_true (Or.inl this)]; rfl
theorem q20 {l : List S48} (hl : l.length ≤ 1048576) : Ev (fun k => Q7.f k l) (V8 l) := v4v l hl l [] rfl
theorem v2d (l : List S48) (i : Int) (x : S48) (l' : List S48) (n : Int) (q : Bool) (hq : Ev (fun k => Q3.l0 k l l' n (wrap64 (i + 1))) q) (p : List S48) (hl : p.length ≤ 1048576) :
  ∀ (suf pre : List S48), p = pre ++ suf → Ev (fun k => Q3.l1 k l l' n i p (p.length : Int) (pre.length : Int) x.f0 x.f1 x.f2) (suf.all (hfree x) && q) := by
 intro suf
 induction suf with
 | nil =>
  intro pre h
  refine Ev.step (fun k => Q3.l1.eq_2 ..) ?_
  simp only [q08 h, if_false]
  exact q1k hq (by simp)
 | cons y suf ih =>
  intro pre h
  obtain ⟨h1, h2, h3, h4, h5⟩ := F6 h (by omega) z48
  refine Ev.step (fun k => Q3.l1.eq_2 ..) ?_
  simp only [h1, h2, h3, q8, h4, if_true]
  refine q0i (fun c => q0i (fun c' => I4 (v3w (v1x ⟨c, c'⟩))) (fun c' => q1k (ih _ h5) (q5w (q5u (fun r => c' r.2))))) (fun c => q1k (ih _ h5) (q5w (q5u (fun r => c r.1))))
theorem v2f (l : List S48) (hl : l.length ≤ 1048576) : ∀ (suf pre : List S48), l = pre ++ suf → Ev (fun k => Q3.l0 k l l (l.length : Int) (pre.length : Int)) (D9 pre suf) := by
 intro suf
 induction suf with
 | nil =>
  intro pre h
  refine Ev.step (fun k => Q3.l0.eq_2 ..) ?_
  simp only [q08 h, if_false]
  exact I4 (by rw [D9])
 | cons x suf ih =>
  intro pre h
  obtain ⟨h1, h2, h3, h4, h5⟩ := F6 h (by omega) z48
  have hpl : pre.length ≤ 1048576 := by omega
  have hj : ∀ b : Bool, b = !decide (pre = [] ∨ hbef (pre.getD (pre.length - 1) z48) x) → hole x → Ev (fun k => Q3.j1 k l (pre.length : Int) l (l.length : Int) (pre.length : Int) b x.f0 x.f1 x.f2) (D9 pre (x :: suf)) := by
   intro b hb hx
   refine Ev.step (fun k => Q3.j1.eq_2 ..) ?_
   by_cases c : pre = [] ∨ hbef (pre.getD (pre.length - 1) z48) x
   ·rw [decide_eq_true c] at hb; subst hb
    refine Y3 (by simp) (o8 h2 (o8 (by omega) ?_))
    simp only [Option.bind_some]
    have e : l.take (pre.length : Int).toNat = pre := by rw [h]; simp
    rw [e]
    refine q1k (v2d l (pre.length : Int) x l (l.length : Int) _ (by rw [h3]; exact ih _ h5) pre (by omega) pre [] rfl) ?_
    simp only [D9, q1p, decide_eq_true hx, decide_eq_true c, Bool.true_and]
   ·rw [decide_eq_false c] at hb; subst hb
    refine o8 rfl (I4 ?_)
    simp only [D9, q1p, decide_eq_false c, Bool.false_and, Bool.and_false]
  refine Ev.step (fun k => Q3.l0.eq_2 ..) ?_
  simp only [h1, h2, q8, h4, if_true, v4g, Option.bind_some, decide_eq_true_eq]
  refine q0i (fun hx => ?_) (fun hx => Ev.step (fun k => Q3.j1.eq_2 ..) (o8 rfl (I4 (by simp only [D9, q1p, decide_eq_false hx, Bool.false_and]))))
  by_cases c : 0 < pre.length
  ·rw [C9 (x := (pre.length : Int) - 1) (by omega) (by omega)]
   refine o8 (by omega) (o8 (by omega) (o8 (by omega) ?_))
   have e : l.getD ((pre.length : Int) - 1).toNat z48 = pre.getD (pre.length - 1) z48 := by
    rw [show ((pre.length : Int) - 1).toNat = pre.length - 1 by omega, h, List.getD_eq_getElem?_getD, List.getD_eq_getElem?_getD, List.getElem?_append_left (by omega)]
   rw [e, v0w]
   simp only [Option.bind_some]
   refine hj _ ?_ hx
   congr 1
   refine decide_eq_decide.mpr ⟨fun r => .inr r, fun r => r.resolve_left (fun z => by rw [z] at c; simp at c)⟩
  ·refine Y3 (by omega) (hj _ ?_ hx)
   have : pre = [] := List.eq_nil_of_length_eq_zero (by omega)
   rw [decide_eq_true (Or.inl this)]; rfl
theorem q1a {l : List S48} (hl : l.length ≤ 1048576) : Ev (fun k => Q3.f k l) (V8 l) := by
 unfold Q3.f V8
 refine q0i (fun c => I4 ?_) (fun c => q1k (v2f l hl l [] rfl) ?_)
 ·rw [show decide (l.length ≤ 60) = false from decide_eq_false (by omega), Bool.and_false]
 ·rw [show decide (l.length ≤ 60) = true from decide_eq_true (by omega), Bool.and_true]
def put : List Int → Int → List Int
 | [], n => [n]
 | a :: l, n => if a < n then a :: put l n else if a = n then a :: l else n :: a :: l
theorem q7r : ∀ (l : List Int) (n : Int), (put l n).length ≤ l.length + 1
 | [], n => by simp [put]
 | a :: l, n => by
  have := q7r l n
  simp only [put]; split
  ·simp; omega
  ·split <;> simp
theorem v7y : ∀ (l : List Int) (n : Int), put l n ≠ []
 | [], n => by simp [put]
 | a :: l, n => by
  simp only [put]; split
  ·simp
  ·split <;> simp
theorem v5t (l : List Int) (n : Int) (hl : l.length ≤ 1048576) : ∀ (suf pre : List Int), l = pre ++ suf → Ev (fun k => R5.l0 k l n (pre.length : Int)) (pre ++ put suf n) := by
 intro suf
 induction suf with
 | nil =>
  intro pre h
  have hp : pre.length ≤ 1048576 := by rw [h] at hl; simpa using hl
  have hL : l.length = pre.length := by rw [h]; simp
  have e1 : l.take (pre.length : Int).toNat = pre := by rw [h]; simp
  have e2 : l.drop (pre.length : Int).toNat = [] := by rw [h]; simp
  refine Ev.step (fun k => R5.l0.eq_2 ..) ?_
  simp only [q08 h, if_false, Option.bind_some, e1, e2]
  repeat' first | (refine o8 (by first | omega | (simp; omega)) ?_)
  exact I4 (by simp [put])
 | cons x suf ih =>
  intro pre h
  obtain ⟨h1, h2, h3, h4, h5⟩ := F6 h (by omega) 0
  have hp : pre.length + (suf.length + 1) ≤ 1048576 := by rw [h] at hl; simpa using hl
  have hL : l.length = pre.length + (suf.length + 1) := by rw [h]; simp
  have e1 : l.take (pre.length : Int).toNat = pre := by rw [h]; simp
  have e2 : l.drop (pre.length : Int).toNat = x :: suf := by rw [h]; simp
  refine Ev.step (fun k => R5.l0.eq_2 ..) ?_
  simp only [h1, h2, h3, rd, h4, if_true, Option.bind_some, e1, e2]
  refine q0i (fun c => q1k (ih _ h5) (by simp [put, c])) (fun c => q0i (fun c' => I4 (by rw [h]; simp [put, c'])) (fun c' => ?_))
  repeat' first | (refine o8 (by first | omega | (simp; omega)) ?_)
  exact I4 (by simp [put, c, c'])
theorem v5o {l : List Int} (hl : l.length ≤ 1048576) (n : Int) : Ev (fun k => R5.f k l n) (put l n) := by
 unfold R5.f; exact v5t l n hl l [] rfl
theorem v4m (a b : Int) : q1s.f a b = some (max a b) := by
 unfold q1s.f; split <;> (congr 1; omega)
theorem q3l : ∀ {suf pre : List S48}, D9 pre suf = true → ∀ x, x ∈ suf → hole x
 | [], _, _, x, hx => by simp at hx
 | y :: suf, pre, h, x, hx => by
  simp only [D9, q1p, Bool.and_eq_true, decide_eq_true_eq] at h
  rcases List.mem_cons.1 hx with r | r
  ·subst r; exact h.1.1
  ·exact q3l h.2 x r
theorem M8 {l : List S48} (h : V8 l = true) : ∀ x, x ∈ l → hole x := by
 simp only [V8, Bool.and_eq_true] at h; exact q3l h.1
theorem K8 {l : List S48} (h : V8 l = true) : l.length ≤ 60 := by
 simp only [V8, Bool.and_eq_true, decide_eq_true_eq] at h; exact h.2
def H8 (s : Int) (x : S48) : Prop := x.f1 ≤ s ∧ s < x.f2
instance (s : Int) (x : S48) : Decidable (H8 s x) := by unfold H8; exact inferInstance
def opn (s : Int) : List Int → List S48 → List Int
 | acc, [] => acc
 | acc, x :: l => opn s (if H8 s x then put acc x.f0 else acc) l
theorem q7n (s : Int) : ∀ (l : List S48) (acc : List Int), (opn s acc l).length ≤ acc.length + l.length
 | [], acc => by simp [opn]
 | x :: l, acc => by
  simp only [opn, List.length_cons]
  by_cases c : H8 s x
  ·rw [if_pos c]
   have := q7n s l (put acc x.f0)
   have := q7r acc x.f0
   omega
  ·rw [if_neg c]
   have := q7n s l acc
   omega
theorem v4w (s : Int) (l : List S48) (hl : l.length ≤ 1000) (hh : ∀ x, x ∈ l → hole x) : ∀ (suf pre : List S48) (acc : List Int), l = pre ++ suf → acc.length ≤ pre.length →
  Ev (fun k => X8.l0 k s acc l (l.length : Int) (pre.length : Int)) (opn s acc suf) := by
 intro suf
 induction suf with
 | nil =>
  intro pre acc h ha
  refine Ev.step (fun k => X8.l0.eq_2 ..) ?_
  simp only [q08 h, if_false]
  exact I4 (by simp [opn])
 | cons x suf ih =>
  intro pre acc h ha
  obtain ⟨h1, h2, h3, h4, h5⟩ := F6 h (by omega) z48
  have hx := hh x (by rw [h]; simp)
  unfold hole at hx
  have hpl : pre.length ≤ 1000 := by omega
  refine Ev.step (fun k => X8.l0.eq_2 ..) ?_
  simp only [h1, h2, h3, q8, h4, if_true, q5e, Option.bind_some, decide_eq_true_eq]
  rw [C9 (x := x.f2 - 1) (by omega) (by omega)]
  simp only [opn]
  have hput := q7r acc x.f0
  refine q0i (fun c => Ev.bind (v5o (by omega) x.f0) ?_) (fun c => ?_)
  ·rw [if_pos (show H8 s x by unfold H8; omega)]
   exact ih _ _ h5 (by simp; omega)
  ·rw [if_neg (show ¬ H8 s x by unfold H8; omega)]
   exact ih _ _ h5 (by simp; omega)
theorem q4f {l : List S48} (hg : V8 l = true) (s : Int) : Ev (fun k => X8.f k l s) (opn s [] l) := by
 unfold X8.f
 have := K8 hg
 exact v4w s l (by omega) (M8 hg) l [] [] rfl (by simp)
def G5 : Int → List S48 → Int
 | e, [] => e
 | e, x :: l => G5 (max e x.f2) l
theorem v0m (l : List S48) (hl : l.length ≤ 1048576) : ∀ (suf pre : List S48) (e : Int), l = pre ++ suf → Ev (fun k => X5.l0 k e l (l.length : Int) (pre.length : Int)) (G5 e suf) := by
 intro suf
 induction suf with
 | nil =>
  intro pre e h
  refine Ev.step (fun k => X5.l0.eq_2 ..) ?_
  simp only [q08 h, if_false]
  exact I4 (by simp [G5])
 | cons x suf ih =>
  intro pre e h
  obtain ⟨h1, h2, h3, h4, h5⟩ := F6 h (by omega) z48
  refine Ev.step (fun k => X5.l0.eq_2 ..) ?_
  simp only [h1, h2, h3, q8, h4, if_true, v4m, Option.bind_some, G5]
  exact ih _ _ h5
theorem q2h {l : List S48} (hl : l.length ≤ 1048576) : Ev (fun k => X5.f k l) (G5 0 l) := by
 unfold X5.f; exact v0m l hl l [] 0 rfl
theorem q23 : ∀ {l : List S48} {e : Int}, (∀ x, x ∈ l → hole x) → 0 ≤ e → e ≤ 2000 → 0 ≤ G5 e l ∧ G5 e l ≤ 2000
 | [], e, _, h0, h1 => ⟨h0, h1⟩
 | x :: l, e, h, h0, h1 => by
  have hx := h x (by simp)
  unfold hole at hx
  exact q23 (l := l) (e := max e x.f2) (fun y hy => h y (by simp [hy])) (by omega) (by omega)
theorem put_mem : ∀ (l : List Int) (n a : Int), a ∈ put l n ↔ a = n ∨ a ∈ l
 | [], n, a => by simp [put]
 | b :: l, n, a => by
  simp only [put]; split
  ·simp only [List.mem_cons, put_mem l n a]
   constructor
   ·rintro (h | h | h)
    ·exact .inr (.inl h)
    ·exact .inl h
    ·exact .inr (.inr h)
   ·rintro (h | h | h)
    ·exact .inr (.inl h)
    ·exact .inl h
    ·exact .inr (.inr h)
  ·split
   ·rename_i c; subst c; simp
   ·simp
theorem q77 : ∀ (l : List Int) (n : Int), l.Pairwise (· < ·) → (put l n).Pairwise (· < ·)
 | [], n, _ => by simp [put]
 | b :: l, n, h => by
  have h' := List.pairwise_cons.1 h
  simp only [put]; split
  ·rename_i c
   refine List.pairwise_cons.2 ⟨fun a ha => ?_, q77 l n h'.2⟩
   rcases (put_mem l n a).1 ha with r | r
   ·omega
   ·exact h'.1 a r
  ·split
   ·exact h
   ·rename_i c c'
    refine List.pairwise_cons.2 ⟨fun a ha => ?_, h⟩
    rcases List.mem_cons.1 ha with r | r
    ·omega
    ·have := h'.1 a r; omega
theorem v05 : ∀ (l : List Int) (n : Int), n ∉ l → (put l n).Perm (n :: l)
 | [], n, _ => .refl _
 | b :: l, n, h => by
  simp only [List.mem_cons, not_or] at h
  simp only [put]; split
  ·exact ((v05 l n h.2).cons b).trans (List.Perm.swap n b l)
  ·split
   ·rename_i c; exact absurd c.symm h.1
   ·exact .refl _
def q2v (s : Int) (l : List S48) : List Int := (l.filter fun x => decide (H8 s x)).map (·.f0)
theorem q80 {x y : S48} : hfree x y = true ↔ ¬ (y.f0 = x.f0 ∧ y.f2 ≥ x.f1) := by
 unfold hfree
 by_cases c : y.f0 = x.f0 ∧ y.f2 ≥ x.f1
 ·rw [decide_eq_true c]; simp [c]
 ·rw [decide_eq_false c]; simp [c]
theorem q52 (s : Int) : ∀ (suf pre : List S48) (acc : List Int), D9 pre suf = true → (∀ t, t ∈ acc → ∃ y, y ∈ pre ∧ y.f0 = t ∧ H8 s y) → (opn s acc suf).Perm (q2v s suf ++ acc)
 | [], pre, acc, _, _ => .refl _
 | x :: suf, pre, acc, h, ha => by
  simp only [D9, q1p, Bool.and_eq_true, decide_eq_true_eq] at h
  simp only [opn, q2v]
  by_cases c : H8 s x
  ·rw [if_pos c, List.filter_cons_of_pos (by simpa using c), List.map_cons]
   have hn : x.f0 ∉ acc := fun hm => by
    obtain ⟨y, hy, h1, h2⟩ := ha _ hm
    have := q80.1 (List.all_eq_true.1 h.1.2.2 y hy)
    unfold H8 at c h2
    exact this ⟨h1, by omega⟩
   have ih := q52 s suf (pre ++ [x]) (put acc x.f0) h.2 (fun t ht => by
    rcases (put_mem acc x.f0 t).1 ht with r | r
    ·exact ⟨x, by simp, r.symm, c⟩
    ·obtain ⟨y, hy, h1⟩ := ha t r
     exact ⟨y, by simp [hy], h1⟩)
   refine ih.trans ?_
   exact ((v05 acc x.f0 hn).append_left _).trans List.perm_middle
  ·rw [if_neg c, List.filter_cons_of_neg (by simpa using c)]
   exact q52 s suf (pre ++ [x]) acc h.2 (fun t ht => by
    obtain ⟨y, hy, h1⟩ := ha t ht
    exact ⟨y, by simp [hy], h1⟩)
theorem q6t (s : Int) : ∀ (l : List S48) (acc : List Int), acc.Pairwise (· < ·) → (opn s acc l).Pairwise (· < ·)
 | [], acc, h => h
 | x :: l, acc, h => by
  simp only [opn]
  refine q6t s l _ ?_
  split
  ·exact q77 acc _ h
  ·exact h
theorem sorted_perm {a b : List Int} (ha : a.Pairwise (· < ·)) (h : a.Perm b) : Lib.sorted b = a := by
 unfold Lib.sorted
 refine List.Perm.eq_of_pairwise (le := fun x y => decide (x ≤ y) = true) (fun x y _ _ h1 h2 => by simp at h1 h2; omega) ?_ (ha.imp (fun h => by simp; omega)) ((List.mergeSort_perm _ _).trans h.symm)
 exact List.pairwise_mergeSort (fun x y z h1 h2 => by simp at *; omega) (fun x y => by simp; omega) b
theorem v7w {l : List S48} (hg : V8 l = true) (s : Int) : Lib.sorted (q2v s l) = opn s [] l := by
 have h : D9 [] l = true := by simp only [V8, Bool.and_eq_true] at hg; exact hg.1
 have := q52 s l [] [] h (by simp)
 rw [List.append_nil] at this
 exact sorted_perm (q6t s l [] List.Pairwise.nil) this
theorem v3n (x : S48) (s : Int) : q1e.f x.f0 x.f1 x.f2 s = some (decide (H8 s x)) := by
 unfold q1e.f
 split
 ·exact q53 (by unfold H8; omega)
 ·exact q3p (by unfold H8; omega)
theorem q8s (s : Int) (l : List S48) (hl : l.length ≤ 1048576) : ∀ (suf pre : List S48) (acc : List Int), l = pre ++ suf → acc.length ≤ pre.length →
  Ev (fun k => Z5.l0 k s acc l (l.length : Int) (pre.length : Int)) (Lib.sorted (acc ++ q2v s suf)) := by
 intro suf
 induction suf with
 | nil =>
  intro pre acc h ha
  have hp : pre.length ≤ 1048576 := by rw [h] at hl; simpa using hl
  refine Ev.step (fun k => Z5.l0.eq_2 ..) ?_
  simp only [q08 h, if_false]
  unfold sort_Ints.f
  rw [if_pos (by omega)]
  exact I4 (by simp [q2v])
 | cons x suf ih =>
  intro pre acc h ha
  obtain ⟨h1, h2, h3, h4, h5⟩ := F6 h (by omega) z48
  have hpl : pre.length ≤ 1048576 := by omega
  refine Ev.step (fun k => Z5.l0.eq_2 ..) ?_
  simp only [h1, h2, h3, q8, h4, if_true, v3n, Option.bind_some, decide_eq_true_eq]
  refine q0i (fun c => o8 (by omega) (q1k (ih _ _ h5 (by simp; omega)) ?_)) (fun c => q1k (ih _ _ h5 (by simp; omega)) ?_)
  ·congr 1; unfold q2v; rw [List.filter_cons_of_pos (by simpa using c)]; simp
  ·congr 1; unfold q2v; rw [List.filter_cons_of_neg (by simpa using c)]
theorem q3i {l : List S48} (hg : V8 l = true) (s : Int) : Ev (fun k => Z5.f k l s) (opn s [] l) := by
 have := K8 hg
 unfold Z5.f
 refine q1k (q8s s l (by omega) l [] [] rfl (by simp)) ?_
 rw [List.nil_append]; exact v7w hg s
theorem v6v {α : Type} (a b c d : List α) : ((a ++ b) ++ (c ++ d)).Perm ((a ++ c) ++ (b ++ d)) := by
 simp only [List.append_assoc]
 refine List.Perm.append_left a ?_
 rw [← List.append_assoc, ← List.append_assoc]
 exact List.Perm.append_right d List.perm_append_comm
def q1d (s t : Int) (x : S48) : List (List Int) := (if x.f0 = t ∧ x.f1 = s then [[s, t, 1]] else []) ++ (if x.f0 = t ∧ x.f2 = s then [[s, t, 0]] else [])
def q07 (s t : Int) (l : List S48) : List (List Int) := l.flatMap (q1d s t)
def q0a (s : Int) (l : List S48) : Int → Nat → List (List Int)
 | _, 0 => []
 | t, n + 1 => q07 s t l ++ q0a s l (t + 1) n
def q0k (l : List S48) : Int → Nat → List (List Int)
 | _, 0 => []
 | s, n + 1 => q0a s l 0 20 ++ q0k l (s + 1) n
def q2l (x : S48) : List (List Int) := [[x.f1, x.f0, 1], [x.f2, x.f0, 0]]
theorem v3x (s t : Int) (x : S48) (l : List S48) : q07 s t (x :: l) = q07 s t [x] ++ q07 s t l := by simp [q07]
theorem q6x (s : Int) (x : S48) (l : List S48) : ∀ (n : Nat) (t : Int), (q0a s (x :: l) t n).Perm (q0a s [x] t n ++ q0a s l t n)
 | 0, _ => .refl _
 | n + 1, t => by
  simp only [q0a]
  rw [v3x]
  exact ((q6x s x l n (t + 1)).append_left _).trans (v6v _ _ _ _)
theorem q7e (x : S48) (l : List S48) : ∀ (n : Nat) (s : Int), (q0k (x :: l) s n).Perm (q0k [x] s n ++ q0k l s n)
 | 0, _ => .refl _
 | n + 1, s => by
  simp only [q0k]
  exact ((q6x s x l 20 0).append (q7e x l n (s + 1))).trans (v6v _ _ _ _)
theorem q73 (s : Int) : ∀ (n : Nat) (t : Int), q0a s [] t n = []
 | 0, _ => rfl
 | n + 1, t => by simp [q0a, q07, q73 s n]
theorem q7d : ∀ (n : Nat) (s : Int), q0k [] s n = []
 | 0, _ => rfl
 | n + 1, s => by simp [q0k, q73, q7d n]
theorem q8q (s : Int) (x : S48) : ∀ (n : Nat) (t : Int), q0a s [x] t n = if t ≤ x.f0 ∧ x.f0 < t + (n : Int) then q1d s x.f0 x else []
 | 0, t => by rw [if_neg (by omega)]; rfl
 | n + 1, t => by
  simp only [q0a, q07, List.flatMap_cons, List.flatMap_nil, List.append_nil]
  rw [q8q s x n (t + 1)]
  by_cases c : x.f0 = t
  ·subst c
   rw [if_neg (by omega), if_pos (by omega), List.append_nil]
  ·have : q1d s t x = [] := by unfold q1d; rw [if_neg (fun z => c z.1), if_neg (fun z => c z.1)]; rfl
   rw [this, List.nil_append]
   by_cases c2 : t ≤ x.f0 ∧ x.f0 < t + ((n + 1 : Nat) : Int)
   ·rw [if_pos (by omega), if_pos c2]
   ·rw [if_neg (by omega), if_neg c2]
theorem q7y {x : S48} (hx : hole x) : ∀ (n : Nat) (s : Int), q0k [x] s n = (if s ≤ x.f1 ∧ x.f1 < s + (n : Int) then [[x.f1, x.f0, 1]] else []) ++ (if s ≤ x.f2 ∧ x.f2 < s + (n : Int) then [[x.f2, x.f0, 0]] else [])
 | 0, s => by rw [if_neg (by omega), if_neg (by omega)]; rfl
 | n + 1, s => by
  simp only [q0k]
  unfold hole at hx
  rw [q8q, if_pos (by omega), q7y (by unfold hole; exact hx) n (s + 1)]
  unfold q1d
  by_cases c1 : x.f1 = s
  ·rw [if_pos ⟨rfl, c1⟩, if_neg (c := x.f0 = x.f0 ∧ x.f2 = s) (by omega), if_neg (c := s + 1 ≤ x.f1 ∧ x.f1 < s + 1 + (n : Int)) (by omega), if_pos (c := s ≤ x.f1 ∧ x.f1 < s + ((n + 1 : Nat) : Int)) (by omega), c1]
   by_cases c2 : s ≤ x.f2 ∧ x.f2 < s + ((n + 1 : Nat) : Int)
   ·rw [if_pos (by omega), if_pos c2]; rfl
   ·rw [if_neg (by omega), if_neg c2]; rfl
  ·rw [if_neg (fun z => c1 z.2)]
   by_cases c2 : x.f2 = s
   ·rw [if_pos ⟨rfl, c2⟩, if_neg (c := s + 1 ≤ x.f1 ∧ x.f1 < s + 1 + (n : Int)) (by omega), if_neg (c := s + 1 ≤ x.f2 ∧ x.f2 < s + 1 + (n : Int)) (by omega), if_neg (c := s ≤ x.f1 ∧ x.f1 < s + ((n + 1 : Nat) : Int)) (by omega), if_pos (c := s ≤ x.f2 ∧ x.f2 < s + ((n + 1 : Nat) : Int)) (by omega), c2]; rfl
   ·rw [if_neg (fun z => c2 z.2), List.nil_append, List.nil_append]
    congr 1
    ·by_cases c3 : s ≤ x.f1 ∧ x.f1 < s + ((n + 1 : Nat) : Int)
     ·rw [if_pos (by omega), if_pos c3]
     ·rw [if_neg (by omega), if_neg c3]
    ·by_cases c3 : s ≤ x.f2 ∧ x.f2 < s + ((n + 1 : Nat) : Int)
     ·rw [if_pos (by omega), if_pos c3]
     ·rw [if_neg (by omega), if_neg c3]
theorem q58 (n : Nat) : ∀ (l : List S48), (∀ x, x ∈ l → hole x) → (∀ x, x ∈ l → x.f2 < (n : Int)) → (q0k l 0 n).Perm (l.flatMap q2l)
 | [], _, _ => by rw [q7d]; exact .refl _
 | x :: l, h, hn => by
  have hx := h x (by simp)
  have hxn := hn x (by simp)
  refine (q7e x l n 0).trans ?_
  rw [q7y hx, List.flatMap_cons]
  unfold hole at hx
  rw [if_pos (by omega), if_pos (by omega)]
  exact (q58 n l (fun y hy => h y (by simp [hy])) (fun y hy => hn y (by simp [hy]))).append_left _
open Sf
theorem v6p {a b c a' b' c' : Int} (h : a < a' ∨ (a = a' ∧ (b < b' ∨ (b = b' ∧ c ≤ c')))) : leL [a, b, c] [a', b', c'] = true := by
 unfold leL
 rw [decide_eq_true_eq]
 simp only [cmpL]
 by_cases e1 : a = a'
 ·rw [if_pos (q0b.2 e1)]
  by_cases e2 : b = b'
  ·rw [if_pos (q0b.2 e2)]
   by_cases e3 : c = c'
   ·rw [if_pos (q0b.2 e3)]; exact Int.le_refl _
   ·rw [if_neg (fun z => e3 (q0b.1 z))]; unfold q1v; rw [if_pos (by omega)]; omega
  ·rw [if_neg (fun z => e2 (q0b.1 z))]; unfold q1v; rw [if_pos (by omega)]; omega
 ·rw [if_neg (fun z => e1 (q0b.1 z))]; unfold q1v; rw [if_pos (by omega)]; omega
theorem q6b {s t : Int} {x : S48} {q : List Int} (h : q ∈ q1d s t x) : x.f0 = t ∧ ((q = [s, t, 1] ∧ x.f1 = s) ∨ (q = [s, t, 0] ∧ x.f2 = s)) := by
 unfold q1d at h
 rcases List.mem_append.1 h with z | z
 ·split at z
  ·rename_i c; exact ⟨c.1, .inl ⟨List.mem_singleton.1 z, c.2⟩⟩
  ·simp at z
 ·split at z
  ·rename_i c; exact ⟨c.1, .inr ⟨List.mem_singleton.1 z, c.2⟩⟩
  ·simp at z
theorem q6n {s t : Int} {l : List S48} {q : List Int} (h : q ∈ q07 s t l) : ∃ c, q = [s, t, c] ∧ (c = 0 ∨ c = 1) := by
 obtain ⟨x, _, hx⟩ := List.mem_flatMap.1 h
 rcases (q6b hx).2 with r | r
 ·exact ⟨1, r.1, .inr rfl⟩
 ·exact ⟨0, r.1, .inl rfl⟩
theorem q2s {s : Int} {l : List S48} : ∀ {n : Nat} {t : Int} {q : List Int}, q ∈ q0a s l t n → ∃ u c, q = [s, u, c] ∧ t ≤ u ∧ u < t + (n : Int) ∧ (c = 0 ∨ c = 1)
 | 0, _, q, h => by simp [q0a] at h
 | n + 1, t, q, h => by
  rcases List.mem_append.1 h with z | z
  ·obtain ⟨c, e, hc⟩ := q6n z
   exact ⟨t, c, e, by omega, by omega, hc⟩
  ·obtain ⟨u, c, e, h1, h2, hc⟩ := q2s (n := n) z
   exact ⟨u, c, e, by omega, by omega, hc⟩
theorem q2r {l : List S48} : ∀ {n : Nat} {s : Int} {q : List Int}, q ∈ q0k l s n → ∃ v u c, q = [v, u, c] ∧ s ≤ v ∧ v < s + (n : Int) ∧ 0 ≤ u ∧ u < 20 ∧ (c = 0 ∨ c = 1)
 | 0, _, q, h => by simp [q0k] at h
 | n + 1, s, q, h => by
  rcases List.mem_append.1 h with z | z
  ·obtain ⟨u, c, e, h1, h2, hc⟩ := q2s z
   exact ⟨s, u, c, e, by omega, by omega, by omega, by omega, hc⟩
  ·obtain ⟨v, u, c, e, h1, h2, hc⟩ := q2r (n := n) z
   exact ⟨v, u, c, e, by omega, by omega, hc⟩
theorem q2m : ∀ {suf pre : List S48}, D9 pre suf = true → (∀ x, x ∈ suf → hole x) ∧ suf.Pairwise (fun y x => y.f0 = x.f0 → y.f2 < x.f1) ∧ ∀ y, y ∈ pre → ∀ x, x ∈ suf → y.f0 = x.f0 → y.f2 < x.f1
 | [], pre, _ => ⟨by simp, List.Pairwise.nil, by simp⟩
 | x :: suf, pre, h => by
  have h0 := h
  simp only [D9, q1p, Bool.and_eq_true, decide_eq_true_eq] at h
  obtain ⟨i1, i2, i3⟩ := q2m h.2
  refine ⟨q3l h0, List.pairwise_cons.2 ⟨fun y hy => i3 x (by simp) y hy, i2⟩, fun y hy z hz => ?_⟩
  rcases List.mem_cons.1 hz with r | r
  ·subst r
   have := q80.1 (List.all_eq_true.1 h.1.2.2 y hy)
   intro e; omega
  ·exact i3 y (by simp [hy]) z r
theorem q6j {s t : Int} : ∀ {l : List S48}, (∀ x, x ∈ l → hole x) → l.Pairwise (fun y x => y.f0 = x.f0 → y.f2 < x.f1) → (q07 s t l).length ≤ 1
 | [], _, _ => by simp [q07]
 | x :: l, hh, hp => by
  have hp' := List.pairwise_cons.1 hp
  have hx := hh x (by simp)
  unfold hole at hx
  have ih := q6j (s := s) (t := t) (l := l) (fun y hy => hh y (by simp [hy])) hp'.2
  by_cases c : q1d s t x = []
  ·simpa [q07, c] using ih
  ·have : ∃ q, q ∈ q1d s t x := List.exists_mem_of_ne_nil _ c
   obtain ⟨q, hq⟩ := this
   have hq' := q6b hq
   have e0 : q07 s t l = [] := by
    unfold q07
    rw [List.flatMap_eq_nil_iff]
    intro y hy
    refine Classical.byContradiction fun z => ?_
    obtain ⟨q', hz⟩ := List.exists_mem_of_ne_nil _ z
    have hz' := q6b hz
    have hy' := hh y (by simp [hy])
    unfold hole at hy'
    have := hp'.1 y hy (by omega)
    omega
   have e1 : (q1d s t x).length ≤ 1 := by
    unfold q1d
    by_cases z : x.f0 = t ∧ x.f1 = s
    ·rw [if_pos z, if_neg (by omega)]; simp
    ·rw [if_neg z, List.nil_append]; split <;> simp
   have : q07 s t (x :: l) = q1d s t x ++ q07 s t l := by simp [q07]
   rw [this, e0, List.append_nil]; exact e1
theorem q5q {α : Type} {R : α → α → Prop} : ∀ {l : List α}, l.length ≤ 1 → l.Pairwise R
 | [], _ => List.Pairwise.nil
 | [_], _ => List.pairwise_singleton _ _
 | _ :: _ :: _, h => by simp at h
theorem q5n {s : Int} {l : List S48} (hh : ∀ x, x ∈ l → hole x) (hp : l.Pairwise (fun y x => y.f0 = x.f0 → y.f2 < x.f1)) : ∀ (n : Nat) (t : Int), (q0a s l t n).Pairwise (fun x y => leL x y = true)
 | 0, _ => List.Pairwise.nil
 | n + 1, t => by
  simp only [q0a]
  refine List.pairwise_append.2 ⟨q5q (q6j hh hp), q5n hh hp n (t + 1), fun a ha b hb => ?_⟩
  obtain ⟨c, rfl, _⟩ := q6n ha
  obtain ⟨u, c', rfl, h1, _⟩ := q2s hb
  exact v6p (.inr ⟨rfl, .inl (by omega)⟩)
theorem q5g {l : List S48} (hh : ∀ x, x ∈ l → hole x) (hp : l.Pairwise (fun y x => y.f0 = x.f0 → y.f2 < x.f1)) : ∀ (n : Nat) (s : Int), (q0k l s n).Pairwise (fun x y => leL x y = true)
 | 0, _ => List.Pairwise.nil
 | n + 1, s => by
  simp only [q0k]
  refine List.pairwise_append.2 ⟨q5n hh hp 20 0, q5g hh hp n (s + 1), fun a ha b hb => ?_⟩
  obtain ⟨u, c, rfl, _⟩ := q2s ha
  obtain ⟨v, u', c', rfl, h1, _⟩ := q2r hb
  exact v6p (.inl (by omega))
def evs (l : List S48) : List (List Int) := q0k l 0 (G5 0 l + 1).toNat
theorem q4p : ∀ {l : List S48} {e : Int}, e ≤ G5 e l ∧ ∀ x, x ∈ l → x.f2 ≤ G5 e l
 | [], e => ⟨Int.le_refl _, by simp⟩
 | x :: l, e => by
  obtain ⟨h1, h2⟩ := q4p (l := l) (e := max e x.f2)
  simp only [G5]
  refine ⟨by omega, fun y hy => ?_⟩
  rcases List.mem_cons.1 hy with r | r
  ·subst r; omega
  ·exact h2 y r
theorem q9b {l : List S48} (hg : V8 l = true) : q36 (l.flatMap q2l) = evs l := by
 have h : D9 [] l = true := by simp only [V8, Bool.and_eq_true] at hg; exact hg.1
 obtain ⟨h1, h2, _⟩ := q2m h
 refine v06 (q5g h1 h2 _ _) (q58 _ l h1 (fun x hx => ?_))
 have := (q4p (l := l) (e := 0)).2 x hx
 omega
theorem q3b : ∀ (l : List S48), (l.flatMap q2l).length = 2 * l.length
 | [] => rfl
 | x :: l => by rw [List.flatMap_cons, List.length_append, q3b l]; simp [q2l]; omega
theorem q3w {l : List S48} (hg : V8 l = true) : (evs l).length = 2 * l.length := by
 rw [← q9b hg, ← q3b l]; exact List.length_mergeSort _
theorem q3u {l : List S48} {q : List Int} (hg : V8 l = true) (h : q ∈ evs l) : ∃ v u c, q = [v, u, c] ∧ 0 ≤ v ∧ v ≤ 2000 ∧ 0 ≤ u ∧ u < 20 ∧ (c = 0 ∨ c = 1) := by
 obtain ⟨v, u, c, e, h1, h2, h3⟩ := q2r h
 have := q23 (l := l) (e := 0) (M8 hg) (by omega) (by omega)
 exact ⟨v, u, c, e, h1, by omega, h3⟩
def okE (e : List Int) : Bool := decide (e.length = 3 ∧ (0 ≤ rd e 0 ∧ rd e 0 ≤ 2000) ∧ (0 ≤ rd e 1 ∧ rd e 1 ≤ 19) ∧ 0 ≤ rd e 2 ∧ rd e 2 ≤ 1)
theorem q3s {e : List Int} : okE e = true ↔ e.length = 3 ∧ (0 ≤ rd e 0 ∧ rd e 0 ≤ 2000) ∧ (0 ≤ rd e 1 ∧ rd e 1 ≤ 19) ∧ 0 ≤ rd e 2 ∧ rd e 2 ≤ 1 := by unfold okE; rw [decide_eq_true_eq]
def upd {α : Type} (f : Int → α) (k : Int) (v : α) : Int → α := fun t => if t = k then v else f t
def seS : List (List Int) → List S48 → (Int → Int) → Option (List S48)
 | [], out, _ => some out
 | e :: l, out, O => if okE e = true then (if decide (O (rd e 1) ≥ 0) = decide (rd e 2 = 1) then none else if rd e 2 = 1 then seS l out (upd O (rd e 1) (rd e 0)) else seS l (out ++ [⟨rd e 1, O (rd e 1), rd e 0⟩]) (upd O (rd e 1) (-1))) else none
def seI : List (List Int) → List S48 → (Int → Option Int) → Option (List S48)
 | [], out, _ => some out
 | e :: l, out, M => if e.length = 3 then (if (M (rd e 1)).isSome = decide (rd e 2 = 1) then none else match M (rd e 1) with
   | some s => seI l (out ++ [⟨rd e 1, s, rd e 0⟩]) (upd M (rd e 1) none)
   | none => seI l out (upd M (rd e 1) (some (rd e 0)))) else none
theorem q7o : ∀ {l : List (List Int)} {out : List S48} {O : Int → Int}, ¬ l.all okE = true → seS l out O = none
 | [], _, _, h => by simp at h
 | e :: l, out, O, h => by
  simp only [List.all_cons, Bool.and_eq_true] at h
  simp only [seS]
  by_cases c : okE e = true
  ·rw [if_pos c]
   have h' : ¬ l.all okE = true := fun z => h ⟨c, z⟩
   split
   ·rfl
   ·split
    ·exact q7o h'
    ·exact q7o h'
  ·rw [if_neg c]
def q1i (O : Int → Int) (t : Int) : Option Int := if O t ≥ 0 then some (O t) else none
theorem v0v (O : Int → Int) (t : Int) : (q1i O t).isSome = decide (O t ≥ 0) := by
 unfold q1i
 by_cases c : O t ≥ 0
 ·rw [if_pos c, decide_eq_true c]; rfl
 ·rw [if_neg c, decide_eq_false c]; rfl
theorem q7t : ∀ {l : List (List Int)} {out : List S48} {O : Int → Int}, l.all okE = true → seI l out (q1i O) = seS l out O
 | [], _, _, _ => rfl
 | e :: l, out, O, h => by
  simp only [List.all_cons, Bool.and_eq_true] at h
  have he := q3s.1 h.1
  simp only [seS, seI]
  rw [if_pos h.1, if_pos he.1, v0v]
  by_cases c : decide (O (rd e 1) ≥ 0) = decide (rd e 2 = 1)
  ·rw [if_pos c, if_pos c]
  ·rw [if_neg c, if_neg c]
   by_cases d : O (rd e 1) ≥ 0
   ·have e2 : ¬ rd e 2 = 1 := fun z => c (by rw [decide_eq_true d, decide_eq_true z])
    rw [if_neg e2]
    have : q1i O (rd e 1) = some (O (rd e 1)) := by unfold q1i; rw [if_pos d]
    rw [this]
    have hu : upd (q1i O) (rd e 1) none = q1i (upd O (rd e 1) (-1)) := by
     funext t; unfold upd q1i
     by_cases z : t = rd e 1
     ·rw [if_pos z]; simp only [if_pos z]; rw [if_neg (by omega)]
     ·rw [if_neg z]; simp only [if_neg z]
    dsimp only
    rw [hu]; exact q7t h.2
   ·have e2 : rd e 2 = 1 := by
     refine Classical.byContradiction fun z => c ?_
     rw [decide_eq_false d, decide_eq_false z]
    rw [if_pos e2]
    have : q1i O (rd e 1) = none := by unfold q1i; rw [if_neg d]
    rw [this]
    have hu : upd (q1i O) (rd e 1) (some (rd e 0)) = q1i (upd O (rd e 1) (rd e 0)) := by
     funext t; unfold upd q1i
     by_cases z : t = rd e 1
     ·rw [if_pos z]; simp only [if_pos z]; rw [if_pos he.2.1.1]
     ·rw [if_neg z]; simp only [if_neg z]
    dsimp only
    rw [hu]; exact q7t h.2
theorem q9u : ∀ {l : List (List Int)} {out : List S48} {O : Int → Int} {q : List S48}, seS l out O = some q → q.length ≤ out.length + l.length
 | [], out, O, q, h => by simp only [seS] at h; injection h with h; subst h; simp
 | e :: l, out, O, q, h => by
  simp only [seS] at h
  split at h
  ·split at h
   ·cases h
   ·split at h
    ·have := q9u h; simp; omega
    ·have := q9u h; simp at this ⊢; omega
  ·cases h
theorem v8p {l : List S48} (hg : V8 l = true) : (evs l).all okE = true := by
 refine List.all_eq_true.2 fun q hq => ?_
 obtain ⟨v, u, c, rfl, h⟩ := q3u hg hq
 refine q3s.2 ⟨rfl, ?_⟩
 show (0 ≤ v ∧ v ≤ 2000) ∧ (0 ≤ u ∧ u ≤ 19) ∧ 0 ≤ c ∧ c ≤ 1
 omega
theorem q2k : ∀ {suf pre : List S48}, D9 pre suf = true → suf.Pairwise hbef ∧ ∀ y, pre.getLast? = some y → ∀ x, x ∈ suf → hbef y x
 | [], pre, _ => ⟨List.Pairwise.nil, by simp⟩
 | x :: suf, pre, h => by
  simp only [D9, q1p, Bool.and_eq_true, decide_eq_true_eq] at h
  obtain ⟨i1, i2⟩ := q2k h.2
  have hx := i2 x (by simp)
  refine ⟨List.pairwise_cons.2 ⟨hx, i1⟩, fun y hy u hu => ?_⟩
  have hyx : hbef y x := by
   rcases h.1.2.1 with e | e
   ·subst e; simp at hy
   ·have : pre.getD (pre.length - 1) z48 = y := by
     rw [List.getLast?_eq_getElem?] at hy
     rw [List.getD_eq_getElem?_getD, hy]; rfl
    rw [this] at e; exact e
  rcases List.mem_cons.1 hu with r | r
  ·subst r; exact hyx
  ·have := hx u r
   unfold hbef at *
   omega
theorem v2z {α : Type} {R : α → α → Prop} : ∀ {l : List α}, l.Pairwise R → ∀ x, x ∈ l → ∀ y, y ∈ l → x = y ∨ R x y ∨ R y x
 | [], _, x, hx, _, _ => by simp at hx
 | a :: l, h, x, hx, y, hy => by
  obtain ⟨h1, h2⟩ := List.pairwise_cons.1 h
  rcases List.mem_cons.1 hx with e | e
  ·rcases List.mem_cons.1 hy with f | f
   ·exact .inl (e.trans f.symm)
   ·exact .inr (.inl (by rw [e]; exact h1 y f))
  ·rcases List.mem_cons.1 hy with f | f
   ·exact .inr (.inr (by rw [f]; exact h1 x e))
   ·exact v2z h2 x e y f
theorem q8b {a b : List S48} (hg : V8 a = true) (hp : a.Perm b) (hs : b.Pairwise (fun x y => ¬ hbef y x)) : b = a := by
 have h : D9 [] a = true := by simp only [V8, Bool.and_eq_true] at hg; exact hg.1
 obtain ⟨h1, _⟩ := q2k h
 have key : ∀ x, x ∈ a → ∀ y, y ∈ a → ¬ hbef x y → ¬ hbef y x → x = y := by
  intro x hx y hy n1 n2
  rcases v2z h1 x hx y hy with q | q | q
  ·exact q
  ·exact absurd q n1
  ·exact absurd q n2
 refine (List.Perm.eq_of_pairwise (le := fun x y => ¬ hbef y x) (fun x y hx hy l1 l2 => key x hx y (hp.mem_iff.2 hy) (fun z => l2 z) (fun z => l1 z)) (h1.imp (fun q z => ?_)) hs hp).symm
 unfold hbef at *; omega
theorem v2j {a b : List S48} (hp : a.Perm b) (ha : a.Pairwise (fun x y => ¬ hbef y x)) (hb : b.Pairwise (fun x y => ¬ hbef y x)) : V8 a = V8 b ∧ (V8 a = true → a = b) := by
 by_cases ga : V8 a = true
 ·have := q8b ga hp hb
  exact ⟨by rw [this], fun _ => this.symm⟩
 ·refine ⟨?_, fun z => absurd z ga⟩
  cases gb : V8 b with
  | false => exact Bool.eq_false_iff.2 ga
  | true => exact absurd (by rw [q8b gb hp.symm ha]; exact gb) ga
def O6 (x : S48) (out : List S48) : Nat → Nat
 | 0 => 0
 | k + 1 => if hbef x (out.getD k z48) then O6 x out k else k + 1
def q5m (x : S48) (out : List S48) : List S48 := out.take (O6 x out out.length) ++ x :: out.drop (O6 x out out.length)
def srt : List S48 → List S48 → List S48
 | out, [] => out
 | out, x :: l => srt (q5m x out) l
theorem v03 (x : S48) (out : List S48) : ∀ (k : Nat), O6 x out k ≤ k
 | 0 => Nat.le_refl _
 | k + 1 => by
  simp only [O6]; split
  ·have := v03 x out k; omega
  ·exact Nat.le_refl _
theorem q9v (x : S48) (out : List S48) : ∀ (k j : Nat), O6 x out k ≤ j → j < k → hbef x (out.getD j z48)
 | 0, j, _, h => by omega
 | k + 1, j, h1, h2 => by
  simp only [O6] at h1
  split at h1
  ·rename_i c
   by_cases e : j = k
   ·rw [e]; exact c
   ·exact q9v x out k j h1 (by omega)
  ·omega
theorem q9x (x : S48) (out : List S48) : ∀ (k : Nat), 0 < O6 x out k → ¬ hbef x (out.getD (O6 x out k - 1) z48)
 | 0, h => by simp [O6] at h
 | k + 1, h => by
  simp only [O6] at h ⊢
  by_cases c : hbef x (out.getD k z48)
  ·rw [if_pos c] at h ⊢; exact q9x x out k h
  ·rw [if_neg c]; exact c
theorem q8p (x : S48) (out : List S48) : (q5m x out).Perm (x :: out) := by
 unfold q5m
 refine List.perm_middle.trans ?_
 rw [List.take_append_drop]
theorem v5f (x : S48) (out : List S48) : (q5m x out).length = out.length + 1 := by rw [(q8p x out).length_eq]; rfl
theorem v0k {x : S48} {out : List S48} (h : out.Pairwise (fun x y => ¬ hbef y x)) : (q5m x out).Pairwise (fun x y => ¬ hbef y x) := by
 have hk := v03 x out out.length
 have lo : ∀ y, y ∈ out.take (O6 x out out.length) → ¬ hbef x y := by
  intro y hy
  obtain ⟨j, hj, e⟩ := List.mem_iff_getElem.1 hy
  have hj' : j < O6 x out out.length := by simp at hj; omega
  have e1 : out[j]'(by omega) = y := by rw [← e]; simp
  have l1 := q9x x out out.length (by omega)
  by_cases c : j = O6 x out out.length - 1
  ·rw [List.getD_eq_getElem?_getD, List.getElem?_eq_getElem (by omega)] at l1
   simp only [Option.getD_some] at l1
   rw [← e1]; simp only [c]; exact l1
  ·have := List.pairwise_iff_getElem.1 h j (O6 x out out.length - 1) (by omega) (by omega) (by omega)
   rw [List.getD_eq_getElem?_getD, List.getElem?_eq_getElem (by omega)] at l1
   simp only [Option.getD_some] at l1
   rw [e1] at this
   unfold hbef at *; omega
 have hi : ∀ y, y ∈ out.drop (O6 x out out.length) → hbef x y := by
  intro y hy
  obtain ⟨j, hj, e⟩ := List.mem_iff_getElem.1 hy
  have hj' : O6 x out out.length + j < out.length := by simp at hj; omega
  have := q9v x out out.length (O6 x out out.length + j) (by omega) hj'
  rw [List.getD_eq_getElem?_getD, List.getElem?_eq_getElem hj'] at this
  simp only [Option.getD_some] at this
  rw [← e]; simpa using this
 have hs : (out.take (O6 x out out.length) ++ out.drop (O6 x out out.length)).Pairwise (fun x y => ¬ hbef y x) := by rw [List.take_append_drop]; exact h
 obtain ⟨p1, p2, p3⟩ := List.pairwise_append.1 hs
 unfold q5m
 refine List.pairwise_append.2 ⟨p1, List.pairwise_cons.2 ⟨fun y hy => ?_, p2⟩, fun a ha b hb => ?_⟩
 ·have := hi y hy
  unfold hbef at *; omega
 ·rcases List.mem_cons.1 hb with e | e
  ·rw [e]; exact lo a ha
  ·exact p3 a ha b e
theorem q59 : ∀ (l out : List S48), (srt out l).Perm (out ++ l)
 | [], out => by simp [srt]
 | x :: l, out => by
  simp only [srt]
  refine (q59 l (q5m x out)).trans ?_
  refine ((q8p x out).append_right l).trans ?_
  exact List.perm_middle.symm
theorem q57 : ∀ (l out : List S48), out.Pairwise (fun x y => ¬ hbef y x) → (srt out l).Pairwise (fun x y => ¬ hbef y x)
 | [], out, h => h
 | x :: l, out, h => by simp only [srt]; exact q57 l _ (v0k h)
theorem v1q (l out : List S48) : (srt out l).length = out.length + l.length := by rw [(q59 l out).length_eq, List.length_append]
/-- the sheet of holes, if they are one -/
def U4 (l : List S48) : List S48 × Bool := if V8 (srt [] l) = true then (srt [] l, true) else ([], false)
theorem q8e {l b : List S48} (hp : b.Perm l) (hs : b.Pairwise (fun x y => ¬ hbef y x)) : U4 l = if V8 b = true then (b, true) else ([], false) := by
 have h1 : (srt [] l).Perm b := (q59 l []).trans hp.symm
 obtain ⟨e1, e2⟩ := v2j h1 (q57 l [] List.Pairwise.nil) hs
 unfold U4
 rw [e1]
 split
 ·rename_i c; rw [e2 (e1.trans c)]
 ·rfl
theorem v7x {l : List S48} (hl : l.length ≤ 60) (s t : Int) (r : List (List Int)) : ∀ (suf pre : List S48) (acc : List (List Int)), l = pre ++ suf → acc.length ≤ 1000000000 + 2 * pre.length →
  Ev (fun k => Q5.l1 k l (acc ++ q07 s t suf) s (wrap64 (t + 1))) r → Ev (fun k => Q5.l2 k l acc s t l (l.length : Int) (pre.length : Int)) r := by
 intro suf
 induction suf with
 | nil =>
  intro pre acc h _ hr
  simp only [q07, List.flatMap_nil, List.append_nil] at hr
  exact Ev.step (fun k => Q5.l2.eq_2 ..) (Y3 (q08 h) hr)
 | cons x suf ih =>
  intro pre acc h ha hr
  obtain ⟨h1, h2, h3, h4, h5⟩ := F6 h (by omega) z48
  have hp : pre.length ≤ 60 := by rw [h] at hl; simp at hl; omega
  have next : ∀ a : List (List Int), a.length ≤ acc.length + 2 → a ++ q07 s t suf = acc ++ q07 s t (x :: suf) → Ev (fun k => Q5.l2 k l a s t l (l.length : Int) (wrap64 ((pre.length : Int) + 1))) r := fun a h6 h7 => by
   rw [h3]; exact ih (pre ++ [x]) a h5 (by simp; omega) (by rw [h7]; exact hr)
  have hx : q07 s t (x :: suf) = q1d s t x ++ q07 s t suf := by simp [q07]
  refine Ev.step (fun k => Q5.l2.eq_2 ..) ?_
  simp only [h1, h2, q8, h4, if_true]
  by_cases c : x.f0 = t
  ·refine o8 c (Ev.step (fun k => Q5.j3.eq_2 ..) ?_)
   by_cases c1 : x.f1 = s
   ·refine o8 (by simp [c1]) (o8 (by omega) ?_)
    simp only [Option.bind_some]
    refine o8 c ?_
    by_cases c2 : x.f2 = s
    ·refine o8 c2 (o8 (by simp; omega) (next ((acc ++ [[s, t, 1]]) ++ [[s, t, 0]]) (by simp) ?_))
     rw [hx]; simp [q1d, c, c1, c2]
    ·refine Y3 c2 (next (acc ++ [[s, t, 1]]) (by simp) ?_)
     rw [hx]; simp [q1d, c, c1, c2]
   ·refine Y3 (by simp [c1]) (o8 c ?_)
    by_cases c2 : x.f2 = s
    ·refine o8 c2 (o8 (by omega) (next (acc ++ [[s, t, 0]]) (by simp) ?_))
     rw [hx]; simp [q1d, c, c1, c2]
    ·refine Y3 c2 (next acc (by omega) ?_)
     rw [hx]; simp [q1d, c, c1, c2]
  ·refine Y3 c (Ev.step (fun k => Q5.j3.eq_2 ..) (Y3 (by simp) (Y3 c (next acc (by omega) ?_))))
   rw [hx]; simp [q1d, c]
theorem q6a (s t : Int) : ∀ (l : List S48), (q07 s t l).length ≤ 2 * l.length
 | [] => by simp [q07]
 | x :: l => by
  have := q6a s t l
  have e : q07 s t (x :: l) = q1d s t x ++ q07 s t l := by simp [q07]
  rw [e, List.length_append, List.length_cons]
  have : (q1d s t x).length ≤ 2 := by unfold q1d; split <;> split <;> simp
  omega
theorem q8n (s : Int) (l : List S48) : ∀ (n : Nat) (t : Int), (q0a s l t n).length ≤ 2 * l.length * n
 | 0, _ => by simp [q0a]
 | n + 1, t => by
  have h1 := q8n s l n (t + 1)
  have h2 := q6a s t l
  simp only [q0a, List.length_append, Nat.mul_add, Nat.mul_one]
  omega
theorem v1m {l : List S48} (hl : l.length ≤ 60) (s : Int) (r : List (List Int)) : ∀ (n t : Nat) (acc : List (List Int)), t + n = 20 → acc.length ≤ 5000000 + 120 * t →
  Ev (fun k => Q5.l0 k l (acc ++ q0a s l (t : Int) n) (wrap64 (s + 1))) r → Ev (fun k => Q5.l1 k l acc s (t : Int)) r
 | 0, t, acc, h, _, hr => by
  simp only [q0a, List.append_nil] at hr
  exact Ev.step (fun k => Q5.l1.eq_2 ..) (Y3 (by omega) hr)
 | n + 1, t, acc, h, ha, hr => by
  refine Ev.step (fun k => Q5.l1.eq_2 ..) (o8 (by omega) ?_)
  refine v7x hl s (t : Int) r l [] acc rfl (by simp; omega) ?_
  have e : wrap64 ((t : Int) + 1) = ((t + 1 : Nat) : Int) := by rw [C9 (by omega) (by omega)]; omega
  have := q6a s (t : Int) l
  rw [e]
  refine v1m hl s r n (t + 1) _ (by omega) (by rw [List.length_append]; omega) ?_
  have e2 : ((t + 1 : Nat) : Int) = (t : Int) + 1 := by omega
  rw [List.append_assoc, e2]
  exact hr
theorem q7x {l : List S48} (hl : l.length ≤ 60) (hL : G5 0 l ≤ 2000) : ∀ (n s : Nat) (acc : List (List Int)), (s : Int) + n = G5 0 l + 1 → acc.length ≤ 2400 * s →
  Ev (fun k => Q5.l0 k l acc (s : Int)) (acc ++ q0k l (s : Int) n)
 | 0, s, acc, h, _ => by
  refine Ev.step (fun k => Q5.l0.eq_2 ..) (Ev.bind (q2h (by omega)) (Y3 (by omega) (I4 ?_)))
  simp [q0k]
 | n + 1, s, acc, h, ha => by
  refine Ev.step (fun k => Q5.l0.eq_2 ..) (Ev.bind (q2h (by omega)) (o8 (by omega) ?_))
  have hs : s ≤ 2000 := by omega
  refine v1m hl (s : Int) _ 20 0 acc rfl (by omega) ?_
  have e : wrap64 ((s : Int) + 1) = ((s + 1 : Nat) : Int) := by rw [C9 (by omega) (by omega)]; omega
  have h2 := q8n (s : Int) l 20 0
  have ih := q7x hl hL n (s + 1) (acc ++ q0a (s : Int) l 0 20) (by omega) (by rw [List.length_append]; omega)
  rw [e]
  refine q1k ih ?_
  have e2 : ((s + 1 : Nat) : Int) = (s : Int) + 1 := by omega
  rw [List.append_assoc, e2]
  rfl
theorem v1e {l : List S48} (hg : V8 l = true) : Ev (fun k => Q5.f k l) (evs l) := by
 have hl := K8 hg
 have hL := q23 (l := l) (e := 0) (M8 hg) (by omega) (by omega)
 have h0 := (q4p (l := l) (e := 0)).1
 unfold Q5.f
 exact q7x hl (by omega) (G5 0 l + 1).toNat 0 [] (by omega) (by simp)
theorem q6e {l : List S48} (hg : V8 l = true) : Ev (fun k => K4.f k l) (evs l) := by
 have hl := K8 hg
 unfold K4.f
 have go : ∀ (suf pre : List S48), l = pre ++ suf → Ev (fun k => K4.l0 k (pre.flatMap q2l) l (l.length : Int) (pre.length : Int)) (evs l) := by
  intro suf
  induction suf with
  | nil =>
   intro pre h
   have e : pre = l := by rw [h]; simp
   refine Ev.step (fun k => K4.l0.eq_2 ..) (Y3 (q08 h) ?_)
   have hq : M7.f (pre.flatMap q2l) = some (evs l) := by
    rw [e]
    unfold M7.f
    rw [if_pos, q9b hg]
    refine ⟨by rw [q3b]; omega, fun x hx => ?_⟩
    obtain ⟨y, _, hy⟩ := List.mem_flatMap.1 hx
    simp only [q2l, List.mem_cons, List.not_mem_nil, or_false] at hy
    rcases hy with rfl | rfl <;> simp
   exact evC hq (Ev.now _)
  | cons x suf ih =>
   intro pre h
   obtain ⟨h1, h2, h3, h4, h5⟩ := F6 h (by omega) z48
   have hp : pre.length ≤ 60 := by rw [h] at hl; simp at hl; omega
   have hf := q3b pre
   refine Ev.step (fun k => K4.l0.eq_2 ..) ?_
   simp only [h1, h2, h3, q8, h4, if_true]
   refine o8 (by omega) ?_
   have := ih (pre ++ [x]) h5
   simp only [List.flatMap_append, List.flatMap_cons, List.flatMap_nil, List.append_nil] at this
   exact this
 exact go l [] rfl
def q09 (l : List S48) : List (List Int) × Bool := if V8 l = true then (evs l, true) else ([], false)
theorem v4a {l : List S48} (hl : l.length ≤ 1048576) : Ev (fun k => I9.f k l) (q09 l) := by
 unfold I9.f q09
 exact Ev.bind (q20 hl) (q2a (fun c => Ev.bind (v1e c) (Ev.now _)) (fun _ => Ev.now _))
theorem q82 {l : List S48} (hl : l.length ≤ 1048576) : Ev (fun k => R9.f k l) (q09 l) := by
 unfold R9.f q09
 exact Ev.bind (q1a hl) (q2a (fun c => Ev.bind (q6e c) (Ev.now _)) (fun _ => Ev.now _))
theorem q9e (l : List S48) : (q09 l).1.length ≤ 100000 ∧ ∀ r, r ∈ (q09 l).1 → r.length ≤ 1000 := by
 unfold q09
 split
 ·rename_i hg
  have h1 := q3w hg
  have h2 := K8 hg
  refine ⟨by dsimp only; omega, fun r hr => ?_⟩
  obtain ⟨v, u, c, rfl, _⟩ := q3u hg hr
  simp
 ·exact ⟨by simp, by simp⟩
theorem v3b (a b : List Int) (hl : a.length ≤ 1048576) (hab : a.length = b.length) : ∀ (az bs pre : List Int), a = pre ++ az → b = pre ++ bs → Ev (fun k => M3.l0 k a b (a.length : Int) (pre.length : Int)) (decide (az = bs)) := by
 intro az
 induction az with
 | nil =>
  intro bs pre h h'
  refine Ev.step (fun k => M3.l0.eq_2 ..) ?_
  simp only [q08 h, if_false]
  have : bs = [] := by
   have q1 := congrArg List.length h
   have q2 := congrArg List.length h'
   rw [List.length_append] at q1 q2
   rw [List.length_nil] at q1
   exact List.eq_nil_of_length_eq_zero (by omega)
  exact I4 (by rw [this]; simp)
 | cons x az ih =>
  intro bs pre h h'
  cases bs with
  | nil => rw [h, h'] at hab; simp at hab
  | cons y bs =>
   obtain ⟨h1, h2, h3, h4, h5⟩ := F6 h (by omega) 0
   obtain ⟨g1, _, _, g4, g5⟩ := F6 h' (by omega) 0
   refine Ev.step (fun k => M3.l0.eq_2 ..) ?_
   simp only [h1, h2, h3, g1, rd, h4, g4, if_true]
   refine q0i (fun c => ?_) (fun c => I4 (v8l (fun q => c (List.cons.inj q).1)))
   subst c
   refine q1k (ih bs (pre ++ [x]) h5 g5) (v96 ⟨fun q => by rw [q], fun q => (List.cons.inj q).2⟩)
theorem v4t (a b : List Int) (hl : a.length ≤ 1048576) : Ev (fun k => M3.f k a b) (decide (a = b)) := by
 unfold M3.f
 refine q0i (fun c => v3b a b hl (by omega) a b [] rfl rfl) (fun c => I4 (v8l (fun q => c (by rw [q]))))
theorem v8t {α : Type} {g : Nat → Option α} {a b : α} (h : Ev g a) (h' : Ev g b) : a = b := by
 obtain ⟨K, hK⟩ := h
 obtain ⟨K', hK'⟩ := h'
 have e := (hK (max K K') (by omega)).symm.trans (hK' (max K K') (by omega))
 exact Option.some.inj e
theorem v3y {R : List S48 × Bool} {x0 x8 out : List S48} {x9 x10 : Int} (x : S48) (hl : out.length ≤ 1000000) (j : Nat) (hj : j ≤ out.length)
  (hk : Ev (fun k => Q4.l0 k x0 (out.take j ++ x :: out.drop j) x8 x9 (wrap64 (x10 + 1))) R) :
  Ev (fun k => (some ([] : List S48)).bind fun y486 => (if 0 ≤ (j : Int) then (if (j : Int) ≤ (out.length : Int) then ((some (out.take (j : Int).toNat : List S48)).bind fun y489 => (if y486.length + y489.length < 5864062014805 then ((some (y486 ++ y489 : List S48)).bind fun y493 => ((some (([(⟨x.f0, x.f1, x.f2⟩ : S48)] : List S48))).bind fun y496 => (if y493.length + y496.length < 5864062014805 then ((some (y493 ++ y496 : List S48)).bind fun y499 => ((some (out.drop (j : Int).toNat : List S48)).bind fun y502 => (if y499.length + y502.length < 5864062014805 then (Q4.l0 k x0 (y499 ++ y502) x8 x9 (wrap64 (x10 + 1))) else (none)))) else (none)))) else (none))) else (none)) else (none))) R := by
 have e : ([] ++ out.take (j : Int).toNat ++ [x]) ++ out.drop (j : Int).toNat = out.take j ++ x :: out.drop j := by simp
 refine evC rfl (o8 (by omega) (o8 (by omega) (evC rfl (o8 (by simp; omega) (evC rfl (evC rfl (o8 (by simp; omega) (evC rfl (evC rfl (o8 (by simp; omega) ?_))))))))))
 show Ev (fun k => Q4.l0 k x0 (([] ++ out.take (j : Int).toNat ++ [x]) ++ out.drop (j : Int).toNat) x8 x9 (wrap64 (x10 + 1))) R
 rw [e]
 exact hk
theorem v02 {R : List S48 × Bool} {x0 x8 out : List S48} {x9 x10 : Int} (x : S48) (hl : out.length ≤ 1000000) : ∀ (m : Nat), m ≤ out.length →
  Ev (fun k => Q4.l0 k x0 (out.take (O6 x out m) ++ x :: out.drop (O6 x out m)) x8 x9 (wrap64 (x10 + 1))) R → Ev (fun k => Q4.l1 k x0 out (m : Int) x8 x9 x10 x.f0 x.f1 x.f2) R
 | 0, _, hk => Ev.step (fun k => Q4.l1.eq_2 ..) (Y3 (by omega) (v3y x hl 0 (by omega) hk))
 | m + 1, hm, hk => by
  have e1 : wrap64 (((m + 1 : Nat) : Int) - 1) = (m : Int) := by rw [C9 (by omega) (by omega)]; omega
  refine Ev.step (fun k => Q4.l1.eq_2 ..) (o8 (by omega) ?_)
  rw [e1]
  refine o8 (by omega) (o8 (by omega) (evC (q65 x (q8 out (m : Int))) ?_))
  have e2 : q8 out (m : Int) = out.getD m z48 := by simp [q8]
  rw [e2]
  simp only [O6] at hk
  by_cases c : hbef x (out.getD m z48)
  ·rw [if_pos c] at hk
   exact o8 (decide_eq_true c) (v02 x hl m (by omega) hk)
  ·rw [if_neg c] at hk
   exact Y3 (fun z => c (of_decide_eq_true z)) (v3y x hl (m + 1) hm hk)
theorem v0n {l : List S48} (hl : l.length ≤ 1000000) : ∀ (suf pre out : List S48), l = pre ++ suf → out.length = pre.length →
  Ev (fun k => Q4.l0 k l out l (l.length : Int) (pre.length : Int)) (if V8 (srt out suf) = true then (srt out suf, true) else ([], false)) := by
 intro suf
 induction suf with
 | nil =>
  intro pre out h ho
  have : pre.length ≤ 1000000 := by rw [h] at hl; simp at hl; omega
  exact Ev.step (fun k => Q4.l0.eq_2 ..) (Y3 (q08 h) (Ev.bind (q20 (by omega)) (q2a (fun _ => Ev.now _) (fun _ => Ev.now _))))
 | cons x suf ih =>
  intro pre out h ho
  obtain ⟨h1, h2, h3, h4, h5⟩ := F6 h (by omega) z48
  have hp : pre.length ≤ 1000000 := by rw [h] at hl; simp at hl; omega
  refine Ev.step (fun k => Q4.l0.eq_2 ..) ?_
  simp only [h1, h2, q8, h4, if_true]
  refine v02 x (by omega) out.length (Nat.le_refl _) ?_
  rw [h3]
  exact ih (pre ++ [x]) (q5m x out) h5 (by rw [v5f]; simp; omega)
theorem q60 {l : List S48} (hl : l.length ≤ 1000000) : Ev (fun k => Q4.f k l) (U4 l) := by
 unfold Q4.f U4
 exact v0n hl l [] [] rfl rfl
def q3r (l : List (List Int)) : Option (List S48) → List S48 × Bool
 | none => ([], false)
 | some out => if (U4 out).2 = true then (if evs (U4 out).1 = l then ((U4 out).1, true) else ([], false)) else ([], false)
def q17 (l : List (List Int)) : List S48 × Bool := if (l.length : Int) > 120 then ([], false) else q3r l (seS l [] (fun _ => -1))
theorem q2f {l : List S48} (h : (U4 l).2 = true) : V8 (U4 l).1 = true := by
 unfold U4 at h ⊢
 split
 ·rename_i c; exact c
 ·rename_i c; rw [if_neg c] at h; simp at h
theorem v6b (a b : List (List Int)) (x9 : List S48) (ha : a.length ≤ 1000000) (hab : a.length = b.length) (hr : ∀ r, r ∈ a → r.length ≤ 1000) : ∀ (az bz pre : List (List Int)), a = pre ++ az → b = pre ++ bz →
  Ev (fun k => d9.l2 k b x9 a (a.length : Int) (pre.length : Int)) (if az = bz then (x9, true) else ([], false)) := by
 intro az
 induction az with
 | nil =>
  intro bz pre h h'
  have : bz = [] := by
   have e1 := congrArg List.length h
   have e2 := congrArg List.length h'
   rw [List.length_append] at e1 e2
   rw [List.length_nil] at e1
   exact List.eq_nil_of_length_eq_zero (by omega)
  subst this
  exact Ev.step (fun k => d9.l2.eq_2 ..) (Y3 (q08 h) (I4 (by simp)))
 | cons x az ih =>
  intro bz pre h h'
  cases bz with
  | nil =>
   have e1 := congrArg List.length h
   have e2 := congrArg List.length h'
   rw [List.length_append] at e1 e2
   rw [List.length_cons] at e1
   rw [List.length_nil] at e2
   omega
  | cons y bz =>
   obtain ⟨h1, h2, h3, h4, h5⟩ := F6 h (by omega) []
   obtain ⟨g1, g2, g3, g4, g5⟩ := F6 h' (by rw [← hab]; omega) []
   have e4 : y8 a (pre.length : Int) = x := h4
   have e4' : y8 b (pre.length : Int) = y := g4
   have hx := hr x (by rw [h]; simp)
   refine Ev.step (fun k => d9.l2.eq_2 ..) (o8 h1 (o8 h2 (o8 h1 (o8 g1 ?_))))
   rw [e4, e4']
   refine Ev.bind (v4t x y (by omega)) ?_
   by_cases c : x = y
   ·subst c
    refine o8 (by simp) ?_
    rw [h3]
    refine q1k (ih bz (pre ++ [x]) h5 g5) (by simp)
   ·exact Y3 (by simp [c]) (I4 (by simp [c]))
theorem v6y (n : Int) : q0h.f n = some (decide (0 ≤ n ∧ n ≤ 2000)) := by
 unfold q0h.f; rw [q5e]; rfl
theorem v4x {arr : List Int} {t v u : Int} (ht : 0 ≤ t) (htl : t < (arr.length : Int)) (hu : 0 ≤ u) : rd (arr.set t.toNat v) u = if u = t then v else rd arr u := by
 unfold rd
 by_cases c : u = t
 ·subst c
  rw [if_pos rfl, List.getD_eq_getElem?_getD, List.getElem?_set_self (by omega)]; rfl
 ·rw [if_neg c, List.getD_eq_getElem?_getD, List.getElem?_set_ne (by omega), ← List.getD_eq_getElem?_getD]
theorem q8l {l : List (List Int)} {R : List S48 × Bool} (h : Ev (fun k => d9.l1 k l [] (List.replicate 20 (-1)) l (l.length : Int) 0) R) : ∀ (n t : Nat), t + n = 20 →
  Ev (fun k => d9.l0 k l (List.replicate t (-1) ++ List.replicate n 0) 20 (t : Int)) R
 | 0, t, hs => by
  obtain rfl : t = 20 := by omega
  refine Ev.step (fun k => d9.l0.eq_2 ..) (Y3 (by omega) ?_)
  simpa using h
 | n + 1, t, hs => by
  have e : (List.replicate t (-1 : Int) ++ List.replicate (n + 1) 0).set ((t : Int)).toNat (-1) = List.replicate (t + 1) (-1) ++ List.replicate n 0 := by
   rw [show ((t : Int)).toNat = t by omega, List.set_append_right _ _ (by simp)]
   rw [List.length_replicate, Nat.sub_self, List.replicate_succ' (n := t), List.replicate_succ (n := n)]
   simp
  have e3 : wrap64 ((t : Int) + 1) = ((t + 1 : Nat) : Int) := by rw [C9 (by omega) (by omega)]; omega
  refine Ev.step (fun k => d9.l0.eq_2 ..) (o8 (by omega) (o8 (by omega) (o8 (by simp; omega) ?_)))
  rw [e, e3]
  exact q8l h n (t + 1) (by omega)
theorem q92 {l a : List (List Int)} {out : List S48} {arr e : List Int} {n i : Int} : Ev (fun k => d9.j2 k l out arr e a n i true) ([], false) := Ev.step (fun _ => d9.j2.eq_2 ..) (o8 rfl (Ev.now _))
theorem v9p {l : List (List Int)} (hl : l.length ≤ 120) : ∀ (suf pre : List (List Int)) (out : List S48) (arr : List Int) (O : Int → Int), l = pre ++ suf → arr.length = 20 → (∀ t, 0 ≤ t → t ≤ 19 → rd arr t = O t) → out.length ≤ pre.length →
  Ev (fun k => d9.l1 k l out arr l (l.length : Int) (pre.length : Int)) (q3r l (seS suf out O)) := by
 intro suf
 induction suf with
 | nil =>
  intro pre out arr O h ha hO ho
  have hp : pre.length ≤ 120 := by rw [h] at hl; simp at hl; omega
  refine Ev.step (fun k => d9.l1.eq_2 ..) (Y3 (q08 h) (Ev.bind (q60 (by omega)) ?_))
  simp only [seS, q3r]
  refine q2a (fun c => ?_) (fun _ => Ev.now _)
  have hg := q2f c
  have hn := q3w hg
  have hq := K8 hg
  refine Ev.bind (v1e hg) (q0i (fun c2 => ?_) (fun c2 => I4 ?_))
  ·refine v6b (evs (U4 out).1) l _ (by omega) (by omega) (fun r hr => ?_) (evs (U4 out).1) l [] rfl rfl
   obtain ⟨v, u, c, rfl, _⟩ := q3u hg hr
   simp
  ·rw [if_neg (fun z => c2 (by rw [z]))]
 | cons e suf ih =>
  intro pre out arr O h ha hO ho
  have hp : pre.length ≤ 120 := by rw [h] at hl; simp at hl; omega
  obtain ⟨h1, h2, h3, h4, h5⟩ := F6 h (by omega) []
  have e4 : y8 l (pre.length : Int) = e := h4
  refine Ev.step (fun k => d9.l1.eq_2 ..) (o8 h1 (o8 h2 (o8 h1 ?_)))
  rw [e4]
  by_cases hok : okE e = true
  ·have he := q3s.1 hok
   refine o8 (by omega) (o8 (by omega) (evC (v6y _) (o8 (decide_eq_true he.2.1) (o8 (by omega) (evC (q5e ..) (o8 (decide_eq_true he.2.2.1) (o8 (by omega) (evC (q5e ..) (o8 (decide_eq_true he.2.2.2) (o8 (by omega) (o8 (by omega) ?_)))))))))))
   rw [hO (rd e 1) (by omega) (by omega)]
   simp only [seS]
   rw [if_pos hok]
   refine Ev.step (fun k => d9.j2.eq_2 ..) ?_
   by_cases c : decide (O (rd e 1) ≥ 0) = decide (rd e 2 = 1)
   ·rw [if_pos c]
    refine o8 ?_ (Ev.now _)
    rw [c]
    by_cases z : rd e 2 = 1
    ·simp [z]
    ·simp [z]
   ·rw [if_neg c]
    refine Y3 ?_ (o8 (by omega) ?_)
    ·intro z
     refine c ?_
     have z' := eq_of_beq z
     rw [z']
     by_cases w : rd e 2 = 1
     ·simp [w]
     ·simp [w]
    ·by_cases w : rd e 2 = 1
     ·rw [if_pos w]
      refine o8 w (o8 (by omega) (o8 (by omega) (o8 (by omega) (o8 (by omega) ?_))))
      rw [h3]
      refine ih (pre ++ [e]) out _ (upd O (rd e 1) (rd e 0)) h5 (by simpa using ha) (fun t h0 h19 => ?_) (by simp; omega)
      rw [v4x (by omega) (by omega) h0]
      unfold upd
      split
      ·rfl
      ·exact hO t h0 h19
     ·rw [if_neg w]
      refine Y3 w (o8 (by omega) (o8 (by omega) (o8 (by omega) (o8 (by omega) (o8 (by omega) ?_)))))
      rw [h3, hO (rd e 1) (by omega) (by omega)]
      refine ih (pre ++ [e]) _ _ (upd O (rd e 1) (-1)) h5 (by simpa using ha) (fun t h0 h19 => ?_) (by simp; omega)
      rw [v4x (by omega) (by omega) h0]
      unfold upd
      split
      ·rfl
      ·exact hO t h0 h19
  ·simp only [seS]
   rw [if_neg hok]
   show Ev _ ([], false)
   by_cases c3 : e.length = 3
   ·refine o8 (by omega) (o8 (by omega) (evC (v6y _) ?_))
    by_cases d0 : 0 ≤ rd e 0 ∧ rd e 0 ≤ 2000
    ·refine o8 (decide_eq_true d0) (o8 (by omega) (evC (q5e ..) ?_))
     by_cases d1 : 0 ≤ rd e 1 ∧ rd e 1 ≤ 19
     ·refine o8 (decide_eq_true d1) (o8 (by omega) (evC (q5e ..) ?_))
      exact Y3 (fun z => hok (q3s.2 ⟨c3, d0, d1, of_decide_eq_true z⟩)) q92
     ·exact Y3 (fun z => d1 (of_decide_eq_true z)) q92
    ·exact Y3 (fun z => d0 (of_decide_eq_true z)) q92
   ·exact Y3 (by omega) q92
theorem v9r (t : Int) (h0 : 0 ≤ t) (h1 : t ≤ 19) : rd (List.replicate 20 (-1)) t = -1 := by
 unfold rd
 rw [List.getD_eq_getElem?_getD, List.getElem?_replicate, if_pos (by omega)]; rfl
theorem v2y (l : List (List Int)) : Ev (fun k => d9.f k l) (q17 l) := by
 unfold d9.f q17
 refine q2a (fun _ => Ev.now _) (fun c => o8 (by omega) (evC rfl ?_))
 refine q8l ?_ 20 0 rfl
 exact v9p (by omega) l [] [] _ (fun _ => -1) rfl rfl (fun t h0 h1 => v9r t h0 h1) (by simp)
theorem q70 (a b : S48) : hlt a b = decide (hbef a b) := rfl
theorem v3e {out d : List S48} (h : SP d out) : U4 out = if V8 d = true then (d, true) else ([], false) := by
 refine q8e h.1 (h.2.imp fun {x y} q => ?_)
 rw [q70] at q
 exact of_decide_eq_false q
theorem q6y (out : List S48) (ho : out.length ≤ 1048576) : O5.f out = some (U4 out) := by
 unfold O5.f
 split
 ·rename_i c
  unfold U4
  rw [if_neg]
  intro z
  have := K8 z
  rw [v1q] at this
  simp at this
  omega
 ·have hS : q4n out (U4 out) := by
   intro d hd
   have hl : d.length ≤ 1048576 := by rw [hd.1.length_eq]; exact ho
   obtain ⟨k, hk⟩ := (q1a hl).rounds
   rw [v3e hd]
   refine ⟨k, ?_⟩
   by_cases c : V8 d = true
   ·rw [if_pos c]; exact ⟨hk.trans (by rw [c]), rfl⟩
   ·rw [if_neg c]; exact ⟨hk.trans (by rw [Bool.eq_false_iff.2 c]), rfl⟩
  rw [dif_pos ⟨_, hS⟩]
  have hc := (⟨_, hS⟩ : ∃ r, q4n out r).choose_spec
  generalize (⟨_, hS⟩ : ∃ r, q4n out r).choose = r at hc ⊢
  have hsp : SP (srt [] out) out := ⟨q59 out [], (q57 out [] List.Pairwise.nil).imp fun {x y} q => by rw [q70]; exact decide_eq_false q⟩
  obtain ⟨k, hk, h1⟩ := hc _ hsp
  have hl : (srt [] out).length ≤ 1048576 := by rw [v1q]; simpa using ho
  have e2 : r.2 = V8 (srt [] out) := v8t (Ev.of (fun k => Q3.mono (srt [] out) k) hk) (q1a hl)
  unfold U4
  obtain ⟨r1, r2⟩ := r
  dsimp only at h1 e2 hk
  clear hc hk
  subst e2
  by_cases c : V8 (srt [] out) = true
  ·rw [if_pos c] at h1
   rw [if_pos c, h1, c]
  ·rw [if_neg c] at h1
   rw [if_neg c, h1, Bool.eq_false_iff.2 c]
theorem q74 : ∀ (l : List (List Int)) (out : List S48) (M : Int → Option Int), soe l out M = seI l out M
 | [], _, _ => rfl
 | e :: l, out, M => by
  simp only [soe, seI]
  cases M (rd e 1) with
  | none => simp only [q74 l]; rfl
  | some s => simp only [q74 l]; rfl
theorem q7v : ∀ {l : List (List Int)} {out q : List S48} {M : Int → Option Int}, seI l out M = some q → q.length ≤ out.length + l.length
 | [], out, q, M, h => by simp only [seI] at h; injection h with h; subst h; simp
 | e :: l, out, q, M, h => by
  simp only [seI] at h
  split at h
  ·split at h
   ·cases h
   ·split at h
    ·have := q7v h; simp at this ⊢; omega
    ·have := q7v h; simp; omega
  ·cases h
theorem q8r {d : List S48} (l : List (List Int)) (hg : V8 d = true) : q3c (evs d) l = some (decide (evs d = l)) := by
 unfold q3c
 rw [if_pos]
 have h1 := q3w hg
 have h2 := K8 hg
 refine ⟨by omega, fun r hr => ?_⟩
 obtain ⟨v, u, c, rfl, _⟩ := q3u hg hr
 simp
theorem q89 (l : List (List Int)) (hw : ∀ e, e ∈ l → ∀ x, x ∈ e → -9223372036854775808 ≤ x ∧ x ≤ 9223372036854775807) : Ev (fun k => D8.f k l) (q17 l) := by
 unfold D8.f q17
 refine q2a (fun _ => Ev.now _) (fun c => o8 (List.all_eq_true.2 fun e he => List.all_eq_true.2 fun x hx => decide_eq_true (hw e he x hx)) ?_)
 by_cases hok : l.all okE = true
 ·have e1 : soe l [] (fun _ => none) = seS l [] (fun _ => -1) := by
   rw [q74, ← q7t hok]
   congr 1
  rw [e1]
  cases hs : seS l [] (fun _ => -1) with
  | none => exact Ev.now _
  | some out =>
   have hn := q9u hs
   simp at hn
   refine evC (q6y out (by omega)) ?_
   simp only [q3r]
   refine q2a (fun c2 => ?_) (fun _ => Ev.now _)
   have hg := q2f c2
   refine Ev.bind (q6e hg) (evC (q8r l hg) (q0i (fun c3 => I4 ?_) (fun c3 => I4 ?_)))
   ·rw [if_pos (of_decide_eq_true c3)]
   ·rw [if_neg (fun z => c3 (decide_eq_true z))]
 ·rw [q7o hok]
  show Ev _ ([], false)
  cases hs : soe l [] (fun _ => none) with
  | none => exact Ev.now _
  | some out =>
   have hn := q7v ((q74 _ _ _).symm.trans hs)
   simp at hn
   refine evC (q6y out (by omega)) (q0i (fun c2 => ?_) (fun _ => Ev.now _))
   have hg := q2f c2
   refine Ev.bind (q6e hg) (evC (q8r l hg) (Y3 (fun c3 => hok ?_) (Ev.now _)))
   rw [← of_decide_eq_true c3]
   exact v8p hg
theorem v3i (l : List (List Int)) : (q17 l).1.length ≤ 60 := by
 unfold q17
 split
 ·simp
 ·cases seS l [] (fun _ => -1) with
  | none => simp [q3r]
  | some out =>
   simp only [q3r]
   split
   ·rename_i c
    have := K8 (q2f c)
    split
    ·exact this
    ·simp
   ·simp
def q2t (a b : List Int) : Prop := rd a 0 < rd b 0 ∨ (rd a 0 = rd b 0 ∧ rd a 1 < rd b 1)
theorem q9z {a : List Int} : ¬ q2t a a := by unfold q2t; omega
theorem q5p {a b c a' b' c' : Int} (h : a < a' ∨ (a = a' ∧ b < b')) : q2t [a, b, c] [a', b', c'] := h
theorem q9a {s : Int} {l : List S48} (hh : ∀ x, x ∈ l → hole x) (hp : l.Pairwise (fun y x => y.f0 = x.f0 → y.f2 < x.f1)) : ∀ (n : Nat) (t : Int), (q0a s l t n).Pairwise q2t
 | 0, _ => List.Pairwise.nil
 | n + 1, t => by
  simp only [q0a]
  refine List.pairwise_append.2 ⟨q5q (q6j hh hp), q9a hh hp n (t + 1), fun a ha b hb => ?_⟩
  obtain ⟨c, rfl, _⟩ := q6n ha
  obtain ⟨u, c', rfl, h1, _⟩ := q2s hb
  exact q5p (.inr ⟨rfl, by omega⟩)
theorem q98 {l : List S48} (hh : ∀ x, x ∈ l → hole x) (hp : l.Pairwise (fun y x => y.f0 = x.f0 → y.f2 < x.f1)) : ∀ (n : Nat) (s : Int), (q0k l s n).Pairwise q2t
 | 0, _ => List.Pairwise.nil
 | n + 1, s => by
  simp only [q0k]
  refine List.pairwise_append.2 ⟨q9a hh hp 20 0, q98 hh hp n (s + 1), fun a ha b hb => ?_⟩
  obtain ⟨u, c, rfl, _⟩ := q2s ha
  obtain ⟨v, u', c', rfl, h1, _⟩ := q2r hb
  exact q5p (.inl (by omega))
theorem q1y {l : List S48} (hg : V8 l = true) : D9 [] l = true := by simp only [V8, Bool.and_eq_true] at hg; exact hg.1
theorem q97 {l : List S48} (hg : V8 l = true) : (evs l).Pairwise q2t := by
 obtain ⟨h1, h2, _⟩ := q2m (q1y hg)
 exact q98 h1 h2 _ _
theorem q6m {l : List S48} (hg : V8 l = true) : (evs l).Perm (l.flatMap q2l) := by
 rw [← q9b hg]; exact List.mergeSort_perm _ _
theorem v1b {l : List S48} (hg : V8 l = true) (e : List Int) : e ∈ evs l ↔ ∃ x, x ∈ l ∧ (e = [x.f1, x.f0, 1] ∨ e = [x.f2, x.f0, 0]) := by
 rw [(q6m hg).mem_iff, List.mem_flatMap]
 constructor
 ·rintro ⟨x, hx, h⟩
  simp only [q2l, List.mem_cons, List.not_mem_nil, or_false] at h
  exact ⟨x, hx, h⟩
 ·rintro ⟨x, hx, h⟩
  refine ⟨x, hx, ?_⟩
  simp only [q2l, List.mem_cons, List.not_mem_nil, or_false]
  exact h
/-- two holes on one track lie apart -/
theorem q8h : ∀ {l : List S48}, l.Pairwise (fun y x => y.f0 = x.f0 → y.f2 < x.f1) → ∀ x, x ∈ l → ∀ y, y ∈ l → x.f0 = y.f0 → x = y ∨ x.f2 < y.f1 ∨ y.f2 < x.f1
 | [], _, x, hx, _, _, _ => by simp at hx
 | a :: l, h, x, hx, y, hy, e => by
  obtain ⟨h1, h2⟩ := List.pairwise_cons.1 h
  rcases List.mem_cons.1 hx with p | p
  ·rcases List.mem_cons.1 hy with q | q
   ·exact .inl (p.trans q.symm)
   ·exact .inr (.inl (by rw [p]; rw [p] at e; exact h1 y q e))
  ·rcases List.mem_cons.1 hy with q | q
   ·exact .inr (.inr (by rw [q]; rw [q] at e; exact h1 x p e.symm))
   ·exact q8h h2 x p y q e
structure v1z (l : List S48) (pre : List (List Int)) (out : List S48) (O : Int → Int) : Prop where
 nd : out.Nodup
 mem : ∀ x, x ∈ out ↔ x ∈ l ∧ [x.f2, x.f0, 0] ∈ pre
 opn : ∀ x, x ∈ l → [x.f1, x.f0, 1] ∈ pre → [x.f2, x.f0, 0] ∉ pre → O x.f0 = x.f1
 shut : ∀ u, (∀ x, x ∈ l → x.f0 = u → [x.f1, x.f0, 1] ∈ pre → [x.f2, x.f0, 0] ∈ pre) → O u = -1
theorem q6o {l : List S48} (hh : ∀ x, x ∈ l → hole x) (ha : ∀ x, x ∈ l → ∀ y, y ∈ l → x.f0 = y.f0 → x = y ∨ x.f2 < y.f1 ∨ y.f2 < x.f1) :
  ∀ (suf pre : List (List Int)) (out : List S48) (O : Int → Int), (pre ++ suf).Pairwise q2t → (∀ e, e ∈ pre ++ suf ↔ ∃ x, x ∈ l ∧ (e = [x.f1, x.f0, 1] ∨ e = [x.f2, x.f0, 0])) → v1z l pre out O →
   ∃ q O', seS suf out O = some q ∧ v1z l (pre ++ suf) q O'
 | [], pre, out, O, _, _, hI => ⟨out, O, rfl, by rw [List.append_nil]; exact hI⟩
 | e :: suf, pre, out, O, hs, hm, hI => by
  have hap : pre ++ e :: suf = (pre ++ [e]) ++ suf := by simp
  have hp := List.pairwise_append.1 hs
  have before : ∀ y, y ∈ pre → q2t y e := fun y hy => hp.2.2 y hy e (by simp)
  have inpre : ∀ y, y ∈ pre ++ e :: suf → q2t y e → y ∈ pre := by
   intro y hy hlt
   rcases List.mem_append.1 hy with q | q
   ·exact q
   ·exfalso
    rcases List.mem_cons.1 q with r | r
    ·rw [r] at hlt; exact q9z hlt
    ·have := (List.pairwise_cons.1 hp.2.1).1 y r
     unfold q2t at this hlt; omega
  have notpre : e ∉ pre := fun z => q9z (before e z)
  obtain ⟨x, hx, hc⟩ := (hm e).1 (by simp)
  have hxo := hh x hx
  unfold hole at hxo
  rcases hc with hc | hc
  ·-- an opening
   subst hc
   have hO : O x.f0 = -1 := by
    refine hI.shut x.f0 fun y hy hf ho => ?_
    have hlt := before _ ho
    have hlt : y.f1 < x.f1 ∨ (y.f1 = x.f1 ∧ y.f0 < x.f0) := hlt
    rcases ha x hx y hy hf.symm with r | r | r
    ·subst r; omega
    ·omega
    ·exact inpre _ ((hm _).2 ⟨y, hy, .inr rfl⟩) (q5p (.inl r))
   have hok : okE [x.f1, x.f0, 1] = true := q3s.2 ⟨rfl, ⟨hxo.2.2.1, show x.f1 ≤ 2000 by omega⟩, ⟨hxo.1, hxo.2.1⟩, by show (0 : Int) ≤ 1; omega, by show (1 : Int) ≤ 1; omega⟩
   have hstep : seS ([x.f1, x.f0, 1] :: suf) out O = seS suf out (upd O x.f0 x.f1) := by
    simp only [seS]
    rw [if_pos hok, if_neg (by rw [show rd [x.f1, x.f0, 1] 1 = x.f0 from rfl, hO, show rd [x.f1, x.f0, 1] 2 = 1 from rfl]; decide), if_pos (show rd [x.f1, x.f0, 1] 2 = 1 from rfl)]
    rfl
   rw [hstep, hap]
   refine q6o hh ha suf (pre ++ [[x.f1, x.f0, 1]]) out (upd O x.f0 x.f1) (by rw [← hap]; exact hs) (by rw [← hap]; exact hm) ⟨hI.nd, fun y => ?_, fun y hy ho hn => ?_, fun u hu => ?_⟩
   ·rw [hI.mem y]
    constructor
    ·rintro ⟨h1, h2⟩; exact ⟨h1, by simp [h2]⟩
    ·rintro ⟨h1, h2⟩
     refine ⟨h1, ?_⟩
     rcases List.mem_append.1 h2 with r | r
     ·exact r
     ·simp at r
   ·have hn' : [y.f2, y.f0, 0] ∉ pre := fun z => hn (by simp [z])
    unfold upd
    by_cases c : y.f0 = x.f0
    ·rw [if_pos c]
     rcases List.mem_append.1 ho with r | r
     ·exfalso
      have hlt : y.f1 < x.f1 ∨ (y.f1 = x.f1 ∧ y.f0 < x.f0) := before _ r
      rcases ha x hx y hy c.symm with r' | r' | r'
      ·subst r'; omega
      ·have := hh y hy; unfold hole at this; omega
      ·exact hn' (inpre _ ((hm _).2 ⟨y, hy, .inr rfl⟩) (q5p (.inl r')))
     ·simp at r; omega
    ·rw [if_neg c]
     refine hI.opn y hy ?_ hn'
     rcases List.mem_append.1 ho with r | r
     ·exact r
     ·simp at r; exact absurd r.2 c
   ·unfold upd
    by_cases c : u = x.f0
    ·exfalso
     have := hu x hx c.symm (by simp)
     rcases List.mem_append.1 this with r | r
     ·have hlt : x.f2 < x.f1 ∨ (x.f2 = x.f1 ∧ x.f0 < x.f0) := before _ r
      omega
     ·simp at r
    ·rw [if_neg c]
     refine hI.shut u fun y hy hf ho => ?_
     rcases List.mem_append.1 (hu y hy hf (by simp [ho])) with r | r
     ·exact r
     ·simp at r
  ·-- a closing
   subst hc
   have ho : [x.f1, x.f0, 1] ∈ pre := inpre _ ((hm _).2 ⟨x, hx, .inl rfl⟩) (q5p (.inl (by omega)))
   have hO : O x.f0 = x.f1 := hI.opn x hx ho notpre
   have hok : okE [x.f2, x.f0, 0] = true := q3s.2 ⟨rfl, ⟨show 0 ≤ x.f2 by omega, hxo.2.2.2.2⟩, ⟨hxo.1, hxo.2.1⟩, by show (0 : Int) ≤ 0; omega, by show (0 : Int) ≤ 1; omega⟩
   have hstep : seS ([x.f2, x.f0, 0] :: suf) out O = seS suf (out ++ [x]) (upd O x.f0 (-1)) := by
    simp only [seS]
    rw [if_pos hok, if_neg (by rw [show rd [x.f2, x.f0, 0] 1 = x.f0 from rfl, hO, show rd [x.f2, x.f0, 0] 2 = 0 from rfl, decide_eq_true hxo.2.2.1]; decide), if_neg (by show ¬ (0 : Int) = 1; omega), show rd [x.f2, x.f0, 0] 1 = x.f0 from rfl, hO]
    rfl
   have only : ∀ y, y ∈ l → [y.f2, y.f0, 0] = [x.f2, x.f0, 0] → y = x := by
    intro y hy h
    injection h with h1 h2
    injection h2 with h2 _
    have := hh y hy
    unfold hole at this
    rcases ha x hx y hy h2.symm with r | r | r
    ·exact r.symm
    ·omega
    ·omega
   rw [hstep, hap]
   refine q6o hh ha suf (pre ++ [[x.f2, x.f0, 0]]) (out ++ [x]) (upd O x.f0 (-1)) (by rw [← hap]; exact hs) (by rw [← hap]; exact hm) ⟨?_, fun y => ?_, fun y hy ho' hn => ?_, fun u hu => ?_⟩
   ·refine List.nodup_append.2 ⟨hI.nd, by simp, fun a ha' b hb => ?_⟩
    simp at hb
    subst hb
    rintro rfl
    exact notpre ((hI.mem _).1 ha').2
   ·rw [List.mem_append, hI.mem y, List.mem_append]
    constructor
    ·rintro (⟨h1, h2⟩ | h)
     ·exact ⟨h1, .inl h2⟩
     ·simp at h; subst h; exact ⟨hx, .inr (by simp)⟩
    ·rintro ⟨h1, h2 | h2⟩
     ·exact .inl ⟨h1, h2⟩
     ·right; rw [only y h1 (by simpa using h2)]; simp
   ·have hn' : [y.f2, y.f0, 0] ∉ pre := fun z => hn (by simp [z])
    have ho2 : [y.f1, y.f0, 1] ∈ pre := by
     rcases List.mem_append.1 ho' with r | r
     ·exact r
     ·simp at r
    unfold upd
    by_cases c : y.f0 = x.f0
    ·exfalso
     have e1 := hI.opn y hy ho2 hn'
     rw [c, hO] at e1
     have := hh y hy
     unfold hole at this
     rcases ha x hx y hy c.symm with r' | r' | r'
     ·subst r'; exact hn (by simp)
     ·omega
     ·omega
    ·rw [if_neg c]; exact hI.opn y hy ho2 hn'
   ·unfold upd
    by_cases c : u = x.f0
    ·rw [if_pos c]
    ·rw [if_neg c]
     refine hI.shut u fun y hy hf ho2 => ?_
     rcases List.mem_append.1 (hu y hy hf (by simp [ho2])) with r | r
     ·exact r
     ·exfalso
      simp at r
      exact c (hf.symm.trans r.2)
theorem v08 : ∀ {l : List S48}, l.Pairwise hbef → l.Nodup := by
 intro l h
 refine h.imp ?_
 intro a b hab e
 subst e
 unfold hbef at hab; omega
theorem v5c {l : List S48} (hg : V8 l = true) : ∃ q, seS (evs l) [] (fun _ => -1) = some q ∧ q.Perm l := by
 obtain ⟨h1, h2, _⟩ := q2m (q1y hg)
 obtain ⟨q, O', hq, hI⟩ := q6o h1 (q8h h2) (evs l) [] [] (fun _ => -1) (by simpa using q97 hg) (fun e => by simpa using v1b hg e) ⟨List.nodup_nil, by simp, by simp, fun _ _ => rfl⟩
 refine ⟨q, hq, ?_⟩
 refine (List.perm_ext_iff_of_nodup hI.nd (v08 (q2k (q1y hg)).1)).2 fun x => ?_
 rw [hI.mem x, List.nil_append]
 exact ⟨fun h => h.1, fun h => ⟨h, (v1b hg _).2 ⟨x, h, .inr rfl⟩⟩⟩
theorem v0q {l q : List S48} (hg : V8 l = true) (hp : q.Perm l) : U4 q = (l, true) := by
 rw [q8e hp.symm ((q2k (q1y hg)).1.imp fun {x y} h => by unfold hbef at *; omega), if_pos hg]
def cOp (v : Int) : List S48 → Int
 | [] => 0
 | x :: l => (if H8 v x then 1 else 0) + cOp v l
theorem q9t (v : Int) : ∀ (l : List S48), 0 ≤ cOp v l
 | [] => by simp [cOp]
 | x :: l => by have := q9t v l; simp only [cOp]; split <;> omega
theorem q87 (v : Int) : ∀ (l : List S48), cOp v l = ((q2v v l).length : Int)
 | [] => rfl
 | x :: l => by
  simp only [cOp, q87 v l, q2v, List.filter_cons]
  by_cases c : H8 v x
  ·simp [c]; omega
  ·simp [c]
theorem v4i {l : List S48} (hg : V8 l = true) (v : Int) : ((opn v [] l).length : Int) = cOp v l := by
 have := (q52 v l [] [] (q1y hg) (by simp)).length_eq
 rw [q87, this]; simp
def q2e (v : Int) : List (List Int) → Int
 | [] => 0
 | e :: l => (if rd e 0 ≤ v then 2 * rd e 2 - 1 else 0) + q2e v l
theorem q4m (v : Int) : ∀ (a b : List (List Int)), q2e v (a ++ b) = q2e v a + q2e v b
 | [], b => by simp [q2e]
 | e :: a, b => by simp only [List.cons_append, q2e, q4m v a b]; omega
theorem q8c {v : Int} {a b : List (List Int)} (h : a.Perm b) : q2e v a = q2e v b := by
 induction h with
 | nil => rfl
 | cons x _ ih => simp only [q2e, ih]
 | swap x y l => simp only [q2e]; omega
 | trans _ _ h1 h2 => exact h1.trans h2
theorem q5l {v : Int} : ∀ {l : List S48}, (∀ x, x ∈ l → hole x) → q2e v (l.flatMap q2l) = cOp v l
 | [], _ => rfl
 | x :: l, h => by
  have hx := h x (by simp)
  unfold hole at hx
  rw [List.flatMap_cons, q4m, q5l (fun y hy => h y (by simp [hy]))]
  have e : q2e v (q2l x) = (if x.f1 ≤ v then 1 else 0) + (if x.f2 ≤ v then -1 else 0) := by
   show (if x.f1 ≤ v then 2 * 1 - 1 else 0) + ((if x.f2 ≤ v then 2 * 0 - 1 else 0) + 0) = _
   rw [Int.add_zero]; rfl
  rw [e]
  simp only [cOp]
  by_cases c1 : x.f1 ≤ v
  ·by_cases c2 : x.f2 ≤ v
   ·rw [if_pos c1, if_pos c2, if_neg (show ¬ H8 v x from fun z => by unfold H8 at z; omega)]; omega
   ·rw [if_pos c1, if_neg c2, if_pos (show H8 v x from ⟨c1, by omega⟩)]; omega
  ·rw [if_neg c1, if_neg (show ¬ x.f2 ≤ v by omega), if_neg (show ¬ H8 v x from fun z => by unfold H8 at z; omega)]; omega
def q1l : List (List Int) → Int
 | [] => 0
 | e :: l => 2 * rd e 2 - 1 + q1l l
theorem q8a : ∀ (l : List (List Int)) (e : List Int), q1l (l ++ [e]) = q1l l + (2 * rd e 2 - 1)
 | [], e => by simp [q1l]
 | x :: l, e => by simp only [List.cons_append, q1l, q8a l e]; omega
theorem q6c {v : Int} : ∀ {l : List (List Int)}, (∀ e, e ∈ l → rd e 0 ≤ v) → q2e v l = q1l l
 | [], _ => rfl
 | e :: l, h => by
  have ih := q6c (l := l) (fun y hy => h y (List.mem_cons_of_mem e hy))
  simp only [q2e, q1l]
  rw [ih, if_pos (h e (by simp))]
theorem q9s {v : Int} : ∀ {l : List (List Int)}, (∀ e, e ∈ l → v < rd e 0) → q2e v l = 0
 | [], _ => rfl
 | e :: l, h => by
  have h1 := h e (by simp)
  have ih := q9s (l := l) (fun y hy => h y (List.mem_cons_of_mem e hy))
  simp only [q2e]
  rw [ih, if_neg (by omega)]; rfl
/-- at the end of a step the events so far tell how many tracks are open -/
theorem q86 {l : List S48} (hg : V8 l = true) {pre suf : List (List Int)} {x : List Int} (h : evs l = (pre ++ [x]) ++ suf) (hs : ∀ y, suf.head? = some y → rd x 0 < rd y 0) : q1l (pre ++ [x]) = cOp (rd x 0) l := by
 have hp := q97 hg
 rw [h] at hp
 obtain ⟨p1, p2, p3⟩ := List.pairwise_append.1 hp
 have w := q8c (v := rd x 0) (q6m hg)
 rw [q5l (M8 hg), h, q4m] at w
 rw [← w, q6c, q9s, Int.add_zero]
 ·intro e he
  cases suf with
  | nil => simp at he
  | cons y suf =>
   have hy := hs y rfl
   rcases List.mem_cons.1 he with r | r
   ·rw [r]; exact hy
   ·have := (List.pairwise_cons.1 p2).1 e r
    unfold q2t at this; omega
 ·intro e he
  rcases List.mem_append.1 he with r | r
  ·have := (List.pairwise_append.1 p1).2.2 e r x (by simp)
   unfold q2t at this; omega
  ·rw [List.mem_singleton] at r; rw [r]; exact Int.le_refl _
theorem v6a {l : List S48} (hg : V8 l = true) : q1l (evs l) = 0 := by
 have hh := M8 hg
 have w := q8c (v := 2000) (q6m hg)
 rw [q5l hh, q6c (fun e he => by
  obtain ⟨v, u, c, rfl, _, h, _⟩ := q3u hg he
  exact h)] at w
 rw [w]
 have : ∀ (l : List S48), (∀ x, x ∈ l → hole x) → cOp 2000 l = 0 := by
  intro l
  induction l with
  | nil => intro _; rfl
  | cons x l ih =>
   intro h
   have hx := h x (by simp)
   unfold hole at hx
   simp only [cOp]
   rw [ih (fun y hy => h y (List.mem_cons_of_mem x hy)), if_neg (by unfold H8; omega)]; rfl
 exact this l hh
theorem v1d {v u : Int} : ∀ {l : List S48}, (∀ x, x ∈ l → H8 v x → H8 u x) → cOp v l ≤ cOp u l
 | [], _ => Int.le_refl _
 | x :: l, h => by
  have := v1d (fun y hy => h y (List.mem_cons_of_mem x hy))
  have hx := h x (by simp)
  simp only [cOp]
  by_cases c : H8 v x
  ·rw [if_pos c, if_pos (hx c)]; omega
  ·rw [if_neg c]; split <;> omega
theorem latest (v : Int) : ∀ (l : List S48), cOp v l ≠ 0 → ∃ x, x ∈ l ∧ H8 v x ∧ ∀ y, y ∈ l → H8 v y → y.f1 ≤ x.f1
 | [], h => absurd rfl h
 | x :: l, h => by
  by_cases z : cOp v l = 0
  ·have none : ∀ (l : List S48), cOp v l = 0 → ∀ y, y ∈ l → ¬ H8 v y := by
    intro l
    induction l with
    | nil => intro _ y hy; simp at hy
    | cons a l ih =>
     intro h y hy
     have hp := q9t v l
     simp only [cOp] at h
     by_cases c : H8 v a
     ·rw [if_pos c] at h; omega
     ·rw [if_neg c] at h
      rcases List.mem_cons.1 hy with r | r
      ·rw [r]; exact c
      ·exact ih (by omega) y r
   have c : H8 v x := Classical.byContradiction fun c => h (by simp only [cOp]; rw [if_neg c, z]; rfl)
   refine ⟨x, by simp, c, fun y hy hy2 => ?_⟩
   rcases List.mem_cons.1 hy with r | r
   ·rw [r]; exact Int.le_refl _
   ·exact absurd hy2 (none l z y r)
  ·obtain ⟨m, hm, ho, hb⟩ := latest v l z
   by_cases c : H8 v x ∧ m.f1 < x.f1
   ·refine ⟨x, by simp, c.1, fun y hy hy2 => ?_⟩
    rcases List.mem_cons.1 hy with r | r
    ·rw [r]; exact Int.le_refl _
    ·have := hb y r hy2; omega
   ·refine ⟨m, by simp [hm], ho, fun y hy hy2 => ?_⟩
    rcases List.mem_cons.1 hy with r | r
    ·subst r; exact Int.not_lt.1 fun z => c ⟨hy2, z⟩
    ·exact hb y r hy2
def I7 (l : List S48) : List S48 → Int → Int → Int × Int
 | [], b, m => (b, m)
 | x :: suf, b, m => if cOp x.f1 l > m then I7 l suf x.f1 (cOp x.f1 l) else I7 l suf b m
theorem q6k (l : List S48) : ∀ (suf pre : List S48) (b m : Int), (∀ x, x ∈ suf → hole x) → suf.Pairwise hbef → (∀ x, x ∈ pre → cOp x.f1 l ≤ m ∧ (cOp x.f1 l = m → b ≤ x.f1)) → (∀ x, x ∈ suf → b ≤ x.f1) →
  (∀ x, x ∈ pre ++ suf → cOp x.f1 l ≤ (I7 l suf b m).2 ∧ (cOp x.f1 l = (I7 l suf b m).2 → (I7 l suf b m).1 ≤ x.f1)) ∧ m ≤ (I7 l suf b m).2
 | [], pre, b, m, _, _, hp, _ => by rw [List.append_nil]; exact ⟨hp, Int.le_refl _⟩
 | x :: suf, pre, b, m, hh, hs, hp, hb => by
  obtain ⟨s1, s2⟩ := List.pairwise_cons.1 hs
  have e : pre ++ x :: suf = (pre ++ [x]) ++ suf := by simp
  rw [e]
  simp only [I7]
  by_cases c : cOp x.f1 l > m
  ·rw [if_pos c]
   obtain ⟨h1, h2⟩ := q6k l suf (pre ++ [x]) x.f1 (cOp x.f1 l) (fun y hy => hh y (by simp [hy])) s2 (fun y hy => by
    rcases List.mem_append.1 hy with r | r
    ·have := (hp y r).1; exact ⟨by omega, fun z => by omega⟩
    ·rw [List.mem_singleton] at r; rw [r]; exact ⟨Int.le_refl _, fun _ => Int.le_refl _⟩) (fun y hy => by
    have := s1 y hy; unfold hbef at this; omega)
   exact ⟨h1, by omega⟩
  ·rw [if_neg c]
   exact q6k l suf (pre ++ [x]) b m (fun y hy => hh y (by simp [hy])) s2 (fun y hy => by
    rcases List.mem_append.1 hy with r | r
    ·exact hp y r
    ·rw [List.mem_singleton] at r; rw [r]; exact ⟨by omega, fun _ => hb x (by simp)⟩) (fun y hy => hb y (by simp [hy]))
/-- the greatest count of open tracks, and where it is first met -/
theorem v7l {l : List S48} (hg : V8 l = true) (v : Int) (_ : 0 ≤ v) : cOp v l ≤ (I7 l l 0 (cOp 0 l)).2 ∧ (cOp v l = (I7 l l 0 (cOp 0 l)).2 → 0 < (I7 l l 0 (cOp 0 l)).2 → (I7 l l 0 (cOp 0 l)).1 ≤ v) := by
 have hh := M8 hg
 obtain ⟨h1, h2⟩ := q6k l l [] 0 (cOp 0 l) hh (q2k (q1y hg)).1 (by simp) (fun x hx => by have := hh x hx; unfold hole at this; omega)
 by_cases z : cOp v l = 0
 ·rw [z]
  have := q9t 0 l
  exact ⟨by omega, fun _ _ => by omega⟩
 ·obtain ⟨x, hx, ho, hb⟩ := latest v l z
  have hm : cOp v l ≤ cOp x.f1 l := v1d fun y hy hy2 => by
   have := hb y hy hy2
   unfold H8 at *; omega
  obtain ⟨k1, k2⟩ := h1 x (by simpa using hx)
  refine ⟨by omega, fun e _ => ?_⟩
  have := k2 (by omega)
  unfold H8 at ho; omega
theorem v4n (y : Int) : 0 ≤ wrap64 (Go.bits .and .u64 (IntKind.u64.wrap y / 1099511627776) 255) ∧ wrap64 (Go.bits .and .u64 (IntKind.u64.wrap y / 1099511627776) 255) ≤ 255 := by
 have h : 0 ≤ IntKind.u64.wrap y / 1099511627776 ∧ IntKind.u64.wrap y / 1099511627776 < 18446744073709551616 := by rw [IntKind.wrap_u64]; omega
 generalize IntKind.u64.wrap y / 1099511627776 = x at h
 have e := Go.bits_and_u64_nat x.toNat 255 (by omega) (by omega)
 rw [show ((x.toNat : Nat) : Int) = x by omega] at e
 have l : x.toNat &&& 255 ≤ 255 := Nat.and_le_right
 rw [show Go.bits .and .u64 x 255 = ((x.toNat &&& 255 : Nat) : Int) from e, C9 (by omega) (by omega)]
 omega
def bytes (l : List Int) : Prop := ∀ x, x ∈ l → 0 ≤ x ∧ x ≤ 255
theorem v1k {l : List Int} (hl : bytes l) {a : Int} (s : Int) (h0 : 0 ≤ a) (h1 : a ≤ 1000000000) : ∃ v s', M9.f l a s = some (v, a + 1, s') ∧ 0 ≤ v ∧ v ≤ 255 := by
 unfold M9.f
 rw [C9 (x := a + 1) (by omega) (by omega)]
 by_cases c : a < (l.length : Int)
 ·have hr : 0 ≤ rd l a ∧ rd l a ≤ 255 := hl _ (by unfold rd; rw [List.getD_eq_getElem?_getD, List.getElem?_eq_getElem (by omega), Option.getD_some]; exact List.getElem_mem _)
  rw [if_pos c, if_pos h0]
  split
  ·exact ⟨_, _, rfl, by rw [C9 (by omega) (by omega)]; omega⟩
  ·exact ⟨_, _, rfl, v4n _⟩
 ·rw [if_neg c]
  split
  ·exact ⟨_, _, rfl, by omega⟩
  ·exact ⟨_, _, rfl, v4n _⟩
theorem L9 {l : List Int} (hl : bytes l) {a : Int} (s : Int) (h0 : 0 ≤ a) (h1 : a ≤ 900000000) {m : Int} (hm : m ≤ 65000) : ∃ v a' s', o6.f l a s m = some (v, a', s') ∧ (0 ≤ v ∧ (1 ≤ m → v < m)) ∧ a ≤ a' ∧ a' ≤ a + 2 := by
 unfold o6.f
 by_cases c : m ≤ 1
 ·rw [if_pos c]; exact ⟨_, _, _, rfl, by omega⟩
 ·rw [if_neg c]
  obtain ⟨v, s', e, hv⟩ := v1k hl s h0 (by omega)
  rw [e]
  simp only [Option.bind_some]
  by_cases c1 : m > 200
  ·obtain ⟨v2, s2, e2, hv2⟩ := v1k hl s' (show 0 ≤ a + 1 by omega) (by omega)
   rw [if_pos c1, e2]
   simp only [Option.bind_some]
   rw [if_neg (by omega), C9 (x := v * 256) (by omega) (by omega), C9 (x := v * 256 + v2) (by omega) (by omega)]
   exact ⟨_, _, _, rfl, ⟨Int.tmod_nonneg _ (by omega), fun _ => Int.tmod_lt_of_pos _ (by omega)⟩, by omega, by omega⟩
  ·rw [if_neg c1, if_neg (by omega)]
   exact ⟨_, _, _, rfl, ⟨Int.tmod_nonneg _ (by omega), fun _ => Int.tmod_lt_of_pos _ (by omega)⟩, by omega, by omega⟩
theorem v9b {l : List Int} (hl : bytes l) {a : Int} (s : Int) (h0 : 0 ≤ a) (h1 : a ≤ 900000000) {m : Int} (hm : m ≤ 65000) : ∃ v a' s', L8.f l a s m = some (v, a', s') ∧ a ≤ a' ∧ a' ≤ a + 2 := by
 unfold L8.f
 obtain ⟨v, a', s', e, hv, ha⟩ := L9 hl s h0 h1 hm
 rw [e]
 exact ⟨_, _, _, rfl, ha⟩
theorem q1m {l : List Int} (hl : bytes l) {a : Int} (s : Int) (h0 : 0 ≤ a) (h1 : a ≤ 900000000) {q : List Int} (hq : 1 ≤ q.length ∧ q.length ≤ 1000) : ∃ v a' s', J8.f l a s q = some (v, a', s') ∧ v ∈ q ∧ a ≤ a' ∧ a' ≤ a + 2 := by
 unfold J8.f
 obtain ⟨v, a', s', e, hv, ha⟩ := L9 hl s h0 h1 (m := (q.length : Int)) (by omega)
 rw [e]
 simp only [Option.bind_some]
 have := hv.2 (by omega)
 rw [if_pos hv.1, if_pos this]
 refine ⟨_, _, _, rfl, ?_, ha⟩
 unfold rd
 have hi : v.toNat < q.length := by omega
 rw [List.getD_eq_getElem?_getD, List.getElem?_eq_getElem hi]
 exact List.getElem_mem _
theorem v1s {l : List Int} (hl : bytes l) {a : Int} (s : Int) (h0 : 0 ≤ a) (h1 : a ≤ 800000000) : ∃ t f u a' s', H7.f l a s = some (t, f, u, a', s') ∧ hole ⟨t, f, u⟩ ∧ a ≤ a' ∧ a' ≤ a + 12 := by
 unfold H7.f
 obtain ⟨v1, a1, s1, e1, hv1, h1a⟩ := L9 hl s h0 (by omega) (m := 40) (by omega)
 obtain ⟨v2, a2, s2, e2, hv2, h2a⟩ := L9 hl s1 (show 0 ≤ a1 by omega) (by omega) (m := 60) (by omega)
 obtain ⟨v3, a3, s3, e3, hv3, h3a⟩ := q1m hl s2 (show 0 ≤ a2 by omega) (by omega) (q := [0, 2, 5, v1, v2, 1990]) (by simp)
 obtain ⟨v4, a4, s4, e4, hv4, h4a⟩ := L9 hl s3 (show 0 ≤ a3 by omega) (by omega) (m := 20) (by omega)
 obtain ⟨v5, a5, s5, e5, hv5, h5a⟩ := q1m hl s4 (show 0 ≤ a4 by omega) (by omega) (q := [0, 1, 2, 3, 5, v4]) (by simp)
 obtain ⟨v6, a6, s6, e6, hv6, h6a⟩ := q1m hl s5 (show 0 ≤ a5 by omega) (by omega) (q := [1, 2, 3, 4, 10]) (by simp)
 have b1 := hv1.2 (by omega)
 have b2 := hv2.2 (by omega)
 have b4 := hv4.2 (by omega)
 simp at hv3 hv5 hv6
 simp only [e1, Option.bind_some, e2, e3, e4, e5, e6]
 refine ⟨v5, v3, wrap64 (v3 + v6), a6, s6, rfl, ?_, by omega, by omega⟩
 rw [C9 (by omega) (by omega)]
 unfold hole
 dsimp only
 omega
theorem v4b {l : List S48} (hl : l.length ≤ 900) (t f u : Int) : Ev (fun k => M6.f k l t f u) (U4 (l ++ [⟨t, f, u⟩])) := by
 unfold M6.f
 simp only [Option.bind_some]
 refine o8 (by simp; omega) (o8 (by simp; omega) ?_)
 rw [List.nil_append]
 exact Ev.bind (q60 (l := l ++ [⟨t, f, u⟩]) (by simp; omega)) (Ev.now _)
def shB (r : List S48) : Prop := r.length ≤ 60 ∧ ∀ x, x ∈ r → hole x
theorem v4p {l : List S48} (h : (U4 l).2 = true) : V8 (U4 l).1 = true := by
 unfold U4 at h ⊢
 split
 ·assumption
 ·rename_i c; rw [if_neg c] at h; simp at h
theorem v5n {l : List S48} (h : V8 l = true) : shB l := ⟨K8 h, M8 h⟩
theorem v6c {l : List Int} (hl : bytes l) : ∀ (d : Nat) (x3 : List S48) (a s : Int), x3.length + d = 60 → (∀ x, x ∈ x3 → hole x) → 0 ≤ a → a + 4 * (d : Int) ≤ 700000000 →
  ∃ r a' s', Ev (fun k => o9.l0 k x3 l a s) (r, a', s') ∧ shB r ∧ a ≤ a' ∧ a' ≤ a + 4 * (d : Int) := by
 intro d
 induction d with
 | zero =>
  intro x3 a s h hh h0 h1
  exact ⟨x3, a, s, Ev.step (fun k => o9.l0.eq_2 ..) (Y3 (by omega) (Ev.now _)), ⟨by omega, hh⟩, by omega, by omega⟩
 | succ d ih =>
  intro x3 a s h hh h0 h1
  obtain ⟨v, a1, s1, e1, hv, h1a⟩ := L9 hl s h0 (by omega) (m := 5) (by omega)
  have b1 := hv.2 (by omega)
  have w1 : wrap64 ((x3.length : Int) / 5) = (x3.length : Int) / 5 := C9 (by omega) (by omega)
  have w2 : wrap64 (6 * ((x3.length : Int) / 5)) = 6 * ((x3.length : Int) / 5) := C9 (by omega) (by omega)
  have w3 : wrap64 (6 * ((x3.length : Int) / 5) + 1) = 6 * ((x3.length : Int) / 5) + 1 := C9 (by omega) (by omega)
  have w4 : wrap64 (6 * ((x3.length : Int) / 5) + 1 + v) = 6 * ((x3.length : Int) / 5) + 1 + v := C9 (by omega) (by omega)
  obtain ⟨r, a', s', hE, hr, ha, hb⟩ := ih (x3 ++ [⟨3 * ((x3.length : Int) % 5), 6 * ((x3.length : Int) / 5), 6 * ((x3.length : Int) / 5) + 1 + v⟩]) a1 s1 (by simp; omega) (fun x hx => by
   rcases List.mem_append.1 hx with z | z
   ·exact hh x z
   ·rw [List.mem_singleton.1 z]; unfold hole; dsimp only; omega) (by omega) (by omega)
  refine ⟨r, a', s', Ev.step (fun k => o9.l0.eq_2 ..) (o8 (by omega) (evC e1 (o8 (by omega) ?_))), hr, by omega, by omega⟩
  rw [w1, w2, w3]
  dsimp only
  rw [w4]
  exact hE
theorem v6j {l : List Int} (hl : bytes l) (n : Int) : ∀ (d : Nat) (i : Int) (x3 : List S48) (a s : Int), i + (d : Int) = 60 → shB x3 → 0 ≤ a → a + 12 * (d : Int) ≤ 700000000 →
  ∃ r a' s', Ev (fun k => o9.l1 k x3 n i l a s) (r, a', s') ∧ shB r ∧ a ≤ a' ∧ a' ≤ a + 12 * (d : Int) := by
 intro d
 induction d with
 | zero =>
  intro i x3 a s h hh h0 h1
  have stop : Ev (fun k => o9.j2 k x3 n i false l a s) (x3, a, s) := Ev.step (fun k => o9.j2.eq_2 ..) (Y3 (by simp) (Ev.now _))
  refine ⟨x3, a, s, Ev.step (fun k => o9.l1.eq_2 ..) (q0i (fun _ => ?_) (fun _ => stop)), hh, by omega, by omega⟩
  rw [decide_eq_false (show ¬ i < 60 by omega)]; exact stop
 | succ d ih =>
  intro i x3 a s h hh h0 h1
  have stop : Ev (fun k => o9.j2 k x3 n i false l a s) (x3, a, s) := Ev.step (fun k => o9.j2.eq_2 ..) (Y3 (by simp) (Ev.now _))
  by_cases c : (x3.length : Int) < n
  ·obtain ⟨t, f, u, a1, s1, e1, ht, h1a⟩ := v1s hl s h0 (by omega)
   have hw := v4b (l := x3) (by have := hh.1; omega) t f u
   have e2 : wrap64 (i + 1) = i + 1 := C9 (by omega) (by omega)
   by_cases g : (U4 (x3 ++ [⟨t, f, u⟩])).2 = true
   ·obtain ⟨r, a', s', hE, hr, ha, hb⟩ := ih (i + 1) (U4 (x3 ++ [⟨t, f, u⟩])).1 a1 s1 (by omega) (v5n (v4p g)) (by omega) (by omega)
    refine ⟨r, a', s', Ev.step (fun k => o9.l1.eq_2 ..) (o8 c ?_), hr, by omega, by omega⟩
    rw [decide_eq_true (show i < 60 by omega)]
    refine Ev.step (fun k => o9.j2.eq_2 ..) (o8 rfl (evC e1 (Ev.bind hw (o8 g ?_))))
    rw [e2]; exact hE
   ·obtain ⟨r, a', s', hE, hr, ha, hb⟩ := ih (i + 1) x3 a1 s1 (by omega) hh (by omega) (by omega)
    refine ⟨r, a', s', Ev.step (fun k => o9.l1.eq_2 ..) (o8 c ?_), hr, by omega, by omega⟩
    rw [decide_eq_true (show i < 60 by omega)]
    refine Ev.step (fun k => o9.j2.eq_2 ..) (o8 rfl (evC e1 (Ev.bind hw (Y3 g ?_))))
    rw [e2]; exact hE
  ·exact ⟨x3, a, s, Ev.step (fun k => o9.l1.eq_2 ..) (Y3 c stop), hh, by omega, by omega⟩
theorem q9p {l : List Int} (hl : bytes l) {a : Int} (s : Int) (h0 : 0 ≤ a) (h1 : a ≤ 600000000) : ∃ r a' s', Ev (fun k => o9.f k l a s) (r, a', s') ∧ shB r ∧ a ≤ a' ∧ a' ≤ a + 1000 := by
 unfold o9.f
 obtain ⟨f, a1, s1, e1, h1a⟩ := v9b hl s h0 (by omega) (m := 24) (by omega)
 cases f with
 | true =>
  obtain ⟨r, a', s', hE, hr, ha, hb⟩ := v6c hl 60 [] a1 s1 rfl (by simp) (by omega) (by omega)
  exact ⟨r, a', s', evC e1 (o8 rfl hE), hr, by omega, by omega⟩
 | false =>
  obtain ⟨v, a2, s2, e2, hv, h2a⟩ := L9 hl s1 (show 0 ≤ a1 by omega) (by omega) (m := 9) (by omega)
  obtain ⟨r, a', s', hE, hr, ha, hb⟩ := v6j hl v 60 0 [] a2 s2 (by omega) ⟨by simp, by simp⟩ (by omega) (by omega)
  exact ⟨r, a', s', evC e1 (Y3 (by simp) (evC e2 hE)), hr, by omega, by omega⟩
theorem q9n (s : Int) : ∀ (l : List S48) (acc : List Int), opn s acc l = [] ↔ acc = [] ∧ ∀ x, x ∈ l → ¬ H8 s x
 | [], acc => by simp [opn]
 | x :: l, acc => by
  simp only [opn, q9n s l, List.mem_cons, forall_eq_or_imp]
  by_cases c : H8 s x
  ·simp [c, v7y]
  ·simp [c]
def unc (l : List S48) (s : Int) : Prop := ∀ x, x ∈ l → ¬ H8 s x
instance (l : List S48) (s : Int) : Decidable (unc l s) := by unfold unc; exact inferInstance
def q06 (l : List S48) : Nat → Int → Int
 | 0, _ => 0
 | d + 1, s => (if unc l s then 1 else 0) + q06 l d (s + 1)
theorem q7q (l : List S48) : ∀ (m n : Nat) (s : Int), q06 l (m + n) s = q06 l m s + q06 l n (s + m)
 | 0, n, s => by simp [q06]
 | m + 1, n, s => by
  rw [show m + 1 + n = (m + n) + 1 by omega]
  simp only [q06]
  rw [q7q l m n (s + 1), show s + 1 + (m : Int) = s + ((m + 1 : Nat) : Int) by omega]; omega
theorem q83 {l l' : List S48} : ∀ (n : Nat) (s : Int), (∀ t, s ≤ t → t < s + n → (unc l t ↔ unc l' t)) → q06 l n s = q06 l' n s
 | 0, s, _ => rfl
 | n + 1, s, h => by
  simp only [q06]
  rw [q83 n (s + 1) (fun t h0 h1 => h t (by omega) (by omega))]
  have := h s (by omega) (by omega)
  by_cases c : unc l s
  ·rw [if_pos c, if_pos (this.1 c)]
  ·rw [if_neg c, if_neg (fun r => c (this.2 r))]
theorem v1u {l : List S48} : ∀ (n : Nat) (s : Int), (∀ t, s ≤ t → t < s + n → unc l t) → q06 l n s = n
 | 0, s, _ => rfl
 | n + 1, s, h => by
  simp only [q06]
  rw [v1u n (s + 1) (fun t h0 h1 => h t (by omega) (by omega)), if_pos (h s (by omega) (by omega))]; omega
theorem v0e {l : List S48} : ∀ (n : Nat) (s : Int), (∀ t, s ≤ t → t < s + n → ¬ unc l t) → q06 l n s = 0
 | 0, s, _ => rfl
 | n + 1, s, h => by
  simp only [q06]
  rw [v0e n (s + 1) (fun t h0 h1 => h t (by omega) (by omega)), if_neg (h s (by omega) (by omega))]; omega
theorem v4l (l : List S48) : ∀ (n : Nat) (s : Int), 0 ≤ q06 l n s ∧ q06 l n s ≤ n
 | 0, s => by simp [q06]
 | n + 1, s => by
  have := v4l l n (s + 1)
  simp only [q06]; split <;> omega
theorem q5t : ∀ (l : List S48) (e : Int) (x : S48), G5 e (l ++ [x]) = max (G5 e l) x.f2
 | [], e, x => rfl
 | y :: l, e, x => by simp only [List.cons_append, G5]; exact q5t l _ x
theorem q9d : ∀ (l : List S48) (e : Int), e ≤ G5 e l ∧ ∀ x, x ∈ l → x.f2 ≤ G5 e l
 | [], e => by simp [G5]
 | y :: l, e => by
  have h := q9d l (max e y.f2)
  simp only [G5, List.mem_cons, forall_eq_or_imp]
  exact ⟨by omega, by omega, h.2⟩
theorem v1w : ∀ (l : List S48) (e s : Int), e ≤ s → s < G5 e l → ∃ x, x ∈ l ∧ s < x.f2
 | [], e, s, h0, h1 => by simp [G5] at h1; omega
 | y :: l, e, s, h0, h1 => by
  simp only [G5] at h1
  by_cases c : s < y.f2
  ·exact ⟨y, by simp, c⟩
  ·obtain ⟨x, hx, hs⟩ := v1w l (max e y.f2) s (by omega) h1
   exact ⟨x, by simp [hx], hs⟩
theorem v5s {pre : List S48} {x : S48} (hx : hole x) (_ : ∀ y, y ∈ pre → hole y) (hf : ∀ y, y ∈ pre → y.f1 ≤ x.f1) :
  q06 (pre ++ [x]) (G5 0 (pre ++ [x])).toNat 0 = q06 pre (G5 0 pre).toNat 0 + max 0 (x.f1 - G5 0 pre) := by
 have hg := q9d pre 0
 unfold hole at hx
 rw [q5t]
 have un : ∀ t, unc (pre ++ [x]) t ↔ unc pre t ∧ ¬ H8 t x := fun t =>
  ⟨fun h => ⟨fun y hy => h y (List.mem_append_left _ hy), h x (by simp)⟩, fun h y hy => by
   rcases List.mem_append.1 hy with r | r
   ·exact h.1 y r
   ·rw [List.mem_singleton] at r; subst r; exact h.2⟩
 have first : q06 (pre ++ [x]) (G5 0 pre).toNat 0 = q06 pre (G5 0 pre).toNat 0 := by
  refine q83 _ _ (fun t h0 h1 => ?_)
  rw [un]
  refine ⟨fun r => r.1, fun r => ⟨r, fun o => ?_⟩⟩
  obtain ⟨y, hy, hs⟩ := v1w pre 0 t h0 (by omega)
  have := hf y hy
  unfold H8 at o
  exact r y hy ⟨by omega, hs⟩
 by_cases c : x.f2 ≤ G5 0 pre
 ·rw [show max (G5 0 pre) x.f2 = G5 0 pre by omega, first]; omega
 ·rw [show max (G5 0 pre) x.f2 = x.f2 by omega]
  have a1 : x.f2.toNat = (G5 0 pre).toNat + ((max 0 (x.f1 - G5 0 pre)).toNat + (x.f2 - max x.f1 (G5 0 pre)).toNat) := by omega
  rw [a1, q7q, q7q, first]
  rw [v1u (max 0 (x.f1 - G5 0 pre)).toNat _ (fun t h0 h1 => by
   rw [un]
   refine ⟨fun y hy o => ?_, fun o => ?_⟩
   ·have := hg.2 y hy
    unfold H8 at o; omega
   ·unfold H8 at o; omega)]
  rw [v0e (x.f2 - max x.f1 (G5 0 pre)).toNat _ (fun t h0 h1 r => by
   rw [un] at r
   exact r.2 ⟨by omega, by omega⟩)]
  omega
def quiet : Int → Int → List S48 → Int
 | q, _, [] => q
 | q, e, x :: l => quiet (q + max 0 (x.f1 - e)) (max e x.f2) l
theorem v7p {a b : S48} (h : hbef a b) : a.f1 ≤ b.f1 := by unfold hbef at h; omega
theorem q6p : ∀ (suf pre : List S48), D9 pre suf = true → (∀ y, y ∈ pre → hole y) → (∀ y, y ∈ pre → y.f1 ≤ (pre.getD (pre.length - 1) z48).f1) →
  quiet (q06 pre (G5 0 pre).toNat 0) (G5 0 pre) suf = q06 (pre ++ suf) (G5 0 (pre ++ suf)).toNat 0
 | [], pre, _, _, _ => by simp [quiet]
 | x :: suf, pre, h, hp, hs => by
  simp only [D9, q1p, Bool.and_eq_true, decide_eq_true_eq] at h
  have hf : ∀ y, y ∈ pre → y.f1 ≤ x.f1 := fun y hy => by
   rcases h.1.2.1 with r | r
   ·rw [r] at hy; simp at hy
   ·have := v7p r
    have := hs y hy
    omega
  simp only [quiet]
  rw [← v5s h.1.1 hp hf, ← q5t pre 0 x]
  have := q6p suf (pre ++ [x]) h.2 (fun y hy => by
   rcases List.mem_append.1 hy with r | r
   ·exact hp y r
   ·rw [List.mem_singleton] at r; subst r; exact h.1.1) (fun y hy => by
   simp
   rcases List.mem_append.1 hy with r | r
   ·exact hf y r
   ·rw [List.mem_singleton] at r; subst r; exact Int.le_refl _)
  rw [this]; simp
theorem q9l {l : List S48} (hg : V8 l = true) : ∀ (d : Nat) (s q : Int), s + d = G5 0 l → 0 ≤ s → 0 ≤ q → q ≤ s → Ev (fun k => X7.l0 k l q s) (q + q06 l d s, true) := by
 have hb := q23 (M8 hg) (e := 0) (by omega) (by omega)
 have hl := K8 hg
 intro d
 induction d with
 | zero =>
  intro s q hs h0 hq hq'
  refine Ev.step (fun k => X7.l0.eq_2 ..) (Ev.bind (q2h (by omega)) (Y3 (by omega) (I4 ?_)))
  simp [q06]
 | succ d ih =>
  intro s q hs h0 hq hq'
  refine Ev.step (fun k => X7.l0.eq_2 ..) (Ev.bind (q2h (by omega)) (o8 (by omega) (Ev.bind (q4f hg s) ?_)))
  rw [C9 (x := q + 1) (by omega) (by omega), C9 (x := s + 1) (by omega) (by omega)]
  have e : ((opn s [] l).length : Int) = 0 ↔ unc l s := by
   have := q9n s l []
   simp only [true_and] at this
   rw [← show _ ↔ unc l s from this]
   exact ⟨fun r => List.eq_nil_of_length_eq_zero (by omega), fun r => by rw [r]; rfl⟩
  simp only [q06]
  refine q0i (fun c => q1k (ih _ _ (by omega) (by omega) (by omega) (by omega)) ?_) (fun c => q1k (ih _ _ (by omega) (by omega) (by omega) (by omega)) ?_)
  ·rw [if_pos (e.1 c), Int.add_assoc]
  ·rw [if_neg (fun r => c (e.2 r)), Int.zero_add]
def q1n (l : List S48) : Int × Bool := if V8 l = true then (quiet 0 0 l, true) else (0, false)
theorem v0g {l : List S48} (hl : l.length ≤ 1048576) : Ev (fun k => X7.f k l) (q1n l) := by
 unfold X7.f q1n
 refine Ev.bind (q20 hl) (q2a (fun c => ?_) (fun c => Ev.now _))
 have hb := q23 (M8 c) (e := 0) (by omega) (by omega)
 refine q1k (q9l c (G5 0 l).toNat 0 0 (by omega) (by omega) (by omega) (by omega)) ?_
 have c' : D9 [] l = true := by simp only [V8, Bool.and_eq_true] at c; exact c.1
 have := q6p l [] c' (by simp) (by simp)
 simp only [G5, q06, Int.toNat_zero, List.nil_append] at this
 rw [this, Int.zero_add]
theorem v0c {l : List S48} (hg : V8 l = true) : ∀ (suf pre : List S48) (q e : Int), l = pre ++ suf → 0 ≤ q → q ≤ 2000 * (pre.length : Int) → 0 ≤ e → e ≤ 2000 →
  Ev (fun k => X4.l0 k q e l (l.length : Int) (pre.length : Int)) (quiet q e suf, true) := by
 have hl := K8 hg
 intro suf
 induction suf with
 | nil =>
  intro pre q e h h0 hq h1 he
  refine Ev.step (fun k => X4.l0.eq_2 ..) ?_
  simp only [q08 h, if_false]
  exact I4 (by simp [quiet])
 | cons x suf ih =>
  intro pre q e h h0 hq k1 he
  obtain ⟨h1, h2, h3, h4, h5⟩ := F6 h (by omega) z48
  have hx := M8 hg x (by rw [h]; simp)
  unfold hole at hx
  have hpl : pre.length ≤ 60 := by omega
  refine Ev.step (fun k => X4.l0.eq_2 ..) ?_
  simp only [h1, h2, h3, q8, h4, if_true, v7a, quiet]
  rw [C9 (x := x.f1 - e) (by omega) (by omega), C9 (x := q + max 0 (x.f1 - e)) (by omega) (by omega)]
  exact ih _ _ _ h5 (by omega) (by simp; omega) (by omega) (by omega)
theorem q9r {l : List S48} (hl : l.length ≤ 1048576) : Ev (fun k => X4.f k l) (q1n l) := by
 unfold X4.f q1n
 refine Ev.bind (q1a hl) (q2a (fun c => ?_) (fun c => Ev.now _))
 exact v0c c l [] 0 0 rfl (by omega) (by simp) (by omega) (by omega)
theorem v4f {l : List S48} (hg : V8 l = true) (s : Int) : Ev (fun k => q1f.f k l s) (opn s [] l) := by
 unfold q1f.f; exact Ev.bind (q4f hg s) (Ev.now _)
theorem v7g {l : List S48} (hg : V8 l = true) (s : Int) : Ev (fun k => q1x.f k l s) (l, s, opn s [] l) := by
 have := K8 hg
 unfold q1x.f
 simp only [Option.bind_some]
 refine o8 (by simp; omega) (Ev.bind (v4f hg s) (I4 (by simp)))
theorem v0l {l : List S48} (hg : V8 l = true) (s : Int) : Ev (fun k => q0l.f k l s) (l, s, opn s [] l) := by
 have := K8 hg
 unfold q0l.f
 refine evC (a := l) ?_ (Ev.bind (q3i hg s) (Ev.now _))
 unfold q1b.f
 simp; omega
theorem v4z {l : List S48} (hg : V8 l = true) (s : Int) : (opn s [] l).length ≤ 60 := by
 have := K8 hg
 have := q7n s l []
 simp at this; omega
def q2u (l : List S48) : List S48 × Int × List Int × Bool := if V8 l = true then (l, 0, opn 0 [] l, true) else ([], 0, [], false)
theorem v2c {l : List S48} (hl : l.length ≤ 1048576) : Ev (fun k => F9.f k l) (q2u l) := by
 unfold F9.f q2u
 exact Ev.bind (q20 hl) (q2a (fun c => Ev.bind (v7g c 0) (Ev.now _)) (fun c => Ev.now _))
theorem v2p {l : List S48} (hl : l.length ≤ 1048576) : Ev (fun k => I1.f k l) (q2u l) := by
 unfold I1.f q2u
 exact Ev.bind (q1a hl) (q2a (fun c => Ev.bind (v0l c 0) (Ev.now _)) (fun c => Ev.now _))
theorem v5a (l : List S48) : (q2u l).1.length ≤ 60 ∧ (q2u l).2.2.1.length ≤ 60 := by
 unfold q2u; split
 ·rename_i c; exact ⟨K8 c, v4z c 0⟩
 ·simp
theorem q61 {l : List Int} (hl : l.length ≤ 1048576) : Ev (fun k => K5.f k l l) true := by
 unfold K5.f
 refine o8 rfl ?_
 have go : ∀ (suf pre : List Int), l = pre ++ suf → Ev (fun k => K5.l0 k l l (l.length : Int) (pre.length : Int)) true := by
  intro suf
  induction suf with
  | nil => intro pre h; exact Ev.step (fun k => K5.l0.eq_2 ..) (Y3 (q08 h) (Ev.now _))
  | cons x suf ih =>
   intro pre h
   obtain ⟨h1, h2, h3, h4, h5⟩ := F6 h (by omega) 0
   refine Ev.step (fun k => K5.l0.eq_2 ..) (o8 h1 (o8 h2 (o8 h1 (o8 h1 (o8 rfl ?_)))))
   rw [h3]
   exact ih _ h5
 exact go l [] rfl
theorem q5o {l : List (List Int)} (hl : l.length ≤ 1048576) (hr : ∀ x, x ∈ l → x.length ≤ 1048576) : Ev (fun k => Z7.f k l l) true := by
 unfold Z7.f
 refine o8 rfl ?_
 have go : ∀ (suf pre : List (List Int)), l = pre ++ suf → Ev (fun k => Z7.l0 k l l (l.length : Int) (pre.length : Int)) true := by
  intro suf
  induction suf with
  | nil => intro pre h; exact Ev.step (fun k => Z7.l0.eq_2 ..) (Y3 (q08 h) (Ev.now _))
  | cons x suf ih =>
   intro pre h
   obtain ⟨h1, h2, h3, h4, h5⟩ := F6 h (by omega) []
   have e : y8 l (pre.length : Int) = x := h4
   refine Ev.step (fun k => Z7.l0.eq_2 ..) (o8 h1 (o8 h2 (o8 h1 (o8 h1 ?_))))
   rw [h3, e]
   exact Ev.bind (q61 (hr x (by rw [h]; simp))) (o8 rfl (ih _ h5))
 exact go l [] rfl
theorem q3j {l : List S48} (hl : l.length ≤ 1048576) : Ev (fun k => Y6.f k l l) true := by
 unfold Y6.f
 refine o8 rfl ?_
 have go : ∀ (suf pre : List S48), l = pre ++ suf → Ev (fun k => Y6.l0 k l l (l.length : Int) (pre.length : Int)) true := by
  intro suf
  induction suf with
  | nil => intro pre h; exact Ev.step (fun k => Y6.l0.eq_2 ..) (Y3 (q08 h) (Ev.now _))
  | cons x suf ih =>
   intro pre h
   obtain ⟨h1, h2, h3, h4, h5⟩ := F6 h (by omega) z48
   refine Ev.step (fun k => Y6.l0.eq_2 ..) (o8 h1 (o8 h2 (o8 h1 (o8 h1 (Y3 (by simp) ?_)))))
   rw [h3]
   exact ih _ h5
 exact go l [] rfl
theorem q7u {l : List S48} {n : Int} {o : List Int} (hl : l.length ≤ 1048576) (ho : o.length ≤ 1048576) : Ev (fun k => F8.f k l n o l n o) true := by
 unfold F8.f
 exact Ev.bind (q3j hl) (o8 rfl (o8 rfl (Ev.bind (q61 ho) (Ev.now _))))
theorem v9o {l : List S48} (hg : V8 l = true) : ∀ (suf pre : List S48) (b m : Int), l = pre ++ suf →
  Ev (fun k => Y2.l0 k l b m l (l.length : Int) (pre.length : Int)) ((I7 l suf b m).1, (I7 l suf b m).2, true) ∧ Ev (fun k => Y1.l0 k l b m l (l.length : Int) (pre.length : Int)) ((I7 l suf b m).1, (I7 l suf b m).2, true) := by
 have hl := K8 hg
 intro suf
 induction suf with
 | nil =>
  intro pre b m h
  exact ⟨Ev.step (fun k => Y2.l0.eq_2 ..) (Y3 (q08 h) (Ev.now _)), Ev.step (fun k => Y1.l0.eq_2 ..) (Y3 (q08 h) (Ev.now _))⟩
 | cons x suf ih =>
  intro pre b m h
  obtain ⟨h1, h2, h3, h4, h5⟩ := F6 h (by omega) z48
  have es := q4f hg x.f1
  have ei := q3i hg x.f1
  have ec := v4i hg x.f1
  simp only [I7]
  by_cases c : cOp x.f1 l > m
  ·rw [if_pos c]
   obtain ⟨hr, hr'⟩ := ih _ x.f1 (cOp x.f1 l) h5
   refine ⟨Ev.step (fun k => Y2.l0.eq_2 ..) ?_, Ev.step (fun k => Y1.l0.eq_2 ..) ?_⟩
   ·simp only [h1, h2, h3, q8, h4, if_true]; refine Ev.bind es (o8 (by rw [ec]; exact c) ?_); rw [ec]; exact hr
   ·simp only [h1, h2, h3, q8, h4, if_true]; refine Ev.bind ei (o8 (by rw [ec]; exact c) ?_); rw [ec]; exact hr'
  ·rw [if_neg c]
   obtain ⟨hr, hr'⟩ := ih _ b m h5
   refine ⟨Ev.step (fun k => Y2.l0.eq_2 ..) ?_, Ev.step (fun k => Y1.l0.eq_2 ..) ?_⟩
   ·simp only [h1, h2, h3, q8, h4, if_true]; exact Ev.bind es (Y3 (by rw [ec]; exact c) hr)
   ·simp only [h1, h2, h3, q8, h4, if_true]; exact Ev.bind ei (Y3 (by rw [ec]; exact c) hr')
def q2b (l : List S48) : Int × Int × Bool := if V8 l = true then ((I7 l l 0 (cOp 0 l)).1, (I7 l l 0 (cOp 0 l)).2, true) else (0, 0, false)
theorem v7f {l : List S48} (hl : l.length ≤ 1048576) : Ev (fun k => Y2.f k l) (q2b l) ∧ Ev (fun k => Y1.f k l) (q2b l) := by
 unfold q2b
 by_cases hg : V8 l = true
 ·rw [if_pos hg]
  have ec := v4i hg 0
  obtain ⟨h1, h2⟩ := v9o hg l [] 0 (cOp 0 l) rfl
  refine ⟨?_, ?_⟩
  ·unfold Y2.f; refine Ev.bind (q20 hl) (o8 hg (Ev.bind (q4f hg 0) ?_)); rw [ec]; exact h1
  ·unfold Y1.f; refine Ev.bind (q1a hl) (o8 hg (Ev.bind (q3i hg 0) ?_)); rw [ec]; exact h2
 ·rw [if_neg hg]
  refine ⟨?_, ?_⟩
  ·unfold Y2.f; exact Ev.bind (q20 hl) (Y3 hg (Ev.now _))
  ·unfold Y1.f; exact Ev.bind (q1a hl) (Y3 hg (Ev.now _))
theorem v0j {l : List S48} (hl : l.length ≤ 1048576) : Ev (fun k => W9.f k l) (G5 0 l) := by
 unfold W9.f
 have go : ∀ (suf pre : List S48) (e : Int), l = pre ++ suf → Ev (fun k => W9.l0 k e l (l.length : Int) (pre.length : Int)) (G5 e suf) := by
  intro suf
  induction suf with
  | nil => intro pre e h; exact Ev.step (fun k => W9.l0.eq_2 ..) (Y3 (q08 h) (Ev.now _))
  | cons x suf ih =>
   intro pre e h
   obtain ⟨h1, h2, h3, h4, h5⟩ := F6 h (by omega) z48
   refine Ev.step (fun k => W9.l0.eq_2 ..) (o8 h1 (o8 h2 (o8 h1 ?_)))
   rw [h3, show q8 l (pre.length : Int) = x from h4, v7a]
   exact ih _ _ h5
 exact go l [] 0 rfl
def q4u (l : List S48) : Int × Bool := if V8 l = true then (G5 0 l, true) else (0, false)
theorem v2n {l : List S48} (hl : l.length ≤ 1048576) : Ev (fun k => U5.f k l) (q4u l) := by
 unfold U5.f q4u
 exact Ev.bind (q20 hl) (q2a (fun c => Ev.bind (q2h hl) (Ev.now _)) (fun _ => Ev.now _))
theorem v2k {l : List S48} (hl : l.length ≤ 1048576) : Ev (fun k => U3.f k l) (q4u l) := by
 unfold U3.f q4u
 exact Ev.bind (q1a hl) (q2a (fun c => Ev.bind (v0j hl) (Ev.now _)) (fun _ => Ev.now _))
theorem v5i {l : List S48} (hg : V8 l = true) : quiet 0 0 l ≤ G5 0 l := by
 have hb := q23 (M8 hg) (e := 0) (by omega) (by omega)
 have := q6p l [] (q1y hg) (by simp) (by simp)
 simp only [G5, q06, Int.toNat_zero, List.nil_append] at this
 rw [this]
 have := (v4l l (G5 0 l).toNat 0).2
 omega
theorem v2x {l : List Int} (hl : bytes l) {a : Int} (s : Int) (h0 : 0 ≤ a) (h1 : a ≤ 700000000) : ∃ t f u a' s', F5.f l a s = some (t, f, u, a', s') ∧ a ≤ a' ∧ a' ≤ a + 20 := by
 unfold F5.f
 obtain ⟨t, f, u, a1, s1, e1, _, h1a⟩ := v1s hl s h0 (by omega)
 obtain ⟨v, a2, s2, e2, _, h2a⟩ := L9 hl s1 (show 0 ≤ a1 by omega) (by omega) (m := 24) (by omega)
 simp only [e1, Option.bind_some, e2]
 by_cases c : v = 0
 ·obtain ⟨w, a3, s3, e3, _, h3a⟩ := q1m hl s2 (show 0 ≤ a2 by omega) (by omega) (q := [-1, 19, 20]) (by simp)
  rw [if_pos c]; simp only [e3, Option.bind_some]; exact ⟨_, _, _, _, _, rfl, by omega, by omega⟩
 ·rw [if_neg c]
  by_cases c : v = 1
  ·obtain ⟨w, a3, s3, e3, _, h3a⟩ := q1m hl s2 (show 0 ≤ a2 by omega) (by omega) (q := [-1, u]) (by simp)
   rw [if_pos c]; simp only [e3, Option.bind_some]; exact ⟨_, _, _, _, _, rfl, by omega, by omega⟩
  ·rw [if_neg c]
   by_cases c : v = 2
   ·obtain ⟨w, a3, s3, e3, _, h3a⟩ := q1m hl s2 (show 0 ≤ a2 by omega) (by omega) (q := [f, 2000, 2001]) (by simp)
    rw [if_pos c]; simp only [e3, Option.bind_some]; exact ⟨_, _, _, _, _, rfl, by omega, by omega⟩
   ·rw [if_neg c]; exact ⟨_, _, _, _, _, rfl, by omega, by omega⟩
theorem v1a (l : List Int) (a s : Int) : ∀ (d : Nat) (x : List S48), x.length + d = 61 → ∃ r, Ev (fun k => J7.l0 k x l a s) (r, a, s) ∧ r.length ≤ 61 := by
 intro d
 induction d with
 | zero => intro x h; exact ⟨x, Ev.step (fun k => J7.l0.eq_2 ..) (Y3 (by omega) (Ev.now _)), by omega⟩
 | succ d ih =>
  intro x h
  obtain ⟨r, hr, hn⟩ := ih (x ++ [⟨1, wrap64 (3 * (x.length : Int)), wrap64 (wrap64 (3 * (x.length : Int)) + 1)⟩]) (by simp; omega)
  exact ⟨r, Ev.step (fun k => J7.l0.eq_2 ..) (o8 (by omega) (o8 (by omega) hr)), hn⟩
theorem v0r {l : List Int} (hl : bytes l) {a : Int} (s : Int) (h0 : 0 ≤ a) (h1 : a ≤ 500000000) : ∃ r a' s', Ev (fun k => J7.f k l a s) (r, a', s') ∧ r.length ≤ 61 := by
 unfold J7.f
 obtain ⟨r, a1, s1, e1, hr, ha, hb⟩ := q9p hl s h0 (by omega)
 have hn := hr.1
 by_cases c : (r.length : Int) > 0
 ·obtain ⟨i, a2, s2, e2, hi, h2a⟩ := L9 hl s1 (show 0 ≤ a1 by omega) (by omega) (m := (r.length : Int)) (by omega)
  have hi2 := hi.2 (by omega)
  obtain ⟨v, a3, s3, e3, _, h3a⟩ := L9 hl s2 (show 0 ≤ a2 by omega) (by omega) (m := 30) (by omega)
  by_cases c0 : v = 0
  ·obtain ⟨t, f, u, a4, s4, e4, _⟩ := v2x hl s3 (show 0 ≤ a3 by omega) (by omega)
   exact ⟨_, _, _, Ev.bind e1 (o8 c (evC e2 (evC e3 (o8 c0 (evC e4 (o8 hi.1 (o8 hi2 (Ev.now _)))))))), by simp; omega⟩
  by_cases c1 : v = 1
  ·exact ⟨_, _, _, Ev.bind e1 (o8 c (evC e2 (evC e3 (Y3 c0 (o8 c1 (o8 hi.1 (o8 hi2 (o8 (by dsimp only; omega) (Ev.now _))))))))), by simp; omega⟩
  by_cases c2 : v = 2
  ·exact ⟨_, _, _, Ev.bind e1 (o8 c (evC e2 (evC e3 (Y3 c0 (Y3 c1 (o8 c2 (o8 hi.1 (o8 hi2 (o8 (by dsimp only; omega) (Ev.now _)))))))))), by simp; omega⟩
  by_cases c3 : v = 3
  ·obtain ⟨q, hq, hm⟩ := v1a l a3 s3 61 [] (by simp)
   exact ⟨q, _, _, Ev.bind e1 (o8 c (evC e2 (evC e3 (Y3 c0 (Y3 c1 (Y3 c2 (o8 c3 hq))))))), hm⟩
  ·exact ⟨_, _, _, Ev.bind e1 (o8 c (evC e2 (evC e3 (Y3 c0 (Y3 c1 (Y3 c2 (Y3 c3 (Ev.now _)))))))), by dsimp only; omega⟩
 ·exact ⟨_, _, _, Ev.bind e1 (Y3 c (Ev.now _)), by dsimp only; omega⟩
theorem v4u {l : List Int} (hl : bytes l) : ∃ r, Ev (fun k => R6.f k l) r ∧ r.length ≤ 61 := by
 obtain ⟨r, a, s, h, hn⟩ := v0r hl (a := 0) 0 (by omega) (by omega)
 refine ⟨r, ?_, hn⟩
 unfold R6.f L6.f
 exact Ev.bind (Ev.bind h (Ev.now _)) (Ev.now _)
theorem v0u {l : List Int} (hl : bytes l) {a : Int} (s : Int) (h0 : 0 ≤ a) (h1 : a ≤ 800000000) : ∃ v a' s', F3.f l a s = some (v, a', s') ∧ (-1 ≤ v ∧ v ≤ 2001) ∧ a ≤ a' ∧ a' ≤ a + 8 := by
 unfold F3.f
 obtain ⟨v1, a1, s1, e1, hv1, h1a⟩ := L9 hl s h0 (by omega) (m := 70) (by omega)
 obtain ⟨v2, a2, s2, e2, hv2, h2a⟩ := L9 hl s1 (show 0 ≤ a1 by omega) (by omega) (m := 70) (by omega)
 obtain ⟨v3, a3, s3, e3, hv3, h3a⟩ := q1m hl s2 (show 0 ≤ a2 by omega) (by omega) (q := [2001, -1]) (by simp)
 obtain ⟨v4, a4, s4, e4, hv4, h4a⟩ := q1m hl s3 (show 0 ≤ a3 by omega) (by omega) (q := [0, 1, 4, v1, v2, 1995, 2000, v3]) (by simp)
 have b1 := hv1.2 (by omega)
 have b2 := hv2.2 (by omega)
 simp at hv3 hv4
 simp only [e1, Option.bind_some, e2, e3, e4]
 exact ⟨_, _, _, rfl, by omega, by omega, by omega⟩
def smE (u : List (List Int)) : Prop := ∀ e, e ∈ u → ∀ x, x ∈ e → -1000000 ≤ x ∧ x ≤ 1000000
theorem v4c {l : List S48} (hL : G5 0 l ≤ 2000) : smE (evs l) := by
 intro e he x hx
 obtain ⟨v, u, c, rfl, h1, h2, h3, h4, h5⟩ := q2r he
 simp at hx
 omega
theorem v0d {u : List (List Int)} (h : smE u) (i : Nat) {r : List Int} (hr : ∀ x, x ∈ r → -1000000 ≤ x ∧ x ≤ 1000000) : smE (u.set i r) := by
 intro e he
 rcases List.mem_or_eq_of_mem_set he with z | z
 ·exact h e z
 ·subst z; exact hr
theorem v3t {u : List (List Int)} (h : smE u) (i : Int) : ∀ x, x ∈ y8 u i → -1000000 ≤ x ∧ x ≤ 1000000 := by
 intro x hx
 unfold y8 at hx
 by_cases c : i.toNat < u.length
 ·rw [List.getD_eq_getElem?_getD, List.getElem?_eq_getElem c] at hx
  exact h _ (List.getElem_mem c) x hx
 ·rw [List.getD_eq_getElem?_getD, List.getElem?_eq_none (by omega)] at hx
  simp at hx
theorem v6h {l : List S48} (h : shB l) : Ev (fun k => Q5.f k l) (evs l) ∧ G5 0 l ≤ 2000 := by
 have hL := q23 (l := l) (e := 0) h.2 (by omega) (by omega)
 have h0 := (q4p (l := l) (e := 0)).1
 unfold Q5.f
 exact ⟨q7x h.1 (by omega) (G5 0 l + 1).toNat 0 [] (by omega) (by simp), hL.2⟩
theorem v7s {l : List S48} {i : Int} (h0 : 0 ≤ i) (h1 : i < ((evs l).length : Int)) : (y8 (evs l) i).length = 3 := by
 have c : i.toNat < (evs l).length := by omega
 have : y8 (evs l) i = (evs l)[i.toNat] := by
  unfold y8
  rw [List.getD_eq_getElem?_getD, List.getElem?_eq_getElem c]; rfl
 rw [this]
 obtain ⟨v, u, c, e, _⟩ := q2r (List.getElem_mem c)
 rw [e]; rfl
theorem v7r {l : List S48} (h : ∀ x, x ∈ l → hole x) : (evs l).length = 2 * l.length := by
 have hL := q23 (l := l) (e := 0) h (by omega) (by omega)
 have hg := (q4p (l := l) (e := 0)).2
 have hp := q58 (G5 0 l + 1).toNat l h (fun x hx => by have := hg x hx; omega)
 show (q0k l 0 (G5 0 l + 1).toNat).length = _
 rw [hp.length_eq, q3b]
theorem v3c {l : List Int} (hl : bytes l) : ∃ u, Ev (fun k => J2.f k l) u ∧ smE u := by
 unfold J2.f
 obtain ⟨r, a1, s1, e1, hr, ha, hb⟩ := q9p hl (a := 0) 0 (by omega) (by omega)
 obtain ⟨hE, hL⟩ := v6h hr
 have hs := v4c hL
 have hrow := fun i => v7s (l := r) (i := i)
 have hn : (evs r).length ≤ 120 := by rw [v7r hr.2]; have := hr.1; omega
 clear hL hr
 generalize evs r = E at *
 by_cases c : (E.length : Int) > 0
 ·obtain ⟨i, a2, s2, e2, hi, h2a⟩ := L9 hl s1 (show 0 ≤ a1 by omega) (by omega) (m := (E.length : Int)) (by omega)
  have hi2 := hi.2 (by omega)
  obtain ⟨v, a3, s3, e3, _, h3a⟩ := L9 hl s2 (show 0 ≤ a2 by omega) (by omega) (m := 8) (by omega)
  by_cases c0 : v = 0
  ·obtain ⟨p, a4, s4, e4, hp, h4a⟩ := v0u hl s3 (show 0 ≤ a3 by omega) (by omega)
   obtain ⟨q, a5, s5, e5, hq, h5a⟩ := L9 hl s4 (show 0 ≤ a4 by omega) (by omega) (m := 4) (by omega)
   obtain ⟨t, a6, s6, e6, ht, h6a⟩ := L9 hl s5 (show 0 ≤ a5 by omega) (by omega) (m := 2) (by omega)
   have := hq.2 (by omega)
   have := ht.2 (by omega)
   refine ⟨_, Ev.bind e1 (Ev.bind hE (o8 c (evC e2 (evC e3 (o8 c0 (evC e4 (evC e5 (evC e6 (o8 hi.1 (o8 hi2 (Ev.now _))))))))))), v0d hs _ ?_⟩
   intro x hx; simp at hx; omega
  by_cases c1 : v = 1
  ·have ew : wrap64 (i + 1) = i + 1 := C9 (by omega) (by omega)
   refine ⟨_, Ev.bind e1 (Ev.bind hE (o8 c (evC e2 (evC e3 (Y3 c0 (o8 c1 (o8 hi.1 (o8 (by omega) (o8 (by rw [ew]; omega) (o8 (by rw [ew]; omega) (Ev.now _))))))))))), fun e he => hs e (List.mem_of_mem_eraseIdx he)⟩
  by_cases c2 : v = 2
  ·refine ⟨_, Ev.bind e1 (Ev.bind hE (o8 c (evC e2 (evC e3 (Y3 c0 (Y3 c1 (o8 c2 (o8 hi.1 (o8 hi2 (o8 (by rw [hrow i hi.1 hi2]; omega) (Ev.now _))))))))))), v0d hs _ (fun x hx => v3t hs i x (List.mem_of_mem_take hx))⟩
  by_cases c3 : v = 3
  ·obtain ⟨p, a4, s4, e4, hp, h4a⟩ := L9 hl s3 (show 0 ≤ a3 by omega) (by omega) (m := 3) (by omega)
   obtain ⟨q, a5, s5, e5, hq, h5a⟩ := q1m hl s4 (show 0 ≤ a4 by omega) (by omega) (q := [-1, 1, 2, 20]) (by simp)
   have := hp.2 (by omega)
   simp at hq
   refine ⟨_, Ev.bind e1 (Ev.bind hE (o8 c (evC e2 (evC e3 (Y3 c0 (Y3 c1 (Y3 c2 (o8 c3 (o8 hi.1 (o8 hi2 (evC e4 (evC e5 (o8 hp.1 (o8 (by rw [hrow i hi.1 hi2]; omega) (Ev.now _))))))))))))))), v0d hs _ (fun x hx => ?_)⟩
   rcases List.mem_or_eq_of_mem_set hx with z | z
   ·exact v3t hs i x z
   ·omega
  ·exact ⟨_, Ev.bind e1 (Ev.bind hE (o8 c (evC e2 (evC e3 (Y3 c0 (Y3 c1 (Y3 c2 (Y3 c3 (Ev.now _))))))))), hs⟩
 ·exact ⟨_, Ev.bind e1 (Ev.bind hE (Y3 c (Ev.now _))), hs⟩
theorem v5d {u : List (List Int)} (h : (q17 u).2 = true) : V8 (q17 u).1 = true ∧ evs (q17 u).1 = u := by
 revert h
 unfold q17
 split
 ·simp
 ·cases seS u [] (fun _ => -1) with
  | none => simp [q3r]
  | some out =>
   simp only [q3r]
   by_cases c : (U4 out).2 = true
   ·rw [if_pos c]
    by_cases e : evs (U4 out).1 = u
    ·rw [if_pos e]; exact fun _ => ⟨q2f c, e⟩
    ·rw [if_neg e]; simp
   ·rw [if_neg c]; simp
theorem v7t {l : List S48} (hg : V8 l = true) : q17 (evs l) = (l, true) := by
 obtain ⟨q, hq, hp⟩ := v5c hg
 have hb := v0q hg hp
 have h2 := q3w hg
 have h3 := K8 hg
 unfold q17
 rw [if_neg (by omega), hq]
 simp only [q3r, hb, if_true]
theorem v1l : ∀ {l : List (List Int)}, (∀ e, e ∈ l → rd e 2 = 0 ∨ rd e 2 = 1) → -(l.length : Int) ≤ q1l l ∧ q1l l ≤ (l.length : Int)
 | [], _ => by simp [q1l]
 | e :: l, h => by
  have h1 := h e (by simp)
  have ih := v1l (l := l) (fun x hx => h x (List.mem_cons_of_mem _ hx))
  simp only [q1l, List.length_cons]
  omega
theorem v9x {l : List S48} (hg : V8 l = true) {e : List Int} (he : e ∈ evs l) : e.length = 3 ∧ (0 ≤ rd e 0 ∧ rd e 0 ≤ 2000) ∧ (rd e 2 = 0 ∨ rd e 2 = 1) := by
 obtain ⟨v, u, c, rfl, h1, h2, _, _, h5⟩ := q3u hg he
 exact ⟨rfl, ⟨h1, h2⟩, h5⟩
theorem v9l {l : List S48} (hg : V8 l = true) {x1 : List Int} (hj : Ev (fun k => laws_FnEvents.j5 k x1) true) : ∀ (suf pre : List (List Int)), evs l = pre ++ suf →
  Ev (fun k => laws_FnEvents.l0 k x1 (evs l) (I7 l l 0 (cOp 0 l)).1 (I7 l l 0 (cOp 0 l)).2 (q1l pre) (evs l) ((evs l).length : Int) (pre.length : Int)) true := by
 have hn : (evs l).length ≤ 120 := by have := q3w hg; have := K8 hg; omega
 have hr := fun e => v9x (l := l) hg (e := e)
 intro suf
 induction suf with
 | nil =>
  intro pre h
  have e0 := v6a hg
  rw [h, List.append_nil] at e0
  exact Ev.step (fun k => laws_FnEvents.l0.eq_2 ..) (Y3 (q08 h) (o8 e0 hj))
 | cons x suf ih =>
  intro pre h
  obtain ⟨h1, h2, h3, h4, h5⟩ := F6 h (by omega) []
  have hx : x ∈ evs l := by rw [h]; simp
  obtain ⟨x3, x0, x2⟩ := hr x hx
  have ex : y8 (evs l) (pre.length : Int) = x := h4
  have hpl : pre.length + (suf.length + 1) = (evs l).length := by rw [h]; simp
  have hb := v1l (l := pre ++ [x]) (fun e he => (hr e (by rw [h5]; exact List.mem_append_left _ he)).2.2)
  have hs := q8a pre x
  have next := ih (pre ++ [x]) h5
  rw [List.length_append] at hb
  simp only [List.length_singleton] at hb
  have j4 : ∀ b : Bool, (b = true → q1l (pre ++ [x]) = cOp (rd x 0) l) → Ev (fun k => laws_FnEvents.j4 k x1 (evs l) (I7 l l 0 (cOp 0 l)).1 (I7 l l 0 (cOp 0 l)).2 (q1l (pre ++ [x])) (evs l) ((evs l).length : Int) (pre.length : Int) b) true := by
   intro b hb2
   refine Ev.step (fun k => laws_FnEvents.j4.eq_2 ..) ?_
   rw [h3, ex]
   refine q0i (fun c => ?_) (fun _ => next)
   have hm := v7l hg (rd x 0) x0.1
   rw [← hb2 c] at hm
   refine Y3 (by omega) (q0i (fun c1 => q0i (fun c2 => o8 (by omega) (Y3 (fun c3 => ?_) next)) (fun _ => next)) (fun _ => next))
   have := hm.2 c1 c2
   omega
  have j3 : Ev (fun k => laws_FnEvents.j3 k x1 (evs l) (I7 l l 0 (cOp 0 l)).1 (I7 l l 0 (cOp 0 l)).2 (q1l pre) (pre.length : Int) (evs l) ((evs l).length : Int) (pre.length : Int) false) true := by
   refine Ev.step (fun k => laws_FnEvents.j3.eq_2 ..) (Y3 (by simp) ?_)
   rw [h3, ex]
   have w1 : wrap64 (2 * rd x 2) = 2 * rd x 2 := C9 (by omega) (by omega)
   have w2 : wrap64 (2 * rd x 2 - 1) = 2 * rd x 2 - 1 := C9 (by omega) (by omega)
   have w3 : wrap64 (q1l pre + (2 * rd x 2 - 1)) = q1l (pre ++ [x]) := by rw [← hs]; exact C9 (by omega) (by omega)
   rw [w1, w2, w3]
   refine o8 (by omega) (q0i (fun c => ?_) (fun c => ?_))
   ·have : suf = [] := List.eq_nil_of_length_eq_zero (by simp at c; omega)
    subst this
    exact j4 true (fun _ => q86 hg (suf := []) (by rw [h]; simp) (by simp))
   ·cases suf with
    | nil => exact absurd (by rw [h]) c
    | cons y suf =>
     have hy : y ∈ evs l := by rw [h]; simp
     have ey : y8 (evs l) ((pre ++ [x]).length : Int) = y := by
      unfold y8
      rw [h]; simp
     rw [ey]
     have hyl := (hr y hy).1
     simp only [List.length_cons] at hpl
     refine o8 (by omega) (o8 (by simp; omega) (o8 (by omega) (o8 (by omega) ?_)))
     refine j4 _ (fun c2 => q86 hg (suf := y :: suf) (by rw [h]; simp) (fun z hz => ?_))
     have c3 := of_decide_eq_true c2
     simp at hz
     rw [← hz]; exact c3
  refine Ev.step (fun k => laws_FnEvents.l0.eq_2 ..) (o8 h1 (o8 h2 (o8 h1 ?_)))
  by_cases c : (pre.length : Int) > 0
  ·refine o8 c ?_
   have w : wrap64 ((pre.length : Int) - 1) = ((pre.length - 1 : Nat) : Int) := by rw [C9 (by omega) (by omega)]; omega
   rw [w, ex]
   obtain ⟨q, y, rfl⟩ : ∃ q y, pre = q ++ [y] := ⟨pre.dropLast, pre.getLast (by intro z; rw [z] at c; simp at c), (List.dropLast_concat_getLast _).symm⟩
   have hy : y ∈ evs l := by rw [h]; simp
   have ey : y8 (evs l) (((q ++ [y]).length - 1 : Nat) : Int) = y := by
    unfold y8
    rw [h]; simp
   have hyl := (hr y hy).1
   have lt : q2t y x := by
    have := q97 hg
    rw [h] at this
    exact (List.pairwise_append.1 this).2.2 y (by simp) x (by simp)
   unfold q2t at lt
   rw [ey]
   refine o8 (by omega) (o8 (by omega) (o8 (by omega) (o8 (by omega) (Y3 (by omega) (q0i (fun e => o8 (by omega) (o8 (by omega) ?_)) (fun _ => j3))))))
   rw [decide_eq_false (show ¬ rd y 1 ≥ rd x 1 by omega)]
   exact j3
  ·exact Y3 c j3
theorem FnEvents (l0 l1 : List Int) (w0 : Opn.Lst Opn.Byte l0) (w1 : Opn.Lst Opn.Byte l1) : ∃ k, laws_FnEvents.f k l0 l1 = some true := by
 refine Ev.rounds (g := fun k => laws_FnEvents.f k l0 l1) ?_
 unfold laws_FnEvents.f
 obtain ⟨t, ht⟩ : ∃ t, q0w.f l0 l1 = some t := by
  unfold q0w.f; split
  ·exact ⟨_, rfl⟩
  ·exact ⟨_, rfl⟩
 refine evC ht (q0i (fun _ => Ev.now _) (fun _ => ?_))
 obtain ⟨D, hD, hn⟩ := v4u (l := l0) w0.2
 have hm : D.length ≤ 1048576 := by omega
 obtain ⟨m1, m2⟩ := v7f hm
 obtain ⟨b1, b2⟩ := v5a D
 obtain ⟨v1, v2⟩ := q9e D
 obtain ⟨u, hu, hs⟩ := v3c (l := l1) w1.2
 have hw : ∀ e, e ∈ u → ∀ x, x ∈ e → -9223372036854775808 ≤ x ∧ x ≤ 9223372036854775807 := fun e he x hx => by have := hs e he x hx; omega
 have j6 : Ev (fun k => laws_FnEvents.j6 k u (q17 u).1 (q17 u).2 (!true)) true := by
  refine Ev.step (fun k => laws_FnEvents.j6.eq_2 ..) (Y3 (by simp) (q0i (fun c => ?_) (fun _ => Ev.now _)))
  obtain ⟨g, e⟩ := v5d c
  have hl := K8 g
  have er : q09 (q17 u).1 = (u, true) := by unfold q09; rw [if_pos g, e]
  have hb := q9e (q17 u).1
  have he := q82 (l := (q17 u).1) (by omega)
  rw [er] at he hb
  exact Ev.bind he (o8 rfl (Ev.bind (q5o (l := u) (by have := hb.1; dsimp only at this; omega) (fun x hx => by have := hb.2 x hx; omega)) (Ev.now _)))
 have j5 : Ev (fun k => laws_FnEvents.j5 k l1) true :=
  Ev.step (fun k => laws_FnEvents.j5.eq_2 ..) (Ev.bind hu (Ev.bind (q89 u hw) (Ev.bind (v2y u) (Y3 (by simp) (Ev.bind (q3j (by have := v3i u; omega)) j6)))))
 have j0 : Ev (fun k => laws_FnEvents.j0 k l1 D (q09 D).1 (q09 D).2 (q09 D).1 (q2b D).1 (q2b D).2.1 (q1n D).1 false) true := by
  refine Ev.step (fun k => laws_FnEvents.j0.eq_2 ..) (Y3 (by simp) (q0i (fun c => ?_) (fun _ => j5)))
  have g : V8 D = true := by
   unfold q09 at c
   by_cases g : V8 D = true
   ·exact g
   ·rw [if_neg g] at c; simp at c
  have er : q09 D = (evs D, true) := by unfold q09; rw [if_pos g]
  have mr : q2b D = ((I7 D D 0 (cOp 0 D)).1, (I7 D D 0 (cOp 0 D)).2, true) := by unfold q2b; rw [if_pos g]
  have qr : q1n D = (quiet 0 0 D, true) := by unfold q1n; rw [if_pos g]
  have lr : q4u D = (G5 0 D, true) := by unfold q4u; rw [if_pos g]
  have sr := q89 (evs D) (fun e he x hx => by have := v4c (l := D) (by have := q23 (M8 g) (e := 0) (by omega) (by omega); omega) e he x hx; omega)
  rw [v7t g] at sr
  have s1 := v2k hm
  have s2 := v2n hm
  rw [lr] at s1 s2
  rw [er, mr, qr]
  have hq := v5i g
  have e2 := q3w g
  refine Ev.bind sr (Ev.bind s1 (Ev.bind s2 (o8 rfl (Ev.bind (q3j hm) (o8 rfl (o8 rfl (o8 rfl (o8 rfl (o8 (by rw [e2, C9 (by omega) (by omega)]; omega) ?_)))))))))
  rw [decide_eq_false (show ¬ quiet 0 0 D > G5 0 D by omega)]
  refine Ev.step (fun k => laws_FnEvents.j1.eq_2 ..) (Y3 (by simp) ?_)
  exact v9l g j5 (evs D) [] rfl
 have z1 : (q2b D).2.2 = (q09 D).2 := by unfold q2b q09; split <;> rfl
 have z2 : (q1n D).2 = (q09 D).2 := by unfold q1n q09; split <;> rfl
 have z3 : (q2u D).2.2.2 = (q09 D).2 := by unfold q2u q09; split <;> rfl
 refine Ev.bind hD (Ev.bind (q82 hm) (Ev.bind (v4a hm) (Ev.bind m2 (Ev.bind m1 (Ev.bind (q9r hm) (Ev.bind (v0g hm) (Ev.bind (v2p hm) (Ev.bind (v2c hm) (Y3 (by simp) (Ev.bind (q5o (l := (q09 D).1) (by omega) (fun x hx => by have := v2 x hx; omega)) (o8 rfl (Y3 (by simp) (o8 rfl (o8 rfl (Y3 (by simp) (o8 rfl (Y3 (by simp) (Ev.bind (q7u (by omega) (by omega)) (o8 rfl (Y3 (by rw [z1]; simp) (Y3 (by rw [z2]; simp) ?_)))))))))))))))))))))
 rw [z3]
 simp only [bne_self_eq_false]
 exact j0
end Go.Proofs.YtkfledgkhgcicaaGreat.Pure
