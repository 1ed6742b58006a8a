/- The program's IsAction returns what the reference's returns, for all arguments.: the plain part: what the program computes and what the reference computes agree, for all arguments. No conditions beyond the arguments' own kinds. -/
import Derived.Test.YtegmhgdbhpbfiaaPFnExactIsActionx0
import Derived.Test.YtegmhgdbhpbfiaaPFnExactIsActionx1
import Derived.Test.YtegmhgdbhpbfiaaOpn
namespace Go.Proofs.Ytegmhgdbhpbfiaa.Pure
open Go.RowKit Go.Proofs.Ytegmhgdbhpbfiaa.PFnExactIsAction Go.Proofs.YtegmhgdbhpbfiaaW.PrintWords Go.Proofs.YtegmhgdbhpbfiaaW.PrintLast Go.Proofs.YtegmhgdbhpbfiaaW.PrintMore
-- ** base
theorem wrapi {x : Int} (h0 : -9223372036854775808 ≤ x) (h1 : x ≤ 9223372036854775807) : wrap64 x = x := by unfold wrap64; omega
theorem evPos {α : Type} {c : Prop} [Decidable c] {g f : Nat → Option α} {r : α} (h : c) (e : Ev g r) : Ev (fun k => if c then g k else f k) r := by
  simp only [if_pos h]; exact e
theorem evNeg {α : Type} {c : Prop} [Decidable c] {g f : Nat → Option α} {r : α} (h : ¬ c) (e : Ev f r) : Ev (fun k => if c then g k else f k) r := by
  simp only [if_neg h]; exact e
theorem evC {α β : Type} {o : Option α} {f : Nat → α → Option β} {a : α} {r : β} (h : o = some a) (e : Ev (fun n => f n a) r) : Ev (fun n => o.bind (f n)) r := by
  subst h; exact e
theorem evOf {α : Type} {o : Option α} {r : α} (h : o = some r) : Ev (fun _ => o) r := by subst h; exact Ev.now r
theorem evNow {α : Type} {r q : α} (h : r = q) : Ev (fun _ => some r) q := by subst h; exact Ev.now r
theorem evEq {α : Type} {g : Nat → Option α} {r q : α} (h : Ev g r) (e : r = q) : Ev g q := e ▸ h
theorem evIte {α : Type} {c : Prop} [Decidable c] {g f : Nat → Option α} {r q : α} (h : c → Ev g r) (h' : ¬ c → Ev f q) : Ev (fun k => if c then g k else f k) (if c then r else q) := by
  by_cases hc : c
  · simp only [if_pos hc]; exact h hc
  · simp only [if_neg hc]; exact h' hc
theorem evBy {α : Type} {c : Prop} [Decidable c] {g f : Nat → Option α} {r : α} (h : c → Ev g r) (h' : ¬ c → Ev f r) : Ev (fun k => if c then g k else f k) r := by
  by_cases hc : c
  · simp only [if_pos hc]; exact h hc
  · simp only [if_neg hc]; exact h' hc
theorem someT {p : Prop} [Decidable p] (h : p) : some true = some (decide p) := by rw [decide_eq_true h]
theorem someF {p : Prop} [Decidable p] (h : ¬ p) : some false = some (decide p) := by rw [decide_eq_false h]
theorem someD {p q : Prop} [Decidable p] [Decidable q] (h : p ↔ q) : some (decide p) = some (decide q) := by rw [decide_eq_decide.mpr h]
theorem decT {p : Prop} [Decidable p] (h : p) : true = decide p := by rw [decide_eq_true h]
theorem decF {p : Prop} [Decidable p] (h : ¬ p) : false = decide p := by rw [decide_eq_false h]
theorem decD {p q : Prop} [Decidable p] [Decidable q] (h : p ↔ q) : decide p = decide q := decide_eq_decide.mpr h
theorem rgEnd {α : Type} {l pre : List α} (h : l = pre ++ []) : ¬ ((pre.length : Int) < (l.length : Int)) := by subst h; simp
theorem rgHead {α : Type} {l pre suf : List α} {x : α} (h : l = pre ++ x :: suf) (hl : l.length ≤ 4611686018427387904) (z : α) :
    (pre.length : Int) < (l.length : Int) ∧ (0 : Int) ≤ (pre.length : Int) ∧ wrap64 ((pre.length : Int) + 1) = ((pre ++ [x]).length : Int) ∧ l.getD (pre.length : Int).toNat z = x ∧ l = (pre ++ [x]) ++ suf := by
  subst h
  simp at hl
  refine ⟨by simp; omega, by omega, ?_, by simp, by simp⟩
  rw [wrapi (by omega) (by omega)]; simp
theorem in_eq (a b c : Int) : spec_l1In.f a b c = some (decide (b ≤ a ∧ a ≤ c)) := by
  unfold spec_l1In.f
  split
  · exact someD (by omega)
  · exact someF (by omega)
theorem mx_eq (a b : Int) : mx a b = max a b := by unfold mx; omega
theorem mn_eq (a b : Int) : mn a b = min a b := by unfold mn; omega
-- ** action
def actn (a b c : Int) : Prop := 0 ≤ a ∧ a ≤ 40 ∧ 0 ≤ b ∧ b ≤ 40 ∧ 0 ≤ c ∧ c ≤ 40
instance (a b c : Int) : Decidable (actn a b c) := by unfold actn; exact inferInstance
theorem pyAction_eq (a b c : Int) : spec_pyAction.f a b c = some (decide (actn a b c)) := by
  unfold spec_pyAction.f; simp only [in_eq, Option.bind_some, decide_eq_true_eq]
  repeat' split
  all_goals first | exact someD (by unfold actn; omega) | exact someF (by unfold actn; omega)
theorem isAction_eq (a b c : Int) : impl_IsAction.f a b c = some (decide (actn a b c)) := by
  unfold impl_IsAction.f
  repeat' split
  all_goals first | exact someD (by unfold actn; omega) | exact someF (by unfold actn; omega)
-- ** FnExactIsAction
theorem FnExactIsAction (a0_0 a0_1 a0_2 : Int) (_ : Opn.I64 a0_0) (_ : Opn.I64 a0_1) (_ : Opn.I64 a0_2) : laws_FnExactIsAction.f a0_0 a0_1 a0_2 = some true := by
  unfold laws_FnExactIsAction.f laws_toAction.f spec_IsAction.f
  simp only [Option.bind_some, pyAction_eq, isAction_eq]
  simp
end Go.Proofs.Ytegmhgdbhpbfiaa.Pure
