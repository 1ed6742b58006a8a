/- The program's SafeBound returns what the reference's returns, for all arguments.: the plain part: what the program computes and what the reference computes agree, for all arguments. No conditions beyond the arguments' own kinds. -/
import Derived.Test.YtegmhgdbhpbfiaaPFnExactSafeBoundx0
import Derived.Test.YtegmhgdbhpbfiaaPFnExactSafeBoundx1
import Derived.Test.YtegmhgdbhpbfiaaOpn
namespace Go.Proofs.Ytegmhgdbhpbfiaa.Pure
open Go.RowKit Go.Proofs.Ytegmhgdbhpbfiaa.PFnExactSafeBound Go.Proofs.YtegmhgdbhpbfiaaW.PrintWords Go.Proofs.YtegmhgdbhpbfiaaW.PrintLast Go.Proofs.YtegmhgdbhpbfiaaW.PrintMore
-- ** base
theorem wrapi {x : Int} (h0 : -9223372036854775808 ≤ x) (h1 : x ≤ 9223372036854775807) : wrap64 x = x := by unfold wrap64; omega
theorem evPos {α : Type} {c : Prop} [Decidable c] {g f : Nat → Option α} {r : α} (h : c) (e : Ev g r) : Ev (fun k => if c then g k else f k) r := by
  simp only [if_pos h]; exact e
theorem evNeg {α : Type} {c : Prop} [Decidable c] {g f : Nat → Option α} {r : α} (h : ¬ c) (e : Ev f r) : Ev (fun k => if c then g k else f k) r := by
  simp only [if_neg h]; exact e
theorem evC {α β : Type} {o : Option α} {f : Nat → α → Option β} {a : α} {r : β} (h : o = some a) (e : Ev (fun n => f n a) r) : Ev (fun n => o.bind (f n)) r := by
  subst h; exact e
theorem evOf {α : Type} {o : Option α} {r : α} (h : o = some r) : Ev (fun _ => o) r := by subst h; exact Ev.now r
theorem evNow {α : Type} {r q : α} (h : r = q) : Ev (fun _ => some r) q := by subst h; exact Ev.now r
theorem evEq {α : Type} {g : Nat → Option α} {r q : α} (h : Ev g r) (e : r = q) : Ev g q := e ▸ h
theorem evIte {α : Type} {c : Prop} [Decidable c] {g f : Nat → Option α} {r q : α} (h : c → Ev g r) (h' : ¬ c → Ev f q) : Ev (fun k => if c then g k else f k) (if c then r else q) := by
  by_cases hc : c
  · simp only [if_pos hc]; exact h hc
  · simp only [if_neg hc]; exact h' hc
theorem evBy {α : Type} {c : Prop} [Decidable c] {g f : Nat → Option α} {r : α} (h : c → Ev g r) (h' : ¬ c → Ev f r) : Ev (fun k => if c then g k else f k) r := by
  by_cases hc : c
  · simp only [if_pos hc]; exact h hc
  · simp only [if_neg hc]; exact h' hc
theorem someT {p : Prop} [Decidable p] (h : p) : some true = some (decide p) := by rw [decide_eq_true h]
theorem someF {p : Prop} [Decidable p] (h : ¬ p) : some false = some (decide p) := by rw [decide_eq_false h]
theorem someD {p q : Prop} [Decidable p] [Decidable q] (h : p ↔ q) : some (decide p) = some (decide q) := by rw [decide_eq_decide.mpr h]
theorem decT {p : Prop} [Decidable p] (h : p) : true = decide p := by rw [decide_eq_true h]
theorem decF {p : Prop} [Decidable p] (h : ¬ p) : false = decide p := by rw [decide_eq_false h]
theorem decD {p q : Prop} [Decidable p] [Decidable q] (h : p ↔ q) : decide p = decide q := decide_eq_decide.mpr h
theorem allBad {α : Type} {p : α → Bool} {x : α} {suf : List α} {q : Bool} (h : p x = false) : false = ((x :: suf).all p && q) := by simp [h]
theorem allGood {α : Type} {p : α → Bool} {x : α} {suf : List α} {q : Bool} (h : p x = true) : (suf.all p && q) = ((x :: suf).all p && q) := by simp [h]
theorem rgEnd {α : Type} {l pre : List α} (h : l = pre ++ []) : ¬ ((pre.length : Int) < (l.length : Int)) := by subst h; simp
theorem rgHead {α : Type} {l pre suf : List α} {x : α} (h : l = pre ++ x :: suf) (hl : l.length ≤ 4611686018427387904) (z : α) :
    (pre.length : Int) < (l.length : Int) ∧ (0 : Int) ≤ (pre.length : Int) ∧ wrap64 ((pre.length : Int) + 1) = ((pre ++ [x]).length : Int) ∧ l.getD (pre.length : Int).toNat z = x ∧ l = (pre ++ [x]) ++ suf := by
  subst h
  simp at hl
  refine ⟨by simp; omega, by omega, ?_, by simp, by simp⟩
  rw [wrapi (by omega) (by omega)]; simp
theorem in_eq (a b c : Int) : spec_l1In.f a b c = some (decide (b ≤ a ∧ a ≤ c)) := by
  unfold spec_l1In.f
  split
  · exact someD (by omega)
  · exact someF (by omega)
theorem mx_eq (a b : Int) : mx a b = max a b := by unfold mx; omega
theorem mn_eq (a b : Int) : mn a b = min a b := by unfold mn; omega
-- ** ctl
def ctl (b g : Int) : Prop := 0 ≤ b ∧ b ≤ 200 ∧ 1 ≤ g ∧ g ≤ 100
instance (b g : Int) : Decidable (ctl b g) := by unfold ctl; exact inferInstance
theorem tkGood_eq (b g : Int) : spec_tkGood.f b g = some (decide (ctl b g)) := by
  unfold spec_tkGood.f; rw [in_eq, in_eq]; simp only [Option.bind_some]
  by_cases h : 0 ≤ b ∧ b ≤ 200
  · rw [if_pos (decide_eq_true h)]; exact someD (by unfold ctl; omega)
  · rw [if_neg (by simpa using h)]; exact someF (by unfold ctl; omega)
theorem isController_eq (b g : Int) : impl_IsController.f b g = some (decide (ctl b g)) := by
  unfold impl_IsController.f
  repeat' split
  all_goals first | exact someD (by unfold ctl; omega) | exact someF (by unfold ctl; omega)
-- ** most
theorem l1Most_eq (a b : Int) : spec_l1Most.f a b = some (max a b) := by
  unfold spec_l1Most.f; split <;> (congr 1; omega)
-- ** bound
theorem isMostDrift_eq (m : Int) : impl_isMostDrift.f m = some (decide (0 ≤ m ∧ m ≤ 50)) := by
  unfold impl_isMostDrift.f
  split
  · exact someD (by omega)
  · exact someF (by omega)
theorem tkMost_eq (b g m : Int) : spec_tkMost.f b g m = some (decide (ctl b g ∧ 0 ≤ m ∧ m ≤ 50)) := by
  unfold spec_tkMost.f; simp only [tkGood_eq, in_eq, Option.bind_some, decide_eq_true_eq]
  split
  · rename_i h; exact someD (by simp only [h, true_and])
  · rename_i h; exact someF (fun q => h q.1)
theorem tkBound_eq (b g : Int) (h : ctl b g) : spec_tkBound.f b g = some (max b (g - b - 1)) := by
  unfold spec_tkBound.f; unfold ctl at h; rw [wrapi (x := g - b) (by omega) (by omega), wrapi (by omega) (by omega), l1Most_eq]; rfl
def safe (b g m : Int) : Int × Bool := if ctl b g ∧ 0 ≤ m ∧ m ≤ 50 ∧ m ≤ g then (max b (g - b - 1), true) else (0, false)
theorem specSafe_eq (b g m : Int) : spec_SafeBound.f b g m = some (safe b g m) := by
  unfold spec_SafeBound.f safe; simp only [tkMost_eq, Option.bind_some, decide_eq_true_eq]
  by_cases h : ctl b g ∧ 0 ≤ m ∧ m ≤ 50
  · rw [if_pos h]
    by_cases h2 : g < m
    · rw [if_pos h2, if_neg (fun q => by have := q.2.2.2; omega)]
    · rw [if_neg h2, if_pos ⟨h.1, h.2.1, h.2.2, by omega⟩, tkBound_eq _ _ h.1]; rfl
  · rw [if_neg h, if_neg (fun q => h ⟨q.1, q.2.1, q.2.2.1⟩)]
theorem implSafe_eq (b g m : Int) : impl_SafeBound.f b g m = some (safe b g m) := by
  unfold impl_SafeBound.f safe; simp only [isController_eq, isMostDrift_eq, Option.bind_some, decide_eq_true_eq]
  by_cases h : ctl b g
  · rw [if_pos h]
    by_cases h1 : 0 ≤ m ∧ m ≤ 50
    · rw [if_pos h1]
      by_cases h2 : g < m
      · rw [if_pos h2, if_neg (fun q => by have := q.2.2.2; omega)]
      · rw [if_neg h2, if_pos ⟨h, h1.1, h1.2, by omega⟩, mx_eq]
        unfold ctl at h
        rw [wrapi (x := g - b) (by omega) (by omega), wrapi (by omega) (by omega)]
    · rw [if_neg h1, if_neg (fun q => h1 ⟨q.2.1, q.2.2.1⟩)]
  · rw [if_neg h, if_neg (fun q => h q.1)]
-- ** FnExactSafeBound
theorem FnExactSafeBound (a0_0 a0_1 a1 : Int) (_ : Opn.I64 a0_0) (_ : Opn.I64 a0_1) (_ : Opn.I64 a1) : laws_FnExactSafeBound.f a0_0 a0_1 a1 = some true := by
  unfold laws_FnExactSafeBound.f laws_toController.f
  simp only [Option.bind_some, specSafe_eq, implSafe_eq]
  simp
end Go.Proofs.Ytegmhgdbhpbfiaa.Pure
