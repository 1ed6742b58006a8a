/- The program's SettlesAfter returns what the reference's returns, for all arguments.: the plain part: what the program computes and what the reference computes agree, for all arguments. No conditions beyond the arguments' own kinds. -/
import Derived.Test.YtegmhgdbhpbfiaaPFnExactSettlesAfterx0
import Derived.Test.YtegmhgdbhpbfiaaPFnExactSettlesAfterx1
import Derived.Test.YtegmhgdbhpbfiaaPFnExactSettlesAfterx2
import Derived.Test.YtegmhgdbhpbfiaaOpn
namespace Go.Proofs.Ytegmhgdbhpbfiaa.Pure
open Go.RowKit Go.Proofs.Ytegmhgdbhpbfiaa.PFnExactSettlesAfter Go.Proofs.YtegmhgdbhpbfiaaW.PrintWords Go.Proofs.YtegmhgdbhpbfiaaW.PrintLast Go.Proofs.YtegmhgdbhpbfiaaW.PrintMore
-- ** base
theorem wrapi {x : Int} (h0 : -9223372036854775808 ≤ x) (h1 : x ≤ 9223372036854775807) : wrap64 x = x := by unfold wrap64; omega
theorem evPos {α : Type} {c : Prop} [Decidable c] {g f : Nat → Option α} {r : α} (h : c) (e : Ev g r) : Ev (fun k => if c then g k else f k) r := by
  simp only [if_pos h]; exact e
theorem evNeg {α : Type} {c : Prop} [Decidable c] {g f : Nat → Option α} {r : α} (h : ¬ c) (e : Ev f r) : Ev (fun k => if c then g k else f k) r := by
  simp only [if_neg h]; exact e
theorem evC {α β : Type} {o : Option α} {f : Nat → α → Option β} {a : α} {r : β} (h : o = some a) (e : Ev (fun n => f n a) r) : Ev (fun n => o.bind (f n)) r := by
  subst h; exact e
theorem evOf {α : Type} {o : Option α} {r : α} (h : o = some r) : Ev (fun _ => o) r := by subst h; exact Ev.now r
theorem evNow {α : Type} {r q : α} (h : r = q) : Ev (fun _ => some r) q := by subst h; exact Ev.now r
theorem evEq {α : Type} {g : Nat → Option α} {r q : α} (h : Ev g r) (e : r = q) : Ev g q := e ▸ h
theorem evIte {α : Type} {c : Prop} [Decidable c] {g f : Nat → Option α} {r q : α} (h : c → Ev g r) (h' : ¬ c → Ev f q) : Ev (fun k => if c then g k else f k) (if c then r else q) := by
  by_cases hc : c
  · simp only [if_pos hc]; exact h hc
  · simp only [if_neg hc]; exact h' hc
theorem evBy {α : Type} {c : Prop} [Decidable c] {g f : Nat → Option α} {r : α} (h : c → Ev g r) (h' : ¬ c → Ev f r) : Ev (fun k => if c then g k else f k) r := by
  by_cases hc : c
  · simp only [if_pos hc]; exact h hc
  · simp only [if_neg hc]; exact h' hc
theorem someT {p : Prop} [Decidable p] (h : p) : some true = some (decide p) := by rw [decide_eq_true h]
theorem someF {p : Prop} [Decidable p] (h : ¬ p) : some false = some (decide p) := by rw [decide_eq_false h]
theorem someD {p q : Prop} [Decidable p] [Decidable q] (h : p ↔ q) : some (decide p) = some (decide q) := by rw [decide_eq_decide.mpr h]
theorem decT {p : Prop} [Decidable p] (h : p) : true = decide p := by rw [decide_eq_true h]
theorem decF {p : Prop} [Decidable p] (h : ¬ p) : false = decide p := by rw [decide_eq_false h]
theorem decD {p q : Prop} [Decidable p] [Decidable q] (h : p ↔ q) : decide p = decide q := decide_eq_decide.mpr h
theorem rgEnd {α : Type} {l pre : List α} (h : l = pre ++ []) : ¬ ((pre.length : Int) < (l.length : Int)) := by subst h; simp
theorem rgHead {α : Type} {l pre suf : List α} {x : α} (h : l = pre ++ x :: suf) (hl : l.length ≤ 4611686018427387904) (z : α) :
    (pre.length : Int) < (l.length : Int) ∧ (0 : Int) ≤ (pre.length : Int) ∧ wrap64 ((pre.length : Int) + 1) = ((pre ++ [x]).length : Int) ∧ l.getD (pre.length : Int).toNat z = x ∧ l = (pre ++ [x]) ++ suf := by
  subst h
  simp at hl
  refine ⟨by simp; omega, by omega, ?_, by simp, by simp⟩
  rw [wrapi (by omega) (by omega)]; simp
theorem in_eq (a b c : Int) : spec_l1In.f a b c = some (decide (b ≤ a ∧ a ≤ c)) := by
  unfold spec_l1In.f
  split
  · exact someD (by omega)
  · exact someF (by omega)
theorem mx_eq (a b : Int) : mx a b = max a b := by unfold mx; omega
theorem mn_eq (a b : Int) : mn a b = min a b := by unfold mn; omega
-- ** ctl
def ctl (b g : Int) : Prop := 0 ≤ b ∧ b ≤ 200 ∧ 1 ≤ g ∧ g ≤ 100
instance (b g : Int) : Decidable (ctl b g) := by unfold ctl; exact inferInstance
theorem tkGood_eq (b g : Int) : spec_tkGood.f b g = some (decide (ctl b g)) := by
  unfold spec_tkGood.f; rw [in_eq, in_eq]; simp only [Option.bind_some]
  by_cases h : 0 ≤ b ∧ b ≤ 200
  · rw [if_pos (decide_eq_true h)]; exact someD (by unfold ctl; omega)
  · rw [if_neg (by simpa using h)]; exact someF (by unfold ctl; omega)
theorem isController_eq (b g : Int) : impl_IsController.f b g = some (decide (ctl b g)) := by
  unfold impl_IsController.f
  repeat' split
  all_goals first | exact someD (by unfold ctl; omega) | exact someF (by unfold ctl; omega)
-- ** move
def off (o : Int) : Prop := -1000 ≤ o ∧ o ≤ 1000
instance (o : Int) : Decidable (off o) := by unfold off; exact inferInstance
theorem tkOffset_eq (o : Int) : spec_tkOffset.f o = some (decide (off o)) := by
  unfold spec_tkOffset.f; rw [in_eq]; rfl
theorem isOffset_eq (o : Int) : impl_isOffset.f o = some (decide (off o)) := by
  unfold impl_isOffset.f
  split
  · exact someD (by unfold off; omega)
  · exact someF (by unfold off; omega)
def mv (b g o d : Int) : Int := if o + d > b then o + d - g else if o + d < -b then o + d + g else o + d
def mvby (b g o d : Int) : Int := if o + d > b then -g else if o + d < -b then g else 0
def far (o : Int) : Prop := -100000 ≤ o ∧ o ≤ 100000
theorem tkStep_eq {b g o d : Int} (h : ctl b g) (ho : far o) (hd : far d) : spec_tkStep.f b g o d = some (mv b g o d, mvby b g o d) := by
  unfold spec_tkStep.f mv mvby; unfold ctl at h; unfold far at ho hd
  rw [wrapi (x := o + d) (by omega) (by omega), wrapi (x := -b) (by omega) (by omega), wrapi (x := -g) (by omega) (by omega), wrapi (x := o + d - g) (by omega) (by omega), wrapi (x := o + d + g) (by omega) (by omega)]
  split
  · rfl
  · split <;> rfl
theorem moved_eq {b g o d : Int} (h : ctl b g) (ho : far o) (hd : far d) : impl_moved.f b g o d = some (mv b g o d) := by
  unfold impl_moved.f mv; unfold ctl at h; unfold far at ho hd
  rw [wrapi (x := o + d) (by omega) (by omega), wrapi (x := -b) (by omega) (by omega), wrapi (x := o + d - g) (by omega) (by omega), wrapi (x := o + d + g) (by omega) (by omega)]
  split
  · rfl
  · split <;> rfl
-- ** most
theorem l1Most_eq (a b : Int) : spec_l1Most.f a b = some (max a b) := by
  unfold spec_l1Most.f; split <;> (congr 1; omega)
-- ** abs
theorem l1Abs_eq {o : Int} (h : -1000000000 ≤ o ∧ o ≤ 1000000000) : spec_l1Abs.f o = some (o.natAbs : Int) := by
  unfold spec_l1Abs.f
  rw [wrapi (by omega) (by omega), l1Most_eq]
  simp only [Option.bind_some]; congr 1; omega
-- ** dist
theorem distance_eq {a b : Int} (ha : -1000000000 ≤ a ∧ a ≤ 1000000000) (hb : -1000000000 ≤ b ∧ b ≤ 1000000000) : impl_distance.f a b = some ((a - b).natAbs : Int) := by
  unfold impl_distance.f
  rw [wrapi (by omega) (by omega), wrapi (by omega) (by omega), mx_eq]
  congr 1; omega
-- ** FnExactSettlesAfter
def cyc (b g o : Int) : Prop := (o > b ∧ o - g < -b) ∨ (o < -b ∧ o + g > b)
instance (b g o : Int) : Decidable (cyc b g o) := by unfold cyc; exact inferInstance
def settle (b g : Int) : Nat → Int → Int → Int × Bool
  | 0, _, n => (n, true)
  | d + 1, o, n => if (o.natAbs : Int) ≤ b then (n, true) else if cyc b g o then (0, false) else settle b g d (mv b g o 0) (n + 1)
theorem settle_cyc {b g M : Int} (h : ctl b g) (hM : 2000 ≤ M ∧ M ≤ 100000) {L : Nat → Int → Int → Option (Int × Bool)}
    (hL : ∀ k o n, far o → L (k + 1) o n = if n ≤ M then (if (o.natAbs : Int) ≤ b then some (n, true) else L k (mv b g o 0) (wrap64 (n + 1))) else some (0, false)) :
    ∀ (e : Nat) (o n : Int), n + e = M + 1 → 0 ≤ n → cyc b g o → Ev (fun k => L k o n) (0, false) := by
  intro e
  induction e with
  | zero =>
    intro o n hn h0 hc
    refine Ev.step (fun k => hL k o n (by unfold far; unfold cyc at hc; unfold ctl at h; omega)) (evNeg (by omega) (Ev.now _))
  | succ e ih =>
    intro o n hn h0 hc
    refine Ev.step (fun k => hL k o n (by unfold far; unfold cyc at hc; unfold ctl at h; omega)) (evPos (by omega) (evNeg (by unfold cyc at hc; unfold ctl at h; omega) ?_))
    rw [wrapi (by omega) (by omega)]
    refine ih _ _ (by omega) (by omega) ?_
    unfold cyc at hc ⊢; unfold mv; unfold ctl at h; omega
theorem settle_loop {b g M : Int} (h : ctl b g) (hM : 2000 ≤ M ∧ M ≤ 100000) {L : Nat → Int → Int → Option (Int × Bool)}
    (hL : ∀ k o n, far o → L (k + 1) o n = if n ≤ M then (if (o.natAbs : Int) ≤ b then some (n, true) else L k (mv b g o 0) (wrap64 (n + 1))) else some (0, false)) :
    ∀ (d : Nat) (o n : Int), (o.natAbs : Int) ≤ d → d ≤ 1000 → 0 ≤ n → n + d ≤ 2000 → Ev (fun k => L k o n) (settle b g d o n) := by
  intro d
  induction d with
  | zero =>
    intro o n ho hd h0 hn
    refine Ev.step (fun k => hL k o n (by unfold far; omega)) (evPos (by omega) (evPos (by unfold ctl at h; omega) (Ev.now _)))
  | succ d ih =>
    intro o n ho hd h0 hn
    refine Ev.step (fun k => hL k o n (by unfold far; omega)) (evPos (by omega) ?_)
    unfold settle
    refine evIte (fun _ => Ev.now _) (fun hb => ?_)
    rw [wrapi (by omega) (by omega)]
    by_cases hc : cyc b g o
    · rw [if_pos hc]
      refine settle_cyc h hM hL (M + 1 - (n + 1)).toNat _ _ (by omega) (by omega) ?_
      unfold cyc at hc ⊢; unfold mv; unfold ctl at h; omega
    · rw [if_neg hc]
      refine ih _ _ ?_ (by omega) (by omega) (by omega)
      unfold cyc at hc; unfold mv; unfold ctl at h; omega
def settles (b g o : Int) : Int × Bool := if ctl b g ∧ off o then settle b g 1000 o 0 else (0, false)
theorem specSettles_ev (b g o : Int) : Ev (fun k => spec_SettlesAfter.f k b g o) (settles b g o) := by
  have bad : ¬ (ctl b g ∧ off o) → Ev (fun k => spec_SettlesAfter.j0 k o true b g) (settles b g o) := fun h =>
    Ev.step (fun k => spec_SettlesAfter.j0.eq_2 ..) (evPos rfl (evNow (by unfold settles; rw [if_neg h])))
  unfold spec_SettlesAfter.f
  simp only [tkGood_eq, tkOffset_eq, Option.bind_some, decide_eq_true_eq]
  refine evBy (fun h => ?_) (fun h => bad (fun q => h q.1))
  by_cases h1 : off o
  · simp only [decide_eq_true h1, Bool.not_true]
    refine Ev.step (fun k => spec_SettlesAfter.j0.eq_2 ..) (evNeg (by simp) ?_)
    unfold settles; rw [if_pos ⟨h, h1⟩]
    refine settle_loop (M := 2000) h (by omega) (L := fun k o n => spec_SettlesAfter.l0 k o n b g) (fun k o n ho => ?_) 1000 o 0 (by unfold off at h1; omega) (by omega) (by omega) (by omega)
    rw [spec_SettlesAfter.l0]
    rw [l1Abs_eq (by unfold far at ho; omega), tkStep_eq h ho (by unfold far; omega)]
    rfl
  · simp only [decide_eq_false h1, Bool.not_false]
    exact bad (fun q => h1 q.2)
theorem implSettles_ev (b g o : Int) : Ev (fun k => impl_SettlesAfter.f k b g o) (settles b g o) := by
  have bad : ¬ (ctl b g ∧ off o) → Ev (fun k => impl_SettlesAfter.j0 k o true b g) (settles b g o) := fun h =>
    Ev.step (fun k => impl_SettlesAfter.j0.eq_2 ..) (evPos rfl (evNow (by unfold settles; rw [if_neg h])))
  unfold impl_SettlesAfter.f
  simp only [isController_eq, isOffset_eq, Option.bind_some, decide_eq_true_eq]
  refine evBy (fun h => ?_) (fun h => bad (fun q => h q.1))
  by_cases h1 : off o
  · simp only [decide_eq_true h1, Bool.not_true]
    refine Ev.step (fun k => impl_SettlesAfter.j0.eq_2 ..) (evNeg (by simp) ?_)
    unfold settles; rw [if_pos ⟨h, h1⟩]
    refine settle_loop (M := 2100) h (by omega) (L := fun k o n => impl_SettlesAfter.l0 k o n b g) (fun k o n ho => ?_) 1000 o 0 (by unfold off at h1; omega) (by omega) (by omega) (by omega)
    rw [impl_SettlesAfter.l0]
    rw [distance_eq (by unfold far at ho; omega) (by omega), moved_eq h ho (by unfold far; omega), Int.sub_zero]
    rfl
  · simp only [decide_eq_false h1, Bool.not_false]
    exact bad (fun q => h1 q.2)
theorem FnExactSettlesAfter (a0_0 a0_1 a1 : Int) (_ : Opn.I64 a0_0) (_ : Opn.I64 a0_1) (_ : Opn.I64 a1) : ∃ k, laws_FnExactSettlesAfter.f k a0_0 a0_1 a1 = some true := by
  refine Ev.rounds (g := fun k => laws_FnExactSettlesAfter.f k a0_0 a0_1 a1) ?_
  unfold laws_FnExactSettlesAfter.f laws_toController.f
  simp only [Option.bind_some]
  refine Ev.bind (specSettles_ev _ _ _) (Ev.bind (implSettles_ev _ _ _) ?_)
  simp only [bne_self_eq_false, if_true]
  exact Ev.now _
end Go.Proofs.Ytegmhgdbhpbfiaa.Pure
