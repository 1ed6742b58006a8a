/- The program's TrackStep returns what the reference's returns, for all arguments.: the plain part: what the program computes and what the reference computes agree, for all arguments. No conditions beyond the arguments' own kinds. -/
import Derived.Test.YtegmhgdbhpbfiaaPFnExactTrackStepx0
import Derived.Test.YtegmhgdbhpbfiaaPFnExactTrackStepx1
import Derived.Test.YtegmhgdbhpbfiaaOpn
namespace Go.Proofs.Ytegmhgdbhpbfiaa.Pure
open Go.RowKit Go.Proofs.Ytegmhgdbhpbfiaa.PFnExactTrackStep Go.Proofs.YtegmhgdbhpbfiaaW.PrintWords Go.Proofs.YtegmhgdbhpbfiaaW.PrintLast Go.Proofs.YtegmhgdbhpbfiaaW.PrintMore
-- ** base
theorem wrapi {x : Int} (h0 : -9223372036854775808 ≤ x) (h1 : x ≤ 9223372036854775807) : wrap64 x = x := by unfold wrap64; omega
theorem evPos {α : Type} {c : Prop} [Decidable c] {g f : Nat → Option α} {r : α} (h : c) (e : Ev g r) : Ev (fun k => if c then g k else f k) r := by
  simp only [if_pos h]; exact e
theorem evNeg {α : Type} {c : Prop} [Decidable c] {g f : Nat → Option α} {r : α} (h : ¬ c) (e : Ev f r) : Ev (fun k => if c then g k else f k) r := by
  simp only [if_neg h]; exact e
theorem evC {α β : Type} {o : Option α} {f : Nat → α → Option β} {a : α} {r : β} (h : o = some a) (e : Ev (fun n => f n a) r) : Ev (fun n => o.bind (f n)) r := by
  subst h; exact e
theorem evOf {α : Type} {o : Option α} {r : α} (h : o = some r) : Ev (fun _ => o) r := by subst h; exact Ev.now r
theorem evNow {α : Type} {r q : α} (h : r = q) : Ev (fun _ => some r) q := by subst h; exact Ev.now r
theorem evEq {α : Type} {g : Nat → Option α} {r q : α} (h : Ev g r) (e : r = q) : Ev g q := e ▸ h
theorem evIte {α : Type} {c : Prop} [Decidable c] {g f : Nat → Option α} {r q : α} (h : c → Ev g r) (h' : ¬ c → Ev f q) : Ev (fun k => if c then g k else f k) (if c then r else q) := by
  by_cases hc : c
  · simp only [if_pos hc]; exact h hc
  · simp only [if_neg hc]; exact h' hc
theorem evBy {α : Type} {c : Prop} [Decidable c] {g f : Nat → Option α} {r : α} (h : c → Ev g r) (h' : ¬ c → Ev f r) : Ev (fun k => if c then g k else f k) r := by
  by_cases hc : c
  · simp only [if_pos hc]; exact h hc
  · simp only [if_neg hc]; exact h' hc
theorem someT {p : Prop} [Decidable p] (h : p) : some true = some (decide p) := by rw [decide_eq_true h]
theorem someF {p : Prop} [Decidable p] (h : ¬ p) : some false = some (decide p) := by rw [decide_eq_false h]
theorem someD {p q : Prop} [Decidable p] [Decidable q] (h : p ↔ q) : some (decide p) = some (decide q) := by rw [decide_eq_decide.mpr h]
theorem decT {p : Prop} [Decidable p] (h : p) : true = decide p := by rw [decide_eq_true h]
theorem decF {p : Prop} [Decidable p] (h : ¬ p) : false = decide p := by rw [decide_eq_false h]
theorem decD {p q : Prop} [Decidable p] [Decidable q] (h : p ↔ q) : decide p = decide q := decide_eq_decide.mpr h
theorem allBad {α : Type} {p : α → Bool} {x : α} {suf : List α} {q : Bool} (h : p x = false) : false = ((x :: suf).all p && q) := by simp [h]
theorem allGood {α : Type} {p : α → Bool} {x : α} {suf : List α} {q : Bool} (h : p x = true) : (suf.all p && q) = ((x :: suf).all p && q) := by simp [h]
theorem rgEnd {α : Type} {l pre : List α} (h : l = pre ++ []) : ¬ ((pre.length : Int) < (l.length : Int)) := by subst h; simp
theorem rgHead {α : Type} {l pre suf : List α} {x : α} (h : l = pre ++ x :: suf) (hl : l.length ≤ 4611686018427387904) (z : α) :
    (pre.length : Int) < (l.length : Int) ∧ (0 : Int) ≤ (pre.length : Int) ∧ wrap64 ((pre.length : Int) + 1) = ((pre ++ [x]).length : Int) ∧ l.getD (pre.length : Int).toNat z = x ∧ l = (pre ++ [x]) ++ suf := by
  subst h
  simp at hl
  refine ⟨by simp; omega, by omega, ?_, by simp, by simp⟩
  rw [wrapi (by omega) (by omega)]; simp
theorem in_eq (a b c : Int) : spec_l1In.f a b c = some (decide (b ≤ a ∧ a ≤ c)) := by
  unfold spec_l1In.f
  split
  · exact someD (by omega)
  · exact someF (by omega)
theorem mx_eq (a b : Int) : mx a b = max a b := by unfold mx; omega
theorem mn_eq (a b : Int) : mn a b = min a b := by unfold mn; omega
-- ** ctl
def ctl (b g : Int) : Prop := 0 ≤ b ∧ b ≤ 200 ∧ 1 ≤ g ∧ g ≤ 100
instance (b g : Int) : Decidable (ctl b g) := by unfold ctl; exact inferInstance
theorem tkGood_eq (b g : Int) : spec_tkGood.f b g = some (decide (ctl b g)) := by
  unfold spec_tkGood.f; rw [in_eq, in_eq]; simp only [Option.bind_some]
  by_cases h : 0 ≤ b ∧ b ≤ 200
  · rw [if_pos (decide_eq_true h)]; exact someD (by unfold ctl; omega)
  · rw [if_neg (by simpa using h)]; exact someF (by unfold ctl; omega)
theorem isController_eq (b g : Int) : impl_IsController.f b g = some (decide (ctl b g)) := by
  unfold impl_IsController.f
  repeat' split
  all_goals first | exact someD (by unfold ctl; omega) | exact someF (by unfold ctl; omega)
-- ** move
def off (o : Int) : Prop := -1000 ≤ o ∧ o ≤ 1000
instance (o : Int) : Decidable (off o) := by unfold off; exact inferInstance
theorem tkOffset_eq (o : Int) : spec_tkOffset.f o = some (decide (off o)) := by
  unfold spec_tkOffset.f; rw [in_eq]; rfl
theorem isOffset_eq (o : Int) : impl_isOffset.f o = some (decide (off o)) := by
  unfold impl_isOffset.f
  split
  · exact someD (by unfold off; omega)
  · exact someF (by unfold off; omega)
def mv (b g o d : Int) : Int := if o + d > b then o + d - g else if o + d < -b then o + d + g else o + d
def mvby (b g o d : Int) : Int := if o + d > b then -g else if o + d < -b then g else 0
def far (o : Int) : Prop := -100000 ≤ o ∧ o ≤ 100000
theorem tkStep_eq {b g o d : Int} (h : ctl b g) (ho : far o) (hd : far d) : spec_tkStep.f b g o d = some (mv b g o d, mvby b g o d) := by
  unfold spec_tkStep.f mv mvby; unfold ctl at h; unfold far at ho hd
  rw [wrapi (x := o + d) (by omega) (by omega), wrapi (x := -b) (by omega) (by omega), wrapi (x := -g) (by omega) (by omega), wrapi (x := o + d - g) (by omega) (by omega), wrapi (x := o + d + g) (by omega) (by omega)]
  split
  · rfl
  · split <;> rfl
theorem moved_eq {b g o d : Int} (h : ctl b g) (ho : far o) (hd : far d) : impl_moved.f b g o d = some (mv b g o d) := by
  unfold impl_moved.f mv; unfold ctl at h; unfold far at ho hd
  rw [wrapi (x := o + d) (by omega) (by omega), wrapi (x := -b) (by omega) (by omega), wrapi (x := o + d - g) (by omega) (by omega), wrapi (x := o + d + g) (by omega) (by omega)]
  split
  · rfl
  · split <;> rfl
-- ** drifts
def drf (x : Int) : Bool := decide (-50 ≤ x ∧ x ≤ 50)
theorem areDrifts_l0 (l : List Int) (hl : l.length ≤ 4611686018427387904) : ∀ (suf pre : List Int), l = pre ++ suf →
    Ev (fun k => impl_areDrifts.l0 k l l (l.length : Int) (pre.length : Int)) (suf.all drf && decide (l.length ≤ 100)) := by
  intro suf
  induction suf with
  | nil =>
    intro pre h
    refine Ev.step (fun k => impl_areDrifts.l0.eq_2 ..) ?_
    simp only [rgEnd h, if_false]
    exact evNow (by rw [List.all_nil, Bool.true_and]; exact decD (by omega))
  | cons x suf ih =>
    intro pre h
    obtain ⟨h1, h2, h3, h4, h5⟩ := rgHead h hl 0
    refine Ev.step (fun k => impl_areDrifts.l0.eq_2 ..) ?_
    simp only [h1, h2, h3, rd, h4, if_true]
    refine evBy (fun c => evNow (allBad (decide_eq_false (by omega)))) (fun c => evBy (fun c' => evNow (allBad (decide_eq_false (by omega)))) (fun c' => evEq (ih _ h5) (allGood (decide_eq_true (by omega)))))
theorem areDrifts_ev (l : List Int) (hl : l.length ≤ 4611686018427387904) : Ev (fun k => impl_areDrifts.f k l) (l.all drf && decide (l.length ≤ 100)) :=
  areDrifts_l0 l hl l [] rfl
-- ** FnExactTrackStep
def stp (b g o d : Int) : Int × Bool := if ctl b g ∧ off o ∧ (-50 ≤ d ∧ d ≤ 50) ∧ off (mv b g o d) then (mv b g o d, true) else (0, false)
theorem specStep_ev (b g o d : Int) : Ev (fun k => spec_TrackStep.f k b g o d) (stp b g o d) := by
  have bad : ¬ (ctl b g ∧ off o ∧ (-50 ≤ d ∧ d ≤ 50)) → Ev (fun k => spec_TrackStep.j0 k o d true b g) (stp b g o d) := fun h =>
    Ev.step (fun k => spec_TrackStep.j0.eq_2 ..) (evPos rfl (evNow (by unfold stp; rw [if_neg (fun q => h ⟨q.1, q.2.1, q.2.2.1⟩)])))
  unfold spec_TrackStep.f
  simp only [tkGood_eq, tkOffset_eq, in_eq, Option.bind_some, decide_eq_true_eq]
  refine evBy (fun h => evBy (fun h1 => ?_) (fun h1 => bad (fun q => h1 q.2.1))) (fun h => bad (fun q => h q.1))
  by_cases h2 : -50 ≤ d ∧ d ≤ 50
  · simp only [decide_eq_true h2, Bool.not_true]
    refine Ev.step (fun k => spec_TrackStep.j0.eq_2 ..) (evNeg (by simp) ?_)
    have ho : far o := by unfold off at h1; unfold far; omega
    have hd : far d := by unfold far; omega
    simp only [tkStep_eq h ho hd, tkOffset_eq, Option.bind_some, decide_eq_true_eq]
    refine evBy (fun h3 => evNow ?_) (fun h3 => evNow ?_)
    · unfold stp; rw [if_pos ⟨h, h1, h2, h3⟩]
    · unfold stp; rw [if_neg (fun q => h3 q.2.2.2)]
  · simp only [decide_eq_false h2, Bool.not_false]
    exact bad (fun q => h2 q.2.2)
theorem implStep_ev (b g o d : Int) : Ev (fun k => impl_TrackStep.f k b g o d) (stp b g o d) := by
  unfold impl_TrackStep.f
  simp only [isController_eq, isOffset_eq, Option.bind_some, decide_eq_true_eq]
  refine evBy (fun h => evBy (fun h1 => Ev.bind (areDrifts_ev [d] (by simp)) ?_) (fun h1 => evNow ?_)) (fun h => evNow ?_)
  · by_cases h2 : -50 ≤ d ∧ d ≤ 50
    · have ho : far o := by unfold off at h1; unfold far; omega
      have hd : far d := by unfold far; omega
      refine evPos (by simp [drf]; omega) ?_
      simp only [moved_eq h ho hd, isOffset_eq, Option.bind_some, decide_eq_true_eq]
      refine evBy (fun h3 => evNow ?_) (fun h3 => evNow ?_)
      · unfold stp; rw [if_pos ⟨h, h1, h2, h3⟩]
      · unfold stp; rw [if_neg (fun q => h3 q.2.2.2)]
    · refine evNeg (by simp [drf]; omega) (evNow ?_)
      unfold stp; rw [if_neg (fun q => h2 q.2.2.1)]
  · unfold stp; rw [if_neg (fun q => h1 q.2.1)]
  · unfold stp; rw [if_neg (fun q => h q.1)]
theorem FnExactTrackStep (a0_0 a0_1 a1 a2 : Int) (_ : Opn.I64 a0_0) (_ : Opn.I64 a0_1) (_ : Opn.I64 a1) (_ : Opn.I64 a2) : ∃ k, laws_FnExactTrackStep.f k a0_0 a0_1 a1 a2 = some true := by
  refine Ev.rounds (g := fun k => laws_FnExactTrackStep.f k a0_0 a0_1 a1 a2) ?_
  unfold laws_FnExactTrackStep.f laws_toController.f
  simp only [Option.bind_some]
  refine Ev.bind (specStep_ev _ _ _ _) (Ev.bind (implStep_ev _ _ _ _) ?_)
  simp only [bne_self_eq_false, if_true]
  exact Ev.now _
end Go.Proofs.Ytegmhgdbhpbfiaa.Pure
