/- The program's WindNeeded returns what the reference's returns, for all arguments.: the plain part: what the program computes and what the reference computes agree, for all arguments. No conditions beyond the arguments' own kinds. -/
import Derived.Test.YtioheacdldgaaaaPAllx0
import Derived.Test.YtioheacdldgaaaaPAllx1
import Derived.Test.YtioheacdldgaaaaPAllx2
import Derived.Test.YtioheacdldgaaaaPAllx3
import Derived.Test.YtioheacdldgaaaaPAllx4
import Derived.Test.YtioheacdldgaaaaPAllx5
import Derived.Test.YtioheacdldgaaaaPAllx6
import Derived.Test.YtioheacdldgaaaaPAllx7
import Derived.Test.YtioheacdldgaaaaPAllx15
import Derived.Test.YtioheacdldgaaaaPAllx16
import Derived.Test.YtioheacdldgaaaaPAllx17
import Derived.Test.YtioheacdldgaaaaPAllx22
import Derived.Test.YtioheacdldgaaaaPAllx25
import Derived.Test.YtioheacdldgaaaaPAllx26
import Derived.Test.YtioheacdldgaaaaPAllx28
import Derived.Test.YtioheacdldgaaaaPAllx29
import Derived.Test.YtioheacdldgaaaaOpn
namespace Go.Proofs.Ytioheacdldgaaaa.Pure
open Go.RowKit Go.Proofs.Ytioheacdldgaaaa.PAll Go.Proofs.YtioheacdldgaaaaW.PrintWords Go.Proofs.YtioheacdldgaaaaW.PrintLast Go.Proofs.YtioheacdldgaaaaW.PrintMore
-- ** base
theorem wrapi {x : Int} (h0 : -9223372036854775808 ≤ x) (h1 : x ≤ 9223372036854775807) : wrap64 x = x := by unfold wrap64; omega
theorem evPos {α : Type} {c : Prop} [Decidable c] {g f : Nat → Option α} {r : α} (h : c) (e : Ev g r) : Ev (fun k => if c then g k else f k) r := by
  simp only [if_pos h]; exact e
theorem evNeg {α : Type} {c : Prop} [Decidable c] {g f : Nat → Option α} {r : α} (h : ¬ c) (e : Ev f r) : Ev (fun k => if c then g k else f k) r := by
  simp only [if_neg h]; exact e
theorem evNow {α : Type} {r q : α} (h : r = q) : Ev (fun _ => some r) q := by subst h; exact Ev.now r
theorem evEq {α : Type} {g : Nat → Option α} {r q : α} (h : Ev g r) (e : r = q) : Ev g q := e ▸ h
theorem evIte {α : Type} {c : Prop} [Decidable c] {g f : Nat → Option α} {r q : α} (h : c → Ev g r) (h' : ¬ c → Ev f q) : Ev (fun k => if c then g k else f k) (if c then r else q) := by
  by_cases hc : c
  · simp only [if_pos hc]; exact h hc
  · simp only [if_neg hc]; exact h' hc
theorem evBy {α : Type} {c : Prop} [Decidable c] {g f : Nat → Option α} {r : α} (h : c → Ev g r) (h' : ¬ c → Ev f r) : Ev (fun k => if c then g k else f k) r := by
  by_cases hc : c
  · simp only [if_pos hc]; exact h hc
  · simp only [if_neg hc]; exact h' hc
theorem someT {p : Prop} [Decidable p] (h : p) : some true = some (decide p) := by rw [decide_eq_true h]
theorem someF {p : Prop} [Decidable p] (h : ¬ p) : some false = some (decide p) := by rw [decide_eq_false h]
theorem someD {p q : Prop} [Decidable p] [Decidable q] (h : p ↔ q) : some (decide p) = some (decide q) := by rw [decide_eq_decide.mpr h]
theorem decD {p q : Prop} [Decidable p] [Decidable q] (h : p ↔ q) : decide p = decide q := decide_eq_decide.mpr h
theorem allBad {α : Type} {p : α → Bool} {x : α} {suf : List α} {q : Bool} (h : p x = false) : false = ((x :: suf).all p && q) := by simp [h]
theorem allGood {α : Type} {p : α → Bool} {x : α} {suf : List α} {q : Bool} (h : p x = true) : (suf.all p && q) = ((x :: suf).all p && q) := by simp [h]
theorem rgEnd {α : Type} {l pre : List α} (h : l = pre ++ []) : ¬ ((pre.length : Int) < (l.length : Int)) := by subst h; simp
theorem rgHead {α : Type} {l pre suf : List α} {x : α} (h : l = pre ++ x :: suf) (hl : l.length ≤ 4611686018427387904) (z : α) :
    (pre.length : Int) < (l.length : Int) ∧ (0 : Int) ≤ (pre.length : Int) ∧ wrap64 ((pre.length : Int) + 1) = ((pre ++ [x]).length : Int) ∧ l.getD (pre.length : Int).toNat z = x ∧ l = (pre ++ [x]) ++ suf := by
  subst h
  simp at hl
  refine ⟨by simp; omega, by omega, ?_, by simp, by simp⟩
  rw [wrapi (by omega) (by omega)]; simp
theorem in_eq (a b c : Int) : spec_l1In.f a b c = some (decide (b ≤ a ∧ a ≤ c)) := by
  unfold spec_l1In.f
  split
  · exact someD (by omega)
  · exact someF (by omega)
theorem mx_eq (a b : Int) : mx a b = max a b := by unfold mx; omega
-- ** szint
theorem szInt_eq (l : List Int) (b : Int) (hb : 0 ≤ b) (hb' : b ≤ 1048576) (h : l.length ≤ 9223372036854775807) : laws_szIntS.f l b = some (if (l.length : Int) ≤ b then b - (l.length : Int) else -1) := by
  unfold laws_szIntS.f
  rw [wrapi (by omega) (by omega)]
  by_cases c : (l.length : Int) ≤ b
  · rw [if_neg (by omega), if_pos c]
  · rw [if_pos (by omega), if_neg c]
-- ** lists
theorem setAt {α : Type} (A B : List α) (z v : α) (n : Nat) (h : n = A.length) : (A ++ z :: B).set n v = A ++ v :: B := by subst h; simp
-- ** intlaw
theorem toInt_l0 (l : List Int) (hl : l.length ≤ 1048576) : ∀ (suf pre : List Int), l = pre ++ suf →
    Ev (fun k => laws_toIntS.l0 k l (pre ++ List.replicate suf.length 0) (pre.length : Int)) l := by
  intro suf
  induction suf with
  | nil =>
    intro pre h
    refine Ev.step (fun k => laws_toIntS.l0.eq_2 ..) ?_
    simp only [rgEnd h, if_false]
    exact evNow (by subst h; simp)
  | cons x suf ih =>
    intro pre h
    obtain ⟨h1, h2, h3, h4, h5⟩ := rgHead h (by omega) 0
    refine Ev.step (fun k => laws_toIntS.l0.eq_2 ..) ?_
    simp only [h1, h2, h3, rd, h4, if_true]
    refine evPos (by simp; omega) ?_
    have e : (pre ++ List.replicate (x :: suf).length 0).set (pre.length : Int).toNat x = (pre ++ [x]) ++ List.replicate suf.length 0 := by
      rw [List.length_cons, List.replicate_succ, setAt _ _ _ _ _ (by simp)]
      simp
    rw [e]
    exact ih _ h5
theorem toInt_ev (l : List Int) (hl : l.length ≤ 1048576) : Ev (fun k => laws_toIntS.f k l) l := by
  unfold laws_toIntS.f
  refine evPos (by omega) (evPos (by omega) ?_)
  have := toInt_l0 l hl l [] rfl
  simpa using this
theorem eqInt_l0 (l : List Int) (hl : l.length ≤ 4611686018427387904) : ∀ (suf pre : List Int), l = pre ++ suf → Ev (fun k => laws_eqIntS.l0 k l l (pre.length : Int)) true := by
  intro suf
  induction suf with
  | nil =>
    intro pre h
    refine Ev.step (fun k => laws_eqIntS.l0.eq_2 ..) ?_
    simp only [rgEnd h, if_false]
    exact Ev.now _
  | cons x suf ih =>
    intro pre h
    obtain ⟨h1, h2, h3, h4, h5⟩ := rgHead h hl 0
    refine Ev.step (fun k => laws_eqIntS.l0.eq_2 ..) ?_
    simp only [h1, h2, h3, if_true]
    exact ih _ h5
theorem eqInt_ev (l : List Int) (hl : l.length ≤ 4611686018427387904) : Ev (fun k => laws_eqIntS.f k l l) true := by
  unfold laws_eqIntS.f
  exact evPos rfl (eqInt_l0 l hl l [] rfl)
-- ** holelaw
def cvHole (x : S75) : S73 := ⟨x.f0, x.f1, x.f2⟩
theorem szHole_at (l : List S75) (b : Int) (h0 : 0 ≤ b) (hb : b ≤ 1048576) (h : l.length ≤ 9223372036854775807) : laws_szHoleS.f l b = some (if (l.length : Int) ≤ b then b - (l.length : Int) else -1) := by
  unfold laws_szHoleS.f
  rw [wrapi (by omega) (by omega)]
  by_cases c : (l.length : Int) ≤ b
  · rw [if_neg (by omega), if_pos c]
  · rw [if_pos (by omega), if_neg c]
theorem toHole_l0 (l : List S75) (hl : l.length ≤ 1048576) : ∀ (suf pre : List S75), l = pre ++ suf →
    Ev (fun k => laws_toHoleS.l0 k l (pre.map cvHole ++ List.replicate suf.length z73) (pre.length : Int)) (l.map cvHole) := by
  intro suf
  induction suf with
  | nil =>
    intro pre h
    refine Ev.step (fun k => laws_toHoleS.l0.eq_2 ..) ?_
    simp only [rgEnd h, if_false]
    exact evNow (by subst h; simp)
  | cons x suf ih =>
    intro pre h
    obtain ⟨h1, h2, h3, h4, h5⟩ := rgHead h (by omega) z75
    refine Ev.step (fun k => laws_toHoleS.l0.eq_2 ..) ?_
    simp only [h1, h2, h3, rd_T75, h4, if_true, laws_toHole.f, Option.bind_some]
    refine evPos (by simp; omega) ?_
    have e : (pre.map cvHole ++ List.replicate (x :: suf).length z73).set (pre.length : Int).toNat ⟨x.f0, x.f1, x.f2⟩ = (pre ++ [x]).map cvHole ++ List.replicate suf.length z73 := by
      rw [List.length_cons, List.replicate_succ, setAt _ _ _ _ _ (by simp)]
      simp [cvHole]
    rw [e]
    exact ih _ h5
theorem toHole_ev (l : List S75) (hl : l.length ≤ 1048576) : Ev (fun k => laws_toHoleS.f k l) (l.map cvHole) := by
  unfold laws_toHoleS.f
  refine evPos (by omega) (evPos (by omega) ?_)
  have := toHole_l0 l hl l [] rfl
  simpa using this
theorem eqHole_l0 (l : List S73) (hl : l.length ≤ 4611686018427387904) : ∀ (suf pre : List S73), l = pre ++ suf → Ev (fun k => laws_eqHoleS.l0 k l l (pre.length : Int)) true := by
  intro suf
  induction suf with
  | nil =>
    intro pre h
    refine Ev.step (fun k => laws_eqHoleS.l0.eq_2 ..) ?_
    simp only [rgEnd h, if_false]
    exact Ev.now _
  | cons x suf ih =>
    intro pre h
    obtain ⟨h1, h2, h3, h4, h5⟩ := rgHead h hl z73
    refine Ev.step (fun k => laws_eqHoleS.l0.eq_2 ..) ?_
    simp only [h1, h2, h3, if_true, laws_eqHole.f, Option.bind_some]
    exact ih _ h5
theorem eqHole_ev (l : List S73) (hl : l.length ≤ 4611686018427387904) : Ev (fun k => laws_eqHoleS.f k l l) true := by
  unfold laws_eqHoleS.f
  exact evPos rfl (eqHole_l0 l hl l [] rfl)
-- ** instlaw
theorem szInst_eq (p : List Int) (r : Int) (h : p.length ≤ 9223372036854775807) : laws_szInstrument.f p r 1048576 = some (if p.length ≤ 1048576 then 1048576 - (p.length : Int) else -1) := by
  unfold laws_szInstrument.f
  rw [szInt_eq p _ (by omega) (by omega) h]
  simp only [Option.bind_some]
  by_cases c : p.length ≤ 1048576
  · rw [if_pos (show (p.length : Int) ≤ 1048576 by omega), if_neg (by omega), if_pos c]
  · rw [if_neg (show ¬ (p.length : Int) ≤ 1048576 by omega), if_pos (by omega), if_neg c]
theorem toInst_ev {p : List Int} (r : Int) (hp : p.length ≤ 1048576) : Ev (fun k => laws_toInstrument.f k p r) (p, r) := by
  unfold laws_toInstrument.f; exact Ev.bind (toInt_ev p hp) (Ev.now _)
theorem eqInst_ev {p : List Int} (r : Int) (hp : p.length ≤ 1048576) : Ev (fun k => laws_eqInstrument.f k p r p r) true := by
  unfold laws_eqInstrument.f; exact Ev.bind (eqInt_ev p (by omega)) (evPos rfl (evPos rfl (Ev.now _)))
-- ** sheet
def hole (x : S73) : Prop := 0 ≤ x.f0 ∧ x.f0 ≤ 19 ∧ 0 ≤ x.f1 ∧ x.f1 < x.f2 ∧ x.f2 ≤ 2000
instance (x : S73) : Decidable (hole x) := by unfold hole; exact inferInstance
def hbef (a b : S73) : Prop := a.f1 < b.f1 ∨ (a.f1 = b.f1 ∧ a.f0 < b.f0)
instance (a b : S73) : Decidable (hbef a b) := by unfold hbef; exact inferInstance
def hfree (x y : S73) : Bool := !decide (y.f0 = x.f0 ∧ y.f2 ≥ x.f1)
def headOk (pre : List S73) (x : S73) : Bool := decide (hole x) && (decide (pre = [] ∨ hbef (pre.getD (pre.length - 1) z73) x) && pre.all (hfree x))
def goodFrom : List S73 → List S73 → Bool
  | _, [] => true
  | pre, x :: suf => headOk pre x && goodFrom (pre ++ [x]) suf
def goodSheet (l : List S73) : Bool := goodFrom [] l && decide (l.length ≤ 60)
theorem shHole_eq (x : S73) : spec_shHole.f x.f0 x.f1 x.f2 = some (decide (hole x)) := by
  unfold spec_shHole.f; simp only [in_eq, Option.bind_some, decide_eq_true_eq]
  split
  · split
    · rw [wrapi (by omega) (by omega)]; exact someD (by unfold hole; omega)
    · exact someF (by unfold hole; omega)
  · exact someF (by unfold hole; omega)
theorem isHole_eq (x : S73) : impl_IsHole.f x.f0 x.f1 x.f2 = some (decide (hole x)) := by
  unfold impl_IsHole.f impl_isTrack.f
  by_cases c : x.f0 ≥ 0
  · rw [if_pos c]; simp only [Option.bind_some, decide_eq_true_eq]
    split
    · split
      · split
        · exact someD (by unfold hole; omega)
        · exact someF (by unfold hole; omega)
      · exact someF (by unfold hole; omega)
    · exact someF (by unfold hole; omega)
  · rw [if_neg c]; simp only [Option.bind_some, Bool.false_eq_true, if_false]
    exact someF (by unfold hole; omega)
theorem shBefore_eq (a b : S73) : spec_shBefore.f a.f0 a.f1 a.f2 b.f0 b.f1 b.f2 = some (decide (hbef a b)) := by
  unfold spec_shBefore.f
  split
  · exact someT (by unfold hbef; omega)
  · split
    · exact someD (by unfold hbef; omega)
    · exact someF (by unfold hbef; omega)
theorem holeLess_eq (a b : S73) : impl_holeLess.f a.f0 a.f1 a.f2 b.f0 b.f1 b.f2 = some (decide (hbef a b)) := by
  unfold impl_holeLess.f
  split
  · exact someD (by unfold hbef; omega)
  · exact someD (by unfold hbef; omega)
theorem hfree_t {x y : S73} (h : ¬ (y.f0 = x.f0 ∧ y.f2 ≥ x.f1)) : hfree x y = true := by unfold hfree; rw [decide_eq_false h]; rfl
theorem hfree_f {x y : S73} (h : y.f0 = x.f0 ∧ y.f2 ≥ x.f1) : hfree x y = false := by unfold hfree; rw [decide_eq_true h]; rfl
theorem shGood_l1 (l : List S73) (i : Int) (x : S73) (l' : List S73) (n : Int) (q : Bool) (hq : Ev (fun k => spec_shGood.l0 k l l' n (wrap64 (i + 1))) q) (p : List S73) (hl : p.length ≤ 1048576) :
    ∀ (suf pre : List S73), p = pre ++ suf → Ev (fun k => spec_shGood.l1 k l l' n i p (p.length : Int) (pre.length : Int) x.f0 x.f1 x.f2) (suf.all (hfree x) && q) := by
  intro suf
  induction suf with
  | nil =>
    intro pre h
    refine Ev.step (fun k => spec_shGood.l1.eq_2 ..) ?_
    simp only [rgEnd h, if_false]
    exact evEq hq (by simp)
  | cons y suf ih =>
    intro pre h
    obtain ⟨h1, h2, h3, h4, h5⟩ := rgHead h (by omega) z73
    refine Ev.step (fun k => spec_shGood.l1.eq_2 ..) ?_
    simp only [h1, h2, h3, rd_T73, h4, if_true]
    refine evBy (fun c => evBy (fun c' => evNow (allBad (hfree_f ⟨c.symm, c'⟩))) (fun c' => evEq (ih _ h5) (allGood (hfree_t (fun r => c' r.2))))) (fun c => evEq (ih _ h5) (allGood (hfree_t (fun r => c r.1.symm))))
theorem shGood_l0 (l : List S73) (hl : l.length ≤ 1048576) : ∀ (suf pre : List S73), l = pre ++ suf → Ev (fun k => spec_shGood.l0 k l l (l.length : Int) (pre.length : Int)) (goodFrom pre suf && decide (l.length ≤ 60)) := by
  intro suf
  induction suf with
  | nil =>
    intro pre h
    refine Ev.step (fun k => spec_shGood.l0.eq_2 ..) ?_
    simp only [rgEnd h, if_false]
    exact evNow (by rw [goodFrom, Bool.true_and]; exact decD (by omega))
  | cons x suf ih =>
    intro pre h
    obtain ⟨h1, h2, h3, h4, h5⟩ := rgHead h (by omega) z73
    have hpl : pre.length ≤ 1048576 := by omega
    have hj : ∀ b : Bool, b = !decide (pre = [] ∨ hbef (pre.getD (pre.length - 1) z73) x) → hole x → Ev (fun k => spec_shGood.j1 k l (pre.length : Int) l (l.length : Int) (pre.length : Int) b x.f0 x.f1 x.f2) (goodFrom pre (x :: suf) && decide (l.length ≤ 60)) := by
      intro b hb hx
      refine Ev.step (fun k => spec_shGood.j1.eq_2 ..) ?_
      by_cases c : pre = [] ∨ hbef (pre.getD (pre.length - 1) z73) x
      · rw [decide_eq_true c] at hb; subst hb
        refine evNeg (by simp) (evPos h2 (evPos (by omega) ?_))
        simp only [Option.bind_some]
        have e : l.take (pre.length : Int).toNat = pre := by rw [h]; simp
        rw [e]
        refine evEq (shGood_l1 l (pre.length : Int) x l (l.length : Int) _ (by rw [h3]; exact ih _ h5) pre (by omega) pre [] rfl) ?_
        simp only [goodFrom, headOk, decide_eq_true hx, decide_eq_true c, Bool.true_and, Bool.and_assoc]
      · rw [decide_eq_false c] at hb; subst hb
        refine evPos rfl (evNow ?_)
        simp only [goodFrom, headOk, decide_eq_false c, Bool.false_and, Bool.and_false]
    refine Ev.step (fun k => spec_shGood.l0.eq_2 ..) ?_
    simp only [h1, h2, rd_T73, h4, if_true, shHole_eq, Option.bind_some, decide_eq_true_eq]
    refine evBy (fun hx => ?_) (fun hx => Ev.step (fun k => spec_shGood.j1.eq_2 ..) (evPos rfl (evNow (by simp only [goodFrom, headOk, decide_eq_false hx, Bool.false_and]))))
    by_cases c : 0 < pre.length
    · rw [wrapi (x := (pre.length : Int) - 1) (by omega) (by omega)]
      refine evPos (by omega) (evPos (by omega) (evPos (by omega) ?_))
      have e : l.getD ((pre.length : Int) - 1).toNat z73 = pre.getD (pre.length - 1) z73 := by
        rw [show ((pre.length : Int) - 1).toNat = pre.length - 1 by omega, h, List.getD_eq_getElem?_getD, List.getD_eq_getElem?_getD, List.getElem?_append_left (by omega)]
      rw [e, shBefore_eq]
      simp only [Option.bind_some]
      refine hj _ ?_ hx
      congr 1
      refine decide_eq_decide.mpr ⟨fun r => .inr r, fun r => r.resolve_left (fun z => by rw [z] at c; simp at c)⟩
    · refine evNeg (by omega) (hj _ ?_ hx)
      have : pre = [] := List.eq_nil_of_length_eq_zero (by omega)
      rw [decide_eq_true (Or.inl this)]; rfl
theorem shGood_ev {l : List S73} (hl : l.length ≤ 1048576) : Ev (fun k => spec_shGood.f k l) (goodSheet l) := shGood_l0 l hl l [] rfl
theorem isSheet_l1 (l : List S73) (i : Int) (x : S73) (l' : List S73) (n : Int) (q : Bool) (hq : Ev (fun k => impl_IsSheet.l0 k l l' n (wrap64 (i + 1))) q) (p : List S73) (hl : p.length ≤ 1048576) :
    ∀ (suf pre : List S73), p = pre ++ suf → Ev (fun k => impl_IsSheet.l1 k l l' n i p (p.length : Int) (pre.length : Int) x.f0 x.f1 x.f2) (suf.all (hfree x) && q) := by
  intro suf
  induction suf with
  | nil =>
    intro pre h
    refine Ev.step (fun k => impl_IsSheet.l1.eq_2 ..) ?_
    simp only [rgEnd h, if_false]
    exact evEq hq (by simp)
  | cons y suf ih =>
    intro pre h
    obtain ⟨h1, h2, h3, h4, h5⟩ := rgHead h (by omega) z73
    refine Ev.step (fun k => impl_IsSheet.l1.eq_2 ..) ?_
    simp only [h1, h2, h3, rd_T73, h4, if_true]
    refine evBy (fun c => evBy (fun c' => evNow (allBad (hfree_f ⟨c, c'⟩))) (fun c' => evEq (ih _ h5) (allGood (hfree_t (fun r => c' r.2))))) (fun c => evEq (ih _ h5) (allGood (hfree_t (fun r => c r.1))))
theorem isSheet_l0 (l : List S73) (hl : l.length ≤ 1048576) : ∀ (suf pre : List S73), l = pre ++ suf → Ev (fun k => impl_IsSheet.l0 k l l (l.length : Int) (pre.length : Int)) (goodFrom pre suf) := by
  intro suf
  induction suf with
  | nil =>
    intro pre h
    refine Ev.step (fun k => impl_IsSheet.l0.eq_2 ..) ?_
    simp only [rgEnd h, if_false]
    exact evNow (by rw [goodFrom])
  | cons x suf ih =>
    intro pre h
    obtain ⟨h1, h2, h3, h4, h5⟩ := rgHead h (by omega) z73
    have hpl : pre.length ≤ 1048576 := by omega
    have hj : ∀ b : Bool, b = !decide (pre = [] ∨ hbef (pre.getD (pre.length - 1) z73) x) → hole x → Ev (fun k => impl_IsSheet.j1 k l (pre.length : Int) l (l.length : Int) (pre.length : Int) b x.f0 x.f1 x.f2) (goodFrom pre (x :: suf)) := by
      intro b hb hx
      refine Ev.step (fun k => impl_IsSheet.j1.eq_2 ..) ?_
      by_cases c : pre = [] ∨ hbef (pre.getD (pre.length - 1) z73) x
      · rw [decide_eq_true c] at hb; subst hb
        refine evNeg (by simp) (evPos h2 (evPos (by omega) ?_))
        simp only [Option.bind_some]
        have e : l.take (pre.length : Int).toNat = pre := by rw [h]; simp
        rw [e]
        refine evEq (isSheet_l1 l (pre.length : Int) x l (l.length : Int) _ (by rw [h3]; exact ih _ h5) pre (by omega) pre [] rfl) ?_
        simp only [goodFrom, headOk, decide_eq_true hx, decide_eq_true c, Bool.true_and]
      · rw [decide_eq_false c] at hb; subst hb
        refine evPos rfl (evNow ?_)
        simp only [goodFrom, headOk, decide_eq_false c, Bool.false_and, Bool.and_false]
    refine Ev.step (fun k => impl_IsSheet.l0.eq_2 ..) ?_
    simp only [h1, h2, rd_T73, h4, if_true, isHole_eq, Option.bind_some, decide_eq_true_eq]
    refine evBy (fun hx => ?_) (fun hx => Ev.step (fun k => impl_IsSheet.j1.eq_2 ..) (evPos rfl (evNow (by simp only [goodFrom, headOk, decide_eq_false hx, Bool.false_and]))))
    by_cases c : 0 < pre.length
    · rw [wrapi (x := (pre.length : Int) - 1) (by omega) (by omega)]
      refine evPos (by omega) (evPos (by omega) (evPos (by omega) ?_))
      have e : l.getD ((pre.length : Int) - 1).toNat z73 = pre.getD (pre.length - 1) z73 := by
        rw [show ((pre.length : Int) - 1).toNat = pre.length - 1 by omega, h, List.getD_eq_getElem?_getD, List.getD_eq_getElem?_getD, List.getElem?_append_left (by omega)]
      rw [e, holeLess_eq]
      simp only [Option.bind_some]
      refine hj _ ?_ hx
      congr 1
      refine decide_eq_decide.mpr ⟨fun r => .inr r, fun r => r.resolve_left (fun z => by rw [z] at c; simp at c)⟩
    · refine evNeg (by omega) (hj _ ?_ hx)
      have : pre = [] := List.eq_nil_of_length_eq_zero (by omega)
      rw [decide_eq_true (Or.inl this)]; rfl
theorem isSheet_ev {l : List S73} (hl : l.length ≤ 1048576) : Ev (fun k => impl_IsSheet.f k l) (goodSheet l) := by
  unfold impl_IsSheet.f goodSheet
  refine evBy (fun c => evNow ?_) (fun c => evEq (isSheet_l0 l hl l [] rfl) ?_)
  · rw [show decide (l.length ≤ 60) = false from decide_eq_false (by omega), Bool.and_false]
  · rw [show decide (l.length ≤ 60) = true from decide_eq_true (by omega), Bool.and_true]
-- ** put
def put : List Int → Int → List Int
  | [], n => [n]
  | a :: l, n => if a < n then a :: put l n else if a = n then a :: l else n :: a :: l
theorem put_len : ∀ (l : List Int) (n : Int), (put l n).length ≤ l.length + 1
  | [], n => by simp [put]
  | a :: l, n => by
    have := put_len l n
    simp only [put]; split
    · simp; omega
    · split <;> simp
theorem l1Put_l0 (l : List Int) (n : Int) (hl : l.length ≤ 1048576) : ∀ (suf pre : List Int), l = pre ++ suf → Ev (fun k => spec_l1Put.l0 k l n (pre.length : Int)) (pre ++ put suf n) := by
  intro suf
  induction suf with
  | nil =>
    intro pre h
    have hp : pre.length ≤ 1048576 := by rw [h] at hl; simpa using hl
    have hL : l.length = pre.length := by rw [h]; simp
    have e1 : l.take (pre.length : Int).toNat = pre := by rw [h]; simp
    have e2 : l.drop (pre.length : Int).toNat = [] := by rw [h]; simp
    refine Ev.step (fun k => spec_l1Put.l0.eq_2 ..) ?_
    simp only [rgEnd h, if_false, Option.bind_some, e1, e2]
    repeat' first | (refine evPos (by first | omega | (simp; omega)) ?_)
    exact evNow (by simp [put])
  | cons x suf ih =>
    intro pre h
    obtain ⟨h1, h2, h3, h4, h5⟩ := rgHead h (by omega) 0
    have hp : pre.length + (suf.length + 1) ≤ 1048576 := by rw [h] at hl; simpa using hl
    have hL : l.length = pre.length + (suf.length + 1) := by rw [h]; simp
    have e1 : l.take (pre.length : Int).toNat = pre := by rw [h]; simp
    have e2 : l.drop (pre.length : Int).toNat = x :: suf := by rw [h]; simp
    refine Ev.step (fun k => spec_l1Put.l0.eq_2 ..) ?_
    simp only [h1, h2, h3, rd, h4, if_true, Option.bind_some, e1, e2]
    refine evBy (fun c => evEq (ih _ h5) (by simp [put, c])) (fun c => evBy (fun c' => evNow (by rw [h]; simp [put, c'])) (fun c' => ?_))
    repeat' first | (refine evPos (by first | omega | (simp; omega)) ?_)
    exact evNow (by simp [put, c, c'])
theorem l1Put_ev {l : List Int} (hl : l.length ≤ 1048576) (n : Int) : Ev (fun k => spec_l1Put.f k l n) (put l n) := by
  unfold spec_l1Put.f; exact l1Put_l0 l n hl l [] rfl
-- ** most
theorem l1Most_eq (a b : Int) : spec_l1Most.f a b = some (max a b) := by
  unfold spec_l1Most.f; split <;> (congr 1; omega)
-- ** shopen
theorem goodFrom_hole : ∀ {suf pre : List S73}, goodFrom pre suf = true → ∀ x, x ∈ suf → hole x
  | [], _, _, x, hx => by simp at hx
  | y :: suf, pre, h, x, hx => by
    simp only [goodFrom, headOk, Bool.and_eq_true, decide_eq_true_eq] at h
    rcases List.mem_cons.1 hx with r | r
    · subst r; exact h.1.1
    · exact goodFrom_hole h.2 x r
theorem goodSheet_hole {l : List S73} (h : goodSheet l = true) : ∀ x, x ∈ l → hole x := by
  simp only [goodSheet, Bool.and_eq_true] at h; exact goodFrom_hole h.1
theorem goodSheet_len {l : List S73} (h : goodSheet l = true) : l.length ≤ 60 := by
  simp only [goodSheet, Bool.and_eq_true, decide_eq_true_eq] at h; exact h.2
-- ** instr
def ris : Int → List Int → Bool
  | _, [] => true
  | a, x :: l => decide (24 ≤ x ∧ x ≤ 96) && (decide (a < x) && ris x l)
def goodInst (p : List Int) (r : Int) : Bool := decide (1 ≤ (p.length : Int) ∧ (p.length : Int) ≤ 20) && (ris 0 p && decide (1 ≤ r ∧ r ≤ 20))
theorem goodInst_iff {p : List Int} {r : Int} : goodInst p r = true ↔ (1 ≤ (p.length : Int) ∧ (p.length : Int) ≤ 20) ∧ ris 0 p = true ∧ (1 ≤ r ∧ r ≤ 20) := by
  unfold goodInst; rw [Bool.and_eq_true, Bool.and_eq_true, decide_eq_true_eq, decide_eq_true_eq]
theorem rising_l0 (p : List Int) (hl : p.length ≤ 1048576) : ∀ (suf pre : List Int) (a : Int), p = pre ++ suf → (pre = [] ∧ a = 0 ∨ ∃ q, pre = q ++ [a]) → Ev (fun k => spec_l1Rising.l0 k p 24 96 p (p.length : Int) (pre.length : Int)) (ris a suf) := by
  intro suf
  induction suf with
  | nil =>
    intro pre a h _
    refine Ev.step (fun k => spec_l1Rising.l0.eq_2 ..) ?_
    simp only [rgEnd h, if_false]
    exact Ev.now _
  | cons x suf ih =>
    intro pre a h ha
    obtain ⟨h1, h2, h3, h4, h5⟩ := rgHead h (by omega) 0
    have ih' := ih (pre ++ [x]) x h5 (.inr ⟨pre, rfl⟩)
    refine Ev.step (fun k => spec_l1Rising.l0.eq_2 ..) ?_
    simp only [h1, h2, h3, rd, h4, if_true, in_eq, Option.bind_some, decide_eq_true_eq, ris]
    refine evBy (fun c => ?_) (fun c => evNow (by rw [decide_eq_false c, Bool.false_and]))
    rw [decide_eq_true c, Bool.true_and]
    rcases ha with ⟨rfl, rfl⟩ | ⟨q, rfl⟩
    · refine evNeg (by simp) ?_
      rw [decide_eq_true (show (0 : Int) < x by omega), Bool.true_and]; exact ih'
    · have hq : ((q ++ [a]).length : Int) = (q.length : Int) + 1 := by simp
      have hp : q.length ≤ 1048576 := by rw [h] at hl; simp at hl; omega
      have hL : (p.length : Int) = (q.length : Int) + 1 + ((suf.length : Int) + 1) := by rw [h]; simp; omega
      have e : p.getD (q.length : Int).toNat 0 = a := by rw [h]; simp
      refine evPos (by rw [hq]; omega) ?_
      rw [show wrap64 (((q ++ [a]).length : Int) - 1) = (q.length : Int) by rw [hq, wrapi (by omega) (by omega)]; omega]
      refine evPos (by omega) (evPos (by omega) ?_)
      rw [e]
      exact evBy (fun c' => evNow (by rw [decide_eq_false (show ¬ a < x by omega), Bool.false_and])) (fun c' => by rw [decide_eq_true (show a < x by omega), Bool.true_and]; exact ih')
theorem inGood_ev {p : List Int} (hl : p.length ≤ 1048576) (r : Int) : Ev (fun k => spec_inGood.f k p r) (goodInst p r) := by
  unfold spec_inGood.f goodInst
  simp only [in_eq, Option.bind_some, decide_eq_true_eq]
  refine evBy (fun c => ?_) (fun c => evNow (by rw [decide_eq_false c, Bool.false_and]))
  rw [decide_eq_true c, Bool.true_and]
  unfold spec_l1Rising.f
  refine Ev.bind (rising_l0 p hl p [] 0 rfl (.inl ⟨rfl, rfl⟩)) (evBy (fun c' => evNow ?_) (fun c' => evNow ?_))
  · rw [c', Bool.true_and]
  · rw [Bool.eq_false_iff.mpr c', Bool.false_and]
theorem isPitch_eq (a : Int) : impl_isPitch.f a = some (decide (24 ≤ a ∧ a ≤ 96)) := by
  unfold impl_isPitch.f; split
  · exact someD (by omega)
  · exact someF (by omega)
theorem isInst_l0 (p : List Int) (r : Int) (hl : p.length ≤ 1048576) : ∀ (suf pre : List Int) (a : Int), p = pre ++ suf → (pre = [] ∧ a = 0 ∨ ∃ q, pre = q ++ [a]) → Ev (fun k => impl_IsInstrument.l0 k p (p.length : Int) (pre.length : Int) p r) (ris a suf) := by
  intro suf
  induction suf with
  | nil =>
    intro pre a h _
    refine Ev.step (fun k => impl_IsInstrument.l0.eq_2 ..) ?_
    simp only [rgEnd h, if_false]
    exact Ev.now _
  | cons x suf ih =>
    intro pre a h ha
    obtain ⟨h1, h2, h3, h4, h5⟩ := rgHead h (by omega) 0
    have ih' := ih (pre ++ [x]) x h5 (.inr ⟨pre, rfl⟩)
    refine Ev.step (fun k => impl_IsInstrument.l0.eq_2 ..) ?_
    simp only [h1, h2, h3, rd, h4, if_true, isPitch_eq, Option.bind_some, decide_eq_true_eq, ris]
    refine evBy (fun c => ?_) (fun c => evNow (by rw [decide_eq_false c, Bool.false_and]))
    rw [decide_eq_true c, Bool.true_and]
    rcases ha with ⟨rfl, rfl⟩ | ⟨q, rfl⟩
    · refine evNeg (by simp) ?_
      rw [decide_eq_true (show (0 : Int) < x by omega), Bool.true_and]; exact ih'
    · have hq : ((q ++ [a]).length : Int) = (q.length : Int) + 1 := by simp
      have hp : q.length ≤ 1048576 := by rw [h] at hl; simp at hl; omega
      have hL : (p.length : Int) = (q.length : Int) + 1 + ((suf.length : Int) + 1) := by rw [h]; simp; omega
      have e : p.getD (q.length : Int).toNat 0 = a := by rw [h]; simp
      refine evPos (by rw [hq]; omega) ?_
      rw [show wrap64 (((q ++ [a]).length : Int) - 1) = (q.length : Int) by rw [hq, wrapi (by omega) (by omega)]; omega]
      refine evPos (by omega) (evPos (by omega) ?_)
      rw [e]
      exact evBy (fun c' => evNow (by rw [decide_eq_false (show ¬ a < x by omega), Bool.false_and])) (fun c' => by rw [decide_eq_true (show a < x by omega), Bool.true_and]; exact ih')
theorem isInst_ev {p : List Int} (hl : p.length ≤ 1048576) (r : Int) : Ev (fun k => impl_IsInstrument.f k p r) (goodInst p r) := by
  unfold impl_IsInstrument.f goodInst
  have hn : ∀ {b : Bool}, (b = true ↔ ¬ (1 ≤ r ∧ r ≤ 20)) → (1 ≤ (p.length : Int) ∧ (p.length : Int) ≤ 20) → Ev (fun k => impl_IsInstrument.j0 k b p r) (decide (1 ≤ (p.length : Int) ∧ (p.length : Int) ≤ 20) && (ris 0 p && decide (1 ≤ r ∧ r ≤ 20))) := by
    intro b hb c
    refine Ev.step (fun k => impl_IsInstrument.j0.eq_2 ..) (evBy (fun c' => evNow ?_) (fun c' => ?_))
    · rw [decide_eq_false (hb.1 c'), Bool.and_false, Bool.and_false]
    · refine evEq (isInst_l0 p r hl p [] 0 rfl (.inl ⟨rfl, rfl⟩)) ?_
      rw [decide_eq_true c, decide_eq_true (show 1 ≤ r ∧ r ≤ 20 from Decidable.not_not.1 (fun q => c' (hb.2 q))), Bool.true_and, Bool.and_true]
  have hz : ¬ (1 ≤ (p.length : Int) ∧ (p.length : Int) ≤ 20) → Ev (fun k => impl_IsInstrument.j0 k true p r) (decide (1 ≤ (p.length : Int) ∧ (p.length : Int) ≤ 20) && (ris 0 p && decide (1 ≤ r ∧ r ≤ 20))) := fun c =>
    Ev.step (fun k => impl_IsInstrument.j0.eq_2 ..) (evPos rfl (evNow (by rw [decide_eq_false c, Bool.false_and])))
  refine evBy (fun c => hz (by omega)) (fun c => evBy (fun c1 => hz (by omega)) (fun c1 => evBy (fun c2 => hn (by simp; omega) (by omega)) (fun c2 => hn (by simp; omega) (by omega))))
-- ** action
def actn (a b c : Int) : Prop := 0 ≤ a ∧ a ≤ 40 ∧ 0 ≤ b ∧ b ≤ 40 ∧ 0 ≤ c ∧ c ≤ 40
instance (a b c : Int) : Decidable (actn a b c) := by unfold actn; exact inferInstance
theorem pyAction_eq (a b c : Int) : spec_pyAction.f a b c = some (decide (actn a b c)) := by
  unfold spec_pyAction.f; simp only [in_eq, Option.bind_some, decide_eq_true_eq]
  repeat' split
  all_goals first | exact someD (by unfold actn; omega) | exact someF (by unfold actn; omega)
theorem isAction_eq (a b c : Int) : impl_IsAction.f a b c = some (decide (actn a b c)) := by
  unfold impl_IsAction.f
  repeat' split
  all_goals first | exact someD (by unfold actn; omega) | exact someF (by unfold actn; omega)
-- ** spoken
def spk (p : List Int) (rep d r lst : Int) : List S79 → List Int → (Int → Int) → List S73 → Int → List S79 × List Int
  | out, sil, _, [], _ => (out, sil)
  | out, sil, L, x :: l, i => if x.f0 ≥ (p.length : Int) ∨ x.f2 - x.f1 < lst ∨ x.f1 - L x.f0 < 2 * rep ∨ x.f1 + d ≥ x.f2 + r then spk p rep d r lst out (sil ++ [i]) L l (i + 1)
    else spk p rep d r lst (out ++ [⟨rd p x.f0, x.f1 + d, x.f2 + r⟩]) sil (fun t => if t = x.f0 then x.f1 else L t) l (i + 1)
theorem spk_len (p : List Int) (rep d r lst : Int) : ∀ (l : List S73) (out : List S79) (sil : List Int) (L : Int → Int) (i : Int),
    (spk p rep d r lst out sil L l i).1.length + (spk p rep d r lst out sil L l i).2.length = out.length + sil.length + l.length
  | [], out, sil, L, i => by simp [spk]
  | x :: l, out, sil, L, i => by
    simp only [spk]; split
    · rw [spk_len p rep d r lst l]; simp; omega
    · rw [spk_len p rep d r lst l]; simp; omega
theorem setGet (A : List Int) (a t v : Int) (ha : 0 ≤ a) (ht : 0 ≤ t) (h : a < (A.length : Int)) : (A.set a.toNat v).getD t.toNat 0 = if t = a then v else A.getD t.toNat 0 := by
  simp only [List.getD_eq_getElem?_getD, List.getElem?_set]
  by_cases c : t = a
  · subst c; rw [if_pos rfl, if_pos rfl, if_pos (by omega)]; rfl
  · rw [if_neg (by omega), if_neg c]
theorem pyAll_l1 (p : List Int) (rep d r lst : Int) (hp : p.length ≤ 20) (hr : 1 ≤ rep ∧ rep ≤ 20) (ha : actn d r lst) (l : List S73) (hl : l.length ≤ 60) (hh : ∀ x, x ∈ l → hole x) : ∀ (suf pre : List S73) (out : List S79) (sil A : List Int) (L : Int → Int), l = pre ++ suf → out.length ≤ pre.length → sil.length ≤ pre.length →
    A.length = 20 → (∀ t : Int, 0 ≤ t → t < 20 → A.getD t.toNat 0 = L t) → (∀ t, -40 ≤ L t ∧ L t ≤ 2000) →
    Ev (fun k => spec_pyAll.l1 k out sil A l (l.length : Int) (pre.length : Int) p rep d r lst) (spk p rep d r lst out sil L suf (pre.length : Int)) := by
  unfold actn at ha
  intro suf
  induction suf with
  | nil =>
    intro pre out sil A L h _ _ _ _ _
    refine Ev.step (fun k => spec_pyAll.l1.eq_2 ..) ?_
    simp only [rgEnd h, if_false]
    exact Ev.now _
  | cons x suf ih =>
    intro pre out sil A L h ho hs hA hL hb
    obtain ⟨h1, h2, h3, h4, h5⟩ := rgHead h (by omega) z73
    have hx := hh x (by rw [h]; simp)
    unfold hole at hx
    have hpl : pre.length ≤ 60 := by omega
    have hLx := hb x.f0
    have e3 : ((pre ++ [x]).length : Int) = (pre.length : Int) + 1 := by simp
    have bad : ∀ {q : Prop}, q → (q → x.f0 ≥ (p.length : Int) ∨ x.f2 - x.f1 < lst ∨ x.f1 - L x.f0 < 2 * rep ∨ x.f1 + d ≥ x.f2 + r) → Ev (fun k => if sil.length < 17592186044416 then spec_pyAll.l1 k out (sil ++ [(pre.length : Int)]) A l (l.length : Int) ((pre ++ [x]).length : Int) p rep d r lst else none) (spk p rep d r lst out sil L (x :: suf) (pre.length : Int)) := by
      intro q hq hc
      refine evPos (by omega) (evEq (ih (pre ++ [x]) out (sil ++ [(pre.length : Int)]) A L h5 (by simp; omega) (by simp; omega) hA hL hb) ?_)
      rw [e3]; simp only [spk]; rw [if_pos (hc hq)]
    refine Ev.step (fun k => spec_pyAll.l1.eq_2 ..) ?_
    simp only [h1, h2, h3, rd_T73, h4, if_true]
    rw [wrapi (x := x.f2 - x.f1) (by omega) (by omega), wrapi (x := x.f1 + d) (by omega) (by omega), wrapi (x := x.f2 + r) (by omega) (by omega), wrapi (x := 2 * rep) (by omega) (by omega)]
    refine evBy (fun c => bad c .inl) (fun c => evBy (fun c1 => bad c1 (fun q => .inr (.inl q))) (fun c1 => evPos (by omega) (evPos (by omega) ?_)))
    rw [show rd A x.f0 = L x.f0 from hL x.f0 (by omega) (by omega), wrapi (x := x.f1 - L x.f0) (by omega) (by omega)]
    refine evBy (fun c2 => bad c2 (fun q => .inr (.inr (.inl q)))) (fun c2 => evBy (fun c3 => bad c3 (fun q => .inr (.inr (.inr q)))) (fun c3 => evPos (by omega) (evPos (by omega) ?_)))
    refine evEq (ih (pre ++ [x]) (out ++ [⟨rd p x.f0, x.f1 + d, x.f2 + r⟩]) sil (A.set x.f0.toNat x.f1) (fun t => if t = x.f0 then x.f1 else L t) h5 (by simp; omega) (by simp; omega) (by simp [hA]) ?_ ?_) ?_
    · intro t h0 h1
      rw [setGet A x.f0 t x.f1 (by omega) h0 (by omega)]
      split
      · rfl
      · exact hL t h0 h1
    · intro t; split
      · omega
      · exact hb t
    · rw [e3]; simp only [spk]; rw [if_neg (by omega)]
theorem pyAll_l0 (p : List Int) (rep d r lst : Int) (l : List S73) {v : List S79 × List Int} (h : Ev (fun k => spec_pyAll.l1 k [] [] (List.replicate 20 (-40)) l (l.length : Int) 0 p rep d r lst) v) :
    ∀ (n i : Nat), i + n = 20 → Ev (fun k => spec_pyAll.l0 k l (List.replicate i (-40) ++ List.replicate n 0) 20 (i : Int) p rep d r lst) v := by
  intro n
  induction n with
  | zero =>
    intro i hi
    refine Ev.step (fun k => spec_pyAll.l0.eq_2 ..) (evNeg (by omega) ?_)
    rw [show i = 20 by omega]
    simpa using h
  | succ n ih =>
    intro i hi
    refine Ev.step (fun k => spec_pyAll.l0.eq_2 ..) (evPos (by omega) (evPos (by omega) (evPos (by simp; omega) ?_)))
    rw [List.replicate_succ, setAt _ _ _ _ _ (by simp), wrapi (by omega) (by omega), show (i : Int) + 1 = ((i + 1 : Nat) : Int) by omega]
    have := ih (i + 1) (by omega)
    rw [List.replicate_succ', List.append_assoc] at this
    exact this
theorem pyAll_ev {p : List Int} {rep d r lst : Int} {l : List S73} (hp : p.length ≤ 20) (hr : 1 ≤ rep ∧ rep ≤ 20) (ha : actn d r lst) (hg : goodSheet l = true) : Ev (fun k => spec_pyAll.f k p rep l d r lst) (spk p rep d r lst [] [] (fun _ => -40) l 0) := by
  have hl := goodSheet_len hg
  unfold spec_pyAll.f
  refine evPos (by omega) ?_
  simp only [Option.bind_some]
  have h1 := pyAll_l1 p rep d r lst hp hr ha l hl (goodSheet_hole hg) l [] [] [] (List.replicate 20 (-40)) (fun _ => -40) rfl (by simp) (by simp) (by simp) (fun t h0 h1 => by
    rw [List.getD_eq_getElem?_getD, List.getElem?_replicate, if_pos (by omega)]; rfl) (fun _ => by omega)
  have h0 := pyAll_l0 p rep d r lst l h1 20 0 (by omega)
  simpa using h0
theorem mhas_put (M : List (Int × Int)) (k v t : Int) : Mp.mhas (Mp.mput M k v) t = if t = k then true else Mp.mhas M t := by
  induction M with
  | nil => simp [Mp.mput, Mp.mhas]
  | cons q M ih =>
    by_cases c : k = q.1
    · subst c; by_cases e : t = q.1 <;> simp [Mp.mput, Mp.mhas, e]
    · by_cases e : t = q.1
      · have : ¬ t = k := fun z => c (by rw [← z, e])
        simp [Mp.mput, Mp.mhas, c, e, Ne.symm c]
      · simp [Mp.mput, Mp.mhas, c, e, ih]
theorem mget_put (M : List (Int × Int)) (k v t : Int) : Mp.mget 0 (Mp.mput M k v) t = if t = k then v else Mp.mget 0 M t := by
  induction M with
  | nil => simp [Mp.mput, Mp.mget]
  | cons q M ih =>
    by_cases c : k = q.1
    · subst c; by_cases e : t = q.1 <;> simp [Mp.mput, Mp.mget, e]
    · by_cases e : t = q.1
      · have : ¬ t = k := fun z => c (by rw [← z, e])
        simp [Mp.mput, Mp.mget, c, e, Ne.symm c]
      · simp [Mp.mput, Mp.mget, c, e, ih]
theorem spoken_l0 (p : List Int) (rep d r lst : Int) (hp : p.length ≤ 20) (hr : 1 ≤ rep ∧ rep ≤ 20) (ha : actn d r lst) (l : List S73) (hl : l.length ≤ 60) (hh : ∀ x, x ∈ l → hole x) : ∀ (suf pre : List S73) (out : List S79) (sil : List Int) (M : List (Int × Int)) (L : Int → Int), l = pre ++ suf → out.length ≤ pre.length → sil.length ≤ pre.length →
    (∀ t, (Mp.mhas M t = true → Mp.mget 0 M t = L t) ∧ (¬ Mp.mhas M t = true → L t = -40)) → (∀ t, -40 ≤ L t ∧ L t ≤ 2000) →
    Ev (fun k => impl_spoken.l0 k out sil l (l.length : Int) (pre.length : Int) p rep d r lst M) (spk p rep d r lst out sil L suf (pre.length : Int)) := by
  unfold actn at ha
  intro suf
  induction suf with
  | nil =>
    intro pre out sil M L h _ _ _ _
    refine Ev.step (fun k => impl_spoken.l0.eq_2 ..) ?_
    simp only [rgEnd h, if_false]
    exact Ev.now _
  | cons x suf ih =>
    intro pre out sil M L h ho hs hM hb
    obtain ⟨h1, h2, h3, h4, h5⟩ := rgHead h (by omega) z73
    have hx := hh x (by rw [h]; simp)
    unfold hole at hx
    have hpl : pre.length ≤ 60 := by omega
    have hLx := hb x.f0
    obtain ⟨hM1, hM2⟩ := hM x.f0
    have e3 : ((pre ++ [x]).length : Int) = (pre.length : Int) + 1 := by simp
    have bad : ∀ {q : Prop}, q → (q → x.f0 ≥ (p.length : Int) ∨ x.f2 - x.f1 < lst ∨ x.f1 - L x.f0 < 2 * rep ∨ x.f1 + d ≥ x.f2 + r) → Ev (fun k => if sil.length < 17592186044416 then impl_spoken.l0 k out (sil ++ [(pre.length : Int)]) l (l.length : Int) ((pre ++ [x]).length : Int) p rep d r lst M else none) (spk p rep d r lst out sil L (x :: suf) (pre.length : Int)) := by
      intro q hq hc
      refine evPos (by omega) (evEq (ih (pre ++ [x]) out (sil ++ [(pre.length : Int)]) M L h5 (by simp; omega) (by simp; omega) hM hb) ?_)
      rw [e3]; simp only [spk]; rw [if_pos (hc hq)]
    have good : ¬ x.f0 ≥ (p.length : Int) → ¬ x.f2 - x.f1 < lst → ¬ x.f1 - L x.f0 < 2 * rep → Ev (fun k => if x.f1 + d ≥ x.f2 + r then (if sil.length < 17592186044416 then impl_spoken.l0 k out (sil ++ [(pre.length : Int)]) l (l.length : Int) ((pre ++ [x]).length : Int) p rep d r lst M else none) else (if 0 ≤ x.f0 then (if x.f0 < (p.length : Int) then (if out.length < 5864062014805 then impl_spoken.l0 k (out ++ [⟨rd p x.f0, x.f1 + d, x.f2 + r⟩]) sil l (l.length : Int) ((pre ++ [x]).length : Int) p rep d r lst (Mp.mput M x.f0 x.f1) else none) else none) else none)) (spk p rep d r lst out sil L (x :: suf) (pre.length : Int)) := by
      intro c c1 c2
      refine evBy (fun c3 => bad c3 (fun q => .inr (.inr (.inr q)))) (fun c3 => evPos (by omega) (evPos (by omega) (evPos (by omega) ?_)))
      refine evEq (ih (pre ++ [x]) (out ++ [⟨rd p x.f0, x.f1 + d, x.f2 + r⟩]) sil (Mp.mput M x.f0 x.f1) (fun t => if t = x.f0 then x.f1 else L t) h5 (by simp; omega) (by simp; omega) ?_ ?_) ?_
      · intro t
        rw [mhas_put, mget_put]
        by_cases e : t = x.f0
        · simp [e]
        · simp only [if_neg e]; exact hM t
      · intro t; split
        · omega
        · exact hb t
      · rw [e3]; simp only [spk]; rw [if_neg (by omega)]
    refine Ev.step (fun k => impl_spoken.l0.eq_2 ..) ?_
    simp only [h1, h2, h3, rd_T73, h4, if_true]
    rw [wrapi (x := x.f2 - x.f1) (by omega) (by omega), wrapi (x := x.f1 + d) (by omega) (by omega), wrapi (x := x.f2 + r) (by omega) (by omega), wrapi (x := 2 * rep) (by omega) (by omega)]
    refine evBy (fun c => bad c .inl) (fun c => evBy (fun c1 => bad c1 (fun q => .inr (.inl q))) (fun c1 => evBy (fun c2 => ?_) (fun c2 => ?_)))
    · rw [hM1 c2, wrapi (x := x.f1 - L x.f0) (by omega) (by omega)]
      exact evBy (fun c3 => bad c3 (fun q => .inr (.inr (.inl q)))) (fun c3 => good c c1 c3)
    · exact good c c1 (by have := hM2 c2; omega)
theorem spoken_ev {p : List Int} {rep d r lst : Int} {l : List S73} (hp : p.length ≤ 20) (hr : 1 ≤ rep ∧ rep ≤ 20) (ha : actn d r lst) (hg : goodSheet l = true) : Ev (fun k => impl_spoken.f k p rep l d r lst) (spk p rep d r lst [] [] (fun _ => -40) l 0) := by
  unfold impl_spoken.f
  exact spoken_l0 p rep d r lst hp hr ha l (goodSheet_len hg) (goodSheet_hole hg) l [] [] [] [] (fun _ => -40) rfl (by simp) (by simp) (fun t => ⟨fun q => by simp [Mp.mhas] at q, fun _ => rfl⟩) (fun _ => by omega)
def asked (p : List Int) (rep : Int) (l : List S73) (d r lst : Int) : Bool := goodInst p rep && (goodSheet l && decide (actn d r lst))
theorem asked_iff {p : List Int} {rep : Int} {l : List S73} {d r lst : Int} : asked p rep l d r lst = true ↔ ((1 ≤ (p.length : Int) ∧ (p.length : Int) ≤ 20) ∧ ris 0 p = true ∧ (1 ≤ rep ∧ rep ≤ 20)) ∧ goodSheet l = true ∧ actn d r lst := by
  unfold asked; rw [Bool.and_eq_true, Bool.and_eq_true, decide_eq_true_eq, goodInst_iff]
theorem pyAsked_ev {p : List Int} (hp : p.length ≤ 1048576) (rep : Int) {l : List S73} (hl : l.length ≤ 1048576) (d r lst : Int) : Ev (fun k => spec_pyAsked.f k p rep l d r lst) (asked p rep l d r lst) := by
  unfold spec_pyAsked.f spec_laAsked.f asked
  simp only [pyAction_eq, Option.bind_some]
  refine Ev.bind (a := goodInst p rep && goodSheet l) (Ev.bind (inGood_ev hp rep) (evBy (fun c => Ev.bind (shGood_ev hl) (evNow (by rw [c, Bool.true_and]))) (fun c => evNow (by rw [Bool.eq_false_iff.mpr c, Bool.false_and])))) (evBy (fun c => evNow ?_) (fun c => evNow ?_))
  · rw [Bool.and_eq_true] at c; rw [c.1, c.2, Bool.true_and, Bool.true_and]
  · rw [← Bool.and_assoc, Bool.eq_false_iff.mpr c, Bool.false_and]
theorem canBe_ev {p : List Int} (hp : p.length ≤ 1048576) (rep : Int) {l : List S73} (hl : l.length ≤ 1048576) (d r lst : Int) : Ev (fun k => impl_canBePlayed.f k p rep l d r lst) (asked p rep l d r lst) := by
  unfold impl_canBePlayed.f asked
  simp only [isAction_eq, Option.bind_some]
  refine Ev.bind (isInst_ev hp rep) (evBy (fun c => Ev.bind (isSheet_ev hl) (evBy (fun c' => evNow ?_) (fun c' => evNow ?_))) (fun c => evNow ?_))
  · rw [c, c', Bool.true_and, Bool.true_and]
  · rw [Bool.eq_false_iff.mpr c', Bool.false_and, Bool.and_false]
  · rw [Bool.eq_false_iff.mpr c, Bool.false_and]
-- ** trueto
theorem spk_bd (p : List Int) (rep d r lst : Int) (ha : actn d r lst) : ∀ (l : List S73) (out : List S79) (sil : List Int) (L : Int → Int) (i : Int), (∀ x, x ∈ l → hole x) → (∀ q, q ∈ out → 0 ≤ q.f2 ∧ q.f2 ≤ 3000) → ∀ q, q ∈ (spk p rep d r lst out sil L l i).1 → 0 ≤ q.f2 ∧ q.f2 ≤ 3000
  | [], out, sil, L, i, _, ho => by simpa [spk] using ho
  | x :: l, out, sil, L, i, hh, ho => by
    have hx := hh x (by simp)
    simp only [spk]; split
    · exact spk_bd p rep d r lst ha l _ _ _ _ (fun y hy => hh y (by simp [hy])) ho
    · refine spk_bd p rep d r lst ha l _ _ _ _ (fun y hy => hh y (by simp [hy])) (fun q hq => ?_)
      rcases List.mem_append.1 hq with h | h
      · exact ho q h
      · rw [List.mem_singleton.1 h]; unfold hole at hx; unfold actn at ha; dsimp only; omega
theorem spk_small {p : List Int} {rep d r lst : Int} {l : List S73} (hg : goodSheet l = true) : (spk p rep d r lst [] [] (fun _ => -40) l 0).1.length ≤ 60 := by
  have h := spk_len p rep d r lst l [] [] (fun _ => -40) 0
  have := goodSheet_len hg
  simp at h; omega
-- ** compact
theorem put_mem (x : Int) : ∀ (l : List Int) (n : Int), x ∈ put l n ↔ x = n ∨ x ∈ l
  | [], n => by simp [put]
  | a :: l, n => by
    have := put_mem x l n
    simp only [put]; split
    · simp only [List.mem_cons, this]
      constructor
      · rintro (h | h | h)
        · exact .inr (.inl h)
        · exact .inl h
        · exact .inr (.inr h)
      · rintro (h | h | h)
        · exact .inr (.inl h)
        · exact .inl h
        · exact .inr (.inr h)
    · split
      · rename_i e; subst e; simp
      · simp
theorem put_srt : ∀ (l : List Int) (n : Int), l.Pairwise (· < ·) → (put l n).Pairwise (· < ·)
  | [], n, _ => by simp [put]
  | a :: l, n, h => by
    obtain ⟨h1, h2⟩ := List.pairwise_cons.1 h
    have ih := put_srt l n h2
    simp only [put]; split
    · rename_i c
      refine List.pairwise_cons.2 ⟨fun x hx => ?_, ih⟩
      rcases (put_mem x l n).1 hx with rfl | q
      · exact c
      · exact h1 x q
    · split
      · exact h
      · rename_i c c'
        refine List.pairwise_cons.2 ⟨fun x hx => ?_, h⟩
        rcases List.mem_cons.1 hx with rfl | q
        · omega
        · have := h1 x q; omega
theorem srt_ext : ∀ {a b : List Int}, a.Pairwise (· < ·) → b.Pairwise (· < ·) → (∀ x, x ∈ a ↔ x ∈ b) → a = b
  | [], [], _, _, _ => rfl
  | [], y :: b, _, _, h => by have := (h y).2 (by simp); simp at this
  | x :: a, [], _, _, h => by have := (h x).1 (by simp); simp at this
  | x :: a, y :: b, ha, hb, h => by
    obtain ⟨a1, a2⟩ := List.pairwise_cons.1 ha
    obtain ⟨b1, b2⟩ := List.pairwise_cons.1 hb
    have e : x = y := by
      rcases List.mem_cons.1 ((h x).1 (by simp)) with e | e
      · exact e
      · rcases List.mem_cons.1 ((h y).2 (by simp)) with f | f
        · exact f.symm
        · have := b1 x e; have := a1 y f; omega
    subst e
    rw [srt_ext a2 b2 (fun z => ?_)]
    have := h z
    simp only [List.mem_cons] at this
    constructor
    · intro q
      rcases this.1 (.inr q) with r | r
      · have := a1 z q; omega
      · exact r
    · intro q
      rcases this.2 (.inr q) with r | r
      · have := b1 z q; omega
      · exact r
theorem compactUp {d : Array Int} (hd : ∀ i j, i ≤ j → j < d.size → d[i]! ≤ d[j]!) : ∀ m, m ≤ d.size → (Go.Lib.compactUpTo d m).Pairwise (· < ·) ∧ ∀ x, x ∈ Go.Lib.compactUpTo d m ↔ ∃ j, j < m ∧ d[j]! = x
  | 0, _ => by simp [Go.Lib.compactUpTo]
  | m + 1, hm => by
    obtain ⟨h1, h2⟩ := compactUp hd m (by omega)
    rw [Go.Lib.compactUpTo_succ]
    by_cases c : Go.Lib.keeps d m = true
    · rw [if_pos c]
      refine ⟨List.pairwise_append.2 ⟨h1, by simp, fun a ha b hb => ?_⟩, fun x => ?_⟩
      · obtain ⟨j, hj, rfl⟩ := (h2 a).1 ha
        rw [List.mem_singleton.1 hb]
        have hk : m = 0 ∨ d[m]! ≠ d[m - 1]! := by simpa [Go.Lib.keeps] using c
        have g1 := hd j (m - 1) (by omega) (by omega)
        have g2 := hd (m - 1) m (by omega) (by omega)
        rcases hk with hk | hk
        · omega
        · omega
      · rw [List.mem_append, h2, List.mem_singleton]
        constructor
        · rintro (⟨j, hj, e⟩ | e)
          · exact ⟨j, by omega, e⟩
          · exact ⟨m, by omega, e.symm⟩
        · rintro ⟨j, hj, e⟩
          by_cases q : j = m
          · subst q; exact .inr e.symm
          · exact .inl ⟨j, by omega, e⟩
    · rw [if_neg c, List.append_nil]
      have hk : m ≠ 0 ∧ d[m]! = d[m - 1]! := by
        have : ¬ (m = 0 ∨ d[m]! ≠ d[m - 1]!) := by simpa [Go.Lib.keeps] using c
        exact ⟨fun q => this (.inl q), Decidable.not_not.1 fun q => this (.inr q)⟩
      refine ⟨h1, fun x => ?_⟩
      rw [h2]
      constructor
      · rintro ⟨j, hj, e⟩; exact ⟨j, by omega, e⟩
      · rintro ⟨j, hj, e⟩
        by_cases q : j = m
        · subst q; exact ⟨j - 1, by omega, by rw [← hk.2, e]⟩
        · exact ⟨j, by omega, e⟩
theorem compact_sorted (l : List Int) : (Go.Lib.compact (Lib.sorted l)).Pairwise (· < ·) ∧ ∀ x, x ∈ Go.Lib.compact (Lib.sorted l) ↔ x ∈ l := by
  have hp : (Lib.sorted l).Pairwise (fun a b => decide (a ≤ b) = true) := List.pairwise_mergeSort (fun a b c h1 h2 => by simp at *; omega) (fun a b => by simp; omega) l
  have hd : ∀ i j, i ≤ j → j < (Lib.sorted l).toArray.size → (Lib.sorted l).toArray[i]! ≤ (Lib.sorted l).toArray[j]! := by
    intro i j hij hj
    have hj' : j < (Lib.sorted l).length := by simpa using hj
    rw [getElem!_pos _ _ (by simpa using Nat.lt_of_le_of_lt hij hj'), getElem!_pos _ _ (by simpa using hj')]
    by_cases e : i = j
    · subst e; exact Int.le_refl _
    · have := List.pairwise_iff_getElem.1 hp i j (by omega) hj' (by omega)
      simpa using this
  obtain ⟨h1, h2⟩ := compactUp hd (Lib.sorted l).length (by simp)
  refine ⟨h1, fun x => ?_⟩
  unfold Go.Lib.compact
  rw [h2]
  have hm : x ∈ Lib.sorted l ↔ x ∈ l := by unfold Lib.sorted; exact List.mem_mergeSort
  rw [← hm]
  constructor
  · rintro ⟨j, hj, e⟩
    rw [getElem!_pos _ _ (by simpa using hj)] at e
    rw [← e]; simp
  · intro h
    obtain ⟨j, hj, e⟩ := List.getElem_of_mem h
    exact ⟨j, hj, by rw [getElem!_pos _ _ (by simpa using hj)]; simpa using e⟩
theorem fold_put (l : List Int) : ∀ (a : List Int), a.Pairwise (· < ·) → (l.foldl put a).Pairwise (· < ·) ∧ ∀ x, x ∈ l.foldl put a ↔ x ∈ a ∨ x ∈ l := by
  induction l with
  | nil => intro a h; exact ⟨h, fun x => by simp⟩
  | cons y l ih =>
    intro a h
    obtain ⟨h1, h2⟩ := ih (put a y) (put_srt a y h)
    refine ⟨h1, fun x => ?_⟩
    rw [List.foldl_cons, h2, put_mem, List.mem_cons]
    constructor
    · rintro ((q | q) | q)
      · exact .inr (.inl q)
      · exact .inl q
      · exact .inr (.inr q)
    · rintro (q | q | q)
      · exact .inl (.inr q)
      · exact .inl (.inl q)
      · exact .inr q
theorem set_eq (l : List Int) : Go.Lib.compact (Lib.sorted l) = l.foldl put [] := by
  obtain ⟨h1, h2⟩ := compact_sorted l
  obtain ⟨g1, g2⟩ := fold_put l [] List.Pairwise.nil
  exact srt_ext h1 g1 (fun x => by rw [h2, g2]; simp)
-- ** pitches
def pat (s : Int) (l : List S79) : List Int := (l.filter fun x => decide (x.f1 ≤ s ∧ s < x.f2)).map (·.f0)
theorem pat_yes {s : Int} {x : S79} (l : List S79) (h : x.f1 ≤ s ∧ s < x.f2) : pat s (x :: l) = x.f0 :: pat s l := by
  unfold pat; rw [List.filter_cons_of_pos (by simp [h]), List.map_cons]
theorem pat_no {s : Int} {x : S79} (l : List S79) (h : ¬ (x.f1 ≤ s ∧ s < x.f2)) : pat s (x :: l) = pat s l := by
  unfold pat; rw [List.filter_cons_of_neg (by simp; omega)]
theorem pyAt_l0 (s : Int) (l : List S79) (hl : l.length ≤ 1048576) (hb : ∀ x, x ∈ l → 0 ≤ x.f2 ∧ x.f2 ≤ 3000) : ∀ (suf pre : List S79) (acc : List Int), l = pre ++ suf → acc.length ≤ pre.length → Ev (fun k => spec_pyAt.l0 k s acc l (l.length : Int) (pre.length : Int)) ((pat s suf).foldl put acc) := by
  intro suf
  induction suf with
  | nil =>
    intro pre acc h _
    refine Ev.step (fun k => spec_pyAt.l0.eq_2 ..) ?_
    simp only [rgEnd h, if_false]
    exact Ev.now _
  | cons x suf ih =>
    intro pre acc h ha
    obtain ⟨h1, h2, h3, h4, h5⟩ := rgHead h (by omega) z79
    have hx := hb x (by rw [h]; simp)
    have hp : pre.length ≤ l.length := by rw [h]; simp
    refine Ev.step (fun k => spec_pyAt.l0.eq_2 ..) ?_
    simp only [h1, h2, h3, rd_T79, h4, if_true, in_eq, Option.bind_some, decide_eq_true_eq]
    rw [wrapi (x := x.f2 - 1) (by omega) (by omega)]
    refine evBy (fun c => ?_) (fun c => ?_)
    · rw [pat_yes suf (by omega)]
      exact Ev.bind (l1Put_ev (by omega) x.f0) (ih _ _ h5 (by have := put_len acc x.f0; simp; omega))
    · rw [pat_no suf (by omega)]
      exact ih _ _ h5 (by simp; omega)
theorem pyAt_ev (s : Int) {l : List S79} (hl : l.length ≤ 1048576) (hb : ∀ x, x ∈ l → 0 ≤ x.f2 ∧ x.f2 ≤ 3000) : Ev (fun k => spec_pyAt.f k l s) ((pat s l).foldl put []) := by
  unfold spec_pyAt.f; exact pyAt_l0 s l hl hb l [] [] rfl (by simp)
theorem sortedSet_eq {l : List Int} (hl : l.length ≤ 1048576) : impl_sortedSet.f l = some (l.foldl put []) := by
  unfold impl_sortedSet.f slices_Clone_int_int.f sort_Ints.f slices_Compact_int_int.f
  simp only [Option.bind_some, List.nil_append, List.length_nil]
  rw [if_pos (by omega)]
  simp only [Option.bind_some]
  rw [if_pos (by omega)]
  simp only [Option.bind_some]
  rw [if_pos (by rw [Lib.sorted_length]; omega)]
  simp only [Option.bind_some, set_eq]
theorem pitchesIn_l0 (s : Int) (l : List S79) (hl : l.length ≤ 1048576) : ∀ (suf pre : List S79) (acc : List Int), l = pre ++ suf → acc.length ≤ pre.length → Ev (fun k => impl_pitchesIn.l0 k s acc l (l.length : Int) (pre.length : Int)) ((acc ++ pat s suf).foldl put []) := by
  intro suf
  induction suf with
  | nil =>
    intro pre acc h ha
    refine Ev.step (fun k => impl_pitchesIn.l0.eq_2 ..) ?_
    have hp : pre.length ≤ l.length := by rw [h]; simp
    simp only [rgEnd h, if_false]
    rw [sortedSet_eq (by omega)]
    exact evNow (by simp [pat])
  | cons x suf ih =>
    intro pre acc h ha
    obtain ⟨h1, h2, h3, h4, h5⟩ := rgHead h (by omega) z79
    have hp : pre.length ≤ l.length := by rw [h]; simp
    have skip : ¬ (x.f1 ≤ s ∧ s < x.f2) → Ev (fun k => impl_pitchesIn.l0 k s acc l (l.length : Int) ((pre ++ [x]).length : Int)) ((acc ++ pat s (x :: suf)).foldl put []) := by
      intro c; rw [pat_no suf c]; exact ih _ _ h5 (by simp; omega)
    refine Ev.step (fun k => impl_pitchesIn.l0.eq_2 ..) ?_
    simp only [h1, h2, h3, rd_T79, h4, if_true]
    refine evBy (fun c => evBy (fun c' => evPos (by omega) ?_) (fun c' => skip (by omega))) (fun c => skip (by omega))
    rw [pat_yes suf ⟨c, c'⟩]
    exact evEq (ih _ (acc ++ [x.f0]) h5 (by simp; omega)) (by simp)
theorem pitchesIn_ev (s : Int) {l : List S79} (hl : l.length ≤ 1048576) : Ev (fun k => impl_pitchesIn.f k l s) ((pat s l).foldl put []) := by
  unfold impl_pitchesIn.f; exact pitchesIn_l0 s l hl l [] [] rfl (by simp)
-- ** WindNeeded_
def wnd (l : List S79) : Int → List S79 → Int
  | m, [] => m
  | m, x :: q => wnd l (max m (((pat x.f1 l).foldl put []).length : Int)) q
theorem specWnd_l0 (l : List S79) (hl : l.length ≤ 1048576) (hb : ∀ x, x ∈ l → 0 ≤ x.f2 ∧ x.f2 ≤ 3000) : ∀ (suf pre : List S79) (m : Int), l = pre ++ suf → Ev (fun k => spec_WindNeeded.l0 k l m l (l.length : Int) (pre.length : Int)) (wnd l m suf, true) := by
  intro suf
  induction suf with
  | nil =>
    intro pre m h
    refine Ev.step (fun k => spec_WindNeeded.l0.eq_2 ..) ?_
    simp only [rgEnd h, if_false]
    exact Ev.now _
  | cons x suf ih =>
    intro pre m h
    obtain ⟨h1, h2, h3, h4, h5⟩ := rgHead h (by omega) z79
    refine Ev.step (fun k => spec_WindNeeded.l0.eq_2 ..) ?_
    simp only [h1, h2, h3, rd_T79, h4, if_true, l1Most_eq, Option.bind_some]
    exact Ev.bind (pyAt_ev x.f1 hl hb) (ih _ _ h5)
theorem implWnd_l0 (l : List S79) (hl : l.length ≤ 1048576) : ∀ (suf pre : List S79) (m : Int), l = pre ++ suf → Ev (fun k => impl_WindNeeded.l0 k l m l (l.length : Int) (pre.length : Int)) (wnd l m suf, true) := by
  intro suf
  induction suf with
  | nil =>
    intro pre m h
    refine Ev.step (fun k => impl_WindNeeded.l0.eq_2 ..) ?_
    simp only [rgEnd h, if_false]
    exact Ev.now _
  | cons x suf ih =>
    intro pre m h
    obtain ⟨h1, h2, h3, h4, h5⟩ := rgHead h (by omega) z79
    refine Ev.step (fun k => impl_WindNeeded.l0.eq_2 ..) ?_
    simp only [h1, h2, h3, rd_T79, h4, if_true, mx_eq]
    exact Ev.bind (pitchesIn_ev x.f1 hl) (ih _ _ h5)
def wndRes (p : List Int) (rep : Int) (l : List S73) (d r lst : Int) : Int × Bool := if asked p rep l d r lst = true then (wnd (spk p rep d r lst [] [] (fun _ => -40) l 0).1 0 (spk p rep d r lst [] [] (fun _ => -40) l 0).1, true) else (0, false)
theorem specWnd_ev {p : List Int} (hp : p.length ≤ 1048576) (rep : Int) {l : List S73} (hl : l.length ≤ 1048576) (d r lst : Int) : Ev (fun k => spec_WindNeeded.f k p rep l d r lst) (wndRes p rep l d r lst) := by
  unfold spec_WindNeeded.f wndRes
  refine Ev.bind (pyAsked_ev hp rep hl d r lst) (evIte (fun c => ?_) (fun _ => Ev.now _))
  obtain ⟨⟨h1, _, h2⟩, h3, h4⟩ := asked_iff.1 c
  have hs := @spk_small p rep d r lst l h3
  exact Ev.bind (pyAll_ev (by omega) h2 h4 h3) (specWnd_l0 _ (by omega) (spk_bd p rep d r lst h4 l [] [] _ 0 (goodSheet_hole h3) (by simp)) _ [] 0 rfl)
theorem implWnd_ev {p : List Int} (hp : p.length ≤ 1048576) (rep : Int) {l : List S73} (hl : l.length ≤ 1048576) (d r lst : Int) : Ev (fun k => impl_WindNeeded.f k p rep l d r lst) (wndRes p rep l d r lst) := by
  unfold impl_WindNeeded.f wndRes
  refine Ev.bind (canBe_ev hp rep hl d r lst) (evIte (fun c => ?_) (fun _ => Ev.now _))
  obtain ⟨⟨h1, _, h2⟩, h3, h4⟩ := asked_iff.1 c
  have hs := @spk_small p rep d r lst l h3
  exact Ev.bind (spoken_ev (by omega) h2 h4 h3) (implWnd_l0 _ (by omega) _ [] 0 rfl)
-- ** FnExactWindNeeded
theorem FnExactWindNeeded (l0_0 : List Int) (a0_1 : Int) (l1 : List S75) (a2_0 a2_1 a2_2 : Int) (w0 : Opn.Lst Opn.I64 l0_0) (_ : Opn.I64 a0_1) (w1 : Opn.Lst (fun x : S75 => Opn.I64 x.f0 ∧ Opn.I64 x.f1 ∧ Opn.I64 x.f2) l1) (_ : Opn.I64 a2_0) (_ : Opn.I64 a2_1) (_ : Opn.I64 a2_2) : ∃ k, laws_FnExactWindNeeded.f k l0_0 a0_1 l1 a2_0 a2_1 a2_2 = some true := by
  refine Ev.rounds (g := fun k => laws_FnExactWindNeeded.f k l0_0 a0_1 l1 a2_0 a2_1 a2_2) ?_
  unfold laws_FnExactWindNeeded.f
  simp only [laws_toAction.f, Option.bind_some]
  rw [szInst_eq l0_0 a0_1 w0.1]
  simp only [Option.bind_some]
  by_cases c : l0_0.length ≤ 1048576
  · rw [if_pos c]
    refine evNeg (by omega) ?_
    rw [szHole_at l1 _ (by omega) (by omega) w1.1]
    simp only [Option.bind_some]
    by_cases c1 : (l1.length : Int) ≤ 1048576 - (l0_0.length : Int)
    · rw [if_pos c1]
      have hm : (l1.map cvHole).length ≤ 1048576 := by simp; omega
      refine evNeg (by omega) (Ev.bind (toInst_ev a0_1 c) (Ev.bind (toHole_ev l1 (by omega)) (Ev.bind (specWnd_ev c a0_1 hm a2_0 a2_1 a2_2) (Ev.bind (toInst_ev a0_1 c) (Ev.bind (toHole_ev l1 (by omega)) (Ev.bind (implWnd_ev c a0_1 hm a2_0 a2_1 a2_2) ?_))))))
      simp only [bne_self_eq_false, if_true]
      exact Ev.step (fun k => laws_FnExactWindNeeded.j0.eq_2 ..) (evNeg (by simp) (Ev.bind (toInst_ev a0_1 c) (Ev.bind (eqInst_ev a0_1 c) (evPos rfl (Ev.bind (toHole_ev l1 (by omega)) (Ev.bind (eqHole_ev _ (by omega)) (evPos rfl (Ev.now _))))))))
    · rw [if_neg c1]
      exact evPos (by omega) (Ev.now _)
  · rw [if_neg c]
    exact evPos (by omega) (Ev.now _)
end Go.Proofs.Ytioheacdldgaaaa.Pure
