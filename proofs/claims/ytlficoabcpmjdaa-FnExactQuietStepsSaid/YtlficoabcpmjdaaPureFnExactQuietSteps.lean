/- The program's QuietSteps returns what the reference's returns, for all arguments.: the plain part: what the program computes and what the reference computes agree, for all arguments. No conditions beyond the arguments' own kinds. -/
import Derived.Test.YtlficoabcpmjdaaPFnExactQuietStepsx0
import Derived.Test.YtlficoabcpmjdaaPFnExactQuietStepsx1
import Derived.Test.YtlficoabcpmjdaaPFnExactQuietStepsx2
import Derived.Test.YtlficoabcpmjdaaPFnExactQuietStepsx3
import Derived.Test.YtlficoabcpmjdaaPFnExactQuietStepsx4
import Derived.Test.YtlficoabcpmjdaaPFnExactQuietStepsx5
import Derived.Test.YtlficoabcpmjdaaPFnExactQuietStepsx6
import Derived.Test.YtlficoabcpmjdaaOpn
namespace Go.Proofs.Ytlficoabcpmjdaa.Pure
open Go.RowKit Go.Proofs.Ytlficoabcpmjdaa.PFnExactQuietSteps Go.Proofs.YtlficoabcpmjdaaW.PrintWords Go.Proofs.YtlficoabcpmjdaaW.PrintLast Go.Proofs.YtlficoabcpmjdaaW.PrintMore
-- ** base
theorem wrapi {x : Int} (h0 : -9223372036854775808 ≤ x) (h1 : x ≤ 9223372036854775807) : wrap64 x = x := by unfold wrap64; omega
theorem evPos {α : Type} {c : Prop} [Decidable c] {g f : Nat → Option α} {r : α} (h : c) (e : Ev g r) : Ev (fun k => if c then g k else f k) r := by
  simp only [if_pos h]; exact e
theorem evNeg {α : Type} {c : Prop} [Decidable c] {g f : Nat → Option α} {r : α} (h : ¬ c) (e : Ev f r) : Ev (fun k => if c then g k else f k) r := by
  simp only [if_neg h]; exact e
theorem evNow {α : Type} {r q : α} (h : r = q) : Ev (fun _ => some r) q := by subst h; exact Ev.now r
theorem evEq {α : Type} {g : Nat → Option α} {r q : α} (h : Ev g r) (e : r = q) : Ev g q := e ▸ h
theorem evIte {α : Type} {c : Prop} [Decidable c] {g f : Nat → Option α} {r q : α} (h : c → Ev g r) (h' : ¬ c → Ev f q) : Ev (fun k => if c then g k else f k) (if c then r else q) := by
  by_cases hc : c
  · simp only [if_pos hc]; exact h hc
  · simp only [if_neg hc]; exact h' hc
theorem evBy {α : Type} {c : Prop} [Decidable c] {g f : Nat → Option α} {r : α} (h : c → Ev g r) (h' : ¬ c → Ev f r) : Ev (fun k => if c then g k else f k) r := by
  by_cases hc : c
  · simp only [if_pos hc]; exact h hc
  · simp only [if_neg hc]; exact h' hc
theorem someT {p : Prop} [Decidable p] (h : p) : some true = some (decide p) := by rw [decide_eq_true h]
theorem someF {p : Prop} [Decidable p] (h : ¬ p) : some false = some (decide p) := by rw [decide_eq_false h]
theorem someD {p q : Prop} [Decidable p] [Decidable q] (h : p ↔ q) : some (decide p) = some (decide q) := by rw [decide_eq_decide.mpr h]
theorem decD {p q : Prop} [Decidable p] [Decidable q] (h : p ↔ q) : decide p = decide q := decide_eq_decide.mpr h
theorem allBad {α : Type} {p : α → Bool} {x : α} {suf : List α} {q : Bool} (h : p x = false) : false = ((x :: suf).all p && q) := by simp [h]
theorem allGood {α : Type} {p : α → Bool} {x : α} {suf : List α} {q : Bool} (h : p x = true) : (suf.all p && q) = ((x :: suf).all p && q) := by simp [h]
theorem rgEnd {α : Type} {l pre : List α} (h : l = pre ++ []) : ¬ ((pre.length : Int) < (l.length : Int)) := by subst h; simp
theorem rgHead {α : Type} {l pre suf : List α} {x : α} (h : l = pre ++ x :: suf) (hl : l.length ≤ 4611686018427387904) (z : α) :
    (pre.length : Int) < (l.length : Int) ∧ (0 : Int) ≤ (pre.length : Int) ∧ wrap64 ((pre.length : Int) + 1) = ((pre ++ [x]).length : Int) ∧ l.getD (pre.length : Int).toNat z = x ∧ l = (pre ++ [x]) ++ suf := by
  subst h
  simp at hl
  refine ⟨by simp; omega, by omega, ?_, by simp, by simp⟩
  rw [wrapi (by omega) (by omega)]; simp
theorem in_eq (a b c : Int) : spec_l1In.f a b c = some (decide (b ≤ a ∧ a ≤ c)) := by
  unfold spec_l1In.f
  split
  · exact someD (by omega)
  · exact someF (by omega)
theorem mx_eq (a b : Int) : mx a b = max a b := by unfold mx; omega
-- ** lists
theorem setAt {α : Type} (A B : List α) (z v : α) (n : Nat) (h : n = A.length) : (A ++ z :: B).set n v = A ++ v :: B := by subst h; simp
-- ** holelaw
def cvHole (x : S70) : S68 := ⟨x.f0, x.f1, x.f2⟩
theorem szHole_eq (l : List S70) (h : l.length ≤ 9223372036854775807) : laws_szHoleS.f l 1048576 = some (if l.length ≤ 1048576 then 1048576 - (l.length : Int) else -1) := by
  unfold laws_szHoleS.f
  rw [wrapi (by omega) (by omega)]
  by_cases c : l.length ≤ 1048576
  · rw [if_neg (by omega), if_pos c]
  · rw [if_pos (by omega), if_neg c]
theorem toHole_l0 (l : List S70) (hl : l.length ≤ 1048576) : ∀ (suf pre : List S70), l = pre ++ suf →
    Ev (fun k => laws_toHoleS.l0 k l (pre.map cvHole ++ List.replicate suf.length z68) (pre.length : Int)) (l.map cvHole) := by
  intro suf
  induction suf with
  | nil =>
    intro pre h
    refine Ev.step (fun k => laws_toHoleS.l0.eq_2 ..) ?_
    simp only [rgEnd h, if_false]
    exact evNow (by subst h; simp)
  | cons x suf ih =>
    intro pre h
    obtain ⟨h1, h2, h3, h4, h5⟩ := rgHead h (by omega) z70
    refine Ev.step (fun k => laws_toHoleS.l0.eq_2 ..) ?_
    simp only [h1, h2, h3, rd_T70, h4, if_true, laws_toHole.f, Option.bind_some]
    refine evPos (by simp; omega) ?_
    have e : (pre.map cvHole ++ List.replicate (x :: suf).length z68).set (pre.length : Int).toNat ⟨x.f0, x.f1, x.f2⟩ = (pre ++ [x]).map cvHole ++ List.replicate suf.length z68 := by
      rw [List.length_cons, List.replicate_succ, setAt _ _ _ _ _ (by simp)]
      simp [cvHole]
    rw [e]
    exact ih _ h5
theorem toHole_ev (l : List S70) (hl : l.length ≤ 1048576) : Ev (fun k => laws_toHoleS.f k l) (l.map cvHole) := by
  unfold laws_toHoleS.f
  refine evPos (by omega) (evPos (by omega) ?_)
  have := toHole_l0 l hl l [] rfl
  simpa using this
theorem eqHole_l0 (l : List S68) (hl : l.length ≤ 4611686018427387904) : ∀ (suf pre : List S68), l = pre ++ suf → Ev (fun k => laws_eqHoleS.l0 k l l (pre.length : Int)) true := by
  intro suf
  induction suf with
  | nil =>
    intro pre h
    refine Ev.step (fun k => laws_eqHoleS.l0.eq_2 ..) ?_
    simp only [rgEnd h, if_false]
    exact Ev.now _
  | cons x suf ih =>
    intro pre h
    obtain ⟨h1, h2, h3, h4, h5⟩ := rgHead h hl z68
    refine Ev.step (fun k => laws_eqHoleS.l0.eq_2 ..) ?_
    simp only [h1, h2, h3, if_true, laws_eqHole.f, Option.bind_some]
    exact ih _ h5
theorem eqHole_ev (l : List S68) (hl : l.length ≤ 4611686018427387904) : Ev (fun k => laws_eqHoleS.f k l l) true := by
  unfold laws_eqHoleS.f
  exact evPos rfl (eqHole_l0 l hl l [] rfl)
-- ** sheet
def hole (x : S68) : Prop := 0 ≤ x.f0 ∧ x.f0 ≤ 19 ∧ 0 ≤ x.f1 ∧ x.f1 < x.f2 ∧ x.f2 ≤ 2000
instance (x : S68) : Decidable (hole x) := by unfold hole; exact inferInstance
def hbef (a b : S68) : Prop := a.f1 < b.f1 ∨ (a.f1 = b.f1 ∧ a.f0 < b.f0)
instance (a b : S68) : Decidable (hbef a b) := by unfold hbef; exact inferInstance
def hfree (x y : S68) : Bool := !decide (y.f0 = x.f0 ∧ y.f2 ≥ x.f1)
def headOk (pre : List S68) (x : S68) : Bool := decide (hole x) && (decide (pre = [] ∨ hbef (pre.getD (pre.length - 1) z68) x) && pre.all (hfree x))
def goodFrom : List S68 → List S68 → Bool
  | _, [] => true
  | pre, x :: suf => headOk pre x && goodFrom (pre ++ [x]) suf
def goodSheet (l : List S68) : Bool := goodFrom [] l && decide (l.length ≤ 60)
theorem shHole_eq (x : S68) : spec_shHole.f x.f0 x.f1 x.f2 = some (decide (hole x)) := by
  unfold spec_shHole.f; simp only [in_eq, Option.bind_some, decide_eq_true_eq]
  split
  · split
    · rw [wrapi (by omega) (by omega)]; exact someD (by unfold hole; omega)
    · exact someF (by unfold hole; omega)
  · exact someF (by unfold hole; omega)
theorem isHole_eq (x : S68) : impl_IsHole.f x.f0 x.f1 x.f2 = some (decide (hole x)) := by
  unfold impl_IsHole.f impl_isTrack.f
  by_cases c : x.f0 ≥ 0
  · rw [if_pos c]; simp only [Option.bind_some, decide_eq_true_eq]
    split
    · split
      · split
        · exact someD (by unfold hole; omega)
        · exact someF (by unfold hole; omega)
      · exact someF (by unfold hole; omega)
    · exact someF (by unfold hole; omega)
  · rw [if_neg c]; simp only [Option.bind_some, Bool.false_eq_true, if_false]
    exact someF (by unfold hole; omega)
theorem shBefore_eq (a b : S68) : spec_shBefore.f a.f0 a.f1 a.f2 b.f0 b.f1 b.f2 = some (decide (hbef a b)) := by
  unfold spec_shBefore.f
  split
  · exact someT (by unfold hbef; omega)
  · split
    · exact someD (by unfold hbef; omega)
    · exact someF (by unfold hbef; omega)
theorem holeLess_eq (a b : S68) : impl_holeLess.f a.f0 a.f1 a.f2 b.f0 b.f1 b.f2 = some (decide (hbef a b)) := by
  unfold impl_holeLess.f
  split
  · exact someD (by unfold hbef; omega)
  · exact someD (by unfold hbef; omega)
theorem hfree_t {x y : S68} (h : ¬ (y.f0 = x.f0 ∧ y.f2 ≥ x.f1)) : hfree x y = true := by unfold hfree; rw [decide_eq_false h]; rfl
theorem hfree_f {x y : S68} (h : y.f0 = x.f0 ∧ y.f2 ≥ x.f1) : hfree x y = false := by unfold hfree; rw [decide_eq_true h]; rfl
theorem shGood_l1 (l : List S68) (i : Int) (x : S68) (l' : List S68) (n : Int) (q : Bool) (hq : Ev (fun k => spec_shGood.l0 k l l' n (wrap64 (i + 1))) q) (p : List S68) (hl : p.length ≤ 1048576) :
    ∀ (suf pre : List S68), p = pre ++ suf → Ev (fun k => spec_shGood.l1 k l l' n i p (p.length : Int) (pre.length : Int) x.f0 x.f1 x.f2) (suf.all (hfree x) && q) := by
  intro suf
  induction suf with
  | nil =>
    intro pre h
    refine Ev.step (fun k => spec_shGood.l1.eq_2 ..) ?_
    simp only [rgEnd h, if_false]
    exact evEq hq (by simp)
  | cons y suf ih =>
    intro pre h
    obtain ⟨h1, h2, h3, h4, h5⟩ := rgHead h (by omega) z68
    refine Ev.step (fun k => spec_shGood.l1.eq_2 ..) ?_
    simp only [h1, h2, h3, rd_T68, h4, if_true]
    refine evBy (fun c => evBy (fun c' => evNow (allBad (hfree_f ⟨c.symm, c'⟩))) (fun c' => evEq (ih _ h5) (allGood (hfree_t (fun r => c' r.2))))) (fun c => evEq (ih _ h5) (allGood (hfree_t (fun r => c r.1.symm))))
theorem shGood_l0 (l : List S68) (hl : l.length ≤ 1048576) : ∀ (suf pre : List S68), l = pre ++ suf → Ev (fun k => spec_shGood.l0 k l l (l.length : Int) (pre.length : Int)) (goodFrom pre suf && decide (l.length ≤ 60)) := by
  intro suf
  induction suf with
  | nil =>
    intro pre h
    refine Ev.step (fun k => spec_shGood.l0.eq_2 ..) ?_
    simp only [rgEnd h, if_false]
    exact evNow (by rw [goodFrom, Bool.true_and]; exact decD (by omega))
  | cons x suf ih =>
    intro pre h
    obtain ⟨h1, h2, h3, h4, h5⟩ := rgHead h (by omega) z68
    have hpl : pre.length ≤ 1048576 := by omega
    have hj : ∀ b : Bool, b = !decide (pre = [] ∨ hbef (pre.getD (pre.length - 1) z68) x) → hole x → Ev (fun k => spec_shGood.j1 k l (pre.length : Int) l (l.length : Int) (pre.length : Int) b x.f0 x.f1 x.f2) (goodFrom pre (x :: suf) && decide (l.length ≤ 60)) := by
      intro b hb hx
      refine Ev.step (fun k => spec_shGood.j1.eq_2 ..) ?_
      by_cases c : pre = [] ∨ hbef (pre.getD (pre.length - 1) z68) x
      · rw [decide_eq_true c] at hb; subst hb
        refine evNeg (by simp) (evPos h2 (evPos (by omega) ?_))
        simp only [Option.bind_some]
        have e : l.take (pre.length : Int).toNat = pre := by rw [h]; simp
        rw [e]
        refine evEq (shGood_l1 l (pre.length : Int) x l (l.length : Int) _ (by rw [h3]; exact ih _ h5) pre (by omega) pre [] rfl) ?_
        simp only [goodFrom, headOk, decide_eq_true hx, decide_eq_true c, Bool.true_and, Bool.and_assoc]
      · rw [decide_eq_false c] at hb; subst hb
        refine evPos rfl (evNow ?_)
        simp only [goodFrom, headOk, decide_eq_false c, Bool.false_and, Bool.and_false]
    refine Ev.step (fun k => spec_shGood.l0.eq_2 ..) ?_
    simp only [h1, h2, rd_T68, h4, if_true, shHole_eq, Option.bind_some, decide_eq_true_eq]
    refine evBy (fun hx => ?_) (fun hx => Ev.step (fun k => spec_shGood.j1.eq_2 ..) (evPos rfl (evNow (by simp only [goodFrom, headOk, decide_eq_false hx, Bool.false_and]))))
    by_cases c : 0 < pre.length
    · rw [wrapi (x := (pre.length : Int) - 1) (by omega) (by omega)]
      refine evPos (by omega) (evPos (by omega) (evPos (by omega) ?_))
      have e : l.getD ((pre.length : Int) - 1).toNat z68 = pre.getD (pre.length - 1) z68 := by
        rw [show ((pre.length : Int) - 1).toNat = pre.length - 1 by omega, h, List.getD_eq_getElem?_getD, List.getD_eq_getElem?_getD, List.getElem?_append_left (by omega)]
      rw [e, shBefore_eq]
      simp only [Option.bind_some]
      refine hj _ ?_ hx
      congr 1
      refine decide_eq_decide.mpr ⟨fun r => .inr r, fun r => r.resolve_left (fun z => by rw [z] at c; simp at c)⟩
    · refine evNeg (by omega) (hj _ ?_ hx)
      have : pre = [] := List.eq_nil_of_length_eq_zero (by omega)
      rw [decide_eq_true (Or.inl this)]; rfl
theorem shGood_ev {l : List S68} (hl : l.length ≤ 1048576) : Ev (fun k => spec_shGood.f k l) (goodSheet l) := shGood_l0 l hl l [] rfl
theorem isSheet_l1 (l : List S68) (i : Int) (x : S68) (l' : List S68) (n : Int) (q : Bool) (hq : Ev (fun k => impl_IsSheet.l0 k l l' n (wrap64 (i + 1))) q) (p : List S68) (hl : p.length ≤ 1048576) :
    ∀ (suf pre : List S68), p = pre ++ suf → Ev (fun k => impl_IsSheet.l1 k l l' n i p (p.length : Int) (pre.length : Int) x.f0 x.f1 x.f2) (suf.all (hfree x) && q) := by
  intro suf
  induction suf with
  | nil =>
    intro pre h
    refine Ev.step (fun k => impl_IsSheet.l1.eq_2 ..) ?_
    simp only [rgEnd h, if_false]
    exact evEq hq (by simp)
  | cons y suf ih =>
    intro pre h
    obtain ⟨h1, h2, h3, h4, h5⟩ := rgHead h (by omega) z68
    refine Ev.step (fun k => impl_IsSheet.l1.eq_2 ..) ?_
    simp only [h1, h2, h3, rd_T68, h4, if_true]
    refine evBy (fun c => evBy (fun c' => evNow (allBad (hfree_f ⟨c, c'⟩))) (fun c' => evEq (ih _ h5) (allGood (hfree_t (fun r => c' r.2))))) (fun c => evEq (ih _ h5) (allGood (hfree_t (fun r => c r.1))))
theorem isSheet_l0 (l : List S68) (hl : l.length ≤ 1048576) : ∀ (suf pre : List S68), l = pre ++ suf → Ev (fun k => impl_IsSheet.l0 k l l (l.length : Int) (pre.length : Int)) (goodFrom pre suf) := by
  intro suf
  induction suf with
  | nil =>
    intro pre h
    refine Ev.step (fun k => impl_IsSheet.l0.eq_2 ..) ?_
    simp only [rgEnd h, if_false]
    exact evNow (by rw [goodFrom])
  | cons x suf ih =>
    intro pre h
    obtain ⟨h1, h2, h3, h4, h5⟩ := rgHead h (by omega) z68
    have hpl : pre.length ≤ 1048576 := by omega
    have hj : ∀ b : Bool, b = !decide (pre = [] ∨ hbef (pre.getD (pre.length - 1) z68) x) → hole x → Ev (fun k => impl_IsSheet.j1 k l (pre.length : Int) l (l.length : Int) (pre.length : Int) b x.f0 x.f1 x.f2) (goodFrom pre (x :: suf)) := by
      intro b hb hx
      refine Ev.step (fun k => impl_IsSheet.j1.eq_2 ..) ?_
      by_cases c : pre = [] ∨ hbef (pre.getD (pre.length - 1) z68) x
      · rw [decide_eq_true c] at hb; subst hb
        refine evNeg (by simp) (evPos h2 (evPos (by omega) ?_))
        simp only [Option.bind_some]
        have e : l.take (pre.length : Int).toNat = pre := by rw [h]; simp
        rw [e]
        refine evEq (isSheet_l1 l (pre.length : Int) x l (l.length : Int) _ (by rw [h3]; exact ih _ h5) pre (by omega) pre [] rfl) ?_
        simp only [goodFrom, headOk, decide_eq_true hx, decide_eq_true c, Bool.true_and]
      · rw [decide_eq_false c] at hb; subst hb
        refine evPos rfl (evNow ?_)
        simp only [goodFrom, headOk, decide_eq_false c, Bool.false_and, Bool.and_false]
    refine Ev.step (fun k => impl_IsSheet.l0.eq_2 ..) ?_
    simp only [h1, h2, rd_T68, h4, if_true, isHole_eq, Option.bind_some, decide_eq_true_eq]
    refine evBy (fun hx => ?_) (fun hx => Ev.step (fun k => impl_IsSheet.j1.eq_2 ..) (evPos rfl (evNow (by simp only [goodFrom, headOk, decide_eq_false hx, Bool.false_and]))))
    by_cases c : 0 < pre.length
    · rw [wrapi (x := (pre.length : Int) - 1) (by omega) (by omega)]
      refine evPos (by omega) (evPos (by omega) (evPos (by omega) ?_))
      have e : l.getD ((pre.length : Int) - 1).toNat z68 = pre.getD (pre.length - 1) z68 := by
        rw [show ((pre.length : Int) - 1).toNat = pre.length - 1 by omega, h, List.getD_eq_getElem?_getD, List.getD_eq_getElem?_getD, List.getElem?_append_left (by omega)]
      rw [e, holeLess_eq]
      simp only [Option.bind_some]
      refine hj _ ?_ hx
      congr 1
      refine decide_eq_decide.mpr ⟨fun r => .inr r, fun r => r.resolve_left (fun z => by rw [z] at c; simp at c)⟩
    · refine evNeg (by omega) (hj _ ?_ hx)
      have : pre = [] := List.eq_nil_of_length_eq_zero (by omega)
      rw [decide_eq_true (Or.inl this)]; rfl
theorem isSheet_ev {l : List S68} (hl : l.length ≤ 1048576) : Ev (fun k => impl_IsSheet.f k l) (goodSheet l) := by
  unfold impl_IsSheet.f goodSheet
  refine evBy (fun c => evNow ?_) (fun c => evEq (isSheet_l0 l hl l [] rfl) ?_)
  · rw [show decide (l.length ≤ 60) = false from decide_eq_false (by omega), Bool.and_false]
  · rw [show decide (l.length ≤ 60) = true from decide_eq_true (by omega), Bool.and_true]
-- ** put
def put : List Int → Int → List Int
  | [], n => [n]
  | a :: l, n => if a < n then a :: put l n else if a = n then a :: l else n :: a :: l
theorem put_len : ∀ (l : List Int) (n : Int), (put l n).length ≤ l.length + 1
  | [], n => by simp [put]
  | a :: l, n => by
    have := put_len l n
    simp only [put]; split
    · simp; omega
    · split <;> simp
theorem put_ne : ∀ (l : List Int) (n : Int), put l n ≠ []
  | [], n => by simp [put]
  | a :: l, n => by
    simp only [put]; split
    · simp
    · split <;> simp
theorem l1Put_l0 (l : List Int) (n : Int) (hl : l.length ≤ 1048576) : ∀ (suf pre : List Int), l = pre ++ suf → Ev (fun k => spec_l1Put.l0 k l n (pre.length : Int)) (pre ++ put suf n) := by
  intro suf
  induction suf with
  | nil =>
    intro pre h
    have hp : pre.length ≤ 1048576 := by rw [h] at hl; simpa using hl
    have hL : l.length = pre.length := by rw [h]; simp
    have e1 : l.take (pre.length : Int).toNat = pre := by rw [h]; simp
    have e2 : l.drop (pre.length : Int).toNat = [] := by rw [h]; simp
    refine Ev.step (fun k => spec_l1Put.l0.eq_2 ..) ?_
    simp only [rgEnd h, if_false, Option.bind_some, e1, e2]
    repeat' first | (refine evPos (by first | omega | (simp; omega)) ?_)
    exact evNow (by simp [put])
  | cons x suf ih =>
    intro pre h
    obtain ⟨h1, h2, h3, h4, h5⟩ := rgHead h (by omega) 0
    have hp : pre.length + (suf.length + 1) ≤ 1048576 := by rw [h] at hl; simpa using hl
    have hL : l.length = pre.length + (suf.length + 1) := by rw [h]; simp
    have e1 : l.take (pre.length : Int).toNat = pre := by rw [h]; simp
    have e2 : l.drop (pre.length : Int).toNat = x :: suf := by rw [h]; simp
    refine Ev.step (fun k => spec_l1Put.l0.eq_2 ..) ?_
    simp only [h1, h2, h3, rd, h4, if_true, Option.bind_some, e1, e2]
    refine evBy (fun c => evEq (ih _ h5) (by simp [put, c])) (fun c => evBy (fun c' => evNow (by rw [h]; simp [put, c'])) (fun c' => ?_))
    repeat' first | (refine evPos (by first | omega | (simp; omega)) ?_)
    exact evNow (by simp [put, c, c'])
theorem l1Put_ev {l : List Int} (hl : l.length ≤ 1048576) (n : Int) : Ev (fun k => spec_l1Put.f k l n) (put l n) := by
  unfold spec_l1Put.f; exact l1Put_l0 l n hl l [] rfl
-- ** most
theorem l1Most_eq (a b : Int) : spec_l1Most.f a b = some (max a b) := by
  unfold spec_l1Most.f; split <;> (congr 1; omega)
-- ** shopen
theorem goodFrom_hole : ∀ {suf pre : List S68}, goodFrom pre suf = true → ∀ x, x ∈ suf → hole x
  | [], _, _, x, hx => by simp at hx
  | y :: suf, pre, h, x, hx => by
    simp only [goodFrom, headOk, Bool.and_eq_true, decide_eq_true_eq] at h
    rcases List.mem_cons.1 hx with r | r
    · subst r; exact h.1.1
    · exact goodFrom_hole h.2 x r
theorem goodSheet_hole {l : List S68} (h : goodSheet l = true) : ∀ x, x ∈ l → hole x := by
  simp only [goodSheet, Bool.and_eq_true] at h; exact goodFrom_hole h.1
theorem goodSheet_len {l : List S68} (h : goodSheet l = true) : l.length ≤ 60 := by
  simp only [goodSheet, Bool.and_eq_true, decide_eq_true_eq] at h; exact h.2
def isOpn (s : Int) (x : S68) : Prop := x.f1 ≤ s ∧ s < x.f2
instance (s : Int) (x : S68) : Decidable (isOpn s x) := by unfold isOpn; exact inferInstance
def opn (s : Int) : List Int → List S68 → List Int
  | acc, [] => acc
  | acc, x :: l => opn s (if isOpn s x then put acc x.f0 else acc) l
theorem shOpen_l0 (s : Int) (l : List S68) (hl : l.length ≤ 1000) (hh : ∀ x, x ∈ l → hole x) : ∀ (suf pre : List S68) (acc : List Int), l = pre ++ suf → acc.length ≤ pre.length →
    Ev (fun k => spec_shOpen.l0 k s acc l (l.length : Int) (pre.length : Int)) (opn s acc suf) := by
  intro suf
  induction suf with
  | nil =>
    intro pre acc h ha
    refine Ev.step (fun k => spec_shOpen.l0.eq_2 ..) ?_
    simp only [rgEnd h, if_false]
    exact evNow (by simp [opn])
  | cons x suf ih =>
    intro pre acc h ha
    obtain ⟨h1, h2, h3, h4, h5⟩ := rgHead h (by omega) z68
    have hx := hh x (by rw [h]; simp)
    unfold hole at hx
    have hpl : pre.length ≤ 1000 := by omega
    refine Ev.step (fun k => spec_shOpen.l0.eq_2 ..) ?_
    simp only [h1, h2, h3, rd_T68, h4, if_true, in_eq, Option.bind_some, decide_eq_true_eq]
    rw [wrapi (x := x.f2 - 1) (by omega) (by omega)]
    simp only [opn]
    have hput := put_len acc x.f0
    refine evBy (fun c => Ev.bind (l1Put_ev (by omega) x.f0) ?_) (fun c => ?_)
    · rw [if_pos (show isOpn s x by unfold isOpn; omega)]
      exact ih _ _ h5 (by simp; omega)
    · rw [if_neg (show ¬ isOpn s x by unfold isOpn; omega)]
      exact ih _ _ h5 (by simp; omega)
theorem shOpen_ev {l : List S68} (hg : goodSheet l = true) (s : Int) : Ev (fun k => spec_shOpen.f k l s) (opn s [] l) := by
  unfold spec_shOpen.f
  have := goodSheet_len hg
  exact shOpen_l0 s l (by omega) (goodSheet_hole hg) l [] [] rfl (by simp)
def lenS : Int → List S68 → Int
  | e, [] => e
  | e, x :: l => lenS (max e x.f2) l
theorem shLength_l0 (l : List S68) (hl : l.length ≤ 1048576) : ∀ (suf pre : List S68) (e : Int), l = pre ++ suf → Ev (fun k => spec_shLength.l0 k e l (l.length : Int) (pre.length : Int)) (lenS e suf) := by
  intro suf
  induction suf with
  | nil =>
    intro pre e h
    refine Ev.step (fun k => spec_shLength.l0.eq_2 ..) ?_
    simp only [rgEnd h, if_false]
    exact evNow (by simp [lenS])
  | cons x suf ih =>
    intro pre e h
    obtain ⟨h1, h2, h3, h4, h5⟩ := rgHead h (by omega) z68
    refine Ev.step (fun k => spec_shLength.l0.eq_2 ..) ?_
    simp only [h1, h2, h3, rd_T68, h4, if_true, l1Most_eq, Option.bind_some, lenS]
    exact ih _ _ h5
theorem shLength_ev {l : List S68} (hl : l.length ≤ 1048576) : Ev (fun k => spec_shLength.f k l) (lenS 0 l) := by
  unfold spec_shLength.f; exact shLength_l0 l hl l [] 0 rfl
theorem lenS_bd : ∀ {l : List S68} {e : Int}, (∀ x, x ∈ l → hole x) → 0 ≤ e → e ≤ 2000 → 0 ≤ lenS e l ∧ lenS e l ≤ 2000
  | [], e, _, h0, h1 => ⟨h0, h1⟩
  | x :: l, e, h, h0, h1 => by
    have hx := h x (by simp)
    unfold hole at hx
    exact lenS_bd (l := l) (e := max e x.f2) (fun y hy => h y (by simp [hy])) (by omega) (by omega)
-- ** FnExactQuietSteps
theorem put_none (s : Int) : ∀ (l : List S68) (acc : List Int), opn s acc l = [] ↔ acc = [] ∧ ∀ x, x ∈ l → ¬ isOpn s x
  | [], acc => by simp [opn]
  | x :: l, acc => by
    simp only [opn, put_none s l, List.mem_cons, forall_eq_or_imp]
    by_cases c : isOpn s x
    · simp [c, put_ne]
    · simp [c]
def unc (l : List S68) (s : Int) : Prop := ∀ x, x ∈ l → ¬ isOpn s x
instance (l : List S68) (s : Int) : Decidable (unc l s) := by unfold unc; exact inferInstance
def cnt (l : List S68) : Nat → Int → Int
  | 0, _ => 0
  | d + 1, s => (if unc l s then 1 else 0) + cnt l d (s + 1)
theorem cnt_add (l : List S68) : ∀ (m n : Nat) (s : Int), cnt l (m + n) s = cnt l m s + cnt l n (s + m)
  | 0, n, s => by simp [cnt]
  | m + 1, n, s => by
    rw [show m + 1 + n = (m + n) + 1 by omega]
    simp only [cnt]
    rw [cnt_add l m n (s + 1), show s + 1 + (m : Int) = s + ((m + 1 : Nat) : Int) by omega]; omega
theorem cnt_congr {l l' : List S68} : ∀ (n : Nat) (s : Int), (∀ t, s ≤ t → t < s + n → (unc l t ↔ unc l' t)) → cnt l n s = cnt l' n s
  | 0, s, _ => rfl
  | n + 1, s, h => by
    simp only [cnt]
    rw [cnt_congr n (s + 1) (fun t h0 h1 => h t (by omega) (by omega))]
    have := h s (by omega) (by omega)
    by_cases c : unc l s
    · rw [if_pos c, if_pos (this.1 c)]
    · rw [if_neg c, if_neg (fun r => c (this.2 r))]
theorem cnt_all {l : List S68} : ∀ (n : Nat) (s : Int), (∀ t, s ≤ t → t < s + n → unc l t) → cnt l n s = n
  | 0, s, _ => rfl
  | n + 1, s, h => by
    simp only [cnt]
    rw [cnt_all n (s + 1) (fun t h0 h1 => h t (by omega) (by omega)), if_pos (h s (by omega) (by omega))]; omega
theorem cnt_none {l : List S68} : ∀ (n : Nat) (s : Int), (∀ t, s ≤ t → t < s + n → ¬ unc l t) → cnt l n s = 0
  | 0, s, _ => rfl
  | n + 1, s, h => by
    simp only [cnt]
    rw [cnt_none n (s + 1) (fun t h0 h1 => h t (by omega) (by omega)), if_neg (h s (by omega) (by omega))]; omega
theorem lenS_snoc : ∀ (l : List S68) (e : Int) (x : S68), lenS e (l ++ [x]) = max (lenS e l) x.f2
  | [], e, x => rfl
  | y :: l, e, x => by simp only [List.cons_append, lenS]; exact lenS_snoc l _ x
theorem lenS_ge : ∀ (l : List S68) (e : Int), e ≤ lenS e l ∧ ∀ x, x ∈ l → x.f2 ≤ lenS e l
  | [], e => by simp [lenS]
  | y :: l, e => by
    have h := lenS_ge l (max e y.f2)
    simp only [lenS, List.mem_cons, forall_eq_or_imp]
    exact ⟨by omega, by omega, h.2⟩
theorem lenS_at : ∀ (l : List S68) (e s : Int), e ≤ s → s < lenS e l → ∃ x, x ∈ l ∧ s < x.f2
  | [], e, s, h0, h1 => by simp [lenS] at h1; omega
  | y :: l, e, s, h0, h1 => by
    simp only [lenS] at h1
    by_cases c : s < y.f2
    · exact ⟨y, by simp, c⟩
    · obtain ⟨x, hx, hs⟩ := lenS_at l (max e y.f2) s (by omega) h1
      exact ⟨x, by simp [hx], hs⟩
theorem cnt_snoc {pre : List S68} {x : S68} (hx : hole x) (_ : ∀ y, y ∈ pre → hole y) (hf : ∀ y, y ∈ pre → y.f1 ≤ x.f1) :
    cnt (pre ++ [x]) (lenS 0 (pre ++ [x])).toNat 0 = cnt pre (lenS 0 pre).toNat 0 + max 0 (x.f1 - lenS 0 pre) := by
  have hg := lenS_ge pre 0
  unfold hole at hx
  rw [lenS_snoc]
  have un : ∀ t, unc (pre ++ [x]) t ↔ unc pre t ∧ ¬ isOpn t x := fun t =>
    ⟨fun h => ⟨fun y hy => h y (List.mem_append_left _ hy), h x (by simp)⟩, fun h y hy => by
      rcases List.mem_append.1 hy with r | r
      · exact h.1 y r
      · rw [List.mem_singleton] at r; subst r; exact h.2⟩
  have first : cnt (pre ++ [x]) (lenS 0 pre).toNat 0 = cnt pre (lenS 0 pre).toNat 0 := by
    refine cnt_congr _ _ (fun t h0 h1 => ?_)
    rw [un]
    refine ⟨fun r => r.1, fun r => ⟨r, fun o => ?_⟩⟩
    obtain ⟨y, hy, hs⟩ := lenS_at pre 0 t h0 (by omega)
    have := hf y hy
    unfold isOpn at o
    exact r y hy ⟨by omega, hs⟩
  by_cases c : x.f2 ≤ lenS 0 pre
  · rw [show max (lenS 0 pre) x.f2 = lenS 0 pre by omega, first]; omega
  · rw [show max (lenS 0 pre) x.f2 = x.f2 by omega]
    have a1 : x.f2.toNat = (lenS 0 pre).toNat + ((max 0 (x.f1 - lenS 0 pre)).toNat + (x.f2 - max x.f1 (lenS 0 pre)).toNat) := by omega
    rw [a1, cnt_add, cnt_add, first]
    rw [cnt_all (max 0 (x.f1 - lenS 0 pre)).toNat _ (fun t h0 h1 => by
      rw [un]
      refine ⟨fun y hy o => ?_, fun o => ?_⟩
      · have := hg.2 y hy
        unfold isOpn at o; omega
      · unfold isOpn at o; omega)]
    rw [cnt_none (x.f2 - max x.f1 (lenS 0 pre)).toNat _ (fun t h0 h1 r => by
      rw [un] at r
      exact r.2 ⟨by omega, by omega⟩)]
    omega
def quiet : Int → Int → List S68 → Int
  | q, _, [] => q
  | q, e, x :: l => quiet (q + max 0 (x.f1 - e)) (max e x.f2) l
theorem hbef_le {a b : S68} (h : hbef a b) : a.f1 ≤ b.f1 := by unfold hbef at h; omega
theorem quiet_eq : ∀ (suf pre : List S68), goodFrom pre suf = true → (∀ y, y ∈ pre → hole y) → (∀ y, y ∈ pre → y.f1 ≤ (pre.getD (pre.length - 1) z68).f1) →
    quiet (cnt pre (lenS 0 pre).toNat 0) (lenS 0 pre) suf = cnt (pre ++ suf) (lenS 0 (pre ++ suf)).toNat 0
  | [], pre, _, _, _ => by simp [quiet]
  | x :: suf, pre, h, hp, hs => by
    simp only [goodFrom, headOk, Bool.and_eq_true, decide_eq_true_eq] at h
    have hf : ∀ y, y ∈ pre → y.f1 ≤ x.f1 := fun y hy => by
      rcases h.1.2.1 with r | r
      · rw [r] at hy; simp at hy
      · have := hbef_le r
        have := hs y hy
        omega
    simp only [quiet]
    rw [← cnt_snoc h.1.1 hp hf, ← lenS_snoc pre 0 x]
    have := quiet_eq suf (pre ++ [x]) h.2 (fun y hy => by
      rcases List.mem_append.1 hy with r | r
      · exact hp y r
      · rw [List.mem_singleton] at r; subst r; exact h.1.1) (fun y hy => by
      simp
      rcases List.mem_append.1 hy with r | r
      · exact hf y r
      · rw [List.mem_singleton] at r; subst r; exact Int.le_refl _)
    rw [this]; simp
theorem quietSpec_l0 {l : List S68} (hg : goodSheet l = true) : ∀ (d : Nat) (s q : Int), s + d = lenS 0 l → 0 ≤ s → 0 ≤ q → q ≤ s → Ev (fun k => spec_QuietSteps.l0 k l q s) (q + cnt l d s, true) := by
  have hb := lenS_bd (goodSheet_hole hg) (e := 0) (by omega) (by omega)
  have hl := goodSheet_len hg
  intro d
  induction d with
  | zero =>
    intro s q hs h0 hq hq'
    refine Ev.step (fun k => spec_QuietSteps.l0.eq_2 ..) (Ev.bind (shLength_ev (by omega)) (evNeg (by omega) (evNow ?_)))
    simp [cnt]
  | succ d ih =>
    intro s q hs h0 hq hq'
    refine Ev.step (fun k => spec_QuietSteps.l0.eq_2 ..) (Ev.bind (shLength_ev (by omega)) (evPos (by omega) (Ev.bind (shOpen_ev hg s) ?_)))
    rw [wrapi (x := q + 1) (by omega) (by omega), wrapi (x := s + 1) (by omega) (by omega)]
    have e : ((opn s [] l).length : Int) = 0 ↔ unc l s := by
      have := put_none s l []
      simp only [true_and] at this
      rw [← show _ ↔ unc l s from this]
      exact ⟨fun r => List.eq_nil_of_length_eq_zero (by omega), fun r => by rw [r]; rfl⟩
    simp only [cnt]
    refine evBy (fun c => evEq (ih _ _ (by omega) (by omega) (by omega) (by omega)) ?_) (fun c => evEq (ih _ _ (by omega) (by omega) (by omega) (by omega)) ?_)
    · rw [if_pos (e.1 c), Int.add_assoc]
    · rw [if_neg (fun r => c (e.2 r)), Int.zero_add]
def quietRes (l : List S68) : Int × Bool := if goodSheet l = true then (quiet 0 0 l, true) else (0, false)
theorem specQuiet_ev {l : List S68} (hl : l.length ≤ 1048576) : Ev (fun k => spec_QuietSteps.f k l) (quietRes l) := by
  unfold spec_QuietSteps.f quietRes
  refine Ev.bind (shGood_ev hl) (evIte (fun c => ?_) (fun c => Ev.now _))
  have hb := lenS_bd (goodSheet_hole c) (e := 0) (by omega) (by omega)
  refine evEq (quietSpec_l0 c (lenS 0 l).toNat 0 0 (by omega) (by omega) (by omega) (by omega)) ?_
  have c' : goodFrom [] l = true := by simp only [goodSheet, Bool.and_eq_true] at c; exact c.1
  have := quiet_eq l [] c' (by simp) (by simp)
  simp only [lenS, cnt, Int.toNat_zero, List.nil_append] at this
  rw [this, Int.zero_add]
theorem quietImpl_l0 {l : List S68} (hg : goodSheet l = true) : ∀ (suf pre : List S68) (q e : Int), l = pre ++ suf → 0 ≤ q → q ≤ 2000 * (pre.length : Int) → 0 ≤ e → e ≤ 2000 →
    Ev (fun k => impl_QuietSteps.l0 k q e l (l.length : Int) (pre.length : Int)) (quiet q e suf, true) := by
  have hl := goodSheet_len hg
  intro suf
  induction suf with
  | nil =>
    intro pre q e h h0 hq h1 he
    refine Ev.step (fun k => impl_QuietSteps.l0.eq_2 ..) ?_
    simp only [rgEnd h, if_false]
    exact evNow (by simp [quiet])
  | cons x suf ih =>
    intro pre q e h h0 hq k1 he
    obtain ⟨h1, h2, h3, h4, h5⟩ := rgHead h (by omega) z68
    have hx := goodSheet_hole hg x (by rw [h]; simp)
    unfold hole at hx
    have hpl : pre.length ≤ 60 := by omega
    refine Ev.step (fun k => impl_QuietSteps.l0.eq_2 ..) ?_
    simp only [h1, h2, h3, rd_T68, h4, if_true, mx_eq, quiet]
    rw [wrapi (x := x.f1 - e) (by omega) (by omega), wrapi (x := q + max 0 (x.f1 - e)) (by omega) (by omega)]
    exact ih _ _ _ h5 (by omega) (by simp; omega) (by omega) (by omega)
theorem implQuiet_ev {l : List S68} (hl : l.length ≤ 1048576) : Ev (fun k => impl_QuietSteps.f k l) (quietRes l) := by
  unfold impl_QuietSteps.f quietRes
  refine Ev.bind (isSheet_ev hl) (evIte (fun c => ?_) (fun c => Ev.now _))
  exact quietImpl_l0 c l [] 0 0 rfl (by omega) (by simp) (by omega) (by omega)
theorem FnExactQuietSteps (l0 : List S70) (w0 : Opn.Lst (fun x : S70 => Opn.I64 x.f0 ∧ Opn.I64 x.f1 ∧ Opn.I64 x.f2) l0) : ∃ k, laws_FnExactQuietSteps.f k l0 = some true := by
  refine Ev.rounds (g := fun k => laws_FnExactQuietSteps.f k l0) ?_
  unfold laws_FnExactQuietSteps.f
  rw [szHole_eq l0 w0.1]
  simp only [Option.bind_some]
  by_cases c : l0.length ≤ 1048576
  · rw [if_pos c]
    have hm : (l0.map cvHole).length ≤ 1048576 := by simpa using c
    refine evNeg (by omega) (Ev.bind (toHole_ev l0 c) (Ev.bind (specQuiet_ev hm) (Ev.bind (toHole_ev l0 c) (Ev.bind (implQuiet_ev hm) ?_))))
    simp only [bne_self_eq_false, if_true]
    exact Ev.step (fun k => laws_FnExactQuietSteps.j0.eq_2 ..) (evNeg (by simp) (Ev.bind (toHole_ev l0 c) (Ev.bind (eqHole_ev _ (by omega)) (evPos rfl (Ev.now _)))))
  · rw [if_neg c]
    exact evPos (by omega) (Ev.now _)
end Go.Proofs.Ytlficoabcpmjdaa.Pure
