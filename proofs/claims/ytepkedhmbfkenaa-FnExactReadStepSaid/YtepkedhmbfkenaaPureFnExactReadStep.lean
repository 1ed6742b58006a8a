/- The program's ReadStep returns what the reference's returns, for all arguments.: the plain part: what the program computes and what the reference computes agree, for all arguments. No conditions beyond the arguments' own kinds. -/
import Derived.Test.YtepkedhmbfkenaaPRsx0
import Derived.Test.YtepkedhmbfkenaaPRsx1
import Derived.Test.YtepkedhmbfkenaaPRsx2
import Derived.Test.YtepkedhmbfkenaaPRsx3
import Derived.Test.YtepkedhmbfkenaaPRsx4
import Derived.Test.YtepkedhmbfkenaaPRsx5
import Derived.Test.YtepkedhmbfkenaaPRsx6
import Derived.Test.YtepkedhmbfkenaaPRsx7
import Derived.Test.YtepkedhmbfkenaaPRsx8
import Derived.Test.YtepkedhmbfkenaaPRsx9
import Derived.Test.YtepkedhmbfkenaaPRsx10
import Derived.Test.YtepkedhmbfkenaaPRsx11
import Derived.Test.YtepkedhmbfkenaaPRsx12
import Derived.Test.YtepkedhmbfkenaaOpn
namespace Go.Proofs.Ytepkedhmbfkenaa.Pure
open Go.RowKit Go.Proofs.Ytepkedhmbfkenaa.PRs Go.Proofs.YtepkedhmbfkenaaW.PrintWords Go.Proofs.YtepkedhmbfkenaaW.PrintLast Go.Proofs.YtepkedhmbfkenaaW.PrintMore
-- ** base
theorem wrapi {x : Int} (h0 : -9223372036854775808 ≤ x) (h1 : x ≤ 9223372036854775807) : wrap64 x = x := by unfold wrap64; omega
theorem evPos {α : Type} {c : Prop} [Decidable c] {g f : Nat → Option α} {r : α} (h : c) (e : Ev g r) : Ev (fun k => if c then g k else f k) r := by
  simp only [if_pos h]; exact e
theorem evNeg {α : Type} {c : Prop} [Decidable c] {g f : Nat → Option α} {r : α} (h : ¬ c) (e : Ev f r) : Ev (fun k => if c then g k else f k) r := by
  simp only [if_neg h]; exact e
theorem evC {α β : Type} {o : Option α} {f : Nat → α → Option β} {a : α} {r : β} (h : o = some a) (e : Ev (fun n => f n a) r) : Ev (fun n => o.bind (f n)) r := by
  subst h; exact e
theorem evNow {α : Type} {r q : α} (h : r = q) : Ev (fun _ => some r) q := by subst h; exact Ev.now r
theorem evEq {α : Type} {g : Nat → Option α} {r q : α} (h : Ev g r) (e : r = q) : Ev g q := e ▸ h
theorem evIte {α : Type} {c : Prop} [Decidable c] {g f : Nat → Option α} {r q : α} (h : c → Ev g r) (h' : ¬ c → Ev f q) : Ev (fun k => if c then g k else f k) (if c then r else q) := by
  by_cases hc : c
  · simp only [if_pos hc]; exact h hc
  · simp only [if_neg hc]; exact h' hc
theorem evBy {α : Type} {c : Prop} [Decidable c] {g f : Nat → Option α} {r : α} (h : c → Ev g r) (h' : ¬ c → Ev f r) : Ev (fun k => if c then g k else f k) r := by
  by_cases hc : c
  · simp only [if_pos hc]; exact h hc
  · simp only [if_neg hc]; exact h' hc
theorem someT {p : Prop} [Decidable p] (h : p) : some true = some (decide p) := by rw [decide_eq_true h]
theorem someF {p : Prop} [Decidable p] (h : ¬ p) : some false = some (decide p) := by rw [decide_eq_false h]
theorem someD {p q : Prop} [Decidable p] [Decidable q] (h : p ↔ q) : some (decide p) = some (decide q) := by rw [decide_eq_decide.mpr h]
theorem decT {p : Prop} [Decidable p] (h : p) : true = decide p := by rw [decide_eq_true h]
theorem decF {p : Prop} [Decidable p] (h : ¬ p) : false = decide p := by rw [decide_eq_false h]
theorem decD {p q : Prop} [Decidable p] [Decidable q] (h : p ↔ q) : decide p = decide q := decide_eq_decide.mpr h
theorem allBad {α : Type} {p : α → Bool} {x : α} {suf : List α} {q : Bool} (h : p x = false) : false = ((x :: suf).all p && q) := by simp [h]
theorem allGood {α : Type} {p : α → Bool} {x : α} {suf : List α} {q : Bool} (h : p x = true) : (suf.all p && q) = ((x :: suf).all p && q) := by simp [h]
theorem rgEnd {α : Type} {l pre : List α} (h : l = pre ++ []) : ¬ ((pre.length : Int) < (l.length : Int)) := by subst h; simp
theorem rgHead {α : Type} {l pre suf : List α} {x : α} (h : l = pre ++ x :: suf) (hl : l.length ≤ 4611686018427387904) (z : α) :
    (pre.length : Int) < (l.length : Int) ∧ (0 : Int) ≤ (pre.length : Int) ∧ wrap64 ((pre.length : Int) + 1) = ((pre ++ [x]).length : Int) ∧ l.getD (pre.length : Int).toNat z = x ∧ l = (pre ++ [x]) ++ suf := by
  subst h
  simp at hl
  refine ⟨by simp; omega, by omega, ?_, by simp, by simp⟩
  rw [wrapi (by omega) (by omega)]; simp
theorem in_eq (a b c : Int) : spec_l1In.f a b c = some (decide (b ≤ a ∧ a ≤ c)) := by
  unfold spec_l1In.f
  split
  · exact someD (by omega)
  · exact someF (by omega)
-- ** lists
theorem setAt {α : Type} (A B : List α) (z v : α) (n : Nat) (h : n = A.length) : (A ++ z :: B).set n v = A ++ v :: B := by subst h; simp
theorem getAt {α : Type} (A B : List α) (z v : α) (n : Nat) (h : n = A.length) : (A ++ v :: B).getD n z = v := by subst h; simp
-- ** sheet
def hole (x : S137) : Prop := 0 ≤ x.f0 ∧ x.f0 ≤ 19 ∧ 0 ≤ x.f1 ∧ x.f1 < x.f2 ∧ x.f2 ≤ 2000
instance (x : S137) : Decidable (hole x) := by unfold hole; exact inferInstance
def hbef (a b : S137) : Prop := a.f1 < b.f1 ∨ (a.f1 = b.f1 ∧ a.f0 < b.f0)
instance (a b : S137) : Decidable (hbef a b) := by unfold hbef; exact inferInstance
def hfree (x y : S137) : Bool := !decide (y.f0 = x.f0 ∧ y.f2 ≥ x.f1)
def headOk (pre : List S137) (x : S137) : Bool := decide (hole x) && (decide (pre = [] ∨ hbef (pre.getD (pre.length - 1) z137) x) && pre.all (hfree x))
def goodFrom : List S137 → List S137 → Bool
  | _, [] => true
  | pre, x :: suf => headOk pre x && goodFrom (pre ++ [x]) suf
def goodSheet (l : List S137) : Bool := goodFrom [] l && decide (l.length ≤ 60)
theorem shHole_eq (x : S137) : spec_shHole.f x.f0 x.f1 x.f2 = some (decide (hole x)) := by
  unfold spec_shHole.f; simp only [in_eq, Option.bind_some, decide_eq_true_eq]
  split
  · split
    · rw [wrapi (by omega) (by omega)]; exact someD (by unfold hole; omega)
    · exact someF (by unfold hole; omega)
  · exact someF (by unfold hole; omega)
theorem isHole_eq (x : S137) : impl_IsHole.f x.f0 x.f1 x.f2 = some (decide (hole x)) := by
  unfold impl_IsHole.f impl_isTrack.f
  by_cases c : x.f0 ≥ 0
  · rw [if_pos c]; simp only [Option.bind_some, decide_eq_true_eq]
    split
    · split
      · split
        · exact someD (by unfold hole; omega)
        · exact someF (by unfold hole; omega)
      · exact someF (by unfold hole; omega)
    · exact someF (by unfold hole; omega)
  · rw [if_neg c]; simp only [Option.bind_some, Bool.false_eq_true, if_false]
    exact someF (by unfold hole; omega)
theorem shBefore_eq (a b : S137) : spec_shBefore.f a.f0 a.f1 a.f2 b.f0 b.f1 b.f2 = some (decide (hbef a b)) := by
  unfold spec_shBefore.f
  split
  · exact someT (by unfold hbef; omega)
  · split
    · exact someD (by unfold hbef; omega)
    · exact someF (by unfold hbef; omega)
theorem holeLess_eq (a b : S137) : impl_holeLess.f a.f0 a.f1 a.f2 b.f0 b.f1 b.f2 = some (decide (hbef a b)) := by
  unfold impl_holeLess.f
  split
  · exact someD (by unfold hbef; omega)
  · exact someD (by unfold hbef; omega)
theorem hfree_t {x y : S137} (h : ¬ (y.f0 = x.f0 ∧ y.f2 ≥ x.f1)) : hfree x y = true := by unfold hfree; rw [decide_eq_false h]; rfl
theorem hfree_f {x y : S137} (h : y.f0 = x.f0 ∧ y.f2 ≥ x.f1) : hfree x y = false := by unfold hfree; rw [decide_eq_true h]; rfl
theorem shGood_l1 (l : List S137) (i : Int) (x : S137) (l' : List S137) (n : Int) (q : Bool) (hq : Ev (fun k => spec_shGood.l0 k l l' n (wrap64 (i + 1))) q) (p : List S137) (hl : p.length ≤ 1048576) :
    ∀ (suf pre : List S137), p = pre ++ suf → Ev (fun k => spec_shGood.l1 k l l' n i p (p.length : Int) (pre.length : Int) x.f0 x.f1 x.f2) (suf.all (hfree x) && q) := by
  intro suf
  induction suf with
  | nil =>
    intro pre h
    refine Ev.step (fun k => spec_shGood.l1.eq_2 ..) ?_
    simp only [rgEnd h, if_false]
    exact evEq hq (by simp)
  | cons y suf ih =>
    intro pre h
    obtain ⟨h1, h2, h3, h4, h5⟩ := rgHead h (by omega) z137
    refine Ev.step (fun k => spec_shGood.l1.eq_2 ..) ?_
    simp only [h1, h2, h3, rd_T137, h4, if_true]
    refine evBy (fun c => evBy (fun c' => evNow (allBad (hfree_f ⟨c.symm, c'⟩))) (fun c' => evEq (ih _ h5) (allGood (hfree_t (fun r => c' r.2))))) (fun c => evEq (ih _ h5) (allGood (hfree_t (fun r => c r.1.symm))))
theorem shGood_l0 (l : List S137) (hl : l.length ≤ 1048576) : ∀ (suf pre : List S137), l = pre ++ suf → Ev (fun k => spec_shGood.l0 k l l (l.length : Int) (pre.length : Int)) (goodFrom pre suf && decide (l.length ≤ 60)) := by
  intro suf
  induction suf with
  | nil =>
    intro pre h
    refine Ev.step (fun k => spec_shGood.l0.eq_2 ..) ?_
    simp only [rgEnd h, if_false]
    exact evNow (by rw [goodFrom, Bool.true_and]; exact decD (by omega))
  | cons x suf ih =>
    intro pre h
    obtain ⟨h1, h2, h3, h4, h5⟩ := rgHead h (by omega) z137
    have hpl : pre.length ≤ 1048576 := by omega
    have hj : ∀ b : Bool, b = !decide (pre = [] ∨ hbef (pre.getD (pre.length - 1) z137) x) → hole x → Ev (fun k => spec_shGood.j1 k l (pre.length : Int) l (l.length : Int) (pre.length : Int) b x.f0 x.f1 x.f2) (goodFrom pre (x :: suf) && decide (l.length ≤ 60)) := by
      intro b hb hx
      refine Ev.step (fun k => spec_shGood.j1.eq_2 ..) ?_
      by_cases c : pre = [] ∨ hbef (pre.getD (pre.length - 1) z137) x
      · rw [decide_eq_true c] at hb; subst hb
        refine evNeg (by simp) (evPos h2 (evPos (by omega) ?_))
        simp only [Option.bind_some]
        have e : l.take (pre.length : Int).toNat = pre := by rw [h]; simp
        rw [e]
        refine evEq (shGood_l1 l (pre.length : Int) x l (l.length : Int) _ (by rw [h3]; exact ih _ h5) pre (by omega) pre [] rfl) ?_
        simp only [goodFrom, headOk, decide_eq_true hx, decide_eq_true c, Bool.true_and, Bool.and_assoc]
      · rw [decide_eq_false c] at hb; subst hb
        refine evPos rfl (evNow ?_)
        simp only [goodFrom, headOk, decide_eq_false c, Bool.false_and, Bool.and_false]
    refine Ev.step (fun k => spec_shGood.l0.eq_2 ..) ?_
    simp only [h1, h2, rd_T137, h4, if_true, shHole_eq, Option.bind_some, decide_eq_true_eq]
    refine evBy (fun hx => ?_) (fun hx => Ev.step (fun k => spec_shGood.j1.eq_2 ..) (evPos rfl (evNow (by simp only [goodFrom, headOk, decide_eq_false hx, Bool.false_and]))))
    by_cases c : 0 < pre.length
    · rw [wrapi (x := (pre.length : Int) - 1) (by omega) (by omega)]
      refine evPos (by omega) (evPos (by omega) (evPos (by omega) ?_))
      have e : l.getD ((pre.length : Int) - 1).toNat z137 = pre.getD (pre.length - 1) z137 := by
        rw [show ((pre.length : Int) - 1).toNat = pre.length - 1 by omega, h, List.getD_eq_getElem?_getD, List.getD_eq_getElem?_getD, List.getElem?_append_left (by omega)]
      rw [e, shBefore_eq]
      simp only [Option.bind_some]
      refine hj _ ?_ hx
      congr 1
      refine decide_eq_decide.mpr ⟨fun r => .inr r, fun r => r.resolve_left (fun z => by rw [z] at c; simp at c)⟩
    · refine evNeg (by omega) (hj _ ?_ hx)
      have : pre = [] := List.eq_nil_of_length_eq_zero (by omega)
      rw [decide_eq_true (Or.inl this)]; rfl
theorem shGood_ev {l : List S137} (hl : l.length ≤ 1048576) : Ev (fun k => spec_shGood.f k l) (goodSheet l) := shGood_l0 l hl l [] rfl
theorem isSheet_l1 (l : List S137) (i : Int) (x : S137) (l' : List S137) (n : Int) (q : Bool) (hq : Ev (fun k => impl_IsSheet.l0 k l l' n (wrap64 (i + 1))) q) (p : List S137) (hl : p.length ≤ 1048576) :
    ∀ (suf pre : List S137), p = pre ++ suf → Ev (fun k => impl_IsSheet.l1 k l l' n i p (p.length : Int) (pre.length : Int) x.f0 x.f1 x.f2) (suf.all (hfree x) && q) := by
  intro suf
  induction suf with
  | nil =>
    intro pre h
    refine Ev.step (fun k => impl_IsSheet.l1.eq_2 ..) ?_
    simp only [rgEnd h, if_false]
    exact evEq hq (by simp)
  | cons y suf ih =>
    intro pre h
    obtain ⟨h1, h2, h3, h4, h5⟩ := rgHead h (by omega) z137
    refine Ev.step (fun k => impl_IsSheet.l1.eq_2 ..) ?_
    simp only [h1, h2, h3, rd_T137, h4, if_true]
    refine evBy (fun c => evBy (fun c' => evNow (allBad (hfree_f ⟨c, c'⟩))) (fun c' => evEq (ih _ h5) (allGood (hfree_t (fun r => c' r.2))))) (fun c => evEq (ih _ h5) (allGood (hfree_t (fun r => c r.1))))
theorem isSheet_l0 (l : List S137) (hl : l.length ≤ 1048576) : ∀ (suf pre : List S137), l = pre ++ suf → Ev (fun k => impl_IsSheet.l0 k l l (l.length : Int) (pre.length : Int)) (goodFrom pre suf) := by
  intro suf
  induction suf with
  | nil =>
    intro pre h
    refine Ev.step (fun k => impl_IsSheet.l0.eq_2 ..) ?_
    simp only [rgEnd h, if_false]
    exact evNow (by rw [goodFrom])
  | cons x suf ih =>
    intro pre h
    obtain ⟨h1, h2, h3, h4, h5⟩ := rgHead h (by omega) z137
    have hpl : pre.length ≤ 1048576 := by omega
    have hj : ∀ b : Bool, b = !decide (pre = [] ∨ hbef (pre.getD (pre.length - 1) z137) x) → hole x → Ev (fun k => impl_IsSheet.j1 k l (pre.length : Int) l (l.length : Int) (pre.length : Int) b x.f0 x.f1 x.f2) (goodFrom pre (x :: suf)) := by
      intro b hb hx
      refine Ev.step (fun k => impl_IsSheet.j1.eq_2 ..) ?_
      by_cases c : pre = [] ∨ hbef (pre.getD (pre.length - 1) z137) x
      · rw [decide_eq_true c] at hb; subst hb
        refine evNeg (by simp) (evPos h2 (evPos (by omega) ?_))
        simp only [Option.bind_some]
        have e : l.take (pre.length : Int).toNat = pre := by rw [h]; simp
        rw [e]
        refine evEq (isSheet_l1 l (pre.length : Int) x l (l.length : Int) _ (by rw [h3]; exact ih _ h5) pre (by omega) pre [] rfl) ?_
        simp only [goodFrom, headOk, decide_eq_true hx, decide_eq_true c, Bool.true_and]
      · rw [decide_eq_false c] at hb; subst hb
        refine evPos rfl (evNow ?_)
        simp only [goodFrom, headOk, decide_eq_false c, Bool.false_and, Bool.and_false]
    refine Ev.step (fun k => impl_IsSheet.l0.eq_2 ..) ?_
    simp only [h1, h2, rd_T137, h4, if_true, isHole_eq, Option.bind_some, decide_eq_true_eq]
    refine evBy (fun hx => ?_) (fun hx => Ev.step (fun k => impl_IsSheet.j1.eq_2 ..) (evPos rfl (evNow (by simp only [goodFrom, headOk, decide_eq_false hx, Bool.false_and]))))
    by_cases c : 0 < pre.length
    · rw [wrapi (x := (pre.length : Int) - 1) (by omega) (by omega)]
      refine evPos (by omega) (evPos (by omega) (evPos (by omega) ?_))
      have e : l.getD ((pre.length : Int) - 1).toNat z137 = pre.getD (pre.length - 1) z137 := by
        rw [show ((pre.length : Int) - 1).toNat = pre.length - 1 by omega, h, List.getD_eq_getElem?_getD, List.getD_eq_getElem?_getD, List.getElem?_append_left (by omega)]
      rw [e, holeLess_eq]
      simp only [Option.bind_some]
      refine hj _ ?_ hx
      congr 1
      refine decide_eq_decide.mpr ⟨fun r => .inr r, fun r => r.resolve_left (fun z => by rw [z] at c; simp at c)⟩
    · refine evNeg (by omega) (hj _ ?_ hx)
      have : pre = [] := List.eq_nil_of_length_eq_zero (by omega)
      rw [decide_eq_true (Or.inl this)]; rfl
theorem isSheet_ev {l : List S137} (hl : l.length ≤ 1048576) : Ev (fun k => impl_IsSheet.f k l) (goodSheet l) := by
  unfold impl_IsSheet.f goodSheet
  refine evBy (fun c => evNow ?_) (fun c => evEq (isSheet_l0 l hl l [] rfl) ?_)
  · rw [show decide (l.length ≤ 60) = false from decide_eq_false (by omega), Bool.and_false]
  · rw [show decide (l.length ≤ 60) = true from decide_eq_true (by omega), Bool.and_true]
-- ** put
def put : List Int → Int → List Int
  | [], n => [n]
  | a :: l, n => if a < n then a :: put l n else if a = n then a :: l else n :: a :: l
theorem put_len : ∀ (l : List Int) (n : Int), (put l n).length ≤ l.length + 1
  | [], n => by simp [put]
  | a :: l, n => by
    have := put_len l n
    simp only [put]; split
    · simp; omega
    · split <;> simp
theorem l1Put_l0 (l : List Int) (n : Int) (hl : l.length ≤ 1048576) : ∀ (suf pre : List Int), l = pre ++ suf → Ev (fun k => spec_l1Put.l0 k l n (pre.length : Int)) (pre ++ put suf n) := by
  intro suf
  induction suf with
  | nil =>
    intro pre h
    have hp : pre.length ≤ 1048576 := by rw [h] at hl; simpa using hl
    have hL : l.length = pre.length := by rw [h]; simp
    have e1 : l.take (pre.length : Int).toNat = pre := by rw [h]; simp
    have e2 : l.drop (pre.length : Int).toNat = [] := by rw [h]; simp
    refine Ev.step (fun k => spec_l1Put.l0.eq_2 ..) ?_
    simp only [rgEnd h, if_false, Option.bind_some, e1, e2]
    repeat' first | (refine evPos (by first | omega | (simp; omega)) ?_)
    exact evNow (by simp [put])
  | cons x suf ih =>
    intro pre h
    obtain ⟨h1, h2, h3, h4, h5⟩ := rgHead h (by omega) 0
    have hp : pre.length + (suf.length + 1) ≤ 1048576 := by rw [h] at hl; simpa using hl
    have hL : l.length = pre.length + (suf.length + 1) := by rw [h]; simp
    have e1 : l.take (pre.length : Int).toNat = pre := by rw [h]; simp
    have e2 : l.drop (pre.length : Int).toNat = x :: suf := by rw [h]; simp
    refine Ev.step (fun k => spec_l1Put.l0.eq_2 ..) ?_
    simp only [h1, h2, h3, rd, h4, if_true, Option.bind_some, e1, e2]
    refine evBy (fun c => evEq (ih _ h5) (by simp [put, c])) (fun c => evBy (fun c' => evNow (by rw [h]; simp [put, c'])) (fun c' => ?_))
    repeat' first | (refine evPos (by first | omega | (simp; omega)) ?_)
    exact evNow (by simp [put, c, c'])
theorem l1Put_ev {l : List Int} (hl : l.length ≤ 1048576) (n : Int) : Ev (fun k => spec_l1Put.f k l n) (put l n) := by
  unfold spec_l1Put.f; exact l1Put_l0 l n hl l [] rfl
-- ** shopen
theorem goodFrom_hole : ∀ {suf pre : List S137}, goodFrom pre suf = true → ∀ x, x ∈ suf → hole x
  | [], _, _, x, hx => by simp at hx
  | y :: suf, pre, h, x, hx => by
    simp only [goodFrom, headOk, Bool.and_eq_true, decide_eq_true_eq] at h
    rcases List.mem_cons.1 hx with r | r
    · subst r; exact h.1.1
    · exact goodFrom_hole h.2 x r
theorem goodSheet_hole {l : List S137} (h : goodSheet l = true) : ∀ x, x ∈ l → hole x := by
  simp only [goodSheet, Bool.and_eq_true] at h; exact goodFrom_hole h.1
theorem goodSheet_len {l : List S137} (h : goodSheet l = true) : l.length ≤ 60 := by
  simp only [goodSheet, Bool.and_eq_true, decide_eq_true_eq] at h; exact h.2
def isOpn (s : Int) (x : S137) : Prop := x.f1 ≤ s ∧ s < x.f2
instance (s : Int) (x : S137) : Decidable (isOpn s x) := by unfold isOpn; exact inferInstance
def opn (s : Int) : List Int → List S137 → List Int
  | acc, [] => acc
  | acc, x :: l => opn s (if isOpn s x then put acc x.f0 else acc) l
theorem opn_len (s : Int) : ∀ (l : List S137) (acc : List Int), (opn s acc l).length ≤ acc.length + l.length
  | [], acc => by simp [opn]
  | x :: l, acc => by
    simp only [opn, List.length_cons]
    by_cases c : isOpn s x
    · rw [if_pos c]
      have := opn_len s l (put acc x.f0)
      have := put_len acc x.f0
      omega
    · rw [if_neg c]
      have := opn_len s l acc
      omega
theorem shOpen_l0 (s : Int) (l : List S137) (hl : l.length ≤ 1000) (hh : ∀ x, x ∈ l → hole x) : ∀ (suf pre : List S137) (acc : List Int), l = pre ++ suf → acc.length ≤ pre.length →
    Ev (fun k => spec_shOpen.l0 k s acc l (l.length : Int) (pre.length : Int)) (opn s acc suf) := by
  intro suf
  induction suf with
  | nil =>
    intro pre acc h ha
    refine Ev.step (fun k => spec_shOpen.l0.eq_2 ..) ?_
    simp only [rgEnd h, if_false]
    exact evNow (by simp [opn])
  | cons x suf ih =>
    intro pre acc h ha
    obtain ⟨h1, h2, h3, h4, h5⟩ := rgHead h (by omega) z137
    have hx := hh x (by rw [h]; simp)
    unfold hole at hx
    have hpl : pre.length ≤ 1000 := by omega
    refine Ev.step (fun k => spec_shOpen.l0.eq_2 ..) ?_
    simp only [h1, h2, h3, rd_T137, h4, if_true, in_eq, Option.bind_some, decide_eq_true_eq]
    rw [wrapi (x := x.f2 - 1) (by omega) (by omega)]
    simp only [opn]
    have hput := put_len acc x.f0
    refine evBy (fun c => Ev.bind (l1Put_ev (by omega) x.f0) ?_) (fun c => ?_)
    · rw [if_pos (show isOpn s x by unfold isOpn; omega)]
      exact ih _ _ h5 (by simp; omega)
    · rw [if_neg (show ¬ isOpn s x by unfold isOpn; omega)]
      exact ih _ _ h5 (by simp; omega)
theorem shOpen_ev {l : List S137} (hg : goodSheet l = true) (s : Int) : Ev (fun k => spec_shOpen.f k l s) (opn s [] l) := by
  unfold spec_shOpen.f
  have := goodSheet_len hg
  exact shOpen_l0 s l (by omega) (goodSheet_hole hg) l [] [] rfl (by simp)
-- ** opentr
theorem put_mem : ∀ (l : List Int) (n a : Int), a ∈ put l n ↔ a = n ∨ a ∈ l
  | [], n, a => by simp [put]
  | b :: l, n, a => by
    simp only [put]; split
    · simp only [List.mem_cons, put_mem l n a]
      constructor
      · rintro (h | h | h)
        · exact .inr (.inl h)
        · exact .inl h
        · exact .inr (.inr h)
      · rintro (h | h | h)
        · exact .inr (.inl h)
        · exact .inl h
        · exact .inr (.inr h)
    · split
      · rename_i c; subst c; simp
      · simp
theorem put_sorted : ∀ (l : List Int) (n : Int), l.Pairwise (· < ·) → (put l n).Pairwise (· < ·)
  | [], n, _ => by simp [put]
  | b :: l, n, h => by
    have h' := List.pairwise_cons.1 h
    simp only [put]; split
    · rename_i c
      refine List.pairwise_cons.2 ⟨fun a ha => ?_, put_sorted l n h'.2⟩
      rcases (put_mem l n a).1 ha with r | r
      · omega
      · exact h'.1 a r
    · split
      · exact h
      · rename_i c c'
        refine List.pairwise_cons.2 ⟨fun a ha => ?_, h⟩
        rcases List.mem_cons.1 ha with r | r
        · omega
        · have := h'.1 a r; omega
theorem put_perm : ∀ (l : List Int) (n : Int), n ∉ l → (put l n).Perm (n :: l)
  | [], n, _ => .refl _
  | b :: l, n, h => by
    simp only [List.mem_cons, not_or] at h
    simp only [put]; split
    · exact ((put_perm l n h.2).cons b).trans (List.Perm.swap n b l)
    · split
      · rename_i c; exact absurd c.symm h.1
      · exact .refl _
def openTr (s : Int) (l : List S137) : List Int := (l.filter fun x => decide (isOpn s x)).map (·.f0)
theorem hfree_iff {x y : S137} : hfree x y = true ↔ ¬ (y.f0 = x.f0 ∧ y.f2 ≥ x.f1) := by
  unfold hfree
  by_cases c : y.f0 = x.f0 ∧ y.f2 ≥ x.f1
  · rw [decide_eq_true c]; simp [c]
  · rw [decide_eq_false c]; simp [c]
theorem opn_perm (s : Int) : ∀ (suf pre : List S137) (acc : List Int), goodFrom pre suf = true → (∀ t, t ∈ acc → ∃ y, y ∈ pre ∧ y.f0 = t ∧ isOpn s y) → (opn s acc suf).Perm (openTr s suf ++ acc)
  | [], pre, acc, _, _ => .refl _
  | x :: suf, pre, acc, h, ha => by
    simp only [goodFrom, headOk, Bool.and_eq_true, decide_eq_true_eq] at h
    simp only [opn, openTr]
    by_cases c : isOpn s x
    · rw [if_pos c, List.filter_cons_of_pos (by simpa using c), List.map_cons]
      have hn : x.f0 ∉ acc := fun hm => by
        obtain ⟨y, hy, h1, h2⟩ := ha _ hm
        have := hfree_iff.1 (List.all_eq_true.1 h.1.2.2 y hy)
        unfold isOpn at c h2
        exact this ⟨h1, by omega⟩
      have ih := opn_perm s suf (pre ++ [x]) (put acc x.f0) h.2 (fun t ht => by
        rcases (put_mem acc x.f0 t).1 ht with r | r
        · exact ⟨x, by simp, r.symm, c⟩
        · obtain ⟨y, hy, h1⟩ := ha t r
          exact ⟨y, by simp [hy], h1⟩)
      refine ih.trans ?_
      exact ((put_perm acc x.f0 hn).append_left _).trans List.perm_middle
    · rw [if_neg c, List.filter_cons_of_neg (by simpa using c)]
      exact opn_perm s suf (pre ++ [x]) acc h.2 (fun t ht => by
        obtain ⟨y, hy, h1⟩ := ha t ht
        exact ⟨y, by simp [hy], h1⟩)
theorem opn_sorted (s : Int) : ∀ (l : List S137) (acc : List Int), acc.Pairwise (· < ·) → (opn s acc l).Pairwise (· < ·)
  | [], acc, h => h
  | x :: l, acc, h => by
    simp only [opn]
    refine opn_sorted s l _ ?_
    split
    · exact put_sorted acc _ h
    · exact h
theorem sorted_perm {a b : List Int} (ha : a.Pairwise (· < ·)) (h : a.Perm b) : Lib.sorted b = a := by
  unfold Lib.sorted
  refine List.Perm.eq_of_pairwise (le := fun x y => decide (x ≤ y) = true) (fun x y _ _ h1 h2 => by simp at h1 h2; omega) ?_ (ha.imp (fun h => by simp; omega)) ((List.mergeSort_perm _ _).trans h.symm)
  exact List.pairwise_mergeSort (fun x y z h1 h2 => by simp at *; omega) (fun x y => by simp; omega) b
theorem open_eq {l : List S137} (hg : goodSheet l = true) (s : Int) : Lib.sorted (openTr s l) = opn s [] l := by
  have h : goodFrom [] l = true := by simp only [goodSheet, Bool.and_eq_true] at hg; exact hg.1
  have := opn_perm s l [] [] h (by simp)
  rw [List.append_nil] at this
  exact sorted_perm (opn_sorted s l [] List.Pairwise.nil) this
theorem isOpen_eq (x : S137) (s : Int) : impl_isOpen.f x.f0 x.f1 x.f2 s = some (decide (isOpn s x)) := by
  unfold impl_isOpen.f
  split
  · exact someD (by unfold isOpn; omega)
  · exact someF (by unfold isOpn; omega)
theorem openTracks_l0 (s : Int) (l : List S137) (hl : l.length ≤ 1048576) : ∀ (suf pre : List S137) (acc : List Int), l = pre ++ suf → acc.length ≤ pre.length →
    Ev (fun k => impl_openTracks.l0 k s acc l (l.length : Int) (pre.length : Int)) (Lib.sorted (acc ++ openTr s suf)) := by
  intro suf
  induction suf with
  | nil =>
    intro pre acc h ha
    have hp : pre.length ≤ 1048576 := by rw [h] at hl; simpa using hl
    refine Ev.step (fun k => impl_openTracks.l0.eq_2 ..) ?_
    simp only [rgEnd h, if_false]
    unfold sort_Ints.f
    rw [if_pos (by omega)]
    exact evNow (by simp [openTr])
  | cons x suf ih =>
    intro pre acc h ha
    obtain ⟨h1, h2, h3, h4, h5⟩ := rgHead h (by omega) z137
    have hpl : pre.length ≤ 1048576 := by omega
    refine Ev.step (fun k => impl_openTracks.l0.eq_2 ..) ?_
    simp only [h1, h2, h3, rd_T137, h4, if_true, isOpen_eq, Option.bind_some, decide_eq_true_eq]
    refine evBy (fun c => evPos (by omega) (evEq (ih _ _ h5 (by simp; omega)) ?_)) (fun c => evEq (ih _ _ h5 (by simp; omega)) ?_)
    · congr 1; unfold openTr; rw [List.filter_cons_of_pos (by simpa using c)]; simp
    · congr 1; unfold openTr; rw [List.filter_cons_of_neg (by simpa using c)]
theorem openTracks_ev {l : List S137} (hg : goodSheet l = true) (s : Int) : Ev (fun k => impl_openTracks.f k l s) (opn s [] l) := by
  have := goodSheet_len hg
  unfold impl_openTracks.f
  refine evEq (openTracks_l0 s l (by omega) l [] [] rfl (by simp)) ?_
  rw [List.nil_append]; exact open_eq hg s
-- ** same
theorem l1Same_l0 (a b : List Int) (hl : a.length ≤ 1048576) (hab : a.length = b.length) : ∀ (az bs pre : List Int), a = pre ++ az → b = pre ++ bs → Ev (fun k => spec_l1Same.l0 k a b (a.length : Int) (pre.length : Int)) (decide (az = bs)) := by
  intro az
  induction az with
  | nil =>
    intro bs pre h h'
    refine Ev.step (fun k => spec_l1Same.l0.eq_2 ..) ?_
    simp only [rgEnd h, if_false]
    have : bs = [] := by
      have q1 := congrArg List.length h
      have q2 := congrArg List.length h'
      rw [List.length_append] at q1 q2
      rw [List.length_nil] at q1
      exact List.eq_nil_of_length_eq_zero (by omega)
    exact evNow (by rw [this]; simp)
  | cons x az ih =>
    intro bs pre h h'
    cases bs with
    | nil => rw [h, h'] at hab; simp at hab
    | cons y bs =>
      obtain ⟨h1, h2, h3, h4, h5⟩ := rgHead h (by omega) 0
      obtain ⟨g1, _, _, g4, g5⟩ := rgHead h' (by omega) 0
      refine Ev.step (fun k => spec_l1Same.l0.eq_2 ..) ?_
      simp only [h1, h2, h3, g1, rd, h4, g4, if_true]
      refine evBy (fun c => ?_) (fun c => evNow (decF (fun q => c (List.cons.inj q).1)))
      subst c
      refine evEq (ih bs (pre ++ [x]) h5 g5) (decD ⟨fun q => by rw [q], fun q => (List.cons.inj q).2⟩)
theorem l1Same_ev (a b : List Int) (hl : a.length ≤ 1048576) : Ev (fun k => spec_l1Same.f k a b) (decide (a = b)) := by
  unfold spec_l1Same.f
  refine evBy (fun c => l1Same_l0 a b hl (by omega) a b [] rfl rfl) (fun c => evNow (decF (fun q => c (by rw [q]))))
theorem slEqual_l0 (a b : List Int) (hl : a.length ≤ 1048576) (hab : a.length = b.length) : ∀ (az bs pre : List Int), a = pre ++ az → b = pre ++ bs → Ev (fun k => slices_Equal_int_int.l0 k a b (a.length : Int) (pre.length : Int)) (decide (az = bs)) := by
  intro az
  induction az with
  | nil =>
    intro bs pre h h'
    refine Ev.step (fun k => slices_Equal_int_int.l0.eq_2 ..) ?_
    simp only [rgEnd h, if_false]
    have : bs = [] := by
      have q1 := congrArg List.length h
      have q2 := congrArg List.length h'
      rw [List.length_append] at q1 q2
      rw [List.length_nil] at q1
      exact List.eq_nil_of_length_eq_zero (by omega)
    exact evNow (by rw [this]; simp)
  | cons x az ih =>
    intro bs pre h h'
    cases bs with
    | nil => rw [h, h'] at hab; simp at hab
    | cons y bs =>
      obtain ⟨h1, h2, h3, h4, h5⟩ := rgHead h (by omega) 0
      obtain ⟨g1, _, _, g4, g5⟩ := rgHead h' (by omega) 0
      refine Ev.step (fun k => slices_Equal_int_int.l0.eq_2 ..) ?_
      simp only [h1, h2, h3, g1, rd, h4, g4, if_true]
      refine evBy (fun c => ?_) (fun c => evNow (decF (fun q => c (List.cons.inj q).1)))
      subst c
      refine evEq (ih bs (pre ++ [x]) h5 g5) (decD ⟨fun q => by rw [q], fun q => (List.cons.inj q).2⟩)
theorem slEqual_ev (a b : List Int) (hl : a.length ≤ 1048576) : Ev (fun k => slices_Equal_int_int.f k a b) (decide (a = b)) := by
  unfold slices_Equal_int_int.f
  refine evBy (fun c => slEqual_l0 a b hl (by omega) a b [] rfl rfl) (fun c => evNow (decF (fun q => c (by rw [q]))))
-- ** holelaw
def cvHole (x : S139) : S137 := ⟨x.f0, x.f1, x.f2⟩
theorem szHole_eq (l : List S139) (h : l.length ≤ 9223372036854775807) : laws_szHoleS.f l 1048576 = some (if l.length ≤ 1048576 then 1048576 - (l.length : Int) else -1) := by
  unfold laws_szHoleS.f
  rw [wrapi (by omega) (by omega)]
  by_cases c : l.length ≤ 1048576
  · rw [if_neg (by omega), if_pos c]
  · rw [if_pos (by omega), if_neg c]
theorem toHole_l0 (l : List S139) (hl : l.length ≤ 1048576) : ∀ (suf pre : List S139), l = pre ++ suf →
    Ev (fun k => laws_toHoleS.l0 k l (pre.map cvHole ++ List.replicate suf.length z137) (pre.length : Int)) (l.map cvHole) := by
  intro suf
  induction suf with
  | nil =>
    intro pre h
    refine Ev.step (fun k => laws_toHoleS.l0.eq_2 ..) ?_
    simp only [rgEnd h, if_false]
    exact evNow (by subst h; simp)
  | cons x suf ih =>
    intro pre h
    obtain ⟨h1, h2, h3, h4, h5⟩ := rgHead h (by omega) z139
    refine Ev.step (fun k => laws_toHoleS.l0.eq_2 ..) ?_
    simp only [h1, h2, h3, rd_T139, h4, if_true, laws_toHole.f, Option.bind_some]
    refine evPos (by simp; omega) ?_
    have e : (pre.map cvHole ++ List.replicate (x :: suf).length z137).set (pre.length : Int).toNat ⟨x.f0, x.f1, x.f2⟩ = (pre ++ [x]).map cvHole ++ List.replicate suf.length z137 := by
      rw [List.length_cons, List.replicate_succ, setAt _ _ _ _ _ (by simp)]
      simp [cvHole]
    rw [e]
    exact ih _ h5
theorem toHole_ev (l : List S139) (hl : l.length ≤ 1048576) : Ev (fun k => laws_toHoleS.f k l) (l.map cvHole) := by
  unfold laws_toHoleS.f
  refine evPos (by omega) (evPos (by omega) ?_)
  have := toHole_l0 l hl l [] rfl
  simpa using this
theorem eqHole_l0 (l : List S137) (hl : l.length ≤ 4611686018427387904) : ∀ (suf pre : List S137), l = pre ++ suf → Ev (fun k => laws_eqHoleS.l0 k l l (pre.length : Int)) true := by
  intro suf
  induction suf with
  | nil =>
    intro pre h
    refine Ev.step (fun k => laws_eqHoleS.l0.eq_2 ..) ?_
    simp only [rgEnd h, if_false]
    exact Ev.now _
  | cons x suf ih =>
    intro pre h
    obtain ⟨h1, h2, h3, h4, h5⟩ := rgHead h hl z137
    refine Ev.step (fun k => laws_eqHoleS.l0.eq_2 ..) ?_
    simp only [h1, h2, h3, if_true, laws_eqHole.f, Option.bind_some]
    exact ih _ h5
theorem eqHole_ev (l : List S137) (hl : l.length ≤ 4611686018427387904) : Ev (fun k => laws_eqHoleS.f k l l) true := by
  unfold laws_eqHoleS.f
  exact evPos rfl (eqHole_l0 l hl l [] rfl)
-- ** intlaw
theorem toInt_l0 (l : List Int) (hl : l.length ≤ 1048576) : ∀ (suf pre : List Int), l = pre ++ suf →
    Ev (fun k => laws_toIntS.l0 k l (pre ++ List.replicate suf.length 0) (pre.length : Int)) l := by
  intro suf
  induction suf with
  | nil =>
    intro pre h
    refine Ev.step (fun k => laws_toIntS.l0.eq_2 ..) ?_
    simp only [rgEnd h, if_false]
    exact evNow (by subst h; simp)
  | cons x suf ih =>
    intro pre h
    obtain ⟨h1, h2, h3, h4, h5⟩ := rgHead h (by omega) 0
    refine Ev.step (fun k => laws_toIntS.l0.eq_2 ..) ?_
    simp only [h1, h2, h3, rd, h4, if_true]
    refine evPos (by simp; omega) ?_
    have e : (pre ++ List.replicate (x :: suf).length 0).set (pre.length : Int).toNat x = (pre ++ [x]) ++ List.replicate suf.length 0 := by
      rw [List.length_cons, List.replicate_succ, setAt _ _ _ _ _ (by simp)]
      simp
    rw [e]
    exact ih _ h5
theorem toInt_ev (l : List Int) (hl : l.length ≤ 1048576) : Ev (fun k => laws_toIntS.f k l) l := by
  unfold laws_toIntS.f
  refine evPos (by omega) (evPos (by omega) ?_)
  have := toInt_l0 l hl l [] rfl
  simpa using this
theorem eqInt_l0 (l : List Int) (hl : l.length ≤ 4611686018427387904) : ∀ (suf pre : List Int), l = pre ++ suf → Ev (fun k => laws_eqIntS.l0 k l l (pre.length : Int)) true := by
  intro suf
  induction suf with
  | nil =>
    intro pre h
    refine Ev.step (fun k => laws_eqIntS.l0.eq_2 ..) ?_
    simp only [rgEnd h, if_false]
    exact Ev.now _
  | cons x suf ih =>
    intro pre h
    obtain ⟨h1, h2, h3, h4, h5⟩ := rgHead h hl 0
    refine Ev.step (fun k => laws_eqIntS.l0.eq_2 ..) ?_
    simp only [h1, h2, h3, if_true]
    exact ih _ h5
theorem eqInt_ev (l : List Int) (hl : l.length ≤ 4611686018427387904) : Ev (fun k => laws_eqIntS.f k l l) true := by
  unfold laws_eqIntS.f
  exact evPos rfl (eqInt_l0 l hl l [] rfl)
-- ** szint
theorem szInt_eq (l : List Int) (b : Int) (hb : 0 ≤ b) (hb' : b ≤ 1048576) (h : l.length ≤ 9223372036854775807) : laws_szIntS.f l b = some (if (l.length : Int) ≤ b then b - (l.length : Int) else -1) := by
  unfold laws_szIntS.f
  rw [wrapi (by omega) (by omega)]
  by_cases c : (l.length : Int) ≤ b
  · rw [if_neg (by omega), if_pos c]
  · rw [if_pos (by omega), if_neg c]
-- ** reader
def goodReader (l : List S137) (s : Int) (o : List Int) : Bool := goodSheet l && (decide (0 ≤ s ∧ s ≤ 2000) && decide (o = opn s [] l))
theorem goodReader_iff {l : List S137} {s : Int} {o : List Int} : goodReader l s o = true ↔ goodSheet l = true ∧ (0 ≤ s ∧ s ≤ 2000) ∧ o = opn s [] l := by
  unfold goodReader; rw [Bool.and_eq_true, Bool.and_eq_true, decide_eq_true_eq, decide_eq_true_eq]
theorem rdOpen_ev {l : List S137} (hg : goodSheet l = true) (s : Int) : Ev (fun k => spec_rdOpen.f k l s) (opn s [] l) := by
  unfold spec_rdOpen.f; exact Ev.bind (shOpen_ev hg s) (Ev.now _)
theorem rdGood_ev {l : List S137} (hl : l.length ≤ 1048576) (s : Int) {o : List Int} (ho : o.length ≤ 1048576) : Ev (fun k => spec_rdGood.f k l s o) (goodReader l s o) := by
  unfold spec_rdGood.f goodReader spec_rdStep.f
  simp only [in_eq, Option.bind_some, decide_eq_true_eq]
  refine Ev.bind (shGood_ev hl) (evBy (fun c => evBy (fun c' => ?_) (fun c' => evNow ?_)) (fun c => evNow ?_))
  · refine Ev.bind (rdOpen_ev c s) (Ev.bind (l1Same_ev o _ ho) (evNow ?_))
    rw [c, show decide (0 ≤ s ∧ s ≤ 2000) = true from decide_eq_true c', Bool.true_and, Bool.true_and]
  · rw [show decide (0 ≤ s ∧ s ≤ 2000) = false from decide_eq_false c', Bool.false_and, Bool.and_false]
  · rw [Bool.eq_false_iff.mpr c, Bool.false_and]
theorem isReader_ev {l : List S137} (hl : l.length ≤ 1048576) (s : Int) {o : List Int} (ho : o.length ≤ 1048576) : Ev (fun k => impl_IsReader.f k l s o) (goodReader l s o) := by
  unfold impl_IsReader.f goodReader
  refine Ev.bind (isSheet_ev hl) (evBy (fun c => evBy (fun c1 => evBy (fun c2 => ?_) (fun c2 => evNow ?_)) (fun c1 => evNow ?_)) (fun c => evNow ?_))
  · refine Ev.bind (openTracks_ev c s) (Ev.bind (slEqual_ev o _ ho) (evNow ?_))
    rw [c, show decide (0 ≤ s ∧ s ≤ 2000) = true from decide_eq_true (by omega), Bool.true_and, Bool.true_and]
  · rw [show decide (0 ≤ s ∧ s ≤ 2000) = false from decide_eq_false (by omega), Bool.false_and, Bool.and_false]
  · rw [show decide (0 ≤ s ∧ s ≤ 2000) = false from decide_eq_false (by omega), Bool.false_and, Bool.and_false]
  · rw [Bool.eq_false_iff.mpr c, Bool.false_and]
theorem szReader_small {l : List S139} {s : Int} {o : List Int} (h : l.length ≤ 1048576) (h' : l.length + o.length ≤ 1048576) : laws_szReader.f l s o 1048576 = some (1048576 - (l.length : Int) - (o.length : Int)) := by
  unfold laws_szReader.f
  rw [szHole_eq l (by omega), if_pos h]
  simp only [Option.bind_some]
  rw [if_neg (by omega), szInt_eq o _ (by omega) (by omega) (by omega), if_pos (by omega)]
  simp only [Option.bind_some]
  rw [if_neg (by omega)]
theorem szReader_big {l : List S139} {s : Int} {o : List Int} (hl : l.length ≤ 9223372036854775807) (ho : o.length ≤ 9223372036854775807) (h : ¬ l.length + o.length ≤ 1048576) : laws_szReader.f l s o 1048576 = some (-1) := by
  unfold laws_szReader.f
  rw [szHole_eq l hl]
  simp only [Option.bind_some]
  by_cases c : l.length ≤ 1048576
  · rw [if_pos c, if_neg (by omega), szInt_eq o _ (by omega) (by omega) ho, if_neg (by omega)]
    simp only [Option.bind_some]
    rw [if_pos (by omega)]
  · rw [if_neg c, if_pos (by omega)]
theorem toReader_ev {l : List S139} (s : Int) {o : List Int} (hl : l.length ≤ 1048576) (ho : o.length ≤ 1048576) : Ev (fun k => laws_toReader.f k l s o) (l.map cvHole, s, o) := by
  unfold laws_toReader.f
  exact Ev.bind (toHole_ev l hl) (Ev.bind (toInt_ev o ho) (Ev.now _))
theorem eqReader_ev {l : List S137} (s : Int) {o : List Int} (hl : l.length ≤ 1048576) (ho : o.length ≤ 1048576) : Ev (fun k => laws_eqReader.f k l s o l s o) true := by
  unfold laws_eqReader.f
  exact Ev.bind (eqHole_ev l (by omega)) (evPos rfl (evPos rfl (Ev.bind (eqInt_ev o (by omega)) (evPos rfl (Ev.now _)))))
-- ** holemark
def mkHole : List S137 → Int → List S137
  | [], _ => []
  | _ :: l, k => ⟨k, k + 1, k + 2⟩ :: mkHole l (k + 3)
theorem mkHole_length : ∀ (l : List S137) (k : Int), (mkHole l k).length = l.length
  | [], _ => rfl
  | _ :: l, k => by simp [mkHole, mkHole_length l]
theorem markHole_l0 : ∀ (suf pre : List S137) (k : Int), pre.length + suf.length ≤ 1048576 → 0 ≤ k → k ≤ 1000000000 + 3 * (pre.length : Int) →
    Ev (fun n => laws_markHoleS.l0 n (pre ++ suf) k (pre.length : Int)) (k + 3 * (suf.length : Int), pre ++ mkHole suf k) := by
  intro suf
  induction suf with
  | nil =>
    intro pre k hl h0 hk
    refine Ev.step (fun k => laws_markHoleS.l0.eq_2 ..) ?_
    simp only [rgEnd (l := pre ++ []) (pre := pre) rfl, if_false]
    exact evNow (by simp [mkHole])
  | cons x suf ih =>
    intro pre k hl h0 hk
    obtain ⟨h1, h2, h3, h4, h5⟩ := rgHead (l := pre ++ x :: suf) (pre := pre) rfl (by simp at hl ⊢; omega) z137
    simp at hl
    refine Ev.step (fun k => laws_markHoleS.l0.eq_2 ..) ?_
    simp only [h1, h2, h3, rd_T137, h4, if_true, Option.bind_some]
    rw [setAt _ _ _ _ _ (by simp), getAt _ _ _ _ _ (by simp), setAt _ _ _ _ _ (by simp), getAt _ _ _ _ _ (by simp), setAt _ _ _ _ _ (by simp), wrapi (x := k + 1) (by omega) (by omega), wrapi (x := k + 1 + 1) (by omega) (by omega), wrapi (x := k + 1 + 1 + 1) (by omega) (by omega)]
    dsimp only
    have := ih (pre ++ [⟨k, k + 1, k + 2⟩]) (k + 3) (by simp; omega) (by omega) (by simp; omega)
    simp only [List.append_assoc, List.singleton_append] at this
    have e : ((pre ++ [x]).length : Int) = ((pre ++ [⟨k, k + 1, k + 2⟩] : List S137).length : Int) := by simp
    rw [e, show k + 1 + 1 + 1 = k + 3 by omega, show k + 1 + 1 = k + 2 by omega]
    exact evEq this (by simp [mkHole]; omega)
theorem markHole_at (l : List S137) (k : Int) (hl : l.length ≤ 1048576) (h0 : 0 ≤ k) (hk : k ≤ 1000000000) : Ev (fun n => laws_markHoleS.f n l k) (k + 3 * (l.length : Int), mkHole l k) := by
  unfold laws_markHoleS.f
  exact markHole_l0 l [] k (by simpa using hl) h0 (by simpa using hk)
theorem markHole_ev (l : List S137) (hl : l.length ≤ 1048576) : Ev (fun n => laws_markHoleS.f n l 1) (1 + 3 * (l.length : Int), mkHole l 1) := markHole_at l 1 hl (by omega) (by omega)
theorem heldHole_l0 : ∀ (suf pre : List S137) (k : Int), pre.length + suf.length ≤ 1048576 → 0 ≤ k → k ≤ 1000000000 + 3 * (pre.length : Int) →
    Ev (fun n => laws_heldHoleS.l0 n (pre ++ mkHole suf k) k (pre.length : Int)) (k + 3 * (suf.length : Int)) := by
  intro suf
  induction suf with
  | nil =>
    intro pre k hl h0 hk
    refine Ev.step (fun k => laws_heldHoleS.l0.eq_2 ..) ?_
    simp only [mkHole, rgEnd (l := pre ++ []) (pre := pre) rfl, if_false]
    exact evNow (by simp)
  | cons x suf ih =>
    intro pre k hl h0 hk
    simp only [mkHole]
    simp at hl
    obtain ⟨h1, h2, h3, h4, h5⟩ := rgHead (l := pre ++ ⟨k, k + 1, k + 2⟩ :: mkHole suf (k + 3)) (pre := pre) rfl (by simp [mkHole_length]; omega) z137
    refine Ev.step (fun k => laws_heldHoleS.l0.eq_2 ..) ?_
    simp only [h1, h2, h3, rd_T137, h4, if_true]
    rw [wrapi (x := k + 1) (by omega) (by omega), wrapi (x := k + 1 + 1) (by omega) (by omega), wrapi (x := k + 1 + 1 + 1) (by omega) (by omega)]
    repeat (refine evPos (by first | rfl | omega) ?_)
    rw [h5, show k + 1 + 1 + 1 = k + 3 by omega]
    refine evEq (ih (pre ++ [⟨k, k + 1, k + 2⟩]) (k + 3) (by simp; omega) (by omega) (by simp; omega)) (by simp; omega)
theorem heldHole_at (l : List S137) (k : Int) (hl : l.length ≤ 1048576) (h0 : 0 ≤ k) (hk : k ≤ 1000000000) : Ev (fun n => laws_heldHoleS.f n (mkHole l k) k) (k + 3 * (l.length : Int)) := by
  unfold laws_heldHoleS.f
  exact heldHole_l0 l [] k (by simpa using hl) h0 (by simpa using hk)
theorem heldHole_ev (l : List S137) (hl : l.length ≤ 1048576) : Ev (fun n => laws_heldHoleS.f n (mkHole l 1) 1) (1 + 3 * (l.length : Int)) := heldHole_at l 1 hl (by omega) (by omega)
-- ** intmark
def mkInt : List Int → Int → List Int
  | [], _ => []
  | _ :: l, k => k :: mkInt l (k + 1)
theorem mkInt_length : ∀ (l : List Int) (k : Int), (mkInt l k).length = l.length
  | [], _ => rfl
  | _ :: l, k => by simp [mkInt, mkInt_length l]
theorem markInt_l0 : ∀ (suf pre : List Int) (k : Int), pre.length + suf.length ≤ 1048576 → 0 ≤ k → k + (suf.length : Int) ≤ 4611686018427387904 →
    Ev (fun n => laws_markIntS.l0 n (pre ++ suf) k (pre.length : Int)) (k + (suf.length : Int), pre ++ mkInt suf k) := by
  intro suf
  induction suf with
  | nil =>
    intro pre k hl h0 hk
    refine Ev.step (fun k => laws_markIntS.l0.eq_2 ..) ?_
    simp only [rgEnd (l := pre ++ []) (pre := pre) rfl, if_false]
    exact evNow (by simp [mkInt])
  | cons x suf ih =>
    intro pre k hl h0 hk
    obtain ⟨h1, h2, h3, h4, h5⟩ := rgHead (l := pre ++ x :: suf) (pre := pre) rfl (by simp at hl ⊢; omega) 0
    simp at hl hk
    refine Ev.step (fun k => laws_markIntS.l0.eq_2 ..) ?_
    simp only [h1, h2, h3, if_true]
    rw [setAt _ _ _ _ _ (by simp), wrapi (by omega) (by omega)]
    have := ih (pre ++ [k]) (k + 1) (by simp; omega) (by omega) (by omega)
    simp only [List.append_assoc, List.singleton_append] at this
    have e : ((pre ++ [x]).length : Int) = ((pre ++ [k] : List Int).length : Int) := by simp
    rw [e]
    exact evEq this (by simp [mkInt]; omega)
theorem markInt_at (l : List Int) (k : Int) (hl : l.length ≤ 1048576) (h0 : 0 ≤ k) (hk : k ≤ 1000000000) : Ev (fun n => laws_markIntS.f n l k) (k + (l.length : Int), mkInt l k) := by
  unfold laws_markIntS.f
  exact markInt_l0 l [] k (by simpa using hl) h0 (by omega)
theorem heldInt_l0 : ∀ (suf pre : List Int) (k : Int), pre.length + suf.length ≤ 1048576 → 0 ≤ k → k + (suf.length : Int) ≤ 4611686018427387904 →
    Ev (fun n => laws_heldIntS.l0 n (pre ++ mkInt suf k) k (pre.length : Int)) (k + (suf.length : Int)) := by
  intro suf
  induction suf with
  | nil =>
    intro pre k hl h0 hk
    refine Ev.step (fun k => laws_heldIntS.l0.eq_2 ..) ?_
    simp only [mkInt, rgEnd (l := pre ++ []) (pre := pre) rfl, if_false]
    exact evNow (by simp)
  | cons x suf ih =>
    intro pre k hl h0 hk
    simp only [mkInt]
    simp at hl hk
    obtain ⟨h1, h2, h3, h4, h5⟩ := rgHead (l := pre ++ k :: mkInt suf (k + 1)) (pre := pre) rfl (by simp [mkInt_length]; omega) 0
    refine Ev.step (fun k => laws_heldIntS.l0.eq_2 ..) ?_
    simp only [h1, h2, h3, rd, h4, if_true]
    rw [wrapi (by omega) (by omega), h5]
    refine evEq (ih (pre ++ [k]) (k + 1) (by simp; omega) (by omega) (by omega)) (by simp; omega)
theorem heldInt_at (l : List Int) (k : Int) (hl : l.length ≤ 1048576) (h0 : 0 ≤ k) (hk : k ≤ 1000000000) : Ev (fun n => laws_heldIntS.f n (mkInt l k) k) (k + (l.length : Int)) := by
  unfold laws_heldIntS.f
  exact heldInt_l0 l [] k (by simpa using hl) h0 (by omega)
-- ** rdmark
theorem markReader_ev {l : List S137} (s : Int) {o : List Int} (hl : l.length ≤ 1048576) (ho : o.length ≤ 1048576) : Ev (fun n => laws_markReader.f n l s o 1) (1 + 3 * (l.length : Int) + (o.length : Int), mkHole l 1, mkInt o (1 + 3 * (l.length : Int))) := by
  unfold laws_markReader.f
  exact Ev.bind (markHole_ev l hl) (Ev.bind (markInt_at o _ ho (by omega) (by omega)) (Ev.now _))
theorem heldReader_ev {l : List S137} (s : Int) {o : List Int} (hl : l.length ≤ 1048576) (ho : o.length ≤ 1048576) : Ev (fun n => laws_heldReader.f n (mkHole l 1) s (mkInt o (1 + 3 * (l.length : Int))) 1) (1 + 3 * (l.length : Int) + (o.length : Int)) := by
  unfold laws_heldReader.f
  exact Ev.bind (heldHole_ev l hl) (evNeg (by omega) (Ev.bind (heldInt_at o _ ho (by omega) (by omega)) (evNeg (by omega) (Ev.now _))))
theorem rdAt_ev {l : List S137} (hg : goodSheet l = true) (s : Int) : Ev (fun k => spec_rdAt.f k l s) (l, s, opn s [] l) := by
  have := goodSheet_len hg
  unfold spec_rdAt.f
  simp only [Option.bind_some]
  refine evPos (by simp; omega) (Ev.bind (rdOpen_ev hg s) (evNow (by simp)))
theorem readerAt_ev {l : List S137} (hg : goodSheet l = true) (s : Int) : Ev (fun k => impl_readerAt.f k l s) (l, s, opn s [] l) := by
  have := goodSheet_len hg
  unfold impl_readerAt.f
  refine evC (a := l) ?_ (Ev.bind (openTracks_ev hg s) (Ev.now _))
  unfold impl_Hole.f
  simp; omega
theorem opn_small {l : List S137} (hg : goodSheet l = true) (s : Int) : (opn s [] l).length ≤ 60 := by
  have := goodSheet_len hg
  have := opn_len s l []
  simp at this; omega
-- ** ReadStep_
def less (l out : List Int) : List Int := l.filter fun x => !(decide (x ∈ out))
theorem less_len (l out : List Int) : (less l out).length ≤ l.length := List.length_filter_le _ _
theorem l1Has_l0 (n : Int) (l : List Int) (hl : l.length ≤ 1048576) : ∀ (suf pre : List Int), l = pre ++ suf → Ev (fun k => spec_l1Has.l0 k n l (l.length : Int) (pre.length : Int)) (decide (n ∈ suf)) := by
  intro suf
  induction suf with
  | nil =>
    intro pre h
    refine Ev.step (fun k => spec_l1Has.l0.eq_2 ..) ?_
    simp only [rgEnd h, if_false]
    exact evNow (decF (by simp))
  | cons x suf ih =>
    intro pre h
    obtain ⟨h1, h2, h3, h4, h5⟩ := rgHead h (by omega) 0
    refine Ev.step (fun k => spec_l1Has.l0.eq_2 ..) ?_
    simp only [h1, h2, h3, rd, h4, if_true]
    exact evBy (fun c => evNow (decT (by rw [c]; simp))) (fun c => evEq (ih _ h5) (decD (by simp [show ¬ n = x from fun q => c q.symm])))
theorem l1Has_ev (l : List Int) (n : Int) (hl : l.length ≤ 1048576) : Ev (fun k => spec_l1Has.f k l n) (decide (n ∈ l)) := by
  unfold spec_l1Has.f; exact l1Has_l0 n l hl l [] rfl
theorem slIndex_l0 (n : Int) (l : List Int) (hl : l.length ≤ 1048576) : ∀ (suf pre : List Int), l = pre ++ suf → ∃ i : Int, Ev (fun k => slices_Index_int_int.l0 k l n (l.length : Int) (pre.length : Int)) i ∧ (i ≥ 0 ↔ n ∈ suf) := by
  intro suf
  induction suf with
  | nil =>
    intro pre h
    refine ⟨-1, Ev.step (fun k => slices_Index_int_int.l0.eq_2 ..) ?_, by simp⟩
    simp only [rgEnd h, if_false]
    exact Ev.now _
  | cons x suf ih =>
    intro pre h
    obtain ⟨h1, h2, h3, h4, h5⟩ := rgHead h (by omega) 0
    by_cases c : n = x
    · refine ⟨(pre.length : Int), Ev.step (fun k => slices_Index_int_int.l0.eq_2 ..) ?_, by simp [c]⟩
      simp only [h1, h2, h3, rd, h4, if_true]
      exact evPos c (Ev.now _)
    · obtain ⟨i, hi, hi'⟩ := ih _ h5
      refine ⟨i, Ev.step (fun k => slices_Index_int_int.l0.eq_2 ..) ?_, by simp [c, hi']⟩
      simp only [h1, h2, h3, rd, h4, if_true]
      exact evNeg c hi
theorem slContains_ev (l : List Int) (n : Int) (hl : l.length ≤ 1048576) : Ev (fun k => slices_Contains_int_int.f k l n) (decide (n ∈ l)) := by
  obtain ⟨i, hi, hi'⟩ := slIndex_l0 n l hl l [] rfl
  unfold slices_Contains_int_int.f slices_Index_int_int.f
  exact Ev.bind hi (evNow (decD hi'))
theorem rdLess_l0 (l out : List Int) (hl : l.length ≤ 1048576) (ho : out.length ≤ 1048576) : ∀ (suf pre acc : List Int), l = pre ++ suf → acc.length ≤ pre.length → Ev (fun k => spec_rdLess.l0 k out acc l (l.length : Int) (pre.length : Int)) (acc ++ less suf out) := by
  intro suf
  induction suf with
  | nil =>
    intro pre acc h ha
    refine Ev.step (fun k => spec_rdLess.l0.eq_2 ..) ?_
    simp only [rgEnd h, if_false]
    exact evNow (by simp [less])
  | cons x suf ih =>
    intro pre acc h ha
    obtain ⟨h1, h2, h3, h4, h5⟩ := rgHead h (by omega) 0
    have hp : pre.length ≤ 1048576 := by omega
    refine Ev.step (fun k => spec_rdLess.l0.eq_2 ..) ?_
    simp only [h1, h2, h3, rd, h4, if_true]
    refine Ev.bind (l1Has_ev out x ho) ?_
    simp only [decide_eq_true_eq]
    refine evBy (fun c => evEq (ih _ acc h5 (by simp; omega)) (by simp [less, c])) (fun c => evPos (by omega) (evEq (ih _ _ h5 (by simp; omega)) (by simp [less, c])))
theorem rdLess_ev (l out : List Int) (hl : l.length ≤ 1048576) (ho : out.length ≤ 1048576) : Ev (fun k => spec_rdLess.f k l out) (less l out) := by
  unfold spec_rdLess.f; exact rdLess_l0 l out hl ho l [] [] rfl (by simp)
theorem without_l0 (l out : List Int) (hl : l.length ≤ 1048576) (ho : out.length ≤ 1048576) : ∀ (suf pre acc : List Int), l = pre ++ suf → acc.length ≤ pre.length → Ev (fun k => impl_without.l0 k out acc l (l.length : Int) (pre.length : Int)) (acc ++ less suf out) := by
  intro suf
  induction suf with
  | nil =>
    intro pre acc h ha
    refine Ev.step (fun k => impl_without.l0.eq_2 ..) ?_
    simp only [rgEnd h, if_false]
    exact evNow (by simp [less])
  | cons x suf ih =>
    intro pre acc h ha
    obtain ⟨h1, h2, h3, h4, h5⟩ := rgHead h (by omega) 0
    have hp : pre.length ≤ 1048576 := by omega
    refine Ev.step (fun k => impl_without.l0.eq_2 ..) ?_
    simp only [h1, h2, h3, rd, h4, if_true]
    refine Ev.bind (slContains_ev out x ho) ?_
    simp only [decide_eq_true_eq]
    refine evBy (fun c => evEq (ih _ acc h5 (by simp; omega)) (by simp [less, c])) (fun c => evPos (by omega) (evEq (ih _ _ h5 (by simp; omega)) (by simp [less, c])))
theorem without_ev (l out : List Int) (hl : l.length ≤ 1048576) (ho : out.length ≤ 1048576) : Ev (fun k => impl_without.f k l out) (less l out) := by
  unfold impl_without.f; exact without_l0 l out hl ho l [] [] rfl (by simp)
def stepRes (l : List S137) (s : Int) (o : List Int) : List S137 × Int × List Int × List Int × List Int × Bool := if goodReader l s o = true then (if (s == 2000) = true then ([], 0, [], [], [], false) else (l, s + 1, opn (s + 1) [] l, less (opn (s + 1) [] l) o, less o (opn (s + 1) [] l), true)) else ([], 0, [], [], [], false)
theorem specStep_ev {l : List S137} (hl : l.length ≤ 1048576) (s : Int) {o : List Int} (ho : o.length ≤ 1048576) : Ev (fun k => spec_ReadStep.f k l s o) (stepRes l s o) := by
  unfold spec_ReadStep.f stepRes
  refine Ev.bind (rdGood_ev hl s ho) (evIte (fun c => ?_) (fun _ => Ev.step (fun k => spec_ReadStep.j0.eq_2 ..) (evPos rfl (Ev.now _))))
  obtain ⟨hg, hs, _⟩ := goodReader_iff.1 c
  have hb := opn_small hg (s + 1)
  refine Ev.step (fun k => spec_ReadStep.j0.eq_2 ..) (evIte (fun _ => Ev.now _) (fun _ => ?_))
  rw [wrapi (x := s + 1) (by omega) (by omega)]
  exact Ev.bind (rdAt_ev hg _) (Ev.bind (rdLess_ev _ _ (by first | omega | (dsimp only; omega)) ho) (Ev.bind (rdLess_ev _ _ ho (by first | omega | (dsimp only; omega))) (Ev.now _)))
theorem implStep_ev {l : List S137} (hl : l.length ≤ 1048576) (s : Int) {o : List Int} (ho : o.length ≤ 1048576) : Ev (fun k => impl_ReadStep.f k l s o) (stepRes l s o) := by
  unfold impl_ReadStep.f stepRes
  refine Ev.bind (isReader_ev hl s ho) (evIte (fun c => ?_) (fun _ => Ev.step (fun k => impl_ReadStep.j0.eq_2 ..) (evPos rfl (Ev.now _))))
  obtain ⟨hg, hs, _⟩ := goodReader_iff.1 c
  have hb := opn_small hg (s + 1)
  refine Ev.step (fun k => impl_ReadStep.j0.eq_2 ..) (evIte (fun _ => Ev.now _) (fun _ => ?_))
  rw [wrapi (x := s + 1) (by omega) (by omega)]
  exact Ev.bind (readerAt_ev hg _) (Ev.bind (without_ev _ _ (by first | omega | (dsimp only; omega)) ho) (Ev.bind (without_ev _ _ ho (by first | omega | (dsimp only; omega))) (Ev.now _)))
theorem stepRes_bd (l : List S137) (s : Int) (o : List Int) : (stepRes l s o).1.length ≤ 60 ∧ (stepRes l s o).2.2.1.length ≤ 60 ∧ (stepRes l s o).2.2.2.1.length ≤ 60 ∧ (stepRes l s o).2.2.2.2.1.length ≤ 60 := by
  unfold stepRes; split
  · rename_i c
    obtain ⟨hg, hs, ho⟩ := goodReader_iff.1 c
    split
    · simp
    · have h1 := less_len (opn (s + 1) [] l) o
      have h2 := less_len o (opn (s + 1) [] l)
      have h3 := opn_small hg (s + 1)
      have h4 := opn_small hg s
      rw [← ho] at h4
      exact ⟨goodSheet_len hg, h3, by dsimp only; omega, by dsimp only; omega⟩
  · simp
-- ** FnExactReadStep
theorem FnExactReadStep (l0_0 : List S139) (a0_1 : Int) (l0_2 : List Int) (w0 : Opn.Lst (fun x : S139 => Opn.I64 x.f0 ∧ Opn.I64 x.f1 ∧ Opn.I64 x.f2) l0_0) (_ : Opn.I64 a0_1) (w2 : Opn.Lst Opn.I64 l0_2) : ∃ k, laws_FnExactReadStep.f k l0_0 a0_1 l0_2 = some true := by
  refine Ev.rounds (g := fun k => laws_FnExactReadStep.f k l0_0 a0_1 l0_2) ?_
  unfold laws_FnExactReadStep.f
  have hl0 : l0_0.length ≤ 9223372036854775807 := w0.1
  by_cases c : l0_0.length + l0_2.length ≤ 1048576
  · rw [szReader_small (by first | omega | (dsimp only; omega)) c]
    simp only [Option.bind_some]
    have hm : (l0_0.map cvHole).length ≤ 1048576 := by simp; omega
    have ho : l0_2.length ≤ 1048576 := by omega
    have hb := stepRes_bd (l0_0.map cvHole) a0_1 l0_2
    refine evNeg (by first | omega | (dsimp only; omega)) (Ev.bind (toReader_ev a0_1 (by first | omega | (dsimp only; omega)) ho) (Ev.bind (specStep_ev hm a0_1 ho) (Ev.bind (toReader_ev a0_1 (by first | omega | (dsimp only; omega)) ho) (Ev.bind (implStep_ev hm a0_1 ho) (Ev.bind (eqReader_ev _ (by first | omega | (dsimp only; omega)) (by first | omega | (dsimp only; omega))) (evPos rfl (Ev.bind (eqInt_ev _ (by first | omega | (dsimp only; omega))) (evPos rfl (Ev.bind (eqInt_ev _ (by first | omega | (dsimp only; omega))) (evPos rfl ?_))))))))))
    simp only [bne_self_eq_false]
    refine Ev.step (fun k => laws_FnExactReadStep.j0.eq_2 ..) (evNeg (by simp) (Ev.bind (toReader_ev a0_1 (by first | omega | (dsimp only; omega)) ho) (Ev.bind (eqReader_ev _ hm ho) (evPos rfl (Ev.bind (markReader_ev _ hm ho) (evNeg (by dsimp only; omega) (Ev.bind (eqReader_ev _ (by first | omega | (dsimp only; omega)) (by first | omega | (dsimp only; omega))) (evPos rfl (Ev.bind (eqInt_ev _ (by first | omega | (dsimp only; omega))) (evPos rfl (Ev.bind (eqInt_ev _ (by first | omega | (dsimp only; omega))) (evPos rfl ?_))))))))))))
    simp only [bne_self_eq_false]
    refine Ev.step (fun k => laws_FnExactReadStep.j1.eq_2 ..) (evNeg (by simp) (Ev.bind (markReader_ev _ (by first | omega | (dsimp only; omega)) (by first | omega | (dsimp only; omega))) (Ev.bind (markInt_at _ _ (by first | omega | (dsimp only; omega)) (by first | omega | (dsimp only; omega)) (by first | omega | (dsimp only; omega))) (Ev.bind (markInt_at _ _ (by first | omega | (dsimp only; omega)) (by first | omega | (dsimp only; omega)) (by first | omega | (dsimp only; omega))) (Ev.bind (heldReader_ev _ (by first | omega | (dsimp only; omega)) (by first | omega | (dsimp only; omega))) (evNeg (by first | omega | (dsimp only; omega)) (Ev.bind (heldInt_at _ _ (by first | omega | (dsimp only; omega)) (by first | omega | (dsimp only; omega)) (by first | omega | (dsimp only; omega))) (evNeg (by first | omega | (dsimp only; omega)) (Ev.bind (heldInt_at _ _ (by first | omega | (dsimp only; omega)) (by first | omega | (dsimp only; omega)) (by first | omega | (dsimp only; omega))) (evNeg (by first | omega | (dsimp only; omega)) (evPos rfl (Ev.bind (toReader_ev a0_1 (by first | omega | (dsimp only; omega)) ho) (Ev.bind (implStep_ev hm a0_1 ho) (Ev.bind (eqReader_ev _ (by first | omega | (dsimp only; omega)) (by first | omega | (dsimp only; omega))) (evPos rfl (Ev.bind (eqInt_ev _ (by first | omega | (dsimp only; omega))) (evPos rfl (Ev.bind (eqInt_ev _ (by first | omega | (dsimp only; omega))) (evPos rfl ?_)))))))))))))))))))
    simp only [bne_self_eq_false]
    exact Ev.step (fun k => laws_FnExactReadStep.j2.eq_2 ..) (evNeg (by simp) (Ev.bind (heldReader_ev _ (by first | omega | (dsimp only; omega)) (by first | omega | (dsimp only; omega))) (evNeg (by first | omega | (dsimp only; omega)) (Ev.bind (heldInt_at _ _ (by first | omega | (dsimp only; omega)) (by first | omega | (dsimp only; omega)) (by first | omega | (dsimp only; omega))) (evNeg (by first | omega | (dsimp only; omega)) (Ev.bind (heldInt_at _ _ (by first | omega | (dsimp only; omega)) (by first | omega | (dsimp only; omega)) (by first | omega | (dsimp only; omega))) (evNeg (by first | omega | (dsimp only; omega)) (evPos rfl (Ev.now _)))))))))
  · rw [szReader_big hl0 w2.1 c]
    simp only [Option.bind_some]
    exact evPos (by first | omega | (dsimp only; omega)) (Ev.now _)
end Go.Proofs.Ytepkedhmbfkenaa.Pure
