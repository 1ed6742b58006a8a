/- The program's NextChange returns what the reference's returns, for all arguments.: the plain part: what the program computes and what the reference computes agree, for all arguments. No conditions beyond the arguments' own kinds. -/
import Derived.Test.YtjdkdbeenggfaaaPNcx0
import Derived.Test.YtjdkdbeenggfaaaPNcx1
import Derived.Test.YtjdkdbeenggfaaaPNcx2
import Derived.Test.YtjdkdbeenggfaaaPNcx3
import Derived.Test.YtjdkdbeenggfaaaPNcx4
import Derived.Test.YtjdkdbeenggfaaaPNcx5
import Derived.Test.YtjdkdbeenggfaaaPNcx6
import Derived.Test.YtjdkdbeenggfaaaPNcx7
import Derived.Test.YtjdkdbeenggfaaaPNcx8
import Derived.Test.YtjdkdbeenggfaaaPNcx9
import Derived.Test.YtjdkdbeenggfaaaPNcx10
import Derived.Test.YtjdkdbeenggfaaaPNcx11
import Derived.Test.YtjdkdbeenggfaaaPNcx12
import Derived.Test.YtjdkdbeenggfaaaOpn
namespace Go.Proofs.Ytjdkdbeenggfaaa.Pure
open Go.RowKit Go.Proofs.Ytjdkdbeenggfaaa.PNc Go.Proofs.YtjdkdbeenggfaaaW.PrintWords Go.Proofs.YtjdkdbeenggfaaaW.PrintLast Go.Proofs.YtjdkdbeenggfaaaW.PrintMore
-- ** base
theorem wrapi {x : Int} (h0 : -9223372036854775808 ≤ x) (h1 : x ≤ 9223372036854775807) : wrap64 x = x := by unfold wrap64; omega
theorem evPos {α : Type} {c : Prop} [Decidable c] {g f : Nat → Option α} {r : α} (h : c) (e : Ev g r) : Ev (fun k => if c then g k else f k) r := by
  simp only [if_pos h]; exact e
theorem evNeg {α : Type} {c : Prop} [Decidable c] {g f : Nat → Option α} {r : α} (h : ¬ c) (e : Ev f r) : Ev (fun k => if c then g k else f k) r := by
  simp only [if_neg h]; exact e
theorem evC {α β : Type} {o : Option α} {f : Nat → α → Option β} {a : α} {r : β} (h : o = some a) (e : Ev (fun n => f n a) r) : Ev (fun n => o.bind (f n)) r := by
  subst h; exact e
theorem evNow {α : Type} {r q : α} (h : r = q) : Ev (fun _ => some r) q := by subst h; exact Ev.now r
theorem evEq {α : Type} {g : Nat → Option α} {r q : α} (h : Ev g r) (e : r = q) : Ev g q := e ▸ h
theorem evIte {α : Type} {c : Prop} [Decidable c] {g f : Nat → Option α} {r q : α} (h : c → Ev g r) (h' : ¬ c → Ev f q) : Ev (fun k => if c then g k else f k) (if c then r else q) := by
  by_cases hc : c
  · simp only [if_pos hc]; exact h hc
  · simp only [if_neg hc]; exact h' hc
theorem evBy {α : Type} {c : Prop} [Decidable c] {g f : Nat → Option α} {r : α} (h : c → Ev g r) (h' : ¬ c → Ev f r) : Ev (fun k => if c then g k else f k) r := by
  by_cases hc : c
  · simp only [if_pos hc]; exact h hc
  · simp only [if_neg hc]; exact h' hc
theorem someT {p : Prop} [Decidable p] (h : p) : some true = some (decide p) := by rw [decide_eq_true h]
theorem someF {p : Prop} [Decidable p] (h : ¬ p) : some false = some (decide p) := by rw [decide_eq_false h]
theorem someD {p q : Prop} [Decidable p] [Decidable q] (h : p ↔ q) : some (decide p) = some (decide q) := by rw [decide_eq_decide.mpr h]
theorem decF {p : Prop} [Decidable p] (h : ¬ p) : false = decide p := by rw [decide_eq_false h]
theorem decD {p q : Prop} [Decidable p] [Decidable q] (h : p ↔ q) : decide p = decide q := decide_eq_decide.mpr h
theorem allBad {α : Type} {p : α → Bool} {x : α} {suf : List α} {q : Bool} (h : p x = false) : false = ((x :: suf).all p && q) := by simp [h]
theorem allGood {α : Type} {p : α → Bool} {x : α} {suf : List α} {q : Bool} (h : p x = true) : (suf.all p && q) = ((x :: suf).all p && q) := by simp [h]
theorem rgEnd {α : Type} {l pre : List α} (h : l = pre ++ []) : ¬ ((pre.length : Int) < (l.length : Int)) := by subst h; simp
theorem rgHead {α : Type} {l pre suf : List α} {x : α} (h : l = pre ++ x :: suf) (hl : l.length ≤ 4611686018427387904) (z : α) :
    (pre.length : Int) < (l.length : Int) ∧ (0 : Int) ≤ (pre.length : Int) ∧ wrap64 ((pre.length : Int) + 1) = ((pre ++ [x]).length : Int) ∧ l.getD (pre.length : Int).toNat z = x ∧ l = (pre ++ [x]) ++ suf := by
  subst h
  simp at hl
  refine ⟨by simp; omega, by omega, ?_, by simp, by simp⟩
  rw [wrapi (by omega) (by omega)]; simp
theorem in_eq (a b c : Int) : spec_l1In.f a b c = some (decide (b ≤ a ∧ a ≤ c)) := by
  unfold spec_l1In.f
  split
  · exact someD (by omega)
  · exact someF (by omega)
-- ** lists
theorem setAt {α : Type} (A B : List α) (z v : α) (n : Nat) (h : n = A.length) : (A ++ z :: B).set n v = A ++ v :: B := by subst h; simp
-- ** sheet
def hole (x : S87) : Prop := 0 ≤ x.f0 ∧ x.f0 ≤ 19 ∧ 0 ≤ x.f1 ∧ x.f1 < x.f2 ∧ x.f2 ≤ 2000
instance (x : S87) : Decidable (hole x) := by unfold hole; exact inferInstance
def hbef (a b : S87) : Prop := a.f1 < b.f1 ∨ (a.f1 = b.f1 ∧ a.f0 < b.f0)
instance (a b : S87) : Decidable (hbef a b) := by unfold hbef; exact inferInstance
def hfree (x y : S87) : Bool := !decide (y.f0 = x.f0 ∧ y.f2 ≥ x.f1)
def headOk (pre : List S87) (x : S87) : Bool := decide (hole x) && (decide (pre = [] ∨ hbef (pre.getD (pre.length - 1) z87) x) && pre.all (hfree x))
def goodFrom : List S87 → List S87 → Bool
  | _, [] => true
  | pre, x :: suf => headOk pre x && goodFrom (pre ++ [x]) suf
def goodSheet (l : List S87) : Bool := goodFrom [] l && decide (l.length ≤ 60)
theorem shHole_eq (x : S87) : spec_shHole.f x.f0 x.f1 x.f2 = some (decide (hole x)) := by
  unfold spec_shHole.f; simp only [in_eq, Option.bind_some, decide_eq_true_eq]
  split
  · split
    · rw [wrapi (by omega) (by omega)]; exact someD (by unfold hole; omega)
    · exact someF (by unfold hole; omega)
  · exact someF (by unfold hole; omega)
theorem isHole_eq (x : S87) : impl_IsHole.f x.f0 x.f1 x.f2 = some (decide (hole x)) := by
  unfold impl_IsHole.f impl_isTrack.f
  by_cases c : x.f0 ≥ 0
  · rw [if_pos c]; simp only [Option.bind_some, decide_eq_true_eq]
    split
    · split
      · split
        · exact someD (by unfold hole; omega)
        · exact someF (by unfold hole; omega)
      · exact someF (by unfold hole; omega)
    · exact someF (by unfold hole; omega)
  · rw [if_neg c]; simp only [Option.bind_some, Bool.false_eq_true, if_false]
    exact someF (by unfold hole; omega)
theorem shBefore_eq (a b : S87) : spec_shBefore.f a.f0 a.f1 a.f2 b.f0 b.f1 b.f2 = some (decide (hbef a b)) := by
  unfold spec_shBefore.f
  split
  · exact someT (by unfold hbef; omega)
  · split
    · exact someD (by unfold hbef; omega)
    · exact someF (by unfold hbef; omega)
theorem holeLess_eq (a b : S87) : impl_holeLess.f a.f0 a.f1 a.f2 b.f0 b.f1 b.f2 = some (decide (hbef a b)) := by
  unfold impl_holeLess.f
  split
  · exact someD (by unfold hbef; omega)
  · exact someD (by unfold hbef; omega)
theorem hfree_t {x y : S87} (h : ¬ (y.f0 = x.f0 ∧ y.f2 ≥ x.f1)) : hfree x y = true := by unfold hfree; rw [decide_eq_false h]; rfl
theorem hfree_f {x y : S87} (h : y.f0 = x.f0 ∧ y.f2 ≥ x.f1) : hfree x y = false := by unfold hfree; rw [decide_eq_true h]; rfl
theorem shGood_l1 (l : List S87) (i : Int) (x : S87) (l' : List S87) (n : Int) (q : Bool) (hq : Ev (fun k => spec_shGood.l0 k l l' n (wrap64 (i + 1))) q) (p : List S87) (hl : p.length ≤ 1048576) :
    ∀ (suf pre : List S87), p = pre ++ suf → Ev (fun k => spec_shGood.l1 k l l' n i p (p.length : Int) (pre.length : Int) x.f0 x.f1 x.f2) (suf.all (hfree x) && q) := by
  intro suf
  induction suf with
  | nil =>
    intro pre h
    refine Ev.step (fun k => spec_shGood.l1.eq_2 ..) ?_
    simp only [rgEnd h, if_false]
    exact evEq hq (by simp)
  | cons y suf ih =>
    intro pre h
    obtain ⟨h1, h2, h3, h4, h5⟩ := rgHead h (by omega) z87
    refine Ev.step (fun k => spec_shGood.l1.eq_2 ..) ?_
    simp only [h1, h2, h3, rd_T87, h4, if_true]
    refine evBy (fun c => evBy (fun c' => evNow (allBad (hfree_f ⟨c.symm, c'⟩))) (fun c' => evEq (ih _ h5) (allGood (hfree_t (fun r => c' r.2))))) (fun c => evEq (ih _ h5) (allGood (hfree_t (fun r => c r.1.symm))))
theorem shGood_l0 (l : List S87) (hl : l.length ≤ 1048576) : ∀ (suf pre : List S87), l = pre ++ suf → Ev (fun k => spec_shGood.l0 k l l (l.length : Int) (pre.length : Int)) (goodFrom pre suf && decide (l.length ≤ 60)) := by
  intro suf
  induction suf with
  | nil =>
    intro pre h
    refine Ev.step (fun k => spec_shGood.l0.eq_2 ..) ?_
    simp only [rgEnd h, if_false]
    exact evNow (by rw [goodFrom, Bool.true_and]; exact decD (by omega))
  | cons x suf ih =>
    intro pre h
    obtain ⟨h1, h2, h3, h4, h5⟩ := rgHead h (by omega) z87
    have hpl : pre.length ≤ 1048576 := by omega
    have hj : ∀ b : Bool, b = !decide (pre = [] ∨ hbef (pre.getD (pre.length - 1) z87) x) → hole x → Ev (fun k => spec_shGood.j1 k l (pre.length : Int) l (l.length : Int) (pre.length : Int) b x.f0 x.f1 x.f2) (goodFrom pre (x :: suf) && decide (l.length ≤ 60)) := by
      intro b hb hx
      refine Ev.step (fun k => spec_shGood.j1.eq_2 ..) ?_
      by_cases c : pre = [] ∨ hbef (pre.getD (pre.length - 1) z87) x
      · rw [decide_eq_true c] at hb; subst hb
        refine evNeg (by simp) (evPos h2 (evPos (by omega) ?_))
        simp only [Option.bind_some]
        have e : l.take (pre.length : Int).toNat = pre := by rw [h]; simp
        rw [e]
        refine evEq (shGood_l1 l (pre.length : Int) x l (l.length : Int) _ (by rw [h3]; exact ih _ h5) pre (by omega) pre [] rfl) ?_
        simp only [goodFrom, headOk, decide_eq_true hx, decide_eq_true c, Bool.true_and, Bool.and_assoc]
      · rw [decide_eq_false c] at hb; subst hb
        refine evPos rfl (evNow ?_)
        simp only [goodFrom, headOk, decide_eq_false c, Bool.false_and, Bool.and_false]
    refine Ev.step (fun k => spec_shGood.l0.eq_2 ..) ?_
    simp only [h1, h2, rd_T87, h4, if_true, shHole_eq, Option.bind_some, decide_eq_true_eq]
    refine evBy (fun hx => ?_) (fun hx => Ev.step (fun k => spec_shGood.j1.eq_2 ..) (evPos rfl (evNow (by simp only [goodFrom, headOk, decide_eq_false hx, Bool.false_and]))))
    by_cases c : 0 < pre.length
    · rw [wrapi (x := (pre.length : Int) - 1) (by omega) (by omega)]
      refine evPos (by omega) (evPos (by omega) (evPos (by omega) ?_))
      have e : l.getD ((pre.length : Int) - 1).toNat z87 = pre.getD (pre.length - 1) z87 := by
        rw [show ((pre.length : Int) - 1).toNat = pre.length - 1 by omega, h, List.getD_eq_getElem?_getD, List.getD_eq_getElem?_getD, List.getElem?_append_left (by omega)]
      rw [e, shBefore_eq]
      simp only [Option.bind_some]
      refine hj _ ?_ hx
      congr 1
      refine decide_eq_decide.mpr ⟨fun r => .inr r, fun r => r.resolve_left (fun z => by rw [z] at c; simp at c)⟩
    · refine evNeg (by omega) (hj _ ?_ hx)
      have : pre = [] := List.eq_nil_of_length_eq_zero (by omega)
      rw [decide_eq_true (Or.inl this)]; rfl
theorem shGood_ev {l : List S87} (hl : l.length ≤ 1048576) : Ev (fun k => spec_shGood.f k l) (goodSheet l) := shGood_l0 l hl l [] rfl
theorem isSheet_l1 (l : List S87) (i : Int) (x : S87) (l' : List S87) (n : Int) (q : Bool) (hq : Ev (fun k => impl_IsSheet.l0 k l l' n (wrap64 (i + 1))) q) (p : List S87) (hl : p.length ≤ 1048576) :
    ∀ (suf pre : List S87), p = pre ++ suf → Ev (fun k => impl_IsSheet.l1 k l l' n i p (p.length : Int) (pre.length : Int) x.f0 x.f1 x.f2) (suf.all (hfree x) && q) := by
  intro suf
  induction suf with
  | nil =>
    intro pre h
    refine Ev.step (fun k => impl_IsSheet.l1.eq_2 ..) ?_
    simp only [rgEnd h, if_false]
    exact evEq hq (by simp)
  | cons y suf ih =>
    intro pre h
    obtain ⟨h1, h2, h3, h4, h5⟩ := rgHead h (by omega) z87
    refine Ev.step (fun k => impl_IsSheet.l1.eq_2 ..) ?_
    simp only [h1, h2, h3, rd_T87, h4, if_true]
    refine evBy (fun c => evBy (fun c' => evNow (allBad (hfree_f ⟨c, c'⟩))) (fun c' => evEq (ih _ h5) (allGood (hfree_t (fun r => c' r.2))))) (fun c => evEq (ih _ h5) (allGood (hfree_t (fun r => c r.1))))
theorem isSheet_l0 (l : List S87) (hl : l.length ≤ 1048576) : ∀ (suf pre : List S87), l = pre ++ suf → Ev (fun k => impl_IsSheet.l0 k l l (l.length : Int) (pre.length : Int)) (goodFrom pre suf) := by
  intro suf
  induction suf with
  | nil =>
    intro pre h
    refine Ev.step (fun k => impl_IsSheet.l0.eq_2 ..) ?_
    simp only [rgEnd h, if_false]
    exact evNow (by rw [goodFrom])
  | cons x suf ih =>
    intro pre h
    obtain ⟨h1, h2, h3, h4, h5⟩ := rgHead h (by omega) z87
    have hpl : pre.length ≤ 1048576 := by omega
    have hj : ∀ b : Bool, b = !decide (pre = [] ∨ hbef (pre.getD (pre.length - 1) z87) x) → hole x → Ev (fun k => impl_IsSheet.j1 k l (pre.length : Int) l (l.length : Int) (pre.length : Int) b x.f0 x.f1 x.f2) (goodFrom pre (x :: suf)) := by
      intro b hb hx
      refine Ev.step (fun k => impl_IsSheet.j1.eq_2 ..) ?_
      by_cases c : pre = [] ∨ hbef (pre.getD (pre.length - 1) z87) x
      · rw [decide_eq_true c] at hb; subst hb
        refine evNeg (by simp) (evPos h2 (evPos (by omega) ?_))
        simp only [Option.bind_some]
        have e : l.take (pre.length : Int).toNat = pre := by rw [h]; simp
        rw [e]
        refine evEq (isSheet_l1 l (pre.length : Int) x l (l.length : Int) _ (by rw [h3]; exact ih _ h5) pre (by omega) pre [] rfl) ?_
        simp only [goodFrom, headOk, decide_eq_true hx, decide_eq_true c, Bool.true_and]
      · rw [decide_eq_false c] at hb; subst hb
        refine evPos rfl (evNow ?_)
        simp only [goodFrom, headOk, decide_eq_false c, Bool.false_and, Bool.and_false]
    refine Ev.step (fun k => impl_IsSheet.l0.eq_2 ..) ?_
    simp only [h1, h2, rd_T87, h4, if_true, isHole_eq, Option.bind_some, decide_eq_true_eq]
    refine evBy (fun hx => ?_) (fun hx => Ev.step (fun k => impl_IsSheet.j1.eq_2 ..) (evPos rfl (evNow (by simp only [goodFrom, headOk, decide_eq_false hx, Bool.false_and]))))
    by_cases c : 0 < pre.length
    · rw [wrapi (x := (pre.length : Int) - 1) (by omega) (by omega)]
      refine evPos (by omega) (evPos (by omega) (evPos (by omega) ?_))
      have e : l.getD ((pre.length : Int) - 1).toNat z87 = pre.getD (pre.length - 1) z87 := by
        rw [show ((pre.length : Int) - 1).toNat = pre.length - 1 by omega, h, List.getD_eq_getElem?_getD, List.getD_eq_getElem?_getD, List.getElem?_append_left (by omega)]
      rw [e, holeLess_eq]
      simp only [Option.bind_some]
      refine hj _ ?_ hx
      congr 1
      refine decide_eq_decide.mpr ⟨fun r => .inr r, fun r => r.resolve_left (fun z => by rw [z] at c; simp at c)⟩
    · refine evNeg (by omega) (hj _ ?_ hx)
      have : pre = [] := List.eq_nil_of_length_eq_zero (by omega)
      rw [decide_eq_true (Or.inl this)]; rfl
theorem isSheet_ev {l : List S87} (hl : l.length ≤ 1048576) : Ev (fun k => impl_IsSheet.f k l) (goodSheet l) := by
  unfold impl_IsSheet.f goodSheet
  refine evBy (fun c => evNow ?_) (fun c => evEq (isSheet_l0 l hl l [] rfl) ?_)
  · rw [show decide (l.length ≤ 60) = false from decide_eq_false (by omega), Bool.and_false]
  · rw [show decide (l.length ≤ 60) = true from decide_eq_true (by omega), Bool.and_true]
-- ** put
def put : List Int → Int → List Int
  | [], n => [n]
  | a :: l, n => if a < n then a :: put l n else if a = n then a :: l else n :: a :: l
theorem put_len : ∀ (l : List Int) (n : Int), (put l n).length ≤ l.length + 1
  | [], n => by simp [put]
  | a :: l, n => by
    have := put_len l n
    simp only [put]; split
    · simp; omega
    · split <;> simp
theorem l1Put_l0 (l : List Int) (n : Int) (hl : l.length ≤ 1048576) : ∀ (suf pre : List Int), l = pre ++ suf → Ev (fun k => spec_l1Put.l0 k l n (pre.length : Int)) (pre ++ put suf n) := by
  intro suf
  induction suf with
  | nil =>
    intro pre h
    have hp : pre.length ≤ 1048576 := by rw [h] at hl; simpa using hl
    have hL : l.length = pre.length := by rw [h]; simp
    have e1 : l.take (pre.length : Int).toNat = pre := by rw [h]; simp
    have e2 : l.drop (pre.length : Int).toNat = [] := by rw [h]; simp
    refine Ev.step (fun k => spec_l1Put.l0.eq_2 ..) ?_
    simp only [rgEnd h, if_false, Option.bind_some, e1, e2]
    repeat' first | (refine evPos (by first | omega | (simp; omega)) ?_)
    exact evNow (by simp [put])
  | cons x suf ih =>
    intro pre h
    obtain ⟨h1, h2, h3, h4, h5⟩ := rgHead h (by omega) 0
    have hp : pre.length + (suf.length + 1) ≤ 1048576 := by rw [h] at hl; simpa using hl
    have hL : l.length = pre.length + (suf.length + 1) := by rw [h]; simp
    have e1 : l.take (pre.length : Int).toNat = pre := by rw [h]; simp
    have e2 : l.drop (pre.length : Int).toNat = x :: suf := by rw [h]; simp
    refine Ev.step (fun k => spec_l1Put.l0.eq_2 ..) ?_
    simp only [h1, h2, h3, rd, h4, if_true, Option.bind_some, e1, e2]
    refine evBy (fun c => evEq (ih _ h5) (by simp [put, c])) (fun c => evBy (fun c' => evNow (by rw [h]; simp [put, c'])) (fun c' => ?_))
    repeat' first | (refine evPos (by first | omega | (simp; omega)) ?_)
    exact evNow (by simp [put, c, c'])
theorem l1Put_ev {l : List Int} (hl : l.length ≤ 1048576) (n : Int) : Ev (fun k => spec_l1Put.f k l n) (put l n) := by
  unfold spec_l1Put.f; exact l1Put_l0 l n hl l [] rfl
-- ** most
theorem l1Most_eq (a b : Int) : spec_l1Most.f a b = some (max a b) := by
  unfold spec_l1Most.f; split <;> (congr 1; omega)
-- ** shopen
theorem goodFrom_hole : ∀ {suf pre : List S87}, goodFrom pre suf = true → ∀ x, x ∈ suf → hole x
  | [], _, _, x, hx => by simp at hx
  | y :: suf, pre, h, x, hx => by
    simp only [goodFrom, headOk, Bool.and_eq_true, decide_eq_true_eq] at h
    rcases List.mem_cons.1 hx with r | r
    · subst r; exact h.1.1
    · exact goodFrom_hole h.2 x r
theorem goodSheet_hole {l : List S87} (h : goodSheet l = true) : ∀ x, x ∈ l → hole x := by
  simp only [goodSheet, Bool.and_eq_true] at h; exact goodFrom_hole h.1
theorem goodSheet_len {l : List S87} (h : goodSheet l = true) : l.length ≤ 60 := by
  simp only [goodSheet, Bool.and_eq_true, decide_eq_true_eq] at h; exact h.2
def isOpn (s : Int) (x : S87) : Prop := x.f1 ≤ s ∧ s < x.f2
instance (s : Int) (x : S87) : Decidable (isOpn s x) := by unfold isOpn; exact inferInstance
def opn (s : Int) : List Int → List S87 → List Int
  | acc, [] => acc
  | acc, x :: l => opn s (if isOpn s x then put acc x.f0 else acc) l
theorem shOpen_l0 (s : Int) (l : List S87) (hl : l.length ≤ 1000) (hh : ∀ x, x ∈ l → hole x) : ∀ (suf pre : List S87) (acc : List Int), l = pre ++ suf → acc.length ≤ pre.length →
    Ev (fun k => spec_shOpen.l0 k s acc l (l.length : Int) (pre.length : Int)) (opn s acc suf) := by
  intro suf
  induction suf with
  | nil =>
    intro pre acc h ha
    refine Ev.step (fun k => spec_shOpen.l0.eq_2 ..) ?_
    simp only [rgEnd h, if_false]
    exact evNow (by simp [opn])
  | cons x suf ih =>
    intro pre acc h ha
    obtain ⟨h1, h2, h3, h4, h5⟩ := rgHead h (by omega) z87
    have hx := hh x (by rw [h]; simp)
    unfold hole at hx
    have hpl : pre.length ≤ 1000 := by omega
    refine Ev.step (fun k => spec_shOpen.l0.eq_2 ..) ?_
    simp only [h1, h2, h3, rd_T87, h4, if_true, in_eq, Option.bind_some, decide_eq_true_eq]
    rw [wrapi (x := x.f2 - 1) (by omega) (by omega)]
    simp only [opn]
    have hput := put_len acc x.f0
    refine evBy (fun c => Ev.bind (l1Put_ev (by omega) x.f0) ?_) (fun c => ?_)
    · rw [if_pos (show isOpn s x by unfold isOpn; omega)]
      exact ih _ _ h5 (by simp; omega)
    · rw [if_neg (show ¬ isOpn s x by unfold isOpn; omega)]
      exact ih _ _ h5 (by simp; omega)
theorem shOpen_ev {l : List S87} (hg : goodSheet l = true) (s : Int) : Ev (fun k => spec_shOpen.f k l s) (opn s [] l) := by
  unfold spec_shOpen.f
  have := goodSheet_len hg
  exact shOpen_l0 s l (by omega) (goodSheet_hole hg) l [] [] rfl (by simp)
def lenS : Int → List S87 → Int
  | e, [] => e
  | e, x :: l => lenS (max e x.f2) l
theorem shLength_l0 (l : List S87) (hl : l.length ≤ 1048576) : ∀ (suf pre : List S87) (e : Int), l = pre ++ suf → Ev (fun k => spec_shLength.l0 k e l (l.length : Int) (pre.length : Int)) (lenS e suf) := by
  intro suf
  induction suf with
  | nil =>
    intro pre e h
    refine Ev.step (fun k => spec_shLength.l0.eq_2 ..) ?_
    simp only [rgEnd h, if_false]
    exact evNow (by simp [lenS])
  | cons x suf ih =>
    intro pre e h
    obtain ⟨h1, h2, h3, h4, h5⟩ := rgHead h (by omega) z87
    refine Ev.step (fun k => spec_shLength.l0.eq_2 ..) ?_
    simp only [h1, h2, h3, rd_T87, h4, if_true, l1Most_eq, Option.bind_some, lenS]
    exact ih _ _ h5
theorem shLength_ev {l : List S87} (hl : l.length ≤ 1048576) : Ev (fun k => spec_shLength.f k l) (lenS 0 l) := by
  unfold spec_shLength.f; exact shLength_l0 l hl l [] 0 rfl
theorem lenS_bd : ∀ {l : List S87} {e : Int}, (∀ x, x ∈ l → hole x) → 0 ≤ e → e ≤ 2000 → 0 ≤ lenS e l ∧ lenS e l ≤ 2000
  | [], e, _, h0, h1 => ⟨h0, h1⟩
  | x :: l, e, h, h0, h1 => by
    have hx := h x (by simp)
    unfold hole at hx
    exact lenS_bd (l := l) (e := max e x.f2) (fun y hy => h y (by simp [hy])) (by omega) (by omega)
-- ** opentr
theorem put_mem : ∀ (l : List Int) (n a : Int), a ∈ put l n ↔ a = n ∨ a ∈ l
  | [], n, a => by simp [put]
  | b :: l, n, a => by
    simp only [put]; split
    · simp only [List.mem_cons, put_mem l n a]
      constructor
      · rintro (h | h | h)
        · exact .inr (.inl h)
        · exact .inl h
        · exact .inr (.inr h)
      · rintro (h | h | h)
        · exact .inr (.inl h)
        · exact .inl h
        · exact .inr (.inr h)
    · split
      · rename_i c; subst c; simp
      · simp
theorem put_sorted : ∀ (l : List Int) (n : Int), l.Pairwise (· < ·) → (put l n).Pairwise (· < ·)
  | [], n, _ => by simp [put]
  | b :: l, n, h => by
    have h' := List.pairwise_cons.1 h
    simp only [put]; split
    · rename_i c
      refine List.pairwise_cons.2 ⟨fun a ha => ?_, put_sorted l n h'.2⟩
      rcases (put_mem l n a).1 ha with r | r
      · omega
      · exact h'.1 a r
    · split
      · exact h
      · rename_i c c'
        refine List.pairwise_cons.2 ⟨fun a ha => ?_, h⟩
        rcases List.mem_cons.1 ha with r | r
        · omega
        · have := h'.1 a r; omega
theorem put_perm : ∀ (l : List Int) (n : Int), n ∉ l → (put l n).Perm (n :: l)
  | [], n, _ => .refl _
  | b :: l, n, h => by
    simp only [List.mem_cons, not_or] at h
    simp only [put]; split
    · exact ((put_perm l n h.2).cons b).trans (List.Perm.swap n b l)
    · split
      · rename_i c; exact absurd c.symm h.1
      · exact .refl _
def openTr (s : Int) (l : List S87) : List Int := (l.filter fun x => decide (isOpn s x)).map (·.f0)
theorem hfree_iff {x y : S87} : hfree x y = true ↔ ¬ (y.f0 = x.f0 ∧ y.f2 ≥ x.f1) := by
  unfold hfree
  by_cases c : y.f0 = x.f0 ∧ y.f2 ≥ x.f1
  · rw [decide_eq_true c]; simp [c]
  · rw [decide_eq_false c]; simp [c]
theorem opn_perm (s : Int) : ∀ (suf pre : List S87) (acc : List Int), goodFrom pre suf = true → (∀ t, t ∈ acc → ∃ y, y ∈ pre ∧ y.f0 = t ∧ isOpn s y) → (opn s acc suf).Perm (openTr s suf ++ acc)
  | [], pre, acc, _, _ => .refl _
  | x :: suf, pre, acc, h, ha => by
    simp only [goodFrom, headOk, Bool.and_eq_true, decide_eq_true_eq] at h
    simp only [opn, openTr]
    by_cases c : isOpn s x
    · rw [if_pos c, List.filter_cons_of_pos (by simpa using c), List.map_cons]
      have hn : x.f0 ∉ acc := fun hm => by
        obtain ⟨y, hy, h1, h2⟩ := ha _ hm
        have := hfree_iff.1 (List.all_eq_true.1 h.1.2.2 y hy)
        unfold isOpn at c h2
        exact this ⟨h1, by omega⟩
      have ih := opn_perm s suf (pre ++ [x]) (put acc x.f0) h.2 (fun t ht => by
        rcases (put_mem acc x.f0 t).1 ht with r | r
        · exact ⟨x, by simp, r.symm, c⟩
        · obtain ⟨y, hy, h1⟩ := ha t r
          exact ⟨y, by simp [hy], h1⟩)
      refine ih.trans ?_
      exact ((put_perm acc x.f0 hn).append_left _).trans List.perm_middle
    · rw [if_neg c, List.filter_cons_of_neg (by simpa using c)]
      exact opn_perm s suf (pre ++ [x]) acc h.2 (fun t ht => by
        obtain ⟨y, hy, h1⟩ := ha t ht
        exact ⟨y, by simp [hy], h1⟩)
theorem opn_sorted (s : Int) : ∀ (l : List S87) (acc : List Int), acc.Pairwise (· < ·) → (opn s acc l).Pairwise (· < ·)
  | [], acc, h => h
  | x :: l, acc, h => by
    simp only [opn]
    refine opn_sorted s l _ ?_
    split
    · exact put_sorted acc _ h
    · exact h
theorem sorted_perm {a b : List Int} (ha : a.Pairwise (· < ·)) (h : a.Perm b) : Lib.sorted b = a := by
  unfold Lib.sorted
  refine List.Perm.eq_of_pairwise (le := fun x y => decide (x ≤ y) = true) (fun x y _ _ h1 h2 => by simp at h1 h2; omega) ?_ (ha.imp (fun h => by simp; omega)) ((List.mergeSort_perm _ _).trans h.symm)
  exact List.pairwise_mergeSort (fun x y z h1 h2 => by simp at *; omega) (fun x y => by simp; omega) b
theorem open_eq {l : List S87} (hg : goodSheet l = true) (s : Int) : Lib.sorted (openTr s l) = opn s [] l := by
  have h : goodFrom [] l = true := by simp only [goodSheet, Bool.and_eq_true] at hg; exact hg.1
  have := opn_perm s l [] [] h (by simp)
  rw [List.append_nil] at this
  exact sorted_perm (opn_sorted s l [] List.Pairwise.nil) this
theorem isOpen_eq (x : S87) (s : Int) : impl_isOpen.f x.f0 x.f1 x.f2 s = some (decide (isOpn s x)) := by
  unfold impl_isOpen.f
  split
  · exact someD (by unfold isOpn; omega)
  · exact someF (by unfold isOpn; omega)
theorem openTracks_l0 (s : Int) (l : List S87) (hl : l.length ≤ 1048576) : ∀ (suf pre : List S87) (acc : List Int), l = pre ++ suf → acc.length ≤ pre.length →
    Ev (fun k => impl_openTracks.l0 k s acc l (l.length : Int) (pre.length : Int)) (Lib.sorted (acc ++ openTr s suf)) := by
  intro suf
  induction suf with
  | nil =>
    intro pre acc h ha
    have hp : pre.length ≤ 1048576 := by rw [h] at hl; simpa using hl
    refine Ev.step (fun k => impl_openTracks.l0.eq_2 ..) ?_
    simp only [rgEnd h, if_false]
    unfold sort_Ints.f
    rw [if_pos (by omega)]
    exact evNow (by simp [openTr])
  | cons x suf ih =>
    intro pre acc h ha
    obtain ⟨h1, h2, h3, h4, h5⟩ := rgHead h (by omega) z87
    have hpl : pre.length ≤ 1048576 := by omega
    refine Ev.step (fun k => impl_openTracks.l0.eq_2 ..) ?_
    simp only [h1, h2, h3, rd_T87, h4, if_true, isOpen_eq, Option.bind_some, decide_eq_true_eq]
    refine evBy (fun c => evPos (by omega) (evEq (ih _ _ h5 (by simp; omega)) ?_)) (fun c => evEq (ih _ _ h5 (by simp; omega)) ?_)
    · congr 1; unfold openTr; rw [List.filter_cons_of_pos (by simpa using c)]; simp
    · congr 1; unfold openTr; rw [List.filter_cons_of_neg (by simpa using c)]
theorem openTracks_ev {l : List S87} (hg : goodSheet l = true) (s : Int) : Ev (fun k => impl_openTracks.f k l s) (opn s [] l) := by
  have := goodSheet_len hg
  unfold impl_openTracks.f
  refine evEq (openTracks_l0 s l (by omega) l [] [] rfl (by simp)) ?_
  rw [List.nil_append]; exact open_eq hg s
-- ** same
theorem l1Same_l0 (a b : List Int) (hl : a.length ≤ 1048576) (hab : a.length = b.length) : ∀ (az bs pre : List Int), a = pre ++ az → b = pre ++ bs → Ev (fun k => spec_l1Same.l0 k a b (a.length : Int) (pre.length : Int)) (decide (az = bs)) := by
  intro az
  induction az with
  | nil =>
    intro bs pre h h'
    refine Ev.step (fun k => spec_l1Same.l0.eq_2 ..) ?_
    simp only [rgEnd h, if_false]
    have : bs = [] := by
      have q1 := congrArg List.length h
      have q2 := congrArg List.length h'
      rw [List.length_append] at q1 q2
      rw [List.length_nil] at q1
      exact List.eq_nil_of_length_eq_zero (by omega)
    exact evNow (by rw [this]; simp)
  | cons x az ih =>
    intro bs pre h h'
    cases bs with
    | nil => rw [h, h'] at hab; simp at hab
    | cons y bs =>
      obtain ⟨h1, h2, h3, h4, h5⟩ := rgHead h (by omega) 0
      obtain ⟨g1, _, _, g4, g5⟩ := rgHead h' (by omega) 0
      refine Ev.step (fun k => spec_l1Same.l0.eq_2 ..) ?_
      simp only [h1, h2, h3, g1, rd, h4, g4, if_true]
      refine evBy (fun c => ?_) (fun c => evNow (decF (fun q => c (List.cons.inj q).1)))
      subst c
      refine evEq (ih bs (pre ++ [x]) h5 g5) (decD ⟨fun q => by rw [q], fun q => (List.cons.inj q).2⟩)
theorem l1Same_ev (a b : List Int) (hl : a.length ≤ 1048576) : Ev (fun k => spec_l1Same.f k a b) (decide (a = b)) := by
  unfold spec_l1Same.f
  refine evBy (fun c => l1Same_l0 a b hl (by omega) a b [] rfl rfl) (fun c => evNow (decF (fun q => c (by rw [q]))))
theorem slEqual_l0 (a b : List Int) (hl : a.length ≤ 1048576) (hab : a.length = b.length) : ∀ (az bs pre : List Int), a = pre ++ az → b = pre ++ bs → Ev (fun k => slices_Equal_int_int.l0 k a b (a.length : Int) (pre.length : Int)) (decide (az = bs)) := by
  intro az
  induction az with
  | nil =>
    intro bs pre h h'
    refine Ev.step (fun k => slices_Equal_int_int.l0.eq_2 ..) ?_
    simp only [rgEnd h, if_false]
    have : bs = [] := by
      have q1 := congrArg List.length h
      have q2 := congrArg List.length h'
      rw [List.length_append] at q1 q2
      rw [List.length_nil] at q1
      exact List.eq_nil_of_length_eq_zero (by omega)
    exact evNow (by rw [this]; simp)
  | cons x az ih =>
    intro bs pre h h'
    cases bs with
    | nil => rw [h, h'] at hab; simp at hab
    | cons y bs =>
      obtain ⟨h1, h2, h3, h4, h5⟩ := rgHead h (by omega) 0
      obtain ⟨g1, _, _, g4, g5⟩ := rgHead h' (by omega) 0
      refine Ev.step (fun k => slices_Equal_int_int.l0.eq_2 ..) ?_
      simp only [h1, h2, h3, g1, rd, h4, g4, if_true]
      refine evBy (fun c => ?_) (fun c => evNow (decF (fun q => c (List.cons.inj q).1)))
      subst c
      refine evEq (ih bs (pre ++ [x]) h5 g5) (decD ⟨fun q => by rw [q], fun q => (List.cons.inj q).2⟩)
theorem slEqual_ev (a b : List Int) (hl : a.length ≤ 1048576) : Ev (fun k => slices_Equal_int_int.f k a b) (decide (a = b)) := by
  unfold slices_Equal_int_int.f
  refine evBy (fun c => slEqual_l0 a b hl (by omega) a b [] rfl rfl) (fun c => evNow (decF (fun q => c (by rw [q]))))
-- ** holelaw
def cvHole (x : S89) : S87 := ⟨x.f0, x.f1, x.f2⟩
theorem szHole_eq (l : List S89) (h : l.length ≤ 9223372036854775807) : laws_szHoleS.f l 1048576 = some (if l.length ≤ 1048576 then 1048576 - (l.length : Int) else -1) := by
  unfold laws_szHoleS.f
  rw [wrapi (by omega) (by omega)]
  by_cases c : l.length ≤ 1048576
  · rw [if_neg (by omega), if_pos c]
  · rw [if_pos (by omega), if_neg c]
theorem toHole_l0 (l : List S89) (hl : l.length ≤ 1048576) : ∀ (suf pre : List S89), l = pre ++ suf →
    Ev (fun k => laws_toHoleS.l0 k l (pre.map cvHole ++ List.replicate suf.length z87) (pre.length : Int)) (l.map cvHole) := by
  intro suf
  induction suf with
  | nil =>
    intro pre h
    refine Ev.step (fun k => laws_toHoleS.l0.eq_2 ..) ?_
    simp only [rgEnd h, if_false]
    exact evNow (by subst h; simp)
  | cons x suf ih =>
    intro pre h
    obtain ⟨h1, h2, h3, h4, h5⟩ := rgHead h (by omega) z89
    refine Ev.step (fun k => laws_toHoleS.l0.eq_2 ..) ?_
    simp only [h1, h2, h3, rd_T89, h4, if_true, laws_toHole.f, Option.bind_some]
    refine evPos (by simp; omega) ?_
    have e : (pre.map cvHole ++ List.replicate (x :: suf).length z87).set (pre.length : Int).toNat ⟨x.f0, x.f1, x.f2⟩ = (pre ++ [x]).map cvHole ++ List.replicate suf.length z87 := by
      rw [List.length_cons, List.replicate_succ, setAt _ _ _ _ _ (by simp)]
      simp [cvHole]
    rw [e]
    exact ih _ h5
theorem toHole_ev (l : List S89) (hl : l.length ≤ 1048576) : Ev (fun k => laws_toHoleS.f k l) (l.map cvHole) := by
  unfold laws_toHoleS.f
  refine evPos (by omega) (evPos (by omega) ?_)
  have := toHole_l0 l hl l [] rfl
  simpa using this
theorem eqHole_l0 (l : List S87) (hl : l.length ≤ 4611686018427387904) : ∀ (suf pre : List S87), l = pre ++ suf → Ev (fun k => laws_eqHoleS.l0 k l l (pre.length : Int)) true := by
  intro suf
  induction suf with
  | nil =>
    intro pre h
    refine Ev.step (fun k => laws_eqHoleS.l0.eq_2 ..) ?_
    simp only [rgEnd h, if_false]
    exact Ev.now _
  | cons x suf ih =>
    intro pre h
    obtain ⟨h1, h2, h3, h4, h5⟩ := rgHead h hl z87
    refine Ev.step (fun k => laws_eqHoleS.l0.eq_2 ..) ?_
    simp only [h1, h2, h3, if_true, laws_eqHole.f, Option.bind_some]
    exact ih _ h5
theorem eqHole_ev (l : List S87) (hl : l.length ≤ 4611686018427387904) : Ev (fun k => laws_eqHoleS.f k l l) true := by
  unfold laws_eqHoleS.f
  exact evPos rfl (eqHole_l0 l hl l [] rfl)
-- ** intlaw
theorem toInt_l0 (l : List Int) (hl : l.length ≤ 1048576) : ∀ (suf pre : List Int), l = pre ++ suf →
    Ev (fun k => laws_toIntS.l0 k l (pre ++ List.replicate suf.length 0) (pre.length : Int)) l := by
  intro suf
  induction suf with
  | nil =>
    intro pre h
    refine Ev.step (fun k => laws_toIntS.l0.eq_2 ..) ?_
    simp only [rgEnd h, if_false]
    exact evNow (by subst h; simp)
  | cons x suf ih =>
    intro pre h
    obtain ⟨h1, h2, h3, h4, h5⟩ := rgHead h (by omega) 0
    refine Ev.step (fun k => laws_toIntS.l0.eq_2 ..) ?_
    simp only [h1, h2, h3, rd, h4, if_true]
    refine evPos (by simp; omega) ?_
    have e : (pre ++ List.replicate (x :: suf).length 0).set (pre.length : Int).toNat x = (pre ++ [x]) ++ List.replicate suf.length 0 := by
      rw [List.length_cons, List.replicate_succ, setAt _ _ _ _ _ (by simp)]
      simp
    rw [e]
    exact ih _ h5
theorem toInt_ev (l : List Int) (hl : l.length ≤ 1048576) : Ev (fun k => laws_toIntS.f k l) l := by
  unfold laws_toIntS.f
  refine evPos (by omega) (evPos (by omega) ?_)
  have := toInt_l0 l hl l [] rfl
  simpa using this
theorem eqInt_l0 (l : List Int) (hl : l.length ≤ 4611686018427387904) : ∀ (suf pre : List Int), l = pre ++ suf → Ev (fun k => laws_eqIntS.l0 k l l (pre.length : Int)) true := by
  intro suf
  induction suf with
  | nil =>
    intro pre h
    refine Ev.step (fun k => laws_eqIntS.l0.eq_2 ..) ?_
    simp only [rgEnd h, if_false]
    exact Ev.now _
  | cons x suf ih =>
    intro pre h
    obtain ⟨h1, h2, h3, h4, h5⟩ := rgHead h hl 0
    refine Ev.step (fun k => laws_eqIntS.l0.eq_2 ..) ?_
    simp only [h1, h2, h3, if_true]
    exact ih _ h5
theorem eqInt_ev (l : List Int) (hl : l.length ≤ 4611686018427387904) : Ev (fun k => laws_eqIntS.f k l l) true := by
  unfold laws_eqIntS.f
  exact evPos rfl (eqInt_l0 l hl l [] rfl)
-- ** szint
theorem szInt_eq (l : List Int) (b : Int) (hb : 0 ≤ b) (hb' : b ≤ 1048576) (h : l.length ≤ 9223372036854775807) : laws_szIntS.f l b = some (if (l.length : Int) ≤ b then b - (l.length : Int) else -1) := by
  unfold laws_szIntS.f
  rw [wrapi (by omega) (by omega)]
  by_cases c : (l.length : Int) ≤ b
  · rw [if_neg (by omega), if_pos c]
  · rw [if_pos (by omega), if_neg c]
-- ** reader
def goodReader (l : List S87) (s : Int) (o : List Int) : Bool := goodSheet l && (decide (0 ≤ s ∧ s ≤ 2000) && decide (o = opn s [] l))
theorem goodReader_iff {l : List S87} {s : Int} {o : List Int} : goodReader l s o = true ↔ goodSheet l = true ∧ (0 ≤ s ∧ s ≤ 2000) ∧ o = opn s [] l := by
  unfold goodReader; rw [Bool.and_eq_true, Bool.and_eq_true, decide_eq_true_eq, decide_eq_true_eq]
theorem rdOpen_ev {l : List S87} (hg : goodSheet l = true) (s : Int) : Ev (fun k => spec_rdOpen.f k l s) (opn s [] l) := by
  unfold spec_rdOpen.f; exact Ev.bind (shOpen_ev hg s) (Ev.now _)
theorem rdGood_ev {l : List S87} (hl : l.length ≤ 1048576) (s : Int) {o : List Int} (ho : o.length ≤ 1048576) : Ev (fun k => spec_rdGood.f k l s o) (goodReader l s o) := by
  unfold spec_rdGood.f goodReader spec_rdStep.f
  simp only [in_eq, Option.bind_some, decide_eq_true_eq]
  refine Ev.bind (shGood_ev hl) (evBy (fun c => evBy (fun c' => ?_) (fun c' => evNow ?_)) (fun c => evNow ?_))
  · refine Ev.bind (rdOpen_ev c s) (Ev.bind (l1Same_ev o _ ho) (evNow ?_))
    rw [c, show decide (0 ≤ s ∧ s ≤ 2000) = true from decide_eq_true c', Bool.true_and, Bool.true_and]
  · rw [show decide (0 ≤ s ∧ s ≤ 2000) = false from decide_eq_false c', Bool.false_and, Bool.and_false]
  · rw [Bool.eq_false_iff.mpr c, Bool.false_and]
theorem isReader_ev {l : List S87} (hl : l.length ≤ 1048576) (s : Int) {o : List Int} (ho : o.length ≤ 1048576) : Ev (fun k => impl_IsReader.f k l s o) (goodReader l s o) := by
  unfold impl_IsReader.f goodReader
  refine Ev.bind (isSheet_ev hl) (evBy (fun c => evBy (fun c1 => evBy (fun c2 => ?_) (fun c2 => evNow ?_)) (fun c1 => evNow ?_)) (fun c => evNow ?_))
  · refine Ev.bind (openTracks_ev c s) (Ev.bind (slEqual_ev o _ ho) (evNow ?_))
    rw [c, show decide (0 ≤ s ∧ s ≤ 2000) = true from decide_eq_true (by omega), Bool.true_and, Bool.true_and]
  · rw [show decide (0 ≤ s ∧ s ≤ 2000) = false from decide_eq_false (by omega), Bool.false_and, Bool.and_false]
  · rw [show decide (0 ≤ s ∧ s ≤ 2000) = false from decide_eq_false (by omega), Bool.false_and, Bool.and_false]
  · rw [Bool.eq_false_iff.mpr c, Bool.false_and]
theorem szReader_small {l : List S89} {s : Int} {o : List Int} (h : l.length ≤ 1048576) (h' : l.length + o.length ≤ 1048576) : laws_szReader.f l s o 1048576 = some (1048576 - (l.length : Int) - (o.length : Int)) := by
  unfold laws_szReader.f
  rw [szHole_eq l (by omega), if_pos h]
  simp only [Option.bind_some]
  rw [if_neg (by omega), szInt_eq o _ (by omega) (by omega) (by omega), if_pos (by omega)]
  simp only [Option.bind_some]
  rw [if_neg (by omega)]
theorem szReader_big {l : List S89} {s : Int} {o : List Int} (hl : l.length ≤ 9223372036854775807) (ho : o.length ≤ 9223372036854775807) (h : ¬ l.length + o.length ≤ 1048576) : laws_szReader.f l s o 1048576 = some (-1) := by
  unfold laws_szReader.f
  rw [szHole_eq l hl]
  simp only [Option.bind_some]
  by_cases c : l.length ≤ 1048576
  · rw [if_pos c, if_neg (by omega), szInt_eq o _ (by omega) (by omega) ho, if_neg (by omega)]
    simp only [Option.bind_some]
    rw [if_pos (by omega)]
  · rw [if_neg c, if_pos (by omega)]
theorem toReader_ev {l : List S89} (s : Int) {o : List Int} (hl : l.length ≤ 1048576) (ho : o.length ≤ 1048576) : Ev (fun k => laws_toReader.f k l s o) (l.map cvHole, s, o) := by
  unfold laws_toReader.f
  exact Ev.bind (toHole_ev l hl) (Ev.bind (toInt_ev o ho) (Ev.now _))
theorem eqReader_ev {l : List S87} (s : Int) {o : List Int} (hl : l.length ≤ 1048576) (ho : o.length ≤ 1048576) : Ev (fun k => laws_eqReader.f k l s o l s o) true := by
  unfold laws_eqReader.f
  exact Ev.bind (eqHole_ev l (by omega)) (evPos rfl (evPos rfl (Ev.bind (eqInt_ev o (by omega)) (evPos rfl (Ev.now _)))))
-- ** events
-- the events of a sheet
theorem perm4 {α : Type} (a b c d : List α) : ((a ++ b) ++ (c ++ d)).Perm ((a ++ c) ++ (b ++ d)) := by
  simp only [List.append_assoc]
  refine List.Perm.append_left a ?_
  rw [← List.append_assoc, ← List.append_assoc]
  exact List.Perm.append_right d List.perm_append_comm
def evIn (s t : Int) (x : S87) : List (List Int) := (if x.f0 = t ∧ x.f1 = s then [[s, t, 1]] else []) ++ (if x.f0 = t ∧ x.f2 = s then [[s, t, 0]] else [])
def evAt (s t : Int) (l : List S87) : List (List Int) := l.flatMap (evIn s t)
def evTrs (s : Int) (l : List S87) : Int → Nat → List (List Int)
  | _, 0 => []
  | t, n + 1 => evAt s t l ++ evTrs s l (t + 1) n
def evSts (l : List S87) : Int → Nat → List (List Int)
  | _, 0 => []
  | s, n + 1 => evTrs s l 0 20 ++ evSts l (s + 1) n
def evOne (x : S87) : List (List Int) := [[x.f1, x.f0, 1], [x.f2, x.f0, 0]]
theorem evAt_cons (s t : Int) (x : S87) (l : List S87) : evAt s t (x :: l) = evAt s t [x] ++ evAt s t l := by simp [evAt]
theorem evTrs_cons (s : Int) (x : S87) (l : List S87) : ∀ (n : Nat) (t : Int), (evTrs s (x :: l) t n).Perm (evTrs s [x] t n ++ evTrs s l t n)
  | 0, _ => .refl _
  | n + 1, t => by
    simp only [evTrs]
    rw [evAt_cons]
    exact ((evTrs_cons s x l n (t + 1)).append_left _).trans (perm4 _ _ _ _)
theorem evSts_cons (x : S87) (l : List S87) : ∀ (n : Nat) (s : Int), (evSts (x :: l) s n).Perm (evSts [x] s n ++ evSts l s n)
  | 0, _ => .refl _
  | n + 1, s => by
    simp only [evSts]
    exact ((evTrs_cons s x l 20 0).append (evSts_cons x l n (s + 1))).trans (perm4 _ _ _ _)
theorem evTrs_none (s : Int) : ∀ (n : Nat) (t : Int), evTrs s [] t n = []
  | 0, _ => rfl
  | n + 1, t => by simp [evTrs, evAt, evTrs_none s n]
theorem evSts_none : ∀ (n : Nat) (s : Int), evSts [] s n = []
  | 0, _ => rfl
  | n + 1, s => by simp [evSts, evTrs_none, evSts_none n]
theorem evTrs_one (s : Int) (x : S87) : ∀ (n : Nat) (t : Int), evTrs s [x] t n = if t ≤ x.f0 ∧ x.f0 < t + (n : Int) then evIn s x.f0 x else []
  | 0, t => by rw [if_neg (by omega)]; rfl
  | n + 1, t => by
    simp only [evTrs, evAt, List.flatMap_cons, List.flatMap_nil, List.append_nil]
    rw [evTrs_one s x n (t + 1)]
    by_cases c : x.f0 = t
    · subst c
      rw [if_neg (by omega), if_pos (by omega), List.append_nil]
    · have : evIn s t x = [] := by unfold evIn; rw [if_neg (fun z => c z.1), if_neg (fun z => c z.1)]; rfl
      rw [this, List.nil_append]
      by_cases c2 : t ≤ x.f0 ∧ x.f0 < t + ((n + 1 : Nat) : Int)
      · rw [if_pos (by omega), if_pos c2]
      · rw [if_neg (by omega), if_neg c2]
theorem evSts_one {x : S87} (hx : hole x) : ∀ (n : Nat) (s : Int), evSts [x] s n = (if s ≤ x.f1 ∧ x.f1 < s + (n : Int) then [[x.f1, x.f0, 1]] else []) ++ (if s ≤ x.f2 ∧ x.f2 < s + (n : Int) then [[x.f2, x.f0, 0]] else [])
  | 0, s => by rw [if_neg (by omega), if_neg (by omega)]; rfl
  | n + 1, s => by
    simp only [evSts]
    unfold hole at hx
    rw [evTrs_one, if_pos (by omega), evSts_one (by unfold hole; exact hx) n (s + 1)]
    unfold evIn
    by_cases c1 : x.f1 = s
    · rw [if_pos ⟨rfl, c1⟩, if_neg (c := x.f0 = x.f0 ∧ x.f2 = s) (by omega), if_neg (c := s + 1 ≤ x.f1 ∧ x.f1 < s + 1 + (n : Int)) (by omega), if_pos (c := s ≤ x.f1 ∧ x.f1 < s + ((n + 1 : Nat) : Int)) (by omega), c1]
      by_cases c2 : s ≤ x.f2 ∧ x.f2 < s + ((n + 1 : Nat) : Int)
      · rw [if_pos (by omega), if_pos c2]; rfl
      · rw [if_neg (by omega), if_neg c2]; rfl
    · rw [if_neg (fun z => c1 z.2)]
      by_cases c2 : x.f2 = s
      · rw [if_pos ⟨rfl, c2⟩, if_neg (c := s + 1 ≤ x.f1 ∧ x.f1 < s + 1 + (n : Int)) (by omega), if_neg (c := s + 1 ≤ x.f2 ∧ x.f2 < s + 1 + (n : Int)) (by omega), if_neg (c := s ≤ x.f1 ∧ x.f1 < s + ((n + 1 : Nat) : Int)) (by omega), if_pos (c := s ≤ x.f2 ∧ x.f2 < s + ((n + 1 : Nat) : Int)) (by omega), c2]; rfl
      · rw [if_neg (fun z => c2 z.2), List.nil_append, List.nil_append]
        congr 1
        · by_cases c3 : s ≤ x.f1 ∧ x.f1 < s + ((n + 1 : Nat) : Int)
          · rw [if_pos (by omega), if_pos c3]
          · rw [if_neg (by omega), if_neg c3]
        · by_cases c3 : s ≤ x.f2 ∧ x.f2 < s + ((n + 1 : Nat) : Int)
          · rw [if_pos (by omega), if_pos c3]
          · rw [if_neg (by omega), if_neg c3]
theorem evSts_perm (n : Nat) : ∀ (l : List S87), (∀ x, x ∈ l → hole x) → (∀ x, x ∈ l → x.f2 < (n : Int)) → (evSts l 0 n).Perm (l.flatMap evOne)
  | [], _, _ => by rw [evSts_none]; exact .refl _
  | x :: l, h, hn => by
    have hx := h x (by simp)
    have hxn := hn x (by simp)
    refine (evSts_cons x l n 0).trans ?_
    rw [evSts_one hx, List.flatMap_cons]
    unfold hole at hx
    rw [if_pos (by omega), if_pos (by omega)]
    exact (evSts_perm n l (fun y hy => h y (by simp [hy])) (fun y hy => hn y (by simp [hy]))).append_left _
-- the order of lists
open Sf
theorem leL_3 {a b c a' b' c' : Int} (h : a < a' ∨ (a = a' ∧ (b < b' ∨ (b = b' ∧ c ≤ c')))) : leL [a, b, c] [a', b', c'] = true := by
  unfold leL
  rw [decide_eq_true_eq]
  simp only [cmpL]
  by_cases e1 : a = a'
  · rw [if_pos (cmpI_0.2 e1)]
    by_cases e2 : b = b'
    · rw [if_pos (cmpI_0.2 e2)]
      by_cases e3 : c = c'
      · rw [if_pos (cmpI_0.2 e3)]; exact Int.le_refl _
      · rw [if_neg (fun z => e3 (cmpI_0.1 z))]; unfold cmpI; rw [if_pos (by omega)]; omega
    · rw [if_neg (fun z => e2 (cmpI_0.1 z))]; unfold cmpI; rw [if_pos (by omega)]; omega
  · rw [if_neg (fun z => e1 (cmpI_0.1 z))]; unfold cmpI; rw [if_pos (by omega)]; omega
-- at one step and track a sheet has one event or none
theorem evIn_mem {s t : Int} {x : S87} {q : List Int} (h : q ∈ evIn s t x) : x.f0 = t ∧ ((q = [s, t, 1] ∧ x.f1 = s) ∨ (q = [s, t, 0] ∧ x.f2 = s)) := by
  unfold evIn at h
  rcases List.mem_append.1 h with z | z
  · split at z
    · rename_i c; exact ⟨c.1, .inl ⟨List.mem_singleton.1 z, c.2⟩⟩
    · simp at z
  · split at z
    · rename_i c; exact ⟨c.1, .inr ⟨List.mem_singleton.1 z, c.2⟩⟩
    · simp at z
theorem evAt_mem {s t : Int} {l : List S87} {q : List Int} (h : q ∈ evAt s t l) : ∃ c, q = [s, t, c] ∧ (c = 0 ∨ c = 1) := by
  obtain ⟨x, _, hx⟩ := List.mem_flatMap.1 h
  rcases (evIn_mem hx).2 with r | r
  · exact ⟨1, r.1, .inr rfl⟩
  · exact ⟨0, r.1, .inl rfl⟩
theorem evTrs_mem {s : Int} {l : List S87} : ∀ {n : Nat} {t : Int} {q : List Int}, q ∈ evTrs s l t n → ∃ u c, q = [s, u, c] ∧ t ≤ u ∧ u < t + (n : Int) ∧ (c = 0 ∨ c = 1)
  | 0, _, q, h => by simp [evTrs] at h
  | n + 1, t, q, h => by
    rcases List.mem_append.1 h with z | z
    · obtain ⟨c, e, hc⟩ := evAt_mem z
      exact ⟨t, c, e, by omega, by omega, hc⟩
    · obtain ⟨u, c, e, h1, h2, hc⟩ := evTrs_mem (n := n) z
      exact ⟨u, c, e, by omega, by omega, hc⟩
theorem evSts_mem {l : List S87} : ∀ {n : Nat} {s : Int} {q : List Int}, q ∈ evSts l s n → ∃ v u c, q = [v, u, c] ∧ s ≤ v ∧ v < s + (n : Int) ∧ 0 ≤ u ∧ u < 20 ∧ (c = 0 ∨ c = 1)
  | 0, _, q, h => by simp [evSts] at h
  | n + 1, s, q, h => by
    rcases List.mem_append.1 h with z | z
    · obtain ⟨u, c, e, h1, h2, hc⟩ := evTrs_mem z
      exact ⟨s, u, c, e, by omega, by omega, by omega, by omega, hc⟩
    · obtain ⟨v, u, c, e, h1, h2, hc⟩ := evSts_mem (n := n) z
      exact ⟨v, u, c, e, by omega, by omega, hc⟩
theorem goodFrom_free : ∀ {suf pre : List S87}, goodFrom pre suf = true → (∀ x, x ∈ suf → hole x) ∧ suf.Pairwise (fun y x => y.f0 = x.f0 → y.f2 < x.f1) ∧ ∀ y, y ∈ pre → ∀ x, x ∈ suf → y.f0 = x.f0 → y.f2 < x.f1
  | [], pre, _ => ⟨by simp, List.Pairwise.nil, by simp⟩
  | x :: suf, pre, h => by
    have h0 := h
    simp only [goodFrom, headOk, Bool.and_eq_true, decide_eq_true_eq] at h
    obtain ⟨i1, i2, i3⟩ := goodFrom_free h.2
    refine ⟨goodFrom_hole h0, List.pairwise_cons.2 ⟨fun y hy => i3 x (by simp) y hy, i2⟩, fun y hy z hz => ?_⟩
    rcases List.mem_cons.1 hz with r | r
    · subst r
      have := hfree_iff.1 (List.all_eq_true.1 h.1.2.2 y hy)
      intro e; omega
    · exact i3 y (by simp [hy]) z r
theorem evAt_one {s t : Int} : ∀ {l : List S87}, (∀ x, x ∈ l → hole x) → l.Pairwise (fun y x => y.f0 = x.f0 → y.f2 < x.f1) → (evAt s t l).length ≤ 1
  | [], _, _ => by simp [evAt]
  | x :: l, hh, hp => by
    have hp' := List.pairwise_cons.1 hp
    have hx := hh x (by simp)
    unfold hole at hx
    have ih := evAt_one (s := s) (t := t) (l := l) (fun y hy => hh y (by simp [hy])) hp'.2
    by_cases c : evIn s t x = []
    · simpa [evAt, c] using ih
    · have : ∃ q, q ∈ evIn s t x := List.exists_mem_of_ne_nil _ c
      obtain ⟨q, hq⟩ := this
      have hq' := evIn_mem hq
      have e0 : evAt s t l = [] := by
        unfold evAt
        rw [List.flatMap_eq_nil_iff]
        intro y hy
        refine Classical.byContradiction fun z => ?_
        obtain ⟨q', hz⟩ := List.exists_mem_of_ne_nil _ z
        have hz' := evIn_mem hz
        have hy' := hh y (by simp [hy])
        unfold hole at hy'
        have := hp'.1 y hy (by omega)
        omega
      have e1 : (evIn s t x).length ≤ 1 := by
        unfold evIn
        by_cases z : x.f0 = t ∧ x.f1 = s
        · rw [if_pos z, if_neg (by omega)]; simp
        · rw [if_neg z, List.nil_append]; split <;> simp
      have : evAt s t (x :: l) = evIn s t x ++ evAt s t l := by simp [evAt]
      rw [this, e0, List.append_nil]; exact e1
theorem pairwise_one {α : Type} {R : α → α → Prop} : ∀ {l : List α}, l.length ≤ 1 → l.Pairwise R
  | [], _ => List.Pairwise.nil
  | [_], _ => List.pairwise_singleton _ _
  | _ :: _ :: _, h => by simp at h
theorem evTrs_sorted {s : Int} {l : List S87} (hh : ∀ x, x ∈ l → hole x) (hp : l.Pairwise (fun y x => y.f0 = x.f0 → y.f2 < x.f1)) : ∀ (n : Nat) (t : Int), (evTrs s l t n).Pairwise (fun x y => leL x y = true)
  | 0, _ => List.Pairwise.nil
  | n + 1, t => by
    simp only [evTrs]
    refine List.pairwise_append.2 ⟨pairwise_one (evAt_one hh hp), evTrs_sorted hh hp n (t + 1), fun a ha b hb => ?_⟩
    obtain ⟨c, rfl, _⟩ := evAt_mem ha
    obtain ⟨u, c', rfl, h1, _⟩ := evTrs_mem hb
    exact leL_3 (.inr ⟨rfl, .inl (by omega)⟩)
theorem evSts_sorted {l : List S87} (hh : ∀ x, x ∈ l → hole x) (hp : l.Pairwise (fun y x => y.f0 = x.f0 → y.f2 < x.f1)) : ∀ (n : Nat) (s : Int), (evSts l s n).Pairwise (fun x y => leL x y = true)
  | 0, _ => List.Pairwise.nil
  | n + 1, s => by
    simp only [evSts]
    refine List.pairwise_append.2 ⟨evTrs_sorted hh hp 20 0, evSts_sorted hh hp n (s + 1), fun a ha b hb => ?_⟩
    obtain ⟨u, c, rfl, _⟩ := evTrs_mem ha
    obtain ⟨v, u', c', rfl, h1, _⟩ := evSts_mem hb
    exact leL_3 (.inl (by omega))
def evs (l : List S87) : List (List Int) := evSts l 0 (lenS 0 l + 1).toNat
theorem lenS_ge : ∀ {l : List S87} {e : Int}, e ≤ lenS e l ∧ ∀ x, x ∈ l → x.f2 ≤ lenS e l
  | [], e => ⟨Int.le_refl _, by simp⟩
  | x :: l, e => by
    obtain ⟨h1, h2⟩ := lenS_ge (l := l) (e := max e x.f2)
    simp only [lenS]
    refine ⟨by omega, fun y hy => ?_⟩
    rcases List.mem_cons.1 hy with r | r
    · subst r; omega
    · exact h2 y r
theorem evs_eq {l : List S87} (hg : goodSheet l = true) : sortL (l.flatMap evOne) = evs l := by
  have h : goodFrom [] l = true := by simp only [goodSheet, Bool.and_eq_true] at hg; exact hg.1
  obtain ⟨h1, h2, _⟩ := goodFrom_free h
  refine sortL_eq (evSts_sorted h1 h2 _ _) (evSts_perm _ l h1 (fun x hx => ?_))
  have := (lenS_ge (l := l) (e := 0)).2 x hx
  omega
theorem evOne_len : ∀ (l : List S87), (l.flatMap evOne).length = 2 * l.length
  | [] => rfl
  | x :: l => by rw [List.flatMap_cons, List.length_append, evOne_len l]; simp [evOne]; omega
theorem evs_len {l : List S87} (hg : goodSheet l = true) : (evs l).length = 2 * l.length := by
  rw [← evs_eq hg, ← evOne_len l]; exact List.length_mergeSort _
theorem evs_mem {l : List S87} {q : List Int} (hg : goodSheet l = true) (h : q ∈ evs l) : ∃ v u c, q = [v, u, c] ∧ 0 ≤ v ∧ v ≤ 2000 ∧ 0 ≤ u ∧ u < 20 ∧ (c = 0 ∨ c = 1) := by
  obtain ⟨v, u, c, e, h1, h2, h3⟩ := evSts_mem h
  have := lenS_bd (l := l) (e := 0) (goodSheet_hole hg) (by omega) (by omega)
  exact ⟨v, u, c, e, h1, by omega, h3⟩
-- ** EventsOf_
-- the events of a sheet, as both tell them
theorem rdEv_l2 {l : List S87} (hl : l.length ≤ 60) (s t : Int) (r : List (List Int)) : ∀ (suf pre : List S87) (acc : List (List Int)), l = pre ++ suf → acc.length ≤ 1000000000 + 2 * pre.length →
    Ev (fun k => spec_rdEvents.l1 k l (acc ++ evAt s t suf) s (wrap64 (t + 1))) r → Ev (fun k => spec_rdEvents.l2 k l acc s t l (l.length : Int) (pre.length : Int)) r := by
  intro suf
  induction suf with
  | nil =>
    intro pre acc h _ hr
    simp only [evAt, List.flatMap_nil, List.append_nil] at hr
    exact Ev.step (fun k => spec_rdEvents.l2.eq_2 ..) (evNeg (rgEnd h) hr)
  | cons x suf ih =>
    intro pre acc h ha hr
    obtain ⟨h1, h2, h3, h4, h5⟩ := rgHead h (by omega) z87
    have hp : pre.length ≤ 60 := by rw [h] at hl; simp at hl; omega
    have next : ∀ a : List (List Int), a.length ≤ acc.length + 2 → a ++ evAt s t suf = acc ++ evAt s t (x :: suf) → Ev (fun k => spec_rdEvents.l2 k l a s t l (l.length : Int) (wrap64 ((pre.length : Int) + 1))) r := fun a h6 h7 => by
      rw [h3]; exact ih (pre ++ [x]) a h5 (by simp; omega) (by rw [h7]; exact hr)
    have hx : evAt s t (x :: suf) = evIn s t x ++ evAt s t suf := by simp [evAt]
    refine Ev.step (fun k => spec_rdEvents.l2.eq_2 ..) ?_
    simp only [h1, h2, rd_T87, h4, if_true]
    by_cases c : x.f0 = t
    · refine evPos c (Ev.step (fun k => spec_rdEvents.j3.eq_2 ..) ?_)
      by_cases c1 : x.f1 = s
      · refine evPos (by simp [c1]) (evPos (by omega) ?_)
        simp only [Option.bind_some]
        refine evPos c ?_
        by_cases c2 : x.f2 = s
        · refine evPos c2 (evPos (by simp; omega) (next ((acc ++ [[s, t, 1]]) ++ [[s, t, 0]]) (by simp) ?_))
          rw [hx]; simp [evIn, c, c1, c2]
        · refine evNeg c2 (next (acc ++ [[s, t, 1]]) (by simp) ?_)
          rw [hx]; simp [evIn, c, c1, c2]
      · refine evNeg (by simp [c1]) (evPos c ?_)
        by_cases c2 : x.f2 = s
        · refine evPos c2 (evPos (by omega) (next (acc ++ [[s, t, 0]]) (by simp) ?_))
          rw [hx]; simp [evIn, c, c1, c2]
        · refine evNeg c2 (next acc (by omega) ?_)
          rw [hx]; simp [evIn, c, c1, c2]
    · refine evNeg c (Ev.step (fun k => spec_rdEvents.j3.eq_2 ..) (evNeg (by simp) (evNeg c (next acc (by omega) ?_))))
      rw [hx]; simp [evIn, c]
theorem evAt_len (s t : Int) : ∀ (l : List S87), (evAt s t l).length ≤ 2 * l.length
  | [] => by simp [evAt]
  | x :: l => by
    have := evAt_len s t l
    have e : evAt s t (x :: l) = evIn s t x ++ evAt s t l := by simp [evAt]
    rw [e, List.length_append, List.length_cons]
    have : (evIn s t x).length ≤ 2 := by unfold evIn; split <;> split <;> simp
    omega
theorem evTrs_len (s : Int) (l : List S87) : ∀ (n : Nat) (t : Int), (evTrs s l t n).length ≤ 2 * l.length * n
  | 0, _ => by simp [evTrs]
  | n + 1, t => by
    have h1 := evTrs_len s l n (t + 1)
    have h2 := evAt_len s t l
    simp only [evTrs, List.length_append, Nat.mul_add, Nat.mul_one]
    omega
theorem rdEv_l1 {l : List S87} (hl : l.length ≤ 60) (s : Int) (r : List (List Int)) : ∀ (n t : Nat) (acc : List (List Int)), t + n = 20 → acc.length ≤ 5000000 + 120 * t →
    Ev (fun k => spec_rdEvents.l0 k l (acc ++ evTrs s l (t : Int) n) (wrap64 (s + 1))) r → Ev (fun k => spec_rdEvents.l1 k l acc s (t : Int)) r
  | 0, t, acc, h, _, hr => by
    simp only [evTrs, List.append_nil] at hr
    exact Ev.step (fun k => spec_rdEvents.l1.eq_2 ..) (evNeg (by omega) hr)
  | n + 1, t, acc, h, ha, hr => by
    refine Ev.step (fun k => spec_rdEvents.l1.eq_2 ..) (evPos (by omega) ?_)
    refine rdEv_l2 hl s (t : Int) r l [] acc rfl (by simp; omega) ?_
    have e : wrap64 ((t : Int) + 1) = ((t + 1 : Nat) : Int) := by rw [wrapi (by omega) (by omega)]; omega
    have := evAt_len s (t : Int) l
    rw [e]
    refine rdEv_l1 hl s r n (t + 1) _ (by omega) (by rw [List.length_append]; omega) ?_
    have e2 : ((t + 1 : Nat) : Int) = (t : Int) + 1 := by omega
    rw [List.append_assoc, e2]
    exact hr
theorem rdEv_l0 {l : List S87} (hl : l.length ≤ 60) (hL : lenS 0 l ≤ 2000) : ∀ (n s : Nat) (acc : List (List Int)), (s : Int) + n = lenS 0 l + 1 → acc.length ≤ 2400 * s →
    Ev (fun k => spec_rdEvents.l0 k l acc (s : Int)) (acc ++ evSts l (s : Int) n)
  | 0, s, acc, h, _ => by
    refine Ev.step (fun k => spec_rdEvents.l0.eq_2 ..) (Ev.bind (shLength_ev (by omega)) (evNeg (by omega) (evNow ?_)))
    simp [evSts]
  | n + 1, s, acc, h, ha => by
    refine Ev.step (fun k => spec_rdEvents.l0.eq_2 ..) (Ev.bind (shLength_ev (by omega)) (evPos (by omega) ?_))
    have hs : s ≤ 2000 := by omega
    refine rdEv_l1 hl (s : Int) _ 20 0 acc rfl (by omega) ?_
    have e : wrap64 ((s : Int) + 1) = ((s + 1 : Nat) : Int) := by rw [wrapi (by omega) (by omega)]; omega
    have h2 := evTrs_len (s : Int) l 20 0
    have ih := rdEv_l0 hl hL n (s + 1) (acc ++ evTrs (s : Int) l 0 20) (by omega) (by rw [List.length_append]; omega)
    rw [e]
    refine evEq ih ?_
    have e2 : ((s + 1 : Nat) : Int) = (s : Int) + 1 := by omega
    rw [List.append_assoc, e2]
    rfl
theorem rdEv_ev {l : List S87} (hg : goodSheet l = true) : Ev (fun k => spec_rdEvents.f k l) (evs l) := by
  have hl := goodSheet_len hg
  have hL := lenS_bd (l := l) (e := 0) (goodSheet_hole hg) (by omega) (by omega)
  have h0 := (lenS_ge (l := l) (e := 0)).1
  unfold spec_rdEvents.f
  exact rdEv_l0 hl (by omega) (lenS 0 l + 1).toNat 0 [] (by omega) (by simp)
theorem evsOf_ev {l : List S87} (hg : goodSheet l = true) : Ev (fun k => impl_eventsOf.f k l) (evs l) := by
  have hl := goodSheet_len hg
  unfold impl_eventsOf.f
  have go : ∀ (suf pre : List S87), l = pre ++ suf → Ev (fun k => impl_eventsOf.l0 k (pre.flatMap evOne) l (l.length : Int) (pre.length : Int)) (evs l) := by
    intro suf
    induction suf with
    | nil =>
      intro pre h
      have e : pre = l := by rw [h]; simp
      refine Ev.step (fun k => impl_eventsOf.l0.eq_2 ..) (evNeg (rgEnd h) ?_)
      have hq : slices_SortFunc_int_int.f (pre.flatMap evOne) = some (evs l) := by
        rw [e]
        unfold slices_SortFunc_int_int.f
        rw [if_pos, evs_eq hg]
        refine ⟨by rw [evOne_len]; omega, fun x hx => ?_⟩
        obtain ⟨y, _, hy⟩ := List.mem_flatMap.1 hx
        simp only [evOne, List.mem_cons, List.not_mem_nil, or_false] at hy
        rcases hy with rfl | rfl <;> simp
      exact evC hq (Ev.now _)
    | cons x suf ih =>
      intro pre h
      obtain ⟨h1, h2, h3, h4, h5⟩ := rgHead h (by omega) z87
      have hp : pre.length ≤ 60 := by rw [h] at hl; simp at hl; omega
      have hf := evOne_len pre
      refine Ev.step (fun k => impl_eventsOf.l0.eq_2 ..) ?_
      simp only [h1, h2, h3, rd_T87, h4, if_true]
      refine evPos (by omega) ?_
      have := ih (pre ++ [x]) h5
      simp only [List.flatMap_append, List.flatMap_cons, List.flatMap_nil, List.append_nil] at this
      exact this
  exact go l [] rfl
-- ** NextChange_
def nxt (s : Int) : List (List Int) → Int × Bool
  | [] => (0, false)
  | e :: l => if rd e 0 > s then (rd e 0, true) else nxt s l
theorem specNx_l0 (l : List S87) (s : Int) (o : List Int) {E : List (List Int)} (hE : E.length ≤ 1048576) (h3 : ∀ q, q ∈ E → 0 < q.length) : ∀ (suf pre : List (List Int)), E = pre ++ suf →
    Ev (fun k => spec_NextChange.l0 k E (E.length : Int) (pre.length : Int) l s o) (nxt s suf) := by
  intro suf
  induction suf with
  | nil =>
    intro pre h
    exact Ev.step (fun k => spec_NextChange.l0.eq_2 ..) (evNeg (rgEnd h) (Ev.now _))
  | cons x suf ih =>
    intro pre h
    obtain ⟨h1, h2, e3, h4, h5⟩ := rgHead h (by omega) []
    have hx := h3 x (by rw [h]; simp)
    refine Ev.step (fun k => spec_NextChange.l0.eq_2 ..) (evPos h1 (evPos h2 (evPos h1 ?_)))
    rw [show rd_L3 E (pre.length : Int) = x from h4, e3]
    refine evPos (by omega) ?_
    unfold nxt
    exact evIte (fun _ => Ev.now _) (fun _ => ih _ h5)
theorem implNx_l0 (l : List S87) (s : Int) (o : List Int) {E : List (List Int)} (hE : E.length ≤ 1048576) (h3 : ∀ q, q ∈ E → 0 < q.length) : ∀ (suf pre : List (List Int)), E = pre ++ suf →
    Ev (fun k => impl_NextChange.l0 k E (E.length : Int) (pre.length : Int) l s o) (nxt s suf) := by
  intro suf
  induction suf with
  | nil =>
    intro pre h
    exact Ev.step (fun k => impl_NextChange.l0.eq_2 ..) (evNeg (rgEnd h) (Ev.now _))
  | cons x suf ih =>
    intro pre h
    obtain ⟨h1, h2, e3, h4, h5⟩ := rgHead h (by omega) []
    have hx := h3 x (by rw [h]; simp)
    refine Ev.step (fun k => impl_NextChange.l0.eq_2 ..) (evPos h1 (evPos h2 (evPos h1 ?_)))
    rw [show rd_L3 E (pre.length : Int) = x from h4, e3]
    refine evPos (by omega) ?_
    unfold nxt
    exact evIte (fun _ => Ev.now _) (fun _ => ih _ h5)
theorem evs_small {l : List S87} (hg : goodSheet l = true) : (evs l).length ≤ 1048576 ∧ ∀ q, q ∈ evs l → 0 < q.length := by
  have h1 := evs_len hg
  have h2 := goodSheet_len hg
  refine ⟨by omega, fun q hq => ?_⟩
  obtain ⟨v, u, c, rfl, _⟩ := evs_mem hg hq
  simp
def nxRes (l : List S87) (s : Int) (o : List Int) : Int × Bool := if goodReader l s o = true then nxt s (evs l) else (0, false)
theorem specNx_ev {l : List S87} (hl : l.length ≤ 1048576) (s : Int) {o : List Int} (ho : o.length ≤ 1048576) : Ev (fun k => spec_NextChange.f k l s o) (nxRes l s o) := by
  unfold spec_NextChange.f nxRes
  refine Ev.bind (rdGood_ev hl s ho) (evIte (fun c => ?_) (fun _ => Ev.now _))
  obtain ⟨hg, _, _⟩ := goodReader_iff.1 c
  obtain ⟨h1, h2⟩ := evs_small hg
  exact Ev.bind (rdEv_ev hg) (specNx_l0 l s o h1 h2 (evs l) [] rfl)
theorem implNx_ev {l : List S87} (hl : l.length ≤ 1048576) (s : Int) {o : List Int} (ho : o.length ≤ 1048576) : Ev (fun k => impl_NextChange.f k l s o) (nxRes l s o) := by
  unfold impl_NextChange.f nxRes
  refine Ev.bind (isReader_ev hl s ho) (evIte (fun c => ?_) (fun _ => Ev.now _))
  obtain ⟨hg, _, _⟩ := goodReader_iff.1 c
  obtain ⟨h1, h2⟩ := evs_small hg
  exact Ev.bind (evsOf_ev hg) (implNx_l0 l s o h1 h2 (evs l) [] rfl)
-- ** FnExactNextChange
theorem FnExactNextChange (l0_0 : List S89) (a0_1 : Int) (l0_2 : List Int) (w0 : Opn.Lst (fun x : S89 => Opn.I64 x.f0 ∧ Opn.I64 x.f1 ∧ Opn.I64 x.f2) l0_0) (_ : Opn.I64 a0_1) (w2 : Opn.Lst Opn.I64 l0_2) : ∃ k, laws_FnExactNextChange.f k l0_0 a0_1 l0_2 = some true := by
  refine Ev.rounds (g := fun k => laws_FnExactNextChange.f k l0_0 a0_1 l0_2) ?_
  unfold laws_FnExactNextChange.f
  have hl0 : l0_0.length ≤ 9223372036854775807 := w0.1
  by_cases c : l0_0.length + l0_2.length ≤ 1048576
  · rw [szReader_small (by omega) c]
    simp only [Option.bind_some]
    have hm : (l0_0.map cvHole).length ≤ 1048576 := by simp; omega
    have ho : l0_2.length ≤ 1048576 := by omega
    refine evNeg (by omega) (Ev.bind (toReader_ev a0_1 (by omega) ho) (Ev.bind (specNx_ev hm a0_1 ho) (Ev.bind (toReader_ev a0_1 (by omega) ho) (Ev.bind (implNx_ev hm a0_1 ho) ?_))))
    refine evPos rfl ?_
    simp only [bne_self_eq_false]
    exact Ev.step (fun k => laws_FnExactNextChange.j0.eq_2 ..) (evNeg (by simp) (Ev.bind (toReader_ev a0_1 (by omega) ho) (Ev.bind (eqReader_ev a0_1 hm ho) (evPos rfl (Ev.now _)))))
  · rw [szReader_big hl0 w2.1 c]
    simp only [Option.bind_some]
    exact evPos (by omega) (Ev.now _)
end Go.Proofs.Ytjdkdbeenggfaaa.Pure
