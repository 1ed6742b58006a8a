/- The program's ReaderText returns what the reference's returns, for all arguments.: the plain part: what the program computes and what the reference computes agree, for all arguments. No conditions beyond the arguments' own kinds. -/
import Derived.Test.YtjdkdbeenggfaaaDoorPRtx0
import Derived.Test.YtjdkdbeenggfaaaDoorPRtx1
import Derived.Test.YtjdkdbeenggfaaaDoorPRtx2
import Derived.Test.YtjdkdbeenggfaaaDoorPRtx3
import Derived.Test.YtjdkdbeenggfaaaDoorPRtx4
import Derived.Test.YtjdkdbeenggfaaaDoorPRtx5
import Derived.Test.YtjdkdbeenggfaaaDoorPRtx6
import Derived.Test.YtjdkdbeenggfaaaDoorPRtx7
import Derived.Test.YtjdkdbeenggfaaaDoorPRtx8
import Derived.Test.YtjdkdbeenggfaaaDoorPRtx9
import Derived.Test.YtjdkdbeenggfaaaDoorPRtx10
import Derived.Test.YtjdkdbeenggfaaaDoorPRtx11
import Derived.Test.YtjdkdbeenggfaaaDoorOpn
namespace Go.Proofs.YtjdkdbeenggfaaaDoor.Pure
open Go.RowKit Go.Proofs.YtjdkdbeenggfaaaDoor.PRt Go.Proofs.YtjdkdbeenggfaaaDoorW.PrintWords Go.Proofs.YtjdkdbeenggfaaaDoorW.PrintLast Go.Proofs.YtjdkdbeenggfaaaDoorW.PrintMore
-- ** base
theorem wrapi {x : Int} (h0 : -9223372036854775808 ≤ x) (h1 : x ≤ 9223372036854775807) : wrap64 x = x := by unfold wrap64; omega
theorem evPos {α : Type} {c : Prop} [Decidable c] {g f : Nat → Option α} {r : α} (h : c) (e : Ev g r) : Ev (fun k => if c then g k else f k) r := by
  simp only [if_pos h]; exact e
theorem evNeg {α : Type} {c : Prop} [Decidable c] {g f : Nat → Option α} {r : α} (h : ¬ c) (e : Ev f r) : Ev (fun k => if c then g k else f k) r := by
  simp only [if_neg h]; exact e
theorem evC {α β : Type} {o : Option α} {f : Nat → α → Option β} {a : α} {r : β} (h : o = some a) (e : Ev (fun n => f n a) r) : Ev (fun n => o.bind (f n)) r := by
  subst h; exact e
theorem evNow {α : Type} {r q : α} (h : r = q) : Ev (fun _ => some r) q := by subst h; exact Ev.now r
theorem evEq {α : Type} {g : Nat → Option α} {r q : α} (h : Ev g r) (e : r = q) : Ev g q := e ▸ h
theorem evIte {α : Type} {c : Prop} [Decidable c] {g f : Nat → Option α} {r q : α} (h : c → Ev g r) (h' : ¬ c → Ev f q) : Ev (fun k => if c then g k else f k) (if c then r else q) := by
  by_cases hc : c
  · simp only [if_pos hc]; exact h hc
  · simp only [if_neg hc]; exact h' hc
theorem evBy {α : Type} {c : Prop} [Decidable c] {g f : Nat → Option α} {r : α} (h : c → Ev g r) (h' : ¬ c → Ev f r) : Ev (fun k => if c then g k else f k) r := by
  by_cases hc : c
  · simp only [if_pos hc]; exact h hc
  · simp only [if_neg hc]; exact h' hc
theorem someT {p : Prop} [Decidable p] (h : p) : some true = some (decide p) := by rw [decide_eq_true h]
theorem someF {p : Prop} [Decidable p] (h : ¬ p) : some false = some (decide p) := by rw [decide_eq_false h]
theorem someD {p q : Prop} [Decidable p] [Decidable q] (h : p ↔ q) : some (decide p) = some (decide q) := by rw [decide_eq_decide.mpr h]
theorem decF {p : Prop} [Decidable p] (h : ¬ p) : false = decide p := by rw [decide_eq_false h]
theorem decD {p q : Prop} [Decidable p] [Decidable q] (h : p ↔ q) : decide p = decide q := decide_eq_decide.mpr h
theorem allBad {α : Type} {p : α → Bool} {x : α} {suf : List α} {q : Bool} (h : p x = false) : false = ((x :: suf).all p && q) := by simp [h]
theorem allGood {α : Type} {p : α → Bool} {x : α} {suf : List α} {q : Bool} (h : p x = true) : (suf.all p && q) = ((x :: suf).all p && q) := by simp [h]
theorem rgEnd {α : Type} {l pre : List α} (h : l = pre ++ []) : ¬ ((pre.length : Int) < (l.length : Int)) := by subst h; simp
theorem rgHead {α : Type} {l pre suf : List α} {x : α} (h : l = pre ++ x :: suf) (hl : l.length ≤ 4611686018427387904) (z : α) :
    (pre.length : Int) < (l.length : Int) ∧ (0 : Int) ≤ (pre.length : Int) ∧ wrap64 ((pre.length : Int) + 1) = ((pre ++ [x]).length : Int) ∧ l.getD (pre.length : Int).toNat z = x ∧ l = (pre ++ [x]) ++ suf := by
  subst h
  simp at hl
  refine ⟨by simp; omega, by omega, ?_, by simp, by simp⟩
  rw [wrapi (by omega) (by omega)]; simp
theorem in_eq (a b c : Int) : spec_l1In.f a b c = some (decide (b ≤ a ∧ a ≤ c)) := by
  unfold spec_l1In.f
  split
  · exact someD (by omega)
  · exact someF (by omega)
-- ** lists
theorem setAt {α : Type} (A B : List α) (z v : α) (n : Nat) (h : n = A.length) : (A ++ z :: B).set n v = A ++ v :: B := by subst h; simp
-- ** sheet
def hole (x : S60) : Prop := 0 ≤ x.f0 ∧ x.f0 ≤ 19 ∧ 0 ≤ x.f1 ∧ x.f1 < x.f2 ∧ x.f2 ≤ 2000
instance (x : S60) : Decidable (hole x) := by unfold hole; exact inferInstance
def hbef (a b : S60) : Prop := a.f1 < b.f1 ∨ (a.f1 = b.f1 ∧ a.f0 < b.f0)
instance (a b : S60) : Decidable (hbef a b) := by unfold hbef; exact inferInstance
def hfree (x y : S60) : Bool := !decide (y.f0 = x.f0 ∧ y.f2 ≥ x.f1)
def headOk (pre : List S60) (x : S60) : Bool := decide (hole x) && (decide (pre = [] ∨ hbef (pre.getD (pre.length - 1) z60) x) && pre.all (hfree x))
def goodFrom : List S60 → List S60 → Bool
  | _, [] => true
  | pre, x :: suf => headOk pre x && goodFrom (pre ++ [x]) suf
def goodSheet (l : List S60) : Bool := goodFrom [] l && decide (l.length ≤ 60)
theorem shHole_eq (x : S60) : spec_shHole.f x.f0 x.f1 x.f2 = some (decide (hole x)) := by
  unfold spec_shHole.f; simp only [in_eq, Option.bind_some, decide_eq_true_eq]
  split
  · split
    · rw [wrapi (by omega) (by omega)]; exact someD (by unfold hole; omega)
    · exact someF (by unfold hole; omega)
  · exact someF (by unfold hole; omega)
theorem isHole_eq (x : S60) : impl_IsHole.f x.f0 x.f1 x.f2 = some (decide (hole x)) := by
  unfold impl_IsHole.f impl_isTrack.f
  by_cases c : x.f0 ≥ 0
  · rw [if_pos c]; simp only [Option.bind_some, decide_eq_true_eq]
    split
    · split
      · split
        · exact someD (by unfold hole; omega)
        · exact someF (by unfold hole; omega)
      · exact someF (by unfold hole; omega)
    · exact someF (by unfold hole; omega)
  · rw [if_neg c]; simp only [Option.bind_some, Bool.false_eq_true, if_false]
    exact someF (by unfold hole; omega)
theorem shBefore_eq (a b : S60) : spec_shBefore.f a.f0 a.f1 a.f2 b.f0 b.f1 b.f2 = some (decide (hbef a b)) := by
  unfold spec_shBefore.f
  split
  · exact someT (by unfold hbef; omega)
  · split
    · exact someD (by unfold hbef; omega)
    · exact someF (by unfold hbef; omega)
theorem holeLess_eq (a b : S60) : impl_holeLess.f a.f0 a.f1 a.f2 b.f0 b.f1 b.f2 = some (decide (hbef a b)) := by
  unfold impl_holeLess.f
  split
  · exact someD (by unfold hbef; omega)
  · exact someD (by unfold hbef; omega)
theorem hfree_t {x y : S60} (h : ¬ (y.f0 = x.f0 ∧ y.f2 ≥ x.f1)) : hfree x y = true := by unfold hfree; rw [decide_eq_false h]; rfl
theorem hfree_f {x y : S60} (h : y.f0 = x.f0 ∧ y.f2 ≥ x.f1) : hfree x y = false := by unfold hfree; rw [decide_eq_true h]; rfl
theorem shGood_l1 (l : List S60) (i : Int) (x : S60) (l' : List S60) (n : Int) (q : Bool) (hq : Ev (fun k => spec_shGood.l0 k l l' n (wrap64 (i + 1))) q) (p : List S60) (hl : p.length ≤ 1048576) :
    ∀ (suf pre : List S60), p = pre ++ suf → Ev (fun k => spec_shGood.l1 k l l' n i p (p.length : Int) (pre.length : Int) x.f0 x.f1 x.f2) (suf.all (hfree x) && q) := by
  intro suf
  induction suf with
  | nil =>
    intro pre h
    refine Ev.step (fun k => spec_shGood.l1.eq_2 ..) ?_
    simp only [rgEnd h, if_false]
    exact evEq hq (by simp)
  | cons y suf ih =>
    intro pre h
    obtain ⟨h1, h2, h3, h4, h5⟩ := rgHead h (by omega) z60
    refine Ev.step (fun k => spec_shGood.l1.eq_2 ..) ?_
    simp only [h1, h2, h3, rd_T60, h4, if_true]
    refine evBy (fun c => evBy (fun c' => evNow (allBad (hfree_f ⟨c.symm, c'⟩))) (fun c' => evEq (ih _ h5) (allGood (hfree_t (fun r => c' r.2))))) (fun c => evEq (ih _ h5) (allGood (hfree_t (fun r => c r.1.symm))))
theorem shGood_l0 (l : List S60) (hl : l.length ≤ 1048576) : ∀ (suf pre : List S60), l = pre ++ suf → Ev (fun k => spec_shGood.l0 k l l (l.length : Int) (pre.length : Int)) (goodFrom pre suf && decide (l.length ≤ 60)) := by
  intro suf
  induction suf with
  | nil =>
    intro pre h
    refine Ev.step (fun k => spec_shGood.l0.eq_2 ..) ?_
    simp only [rgEnd h, if_false]
    exact evNow (by rw [goodFrom, Bool.true_and]; exact decD (by omega))
  | cons x suf ih =>
    intro pre h
    obtain ⟨h1, h2, h3, h4, h5⟩ := rgHead h (by omega) z60
    have hpl : pre.length ≤ 1048576 := by omega
    have hj : ∀ b : Bool, b = !decide (pre = [] ∨ hbef (pre.getD (pre.length - 1) z60) x) → hole x → Ev (fun k => spec_shGood.j1 k l (pre.length : Int) l (l.length : Int) (pre.length : Int) b x.f0 x.f1 x.f2) (goodFrom pre (x :: suf) && decide (l.length ≤ 60)) := by
      intro b hb hx
      refine Ev.step (fun k => spec_shGood.j1.eq_2 ..) ?_
      by_cases c : pre = [] ∨ hbef (pre.getD (pre.length - 1) z60) x
      · rw [decide_eq_true c] at hb; subst hb
        refine evNeg (by simp) (evPos h2 (evPos (by omega) ?_))
        simp only [Option.bind_some]
        have e : l.take (pre.length : Int).toNat = pre := by rw [h]; simp
        rw [e]
        refine evEq (shGood_l1 l (pre.length : Int) x l (l.length : Int) _ (by rw [h3]; exact ih _ h5) pre (by omega) pre [] rfl) ?_
        simp only [goodFrom, headOk, decide_eq_true hx, decide_eq_true c, Bool.true_and, Bool.and_assoc]
      · rw [decide_eq_false c] at hb; subst hb
        refine evPos rfl (evNow ?_)
        simp only [goodFrom, headOk, decide_eq_false c, Bool.false_and, Bool.and_false]
    refine Ev.step (fun k => spec_shGood.l0.eq_2 ..) ?_
    simp only [h1, h2, rd_T60, h4, if_true, shHole_eq, Option.bind_some, decide_eq_true_eq]
    refine evBy (fun hx => ?_) (fun hx => Ev.step (fun k => spec_shGood.j1.eq_2 ..) (evPos rfl (evNow (by simp only [goodFrom, headOk, decide_eq_false hx, Bool.false_and]))))
    by_cases c : 0 < pre.length
    · rw [wrapi (x := (pre.length : Int) - 1) (by omega) (by omega)]
      refine evPos (by omega) (evPos (by omega) (evPos (by omega) ?_))
      have e : l.getD ((pre.length : Int) - 1).toNat z60 = pre.getD (pre.length - 1) z60 := by
        rw [show ((pre.length : Int) - 1).toNat = pre.length - 1 by omega, h, List.getD_eq_getElem?_getD, List.getD_eq_getElem?_getD, List.getElem?_append_left (by omega)]
      rw [e, shBefore_eq]
      simp only [Option.bind_some]
      refine hj _ ?_ hx
      congr 1
      refine decide_eq_decide.mpr ⟨fun r => .inr r, fun r => r.resolve_left (fun z => by rw [z] at c; simp at c)⟩
    · refine evNeg (by omega) (hj _ ?_ hx)
      have : pre = [] := List.eq_nil_of_length_eq_zero (by omega)
      rw [decide_eq_true (Or.inl this)]; rfl
theorem shGood_ev {l : List S60} (hl : l.length ≤ 1048576) : Ev (fun k => spec_shGood.f k l) (goodSheet l) := shGood_l0 l hl l [] rfl
theorem isSheet_l1 (l : List S60) (i : Int) (x : S60) (l' : List S60) (n : Int) (q : Bool) (hq : Ev (fun k => impl_IsSheet.l0 k l l' n (wrap64 (i + 1))) q) (p : List S60) (hl : p.length ≤ 1048576) :
    ∀ (suf pre : List S60), p = pre ++ suf → Ev (fun k => impl_IsSheet.l1 k l l' n i p (p.length : Int) (pre.length : Int) x.f0 x.f1 x.f2) (suf.all (hfree x) && q) := by
  intro suf
  induction suf with
  | nil =>
    intro pre h
    refine Ev.step (fun k => impl_IsSheet.l1.eq_2 ..) ?_
    simp only [rgEnd h, if_false]
    exact evEq hq (by simp)
  | cons y suf ih =>
    intro pre h
    obtain ⟨h1, h2, h3, h4, h5⟩ := rgHead h (by omega) z60
    refine Ev.step (fun k => impl_IsSheet.l1.eq_2 ..) ?_
    simp only [h1, h2, h3, rd_T60, h4, if_true]
    refine evBy (fun c => evBy (fun c' => evNow (allBad (hfree_f ⟨c, c'⟩))) (fun c' => evEq (ih _ h5) (allGood (hfree_t (fun r => c' r.2))))) (fun c => evEq (ih _ h5) (allGood (hfree_t (fun r => c r.1))))
theorem isSheet_l0 (l : List S60) (hl : l.length ≤ 1048576) : ∀ (suf pre : List S60), l = pre ++ suf → Ev (fun k => impl_IsSheet.l0 k l l (l.length : Int) (pre.length : Int)) (goodFrom pre suf) := by
  intro suf
  induction suf with
  | nil =>
    intro pre h
    refine Ev.step (fun k => impl_IsSheet.l0.eq_2 ..) ?_
    simp only [rgEnd h, if_false]
    exact evNow (by rw [goodFrom])
  | cons x suf ih =>
    intro pre h
    obtain ⟨h1, h2, h3, h4, h5⟩ := rgHead h (by omega) z60
    have hpl : pre.length ≤ 1048576 := by omega
    have hj : ∀ b : Bool, b = !decide (pre = [] ∨ hbef (pre.getD (pre.length - 1) z60) x) → hole x → Ev (fun k => impl_IsSheet.j1 k l (pre.length : Int) l (l.length : Int) (pre.length : Int) b x.f0 x.f1 x.f2) (goodFrom pre (x :: suf)) := by
      intro b hb hx
      refine Ev.step (fun k => impl_IsSheet.j1.eq_2 ..) ?_
      by_cases c : pre = [] ∨ hbef (pre.getD (pre.length - 1) z60) x
      · rw [decide_eq_true c] at hb; subst hb
        refine evNeg (by simp) (evPos h2 (evPos (by omega) ?_))
        simp only [Option.bind_some]
        have e : l.take (pre.length : Int).toNat = pre := by rw [h]; simp
        rw [e]
        refine evEq (isSheet_l1 l (pre.length : Int) x l (l.length : Int) _ (by rw [h3]; exact ih _ h5) pre (by omega) pre [] rfl) ?_
        simp only [goodFrom, headOk, decide_eq_true hx, decide_eq_true c, Bool.true_and]
      · rw [decide_eq_false c] at hb; subst hb
        refine evPos rfl (evNow ?_)
        simp only [goodFrom, headOk, decide_eq_false c, Bool.false_and, Bool.and_false]
    refine Ev.step (fun k => impl_IsSheet.l0.eq_2 ..) ?_
    simp only [h1, h2, rd_T60, h4, if_true, isHole_eq, Option.bind_some, decide_eq_true_eq]
    refine evBy (fun hx => ?_) (fun hx => Ev.step (fun k => impl_IsSheet.j1.eq_2 ..) (evPos rfl (evNow (by simp only [goodFrom, headOk, decide_eq_false hx, Bool.false_and]))))
    by_cases c : 0 < pre.length
    · rw [wrapi (x := (pre.length : Int) - 1) (by omega) (by omega)]
      refine evPos (by omega) (evPos (by omega) (evPos (by omega) ?_))
      have e : l.getD ((pre.length : Int) - 1).toNat z60 = pre.getD (pre.length - 1) z60 := by
        rw [show ((pre.length : Int) - 1).toNat = pre.length - 1 by omega, h, List.getD_eq_getElem?_getD, List.getD_eq_getElem?_getD, List.getElem?_append_left (by omega)]
      rw [e, holeLess_eq]
      simp only [Option.bind_some]
      refine hj _ ?_ hx
      congr 1
      refine decide_eq_decide.mpr ⟨fun r => .inr r, fun r => r.resolve_left (fun z => by rw [z] at c; simp at c)⟩
    · refine evNeg (by omega) (hj _ ?_ hx)
      have : pre = [] := List.eq_nil_of_length_eq_zero (by omega)
      rw [decide_eq_true (Or.inl this)]; rfl
theorem isSheet_ev {l : List S60} (hl : l.length ≤ 1048576) : Ev (fun k => impl_IsSheet.f k l) (goodSheet l) := by
  unfold impl_IsSheet.f goodSheet
  refine evBy (fun c => evNow ?_) (fun c => evEq (isSheet_l0 l hl l [] rfl) ?_)
  · rw [show decide (l.length ≤ 60) = false from decide_eq_false (by omega), Bool.and_false]
  · rw [show decide (l.length ≤ 60) = true from decide_eq_true (by omega), Bool.and_true]
-- ** put
def put : List Int → Int → List Int
  | [], n => [n]
  | a :: l, n => if a < n then a :: put l n else if a = n then a :: l else n :: a :: l
theorem put_len : ∀ (l : List Int) (n : Int), (put l n).length ≤ l.length + 1
  | [], n => by simp [put]
  | a :: l, n => by
    have := put_len l n
    simp only [put]; split
    · simp; omega
    · split <;> simp
theorem l1Put_l0 (l : List Int) (n : Int) (hl : l.length ≤ 1048576) : ∀ (suf pre : List Int), l = pre ++ suf → Ev (fun k => spec_l1Put.l0 k l n (pre.length : Int)) (pre ++ put suf n) := by
  intro suf
  induction suf with
  | nil =>
    intro pre h
    have hp : pre.length ≤ 1048576 := by rw [h] at hl; simpa using hl
    have hL : l.length = pre.length := by rw [h]; simp
    have e1 : l.take (pre.length : Int).toNat = pre := by rw [h]; simp
    have e2 : l.drop (pre.length : Int).toNat = [] := by rw [h]; simp
    refine Ev.step (fun k => spec_l1Put.l0.eq_2 ..) ?_
    simp only [rgEnd h, if_false, Option.bind_some, e1, e2]
    repeat' first | (refine evPos (by first | omega | (simp; omega)) ?_)
    exact evNow (by simp [put])
  | cons x suf ih =>
    intro pre h
    obtain ⟨h1, h2, h3, h4, h5⟩ := rgHead h (by omega) 0
    have hp : pre.length + (suf.length + 1) ≤ 1048576 := by rw [h] at hl; simpa using hl
    have hL : l.length = pre.length + (suf.length + 1) := by rw [h]; simp
    have e1 : l.take (pre.length : Int).toNat = pre := by rw [h]; simp
    have e2 : l.drop (pre.length : Int).toNat = x :: suf := by rw [h]; simp
    refine Ev.step (fun k => spec_l1Put.l0.eq_2 ..) ?_
    simp only [h1, h2, h3, rd, h4, if_true, Option.bind_some, e1, e2]
    refine evBy (fun c => evEq (ih _ h5) (by simp [put, c])) (fun c => evBy (fun c' => evNow (by rw [h]; simp [put, c'])) (fun c' => ?_))
    repeat' first | (refine evPos (by first | omega | (simp; omega)) ?_)
    exact evNow (by simp [put, c, c'])
theorem l1Put_ev {l : List Int} (hl : l.length ≤ 1048576) (n : Int) : Ev (fun k => spec_l1Put.f k l n) (put l n) := by
  unfold spec_l1Put.f; exact l1Put_l0 l n hl l [] rfl
-- ** shopen
theorem goodFrom_hole : ∀ {suf pre : List S60}, goodFrom pre suf = true → ∀ x, x ∈ suf → hole x
  | [], _, _, x, hx => by simp at hx
  | y :: suf, pre, h, x, hx => by
    simp only [goodFrom, headOk, Bool.and_eq_true, decide_eq_true_eq] at h
    rcases List.mem_cons.1 hx with r | r
    · subst r; exact h.1.1
    · exact goodFrom_hole h.2 x r
theorem goodSheet_hole {l : List S60} (h : goodSheet l = true) : ∀ x, x ∈ l → hole x := by
  simp only [goodSheet, Bool.and_eq_true] at h; exact goodFrom_hole h.1
theorem goodSheet_len {l : List S60} (h : goodSheet l = true) : l.length ≤ 60 := by
  simp only [goodSheet, Bool.and_eq_true, decide_eq_true_eq] at h; exact h.2
def isOpn (s : Int) (x : S60) : Prop := x.f1 ≤ s ∧ s < x.f2
instance (s : Int) (x : S60) : Decidable (isOpn s x) := by unfold isOpn; exact inferInstance
def opn (s : Int) : List Int → List S60 → List Int
  | acc, [] => acc
  | acc, x :: l => opn s (if isOpn s x then put acc x.f0 else acc) l
theorem shOpen_l0 (s : Int) (l : List S60) (hl : l.length ≤ 1000) (hh : ∀ x, x ∈ l → hole x) : ∀ (suf pre : List S60) (acc : List Int), l = pre ++ suf → acc.length ≤ pre.length →
    Ev (fun k => spec_shOpen.l0 k s acc l (l.length : Int) (pre.length : Int)) (opn s acc suf) := by
  intro suf
  induction suf with
  | nil =>
    intro pre acc h ha
    refine Ev.step (fun k => spec_shOpen.l0.eq_2 ..) ?_
    simp only [rgEnd h, if_false]
    exact evNow (by simp [opn])
  | cons x suf ih =>
    intro pre acc h ha
    obtain ⟨h1, h2, h3, h4, h5⟩ := rgHead h (by omega) z60
    have hx := hh x (by rw [h]; simp)
    unfold hole at hx
    have hpl : pre.length ≤ 1000 := by omega
    refine Ev.step (fun k => spec_shOpen.l0.eq_2 ..) ?_
    simp only [h1, h2, h3, rd_T60, h4, if_true, in_eq, Option.bind_some, decide_eq_true_eq]
    rw [wrapi (x := x.f2 - 1) (by omega) (by omega)]
    simp only [opn]
    have hput := put_len acc x.f0
    refine evBy (fun c => Ev.bind (l1Put_ev (by omega) x.f0) ?_) (fun c => ?_)
    · rw [if_pos (show isOpn s x by unfold isOpn; omega)]
      exact ih _ _ h5 (by simp; omega)
    · rw [if_neg (show ¬ isOpn s x by unfold isOpn; omega)]
      exact ih _ _ h5 (by simp; omega)
theorem shOpen_ev {l : List S60} (hg : goodSheet l = true) (s : Int) : Ev (fun k => spec_shOpen.f k l s) (opn s [] l) := by
  unfold spec_shOpen.f
  have := goodSheet_len hg
  exact shOpen_l0 s l (by omega) (goodSheet_hole hg) l [] [] rfl (by simp)
-- ** opentr
theorem put_mem : ∀ (l : List Int) (n a : Int), a ∈ put l n ↔ a = n ∨ a ∈ l
  | [], n, a => by simp [put]
  | b :: l, n, a => by
    simp only [put]; split
    · simp only [List.mem_cons, put_mem l n a]
      constructor
      · rintro (h | h | h)
        · exact .inr (.inl h)
        · exact .inl h
        · exact .inr (.inr h)
      · rintro (h | h | h)
        · exact .inr (.inl h)
        · exact .inl h
        · exact .inr (.inr h)
    · split
      · rename_i c; subst c; simp
      · simp
theorem put_sorted : ∀ (l : List Int) (n : Int), l.Pairwise (· < ·) → (put l n).Pairwise (· < ·)
  | [], n, _ => by simp [put]
  | b :: l, n, h => by
    have h' := List.pairwise_cons.1 h
    simp only [put]; split
    · rename_i c
      refine List.pairwise_cons.2 ⟨fun a ha => ?_, put_sorted l n h'.2⟩
      rcases (put_mem l n a).1 ha with r | r
      · omega
      · exact h'.1 a r
    · split
      · exact h
      · rename_i c c'
        refine List.pairwise_cons.2 ⟨fun a ha => ?_, h⟩
        rcases List.mem_cons.1 ha with r | r
        · omega
        · have := h'.1 a r; omega
theorem put_perm : ∀ (l : List Int) (n : Int), n ∉ l → (put l n).Perm (n :: l)
  | [], n, _ => .refl _
  | b :: l, n, h => by
    simp only [List.mem_cons, not_or] at h
    simp only [put]; split
    · exact ((put_perm l n h.2).cons b).trans (List.Perm.swap n b l)
    · split
      · rename_i c; exact absurd c.symm h.1
      · exact .refl _
def openTr (s : Int) (l : List S60) : List Int := (l.filter fun x => decide (isOpn s x)).map (·.f0)
theorem hfree_iff {x y : S60} : hfree x y = true ↔ ¬ (y.f0 = x.f0 ∧ y.f2 ≥ x.f1) := by
  unfold hfree
  by_cases c : y.f0 = x.f0 ∧ y.f2 ≥ x.f1
  · rw [decide_eq_true c]; simp [c]
  · rw [decide_eq_false c]; simp [c]
theorem opn_perm (s : Int) : ∀ (suf pre : List S60) (acc : List Int), goodFrom pre suf = true → (∀ t, t ∈ acc → ∃ y, y ∈ pre ∧ y.f0 = t ∧ isOpn s y) → (opn s acc suf).Perm (openTr s suf ++ acc)
  | [], pre, acc, _, _ => .refl _
  | x :: suf, pre, acc, h, ha => by
    simp only [goodFrom, headOk, Bool.and_eq_true, decide_eq_true_eq] at h
    simp only [opn, openTr]
    by_cases c : isOpn s x
    · rw [if_pos c, List.filter_cons_of_pos (by simpa using c), List.map_cons]
      have hn : x.f0 ∉ acc := fun hm => by
        obtain ⟨y, hy, h1, h2⟩ := ha _ hm
        have := hfree_iff.1 (List.all_eq_true.1 h.1.2.2 y hy)
        unfold isOpn at c h2
        exact this ⟨h1, by omega⟩
      have ih := opn_perm s suf (pre ++ [x]) (put acc x.f0) h.2 (fun t ht => by
        rcases (put_mem acc x.f0 t).1 ht with r | r
        · exact ⟨x, by simp, r.symm, c⟩
        · obtain ⟨y, hy, h1⟩ := ha t r
          exact ⟨y, by simp [hy], h1⟩)
      refine ih.trans ?_
      exact ((put_perm acc x.f0 hn).append_left _).trans List.perm_middle
    · rw [if_neg c, List.filter_cons_of_neg (by simpa using c)]
      exact opn_perm s suf (pre ++ [x]) acc h.2 (fun t ht => by
        obtain ⟨y, hy, h1⟩ := ha t ht
        exact ⟨y, by simp [hy], h1⟩)
theorem opn_sorted (s : Int) : ∀ (l : List S60) (acc : List Int), acc.Pairwise (· < ·) → (opn s acc l).Pairwise (· < ·)
  | [], acc, h => h
  | x :: l, acc, h => by
    simp only [opn]
    refine opn_sorted s l _ ?_
    split
    · exact put_sorted acc _ h
    · exact h
theorem sorted_perm {a b : List Int} (ha : a.Pairwise (· < ·)) (h : a.Perm b) : Lib.sorted b = a := by
  unfold Lib.sorted
  refine List.Perm.eq_of_pairwise (le := fun x y => decide (x ≤ y) = true) (fun x y _ _ h1 h2 => by simp at h1 h2; omega) ?_ (ha.imp (fun h => by simp; omega)) ((List.mergeSort_perm _ _).trans h.symm)
  exact List.pairwise_mergeSort (fun x y z h1 h2 => by simp at *; omega) (fun x y => by simp; omega) b
theorem open_eq {l : List S60} (hg : goodSheet l = true) (s : Int) : Lib.sorted (openTr s l) = opn s [] l := by
  have h : goodFrom [] l = true := by simp only [goodSheet, Bool.and_eq_true] at hg; exact hg.1
  have := opn_perm s l [] [] h (by simp)
  rw [List.append_nil] at this
  exact sorted_perm (opn_sorted s l [] List.Pairwise.nil) this
theorem isOpen_eq (x : S60) (s : Int) : impl_isOpen.f x.f0 x.f1 x.f2 s = some (decide (isOpn s x)) := by
  unfold impl_isOpen.f
  split
  · exact someD (by unfold isOpn; omega)
  · exact someF (by unfold isOpn; omega)
theorem openTracks_l0 (s : Int) (l : List S60) (hl : l.length ≤ 1048576) : ∀ (suf pre : List S60) (acc : List Int), l = pre ++ suf → acc.length ≤ pre.length →
    Ev (fun k => impl_openTracks.l0 k s acc l (l.length : Int) (pre.length : Int)) (Lib.sorted (acc ++ openTr s suf)) := by
  intro suf
  induction suf with
  | nil =>
    intro pre acc h ha
    have hp : pre.length ≤ 1048576 := by rw [h] at hl; simpa using hl
    refine Ev.step (fun k => impl_openTracks.l0.eq_2 ..) ?_
    simp only [rgEnd h, if_false]
    unfold sort_Ints.f
    rw [if_pos (by omega)]
    exact evNow (by simp [openTr])
  | cons x suf ih =>
    intro pre acc h ha
    obtain ⟨h1, h2, h3, h4, h5⟩ := rgHead h (by omega) z60
    have hpl : pre.length ≤ 1048576 := by omega
    refine Ev.step (fun k => impl_openTracks.l0.eq_2 ..) ?_
    simp only [h1, h2, h3, rd_T60, h4, if_true, isOpen_eq, Option.bind_some, decide_eq_true_eq]
    refine evBy (fun c => evPos (by omega) (evEq (ih _ _ h5 (by simp; omega)) ?_)) (fun c => evEq (ih _ _ h5 (by simp; omega)) ?_)
    · congr 1; unfold openTr; rw [List.filter_cons_of_pos (by simpa using c)]; simp
    · congr 1; unfold openTr; rw [List.filter_cons_of_neg (by simpa using c)]
theorem openTracks_ev {l : List S60} (hg : goodSheet l = true) (s : Int) : Ev (fun k => impl_openTracks.f k l s) (opn s [] l) := by
  have := goodSheet_len hg
  unfold impl_openTracks.f
  refine evEq (openTracks_l0 s l (by omega) l [] [] rfl (by simp)) ?_
  rw [List.nil_append]; exact open_eq hg s
-- ** same
theorem l1Same_l0 (a b : List Int) (hl : a.length ≤ 1048576) (hab : a.length = b.length) : ∀ (az bs pre : List Int), a = pre ++ az → b = pre ++ bs → Ev (fun k => spec_l1Same.l0 k a b (a.length : Int) (pre.length : Int)) (decide (az = bs)) := by
  intro az
  induction az with
  | nil =>
    intro bs pre h h'
    refine Ev.step (fun k => spec_l1Same.l0.eq_2 ..) ?_
    simp only [rgEnd h, if_false]
    have : bs = [] := by
      have q1 := congrArg List.length h
      have q2 := congrArg List.length h'
      rw [List.length_append] at q1 q2
      rw [List.length_nil] at q1
      exact List.eq_nil_of_length_eq_zero (by omega)
    exact evNow (by rw [this]; simp)
  | cons x az ih =>
    intro bs pre h h'
    cases bs with
    | nil => rw [h, h'] at hab; simp at hab
    | cons y bs =>
      obtain ⟨h1, h2, h3, h4, h5⟩ := rgHead h (by omega) 0
      obtain ⟨g1, _, _, g4, g5⟩ := rgHead h' (by omega) 0
      refine Ev.step (fun k => spec_l1Same.l0.eq_2 ..) ?_
      simp only [h1, h2, h3, g1, rd, h4, g4, if_true]
      refine evBy (fun c => ?_) (fun c => evNow (decF (fun q => c (List.cons.inj q).1)))
      subst c
      refine evEq (ih bs (pre ++ [x]) h5 g5) (decD ⟨fun q => by rw [q], fun q => (List.cons.inj q).2⟩)
theorem l1Same_ev (a b : List Int) (hl : a.length ≤ 1048576) : Ev (fun k => spec_l1Same.f k a b) (decide (a = b)) := by
  unfold spec_l1Same.f
  refine evBy (fun c => l1Same_l0 a b hl (by omega) a b [] rfl rfl) (fun c => evNow (decF (fun q => c (by rw [q]))))
theorem slEqual_l0 (a b : List Int) (hl : a.length ≤ 1048576) (hab : a.length = b.length) : ∀ (az bs pre : List Int), a = pre ++ az → b = pre ++ bs → Ev (fun k => slices_Equal_int_int.l0 k a b (a.length : Int) (pre.length : Int)) (decide (az = bs)) := by
  intro az
  induction az with
  | nil =>
    intro bs pre h h'
    refine Ev.step (fun k => slices_Equal_int_int.l0.eq_2 ..) ?_
    simp only [rgEnd h, if_false]
    have : bs = [] := by
      have q1 := congrArg List.length h
      have q2 := congrArg List.length h'
      rw [List.length_append] at q1 q2
      rw [List.length_nil] at q1
      exact List.eq_nil_of_length_eq_zero (by omega)
    exact evNow (by rw [this]; simp)
  | cons x az ih =>
    intro bs pre h h'
    cases bs with
    | nil => rw [h, h'] at hab; simp at hab
    | cons y bs =>
      obtain ⟨h1, h2, h3, h4, h5⟩ := rgHead h (by omega) 0
      obtain ⟨g1, _, _, g4, g5⟩ := rgHead h' (by omega) 0
      refine Ev.step (fun k => slices_Equal_int_int.l0.eq_2 ..) ?_
      simp only [h1, h2, h3, g1, rd, h4, g4, if_true]
      refine evBy (fun c => ?_) (fun c => evNow (decF (fun q => c (List.cons.inj q).1)))
      subst c
      refine evEq (ih bs (pre ++ [x]) h5 g5) (decD ⟨fun q => by rw [q], fun q => (List.cons.inj q).2⟩)
theorem slEqual_ev (a b : List Int) (hl : a.length ≤ 1048576) : Ev (fun k => slices_Equal_int_int.f k a b) (decide (a = b)) := by
  unfold slices_Equal_int_int.f
  refine evBy (fun c => slEqual_l0 a b hl (by omega) a b [] rfl rfl) (fun c => evNow (decF (fun q => c (by rw [q]))))
-- ** holelaw
def cvHole (x : S62) : S60 := ⟨x.f0, x.f1, x.f2⟩
theorem szHole_eq (l : List S62) (h : l.length ≤ 9223372036854775807) : laws_szHoleS.f l 1048576 = some (if l.length ≤ 1048576 then 1048576 - (l.length : Int) else -1) := by
  unfold laws_szHoleS.f
  rw [wrapi (by omega) (by omega)]
  by_cases c : l.length ≤ 1048576
  · rw [if_neg (by omega), if_pos c]
  · rw [if_pos (by omega), if_neg c]
theorem toHole_l0 (l : List S62) (hl : l.length ≤ 1048576) : ∀ (suf pre : List S62), l = pre ++ suf →
    Ev (fun k => laws_toHoleS.l0 k l (pre.map cvHole ++ List.replicate suf.length z60) (pre.length : Int)) (l.map cvHole) := by
  intro suf
  induction suf with
  | nil =>
    intro pre h
    refine Ev.step (fun k => laws_toHoleS.l0.eq_2 ..) ?_
    simp only [rgEnd h, if_false]
    exact evNow (by subst h; simp)
  | cons x suf ih =>
    intro pre h
    obtain ⟨h1, h2, h3, h4, h5⟩ := rgHead h (by omega) z62
    refine Ev.step (fun k => laws_toHoleS.l0.eq_2 ..) ?_
    simp only [h1, h2, h3, rd_T62, h4, if_true, laws_toHole.f, Option.bind_some]
    refine evPos (by simp; omega) ?_
    have e : (pre.map cvHole ++ List.replicate (x :: suf).length z60).set (pre.length : Int).toNat ⟨x.f0, x.f1, x.f2⟩ = (pre ++ [x]).map cvHole ++ List.replicate suf.length z60 := by
      rw [List.length_cons, List.replicate_succ, setAt _ _ _ _ _ (by simp)]
      simp [cvHole]
    rw [e]
    exact ih _ h5
theorem toHole_ev (l : List S62) (hl : l.length ≤ 1048576) : Ev (fun k => laws_toHoleS.f k l) (l.map cvHole) := by
  unfold laws_toHoleS.f
  refine evPos (by omega) (evPos (by omega) ?_)
  have := toHole_l0 l hl l [] rfl
  simpa using this
theorem eqHole_l0 (l : List S60) (hl : l.length ≤ 4611686018427387904) : ∀ (suf pre : List S60), l = pre ++ suf → Ev (fun k => laws_eqHoleS.l0 k l l (pre.length : Int)) true := by
  intro suf
  induction suf with
  | nil =>
    intro pre h
    refine Ev.step (fun k => laws_eqHoleS.l0.eq_2 ..) ?_
    simp only [rgEnd h, if_false]
    exact Ev.now _
  | cons x suf ih =>
    intro pre h
    obtain ⟨h1, h2, h3, h4, h5⟩ := rgHead h hl z60
    refine Ev.step (fun k => laws_eqHoleS.l0.eq_2 ..) ?_
    simp only [h1, h2, h3, if_true, laws_eqHole.f, Option.bind_some]
    exact ih _ h5
theorem eqHole_ev (l : List S60) (hl : l.length ≤ 4611686018427387904) : Ev (fun k => laws_eqHoleS.f k l l) true := by
  unfold laws_eqHoleS.f
  exact evPos rfl (eqHole_l0 l hl l [] rfl)
-- ** intlaw
theorem toInt_l0 (l : List Int) (hl : l.length ≤ 1048576) : ∀ (suf pre : List Int), l = pre ++ suf →
    Ev (fun k => laws_toIntS.l0 k l (pre ++ List.replicate suf.length 0) (pre.length : Int)) l := by
  intro suf
  induction suf with
  | nil =>
    intro pre h
    refine Ev.step (fun k => laws_toIntS.l0.eq_2 ..) ?_
    simp only [rgEnd h, if_false]
    exact evNow (by subst h; simp)
  | cons x suf ih =>
    intro pre h
    obtain ⟨h1, h2, h3, h4, h5⟩ := rgHead h (by omega) 0
    refine Ev.step (fun k => laws_toIntS.l0.eq_2 ..) ?_
    simp only [h1, h2, h3, rd, h4, if_true]
    refine evPos (by simp; omega) ?_
    have e : (pre ++ List.replicate (x :: suf).length 0).set (pre.length : Int).toNat x = (pre ++ [x]) ++ List.replicate suf.length 0 := by
      rw [List.length_cons, List.replicate_succ, setAt _ _ _ _ _ (by simp)]
      simp
    rw [e]
    exact ih _ h5
theorem toInt_ev (l : List Int) (hl : l.length ≤ 1048576) : Ev (fun k => laws_toIntS.f k l) l := by
  unfold laws_toIntS.f
  refine evPos (by omega) (evPos (by omega) ?_)
  have := toInt_l0 l hl l [] rfl
  simpa using this
theorem eqInt_l0 (l : List Int) (hl : l.length ≤ 4611686018427387904) : ∀ (suf pre : List Int), l = pre ++ suf → Ev (fun k => laws_eqIntS.l0 k l l (pre.length : Int)) true := by
  intro suf
  induction suf with
  | nil =>
    intro pre h
    refine Ev.step (fun k => laws_eqIntS.l0.eq_2 ..) ?_
    simp only [rgEnd h, if_false]
    exact Ev.now _
  | cons x suf ih =>
    intro pre h
    obtain ⟨h1, h2, h3, h4, h5⟩ := rgHead h hl 0
    refine Ev.step (fun k => laws_eqIntS.l0.eq_2 ..) ?_
    simp only [h1, h2, h3, if_true]
    exact ih _ h5
theorem eqInt_ev (l : List Int) (hl : l.length ≤ 4611686018427387904) : Ev (fun k => laws_eqIntS.f k l l) true := by
  unfold laws_eqIntS.f
  exact evPos rfl (eqInt_l0 l hl l [] rfl)
-- ** szint
theorem szInt_eq (l : List Int) (b : Int) (hb : 0 ≤ b) (hb' : b ≤ 1048576) (h : l.length ≤ 9223372036854775807) : laws_szIntS.f l b = some (if (l.length : Int) ≤ b then b - (l.length : Int) else -1) := by
  unfold laws_szIntS.f
  rw [wrapi (by omega) (by omega)]
  by_cases c : (l.length : Int) ≤ b
  · rw [if_neg (by omega), if_pos c]
  · rw [if_pos (by omega), if_neg c]
-- ** reader
def goodReader (l : List S60) (s : Int) (o : List Int) : Bool := goodSheet l && (decide (0 ≤ s ∧ s ≤ 2000) && decide (o = opn s [] l))
theorem goodReader_iff {l : List S60} {s : Int} {o : List Int} : goodReader l s o = true ↔ goodSheet l = true ∧ (0 ≤ s ∧ s ≤ 2000) ∧ o = opn s [] l := by
  unfold goodReader; rw [Bool.and_eq_true, Bool.and_eq_true, decide_eq_true_eq, decide_eq_true_eq]
theorem rdOpen_ev {l : List S60} (hg : goodSheet l = true) (s : Int) : Ev (fun k => spec_rdOpen.f k l s) (opn s [] l) := by
  unfold spec_rdOpen.f; exact Ev.bind (shOpen_ev hg s) (Ev.now _)
theorem rdGood_ev {l : List S60} (hl : l.length ≤ 1048576) (s : Int) {o : List Int} (ho : o.length ≤ 1048576) : Ev (fun k => spec_rdGood.f k l s o) (goodReader l s o) := by
  unfold spec_rdGood.f goodReader spec_rdStep.f
  simp only [in_eq, Option.bind_some, decide_eq_true_eq]
  refine Ev.bind (shGood_ev hl) (evBy (fun c => evBy (fun c' => ?_) (fun c' => evNow ?_)) (fun c => evNow ?_))
  · refine Ev.bind (rdOpen_ev c s) (Ev.bind (l1Same_ev o _ ho) (evNow ?_))
    rw [c, show decide (0 ≤ s ∧ s ≤ 2000) = true from decide_eq_true c', Bool.true_and, Bool.true_and]
  · rw [show decide (0 ≤ s ∧ s ≤ 2000) = false from decide_eq_false c', Bool.false_and, Bool.and_false]
  · rw [Bool.eq_false_iff.mpr c, Bool.false_and]
theorem isReader_ev {l : List S60} (hl : l.length ≤ 1048576) (s : Int) {o : List Int} (ho : o.length ≤ 1048576) : Ev (fun k => impl_IsReader.f k l s o) (goodReader l s o) := by
  unfold impl_IsReader.f goodReader
  refine Ev.bind (isSheet_ev hl) (evBy (fun c => evBy (fun c1 => evBy (fun c2 => ?_) (fun c2 => evNow ?_)) (fun c1 => evNow ?_)) (fun c => evNow ?_))
  · refine Ev.bind (openTracks_ev c s) (Ev.bind (slEqual_ev o _ ho) (evNow ?_))
    rw [c, show decide (0 ≤ s ∧ s ≤ 2000) = true from decide_eq_true (by omega), Bool.true_and, Bool.true_and]
  · rw [show decide (0 ≤ s ∧ s ≤ 2000) = false from decide_eq_false (by omega), Bool.false_and, Bool.and_false]
  · rw [show decide (0 ≤ s ∧ s ≤ 2000) = false from decide_eq_false (by omega), Bool.false_and, Bool.and_false]
  · rw [Bool.eq_false_iff.mpr c, Bool.false_and]
theorem szReader_small {l : List S62} {s : Int} {o : List Int} (h : l.length ≤ 1048576) (h' : l.length + o.length ≤ 1048576) : laws_szReader.f l s o 1048576 = some (1048576 - (l.length : Int) - (o.length : Int)) := by
  unfold laws_szReader.f
  rw [szHole_eq l (by omega), if_pos h]
  simp only [Option.bind_some]
  rw [if_neg (by omega), szInt_eq o _ (by omega) (by omega) (by omega), if_pos (by omega)]
  simp only [Option.bind_some]
  rw [if_neg (by omega)]
theorem szReader_big {l : List S62} {s : Int} {o : List Int} (hl : l.length ≤ 9223372036854775807) (ho : o.length ≤ 9223372036854775807) (h : ¬ l.length + o.length ≤ 1048576) : laws_szReader.f l s o 1048576 = some (-1) := by
  unfold laws_szReader.f
  rw [szHole_eq l hl]
  simp only [Option.bind_some]
  by_cases c : l.length ≤ 1048576
  · rw [if_pos c, if_neg (by omega), szInt_eq o _ (by omega) (by omega) ho, if_neg (by omega)]
    simp only [Option.bind_some]
    rw [if_pos (by omega)]
  · rw [if_neg c, if_pos (by omega)]
theorem toReader_ev {l : List S62} (s : Int) {o : List Int} (hl : l.length ≤ 1048576) (ho : o.length ≤ 1048576) : Ev (fun k => laws_toReader.f k l s o) (l.map cvHole, s, o) := by
  unfold laws_toReader.f
  exact Ev.bind (toHole_ev l hl) (Ev.bind (toInt_ev o ho) (Ev.now _))
theorem eqReader_ev {l : List S60} (s : Int) {o : List Int} (hl : l.length ≤ 1048576) (ho : o.length ≤ 1048576) : Ev (fun k => laws_eqReader.f k l s o l s o) true := by
  unfold laws_eqReader.f
  exact Ev.bind (eqHole_ev l (by omega)) (evPos rfl (evPos rfl (Ev.bind (eqInt_ev o (by omega)) (evPos rfl (Ev.now _)))))
-- ** numtext
-- numbers in text
def txb (b : List UInt8) : ByteArray := ⟨b.toArray⟩
theorem txb_size (b : List UInt8) : (txb b).size = b.length := by simp [txb, ByteArray.size]
theorem txb_app (a b : List UInt8) : txb a ++ txb b = txb (a ++ b) := by
  have : (txb a ++ txb b).data = (txb (a ++ b)).data := by simp [txb]
  exact ByteArray.ext this
theorem dig_len : ∀ (n u : Nat), u < 10 ^ (n + 1) → (Go.Lib.decDigits u).length ≤ n + 1
  | 0, u, h => by rw [Go.Lib.decDigits, dif_pos (by simpa using h)]; simp
  | n + 1, u, h => by
    rw [Go.Lib.decDigits]
    split
    · simp
    · have := dig_len n (u / 10) (by rw [Nat.div_lt_iff_lt_mul (by omega)]; rw [Nat.pow_succ] at h; exact h)
      simp; omega
theorem dig_ten {u : Nat} (h : u ≤ 1000000000) : (Go.Lib.decDigits u).length ≤ 10 := dig_len 9 u (by omega)
theorem digit_eq (u : Nat) (h : u < 10) : strOfNums ([(wrap64 (48 + (u : Int))) % 256] : List Int) = txb [UInt8.ofNat (48 + u)] := by
  have e : (wrap64 (48 + (u : Int))) % 256 = ((48 + u : Nat) : Int) := by rw [wrapi (by omega) (by omega)]; omega
  rw [e]
  simp only [strOfNums, List.map_cons, List.map_nil, Int.toNat_natCast]
  rfl
theorem l1Num_ev : ∀ (u : Nat), u ≤ 1000000000 → Ev (fun k => spec_l1Num.f k (u : Int)) (txb (Go.Lib.decDigits u)) := by
  intro u
  induction u using Nat.strongRecOn with
  | ind u ih =>
    intro h
    refine Ev.step (fun k => spec_l1Num.f.eq_2 ..) ?_
    by_cases c : u < 10
    · refine evPos (by omega) (evNow ?_)
      rw [digit_eq u c, Go.Lib.decDigits, dif_pos c]
    · have e1 : wrap64 (Int.tdiv (u : Int) 10) = ((u / 10 : Nat) : Int) := by rw [Int.tdiv_eq_ediv_of_nonneg (by omega), wrapi (by omega) (by omega)]; omega
      have e2 : Int.tmod (u : Int) 10 = ((u % 10 : Nat) : Int) := by rw [Int.tmod_eq_emod_of_nonneg (by omega)]; omega
      have hl := dig_ten (u := u / 10) (by omega)
      rw [e1, e2]
      refine evNeg (by omega) (Ev.bind (ih (u / 10) (by omega) (by omega)) ?_)
      simp only [Option.bind_some]
      rw [digit_eq (u % 10) (by omega)]
      refine evPos (by rw [txb_size, txb_size]; simp; omega) (evNow ?_)
      rw [txb_app]
      conv => rhs; rw [Go.Lib.decDigits, dif_neg c]
theorem itoa_nat (u : Nat) : Go.Lib.itoa (u : Int) = Go.Lib.decDigits u := by
  unfold Go.Lib.itoa
  rw [if_neg (by omega), Int.toNat_natCast]
theorem numOf {x : Int} (h0 : 0 ≤ x) (h1 : x ≤ 1000000000) : Ev (fun k => spec_l1Num.f k x) (txb (Go.Lib.itoa x)) ∧ (Go.Lib.itoa x).length ≤ 10 := by
  have e : x = ((x.toNat : Nat) : Int) := by omega
  rw [e, itoa_nat]
  exact ⟨l1Num_ev x.toNat (by omega), dig_ten (by omega)⟩
def wordsTx (l : List Int) : List UInt8 := Go.Lib.join (l.map Go.Lib.itoa) [32]
theorem words_one (a : Int) : wordsTx [a] = Go.Lib.itoa a := by simp [wordsTx, Go.Lib.join, List.intercalate]
theorem itoa_eq {x : Int} (h0 : 0 ≤ x) (h1 : x ≤ 1000000000) : strconv_Itoa.f x = some (txb (Go.Lib.itoa x)) := by
  unfold strconv_Itoa.f
  rw [if_pos (by omega)]; rfl
theorem words_ev (l : List Int) (hl : l.length ≤ 1000) (hb : ∀ x, x ∈ l → 0 ≤ x ∧ x ≤ 1000000000) (hj : (wordsTx l).length ≤ 140737488355328) : Ev (fun k => impl_words.f k l) (txb (wordsTx l)) := by
  unfold impl_words.f
  have go : ∀ (suf pre : List Int), l = pre ++ suf → Ev (fun k => impl_words.l0 k (pre.map fun x => txb (Go.Lib.itoa x)) l (l.length : Int) (pre.length : Int)) (txb (wordsTx l)) := by
    intro suf
    induction suf with
    | nil =>
      intro pre h
      have e : pre = l := by rw [h]; simp
      refine Ev.step (fun k => impl_words.l0.eq_2 ..) (evNeg (rgEnd h) ?_)
      have e2 : (l.map fun x => txb (Go.Lib.itoa x)).map (fun s => s.data.toList) = l.map Go.Lib.itoa := by
        rw [List.map_map]
        exact List.map_congr_left (fun x _ => by simp [txb])
      have ej : strings_Join.f (l.map fun x => txb (Go.Lib.itoa x)) (⟨#[32]⟩ : ByteArray) = some (txb (wordsTx l)) := by
        unfold strings_Join.f
        rw [e2]
        rw [if_pos ⟨by simp; omega, hj⟩]; rfl
      rw [e]
      exact evC ej (Ev.now _)
    | cons x suf ih =>
      intro pre h
      obtain ⟨h1, h2, h3, h4, h5⟩ := rgHead h (by omega) 0
      have hx := hb x (by rw [h]; simp)
      have hpl : pre.length ≤ l.length := by rw [h]; simp
      refine Ev.step (fun k => impl_words.l0.eq_2 ..) (evPos h1 (evPos h2 (evPos h1 ?_)))
      rw [show rd l (pre.length : Int) = x from h4, h3]
      refine evC (itoa_eq hx.1 hx.2) (evPos (by simp; omega) ?_)
      have := ih (pre ++ [x]) h5
      simp only [List.map_append, List.map_cons, List.map_nil] at this
      exact this
  exact go l [] rfl
theorem words1_ev {a : Int} (ha : 0 ≤ a ∧ a ≤ 1000000000) : Ev (fun k => impl_words.f k [a]) (txb (Go.Lib.itoa a)) := by
  have h1 := (numOf ha.1 ha.2).2
  rw [← words_one]
  refine words_ev [a] (by simp) (fun x hx => ?_) (by rw [words_one]; omega)
  simp at hx
  rcases hx with rfl
  exact ha
-- ** ReaderText_
-- a reader in text
theorem hasTr_l0 (l : List Int) (x : Int) (hl : l.length ≤ 1048576) : ∀ (suf pre : List Int), l = pre ++ suf → Ev (fun k => spec_l1Has.l0 k x l (l.length : Int) (pre.length : Int)) (decide (x ∈ suf)) := by
  intro suf
  induction suf with
  | nil =>
    intro pre h
    exact Ev.step (fun k => spec_l1Has.l0.eq_2 ..) (evNeg (rgEnd h) (evNow (by simp)))
  | cons y suf ih =>
    intro pre h
    obtain ⟨h1, h2, h3, h4, h5⟩ := rgHead h (by omega) 0
    refine Ev.step (fun k => spec_l1Has.l0.eq_2 ..) (evPos h1 (evPos h2 (evPos h1 ?_)))
    rw [show rd l (pre.length : Int) = y from h4, h3]
    refine evBy (fun c => evNow (by simp [c])) (fun c => evEq (ih _ h5) ?_)
    have : x ≠ y := fun q => c q.symm
    simp [this]
theorem hasTr_ev {l : List Int} (hl : l.length ≤ 1048576) (x : Int) : Ev (fun k => spec_l1Has.f k l x) (decide (x ∈ l)) := by
  unfold spec_l1Has.f; exact hasTr_l0 l x hl l [] rfl
theorem opn_tr (s : Int) : ∀ (l : List S60) (acc : List Int), (∀ x, x ∈ l → hole x) → (∀ t, t ∈ acc → 0 ≤ t ∧ t ≤ 19) → ∀ t, t ∈ opn s acc l → 0 ≤ t ∧ t ≤ 19
  | [], _, _, ha => ha
  | x :: l, acc, hl, ha => by
    have hx := hl x (by simp)
    unfold hole at hx
    simp only [opn]
    refine opn_tr s l _ (fun y hy => hl y (by simp [hy])) (fun t ht => ?_)
    split at ht
    · rcases (put_mem acc x.f0 t).1 ht with r | r
      · omega
      · exact ha t r
    · exact ha t ht
def tkB (o : List Int) (t : Nat) : UInt8 := if (t : Int) ∈ o then 111 else 46
def tkL (o : List Int) : List Int := (List.range 20).map fun t => ((tkB o t).toNat : Int)
theorem tkL_len (o : List Int) : (tkL o).length = 20 := by simp [tkL]
theorem tkL_text (o : List Int) : strOfNums (tkL o) = txb ((List.range 20).map (tkB o)) := by
  unfold strOfNums tkL txb
  rw [List.map_map]
  congr 2
  refine List.map_congr_left (fun t _ => ?_)
  simp
theorem tkL_put (o : List Int) {t : Int} (h0 : 0 ≤ t) : (tkL o).set t.toNat 111 = tkL (o ++ [t]) := by
  refine List.ext_getElem (by simp [tkL]) (fun i h1 h2 => ?_)
  rw [List.getElem_set]
  simp only [tkL, List.getElem_map, List.getElem_range, tkB, List.mem_append, List.mem_singleton]
  by_cases c : t.toNat = i
  · have e : (i : Int) = t := by omega
    rw [if_pos c, e, if_pos (Or.inr rfl)]; rfl
  · have e : (i : Int) ≠ t := by omega
    rw [if_neg c]
    by_cases q : (i : Int) ∈ o
    · rw [if_pos q, if_pos (Or.inl q)]
    · rw [if_neg q, if_neg (by simp [q, e])]
def rdTx (s : Int) (o : List Int) : List UInt8 := Go.Lib.itoa s ++ 58 :: (List.range 20).map (tkB o)
def rdTextRes (l : List S60) (s : Int) (o : List Int) : ByteArray × Bool := if goodReader l s o = true then (txb (rdTx s o), true) else (txb [], false)
theorem specRdText_l0 (l : List S60) (s : Int) {o : List Int} (ho : o.length ≤ 1048576) (b : List UInt8) (hb : b.length ≤ 1000) : ∀ (m t : Nat), t + m = 20 →
    Ev (fun k => spec_ReaderText.l0 k (txb (b ++ (List.range t).map (tkB o))) (t : Int) l s o) (txb (b ++ (List.range 20).map (tkB o)), true)
  | 0, t, h => by
    have e : t = 20 := by omega
    subst e
    exact Ev.step (fun k => spec_ReaderText.l0.eq_2 ..) (evNeg (by omega) (Ev.now _))
  | m + 1, t, h => by
    have ih := specRdText_l0 l s ho b hb m (t + 1) (by omega)
    have e : wrap64 ((t : Int) + 1) = ((t + 1 : Nat) : Int) := by rw [wrapi (by omega) (by omega)]; omega
    have hs : (txb (b ++ (List.range t).map (tkB o))).size + 1 ≤ 9223372036854775807 := by rw [txb_size]; simp; omega
    have e2 : ∀ c : UInt8, tkB o t = c → txb (b ++ (List.range t).map (tkB o)) ++ txb [c] = txb (b ++ (List.range (t + 1)).map (tkB o)) := by
      intro c hc
      rw [txb_app, List.range_succ, List.map_append, List.append_assoc]
      simp [hc]
    refine Ev.step (fun k => spec_ReaderText.l0.eq_2 ..) (evPos (by omega) (Ev.bind (hasTr_ev ho (t : Int)) ?_))
    simp only [decide_eq_true_eq]
    refine evBy (fun c => evPos hs ?_) (fun c => evPos hs ?_)
    · have := e2 111 (by simp [tkB, c])
      rw [show (⟨#[111]⟩ : ByteArray) = txb [111] from rfl, this, e]
      exact ih
    · have := e2 46 (by simp [tkB, c])
      rw [show (⟨#[46]⟩ : ByteArray) = txb [46] from rfl, this, e]
      exact ih
theorem specRdText_ev {l : List S60} (hl : l.length ≤ 1048576) (s : Int) {o : List Int} (ho : o.length ≤ 1048576) : Ev (fun k => spec_ReaderText.f k l s o) (rdTextRes l s o) := by
  unfold spec_ReaderText.f rdTextRes
  refine Ev.bind (rdGood_ev hl s ho) (evIte (fun c => ?_) (fun _ => Ev.now _))
  obtain ⟨_, hs, _⟩ := goodReader_iff.1 c
  obtain ⟨n1, d1⟩ := numOf (x := s) (by omega) (by omega)
  refine Ev.bind n1 (evPos (by rw [txb_size]; omega) ?_)
  rw [show (⟨#[58]⟩ : ByteArray) = txb [58] from rfl, txb_app]
  have := specRdText_l0 l s ho (Go.Lib.itoa s ++ [58]) (by simp; omega) 20 0 rfl
  simp only [List.range_zero, List.map_nil, List.append_nil, List.append_assoc, List.singleton_append] at this
  exact this
theorem implRdText_l0 (l : List S60) (s : Int) (hs : 0 ≤ s ∧ s ≤ 2000) {o : List Int} (ho : o.length ≤ 1048576) (hb : ∀ t, t ∈ o → 0 ≤ t ∧ t ≤ 19) : ∀ (suf pre : List Int), o = pre ++ suf →
    Ev (fun k => impl_ReaderText.l0 k (tkL pre) o (o.length : Int) (pre.length : Int) l s o) (txb (rdTx s o), true) := by
  intro suf
  induction suf with
  | nil =>
    intro pre h
    have e : pre = o := by rw [h]; simp
    obtain ⟨_, d1⟩ := numOf (x := s) (by omega) (by omega)
    refine Ev.step (fun k => impl_ReaderText.l0.eq_2 ..) (evNeg (rgEnd h) (Ev.bind (words1_ev (a := s) (by omega)) (evPos (by rw [txb_size]; omega) ?_)))
    rw [e, tkL_text, show (⟨#[58]⟩ : ByteArray) = txb [58] from rfl, txb_app]
    refine evPos (by rw [txb_size, txb_size]; simp; omega) (evNow ?_)
    rw [txb_app]
    simp [rdTx]
  | cons x suf ih =>
    intro pre h
    obtain ⟨h1, h2, h3, h4, h5⟩ := rgHead h (by omega) 0
    have hx := hb x (by rw [h]; simp)
    refine Ev.step (fun k => impl_ReaderText.l0.eq_2 ..) (evPos h1 (evPos h2 (evPos h1 ?_)))
    rw [show rd o (pre.length : Int) = x from h4, h3]
    refine evPos hx.1 (evPos (by rw [tkL_len]; omega) ?_)
    rw [tkL_put pre hx.1]
    exact ih _ h5
theorem implRdText_ev {l : List S60} (hl : l.length ≤ 1048576) (s : Int) {o : List Int} (ho : o.length ≤ 1048576) : Ev (fun k => impl_ReaderText.f k l s o) (rdTextRes l s o) := by
  unfold impl_ReaderText.f rdTextRes
  refine Ev.bind (isReader_ev hl s ho) (evIte (fun c => ?_) (fun _ => Ev.now _))
  obtain ⟨hg, hs, hop⟩ := goodReader_iff.1 c
  have hb : ∀ t, t ∈ o → 0 ≤ t ∧ t ≤ 19 := by rw [hop]; exact opn_tr s l [] (goodSheet_hole hg) (by simp)
  refine evC (show strings_Repeat.f (⟨#[46]⟩ : ByteArray) 20 = some (txb (List.replicate 20 46)) from rfl) ?_
  have := implRdText_l0 l s hs ho hb o [] rfl
  rw [show bytesOf (txb (List.replicate 20 46)) = tkL [] from rfl]
  exact this
-- ** FnExactReaderText
theorem FnExactReaderText (l0_0 : List S62) (a0_1 : Int) (l0_2 : List Int) (w0 : Opn.Lst (fun x : S62 => Opn.I64 x.f0 ∧ Opn.I64 x.f1 ∧ Opn.I64 x.f2) l0_0) (_ : Opn.I64 a0_1) (w2 : Opn.Lst Opn.I64 l0_2) : ∃ k, laws_FnExactReaderText.f k l0_0 a0_1 l0_2 = some true := by
  refine Ev.rounds (g := fun k => laws_FnExactReaderText.f k l0_0 a0_1 l0_2) ?_
  unfold laws_FnExactReaderText.f
  have hl0 : l0_0.length ≤ 9223372036854775807 := w0.1
  by_cases c : l0_0.length + l0_2.length ≤ 1048576
  · rw [szReader_small (by omega) c]
    simp only [Option.bind_some]
    have hm : (l0_0.map cvHole).length ≤ 1048576 := by simp; omega
    have ho : l0_2.length ≤ 1048576 := by omega
    refine evNeg (by omega) (Ev.bind (toReader_ev a0_1 (by omega) ho) (Ev.bind (specRdText_ev hm a0_1 ho) (Ev.bind (toReader_ev a0_1 (by omega) ho) (Ev.bind (implRdText_ev hm a0_1 ho) ?_))))
    refine evPos rfl ?_
    simp only [bne_self_eq_false]
    exact Ev.step (fun k => laws_FnExactReaderText.j0.eq_2 ..) (evNeg (by simp) (Ev.bind (toReader_ev a0_1 (by omega) ho) (Ev.bind (eqReader_ev a0_1 hm ho) (evPos rfl (Ev.now _)))))
  · rw [szReader_big hl0 w2.1 c]
    simp only [Option.bind_some]
    exact evPos (by omega) (Ev.now _)
end Go.Proofs.YtjdkdbeenggfaaaDoor.Pure
