/- The program's SheetOfEvents returns what the reference's returns, for all arguments.: the plain part: what the program computes and what the reference computes agree, for all arguments. No conditions beyond the arguments' own kinds. -/
import Derived.Test.YtjdkdbeenggfaaaPSox0
import Derived.Test.YtjdkdbeenggfaaaPSox1
import Derived.Test.YtjdkdbeenggfaaaPSox2
import Derived.Test.YtjdkdbeenggfaaaPSox3
import Derived.Test.YtjdkdbeenggfaaaPSox4
import Derived.Test.YtjdkdbeenggfaaaPSox5
import Derived.Test.YtjdkdbeenggfaaaPSox6
import Derived.Test.YtjdkdbeenggfaaaPSox7
import Derived.Test.YtjdkdbeenggfaaaPSox8
import Derived.Test.YtjdkdbeenggfaaaPSox9
import Derived.Test.YtjdkdbeenggfaaaPSox10
import Derived.Test.YtjdkdbeenggfaaaPSox11
import Derived.Test.YtjdkdbeenggfaaaPSox12
import Derived.Test.YtjdkdbeenggfaaaPSox13
import Derived.Test.YtjdkdbeenggfaaaOpn
namespace Go.Proofs.Ytjdkdbeenggfaaa.Pure
open Go.RowKit Go.Proofs.Ytjdkdbeenggfaaa.PSo Go.Proofs.YtjdkdbeenggfaaaW.PrintWords Go.Proofs.YtjdkdbeenggfaaaW.PrintLast Go.Proofs.YtjdkdbeenggfaaaW.PrintMore
-- ** base
theorem wrapi {x : Int} (h0 : -9223372036854775808 ≤ x) (h1 : x ≤ 9223372036854775807) : wrap64 x = x := by unfold wrap64; omega
theorem evPos {α : Type} {c : Prop} [Decidable c] {g f : Nat → Option α} {r : α} (h : c) (e : Ev g r) : Ev (fun k => if c then g k else f k) r := by
  simp only [if_pos h]; exact e
theorem evNeg {α : Type} {c : Prop} [Decidable c] {g f : Nat → Option α} {r : α} (h : ¬ c) (e : Ev f r) : Ev (fun k => if c then g k else f k) r := by
  simp only [if_neg h]; exact e
theorem evC {α β : Type} {o : Option α} {f : Nat → α → Option β} {a : α} {r : β} (h : o = some a) (e : Ev (fun n => f n a) r) : Ev (fun n => o.bind (f n)) r := by
  subst h; exact e
theorem evNow {α : Type} {r q : α} (h : r = q) : Ev (fun _ => some r) q := by subst h; exact Ev.now r
theorem evEq {α : Type} {g : Nat → Option α} {r q : α} (h : Ev g r) (e : r = q) : Ev g q := e ▸ h
theorem evIte {α : Type} {c : Prop} [Decidable c] {g f : Nat → Option α} {r q : α} (h : c → Ev g r) (h' : ¬ c → Ev f q) : Ev (fun k => if c then g k else f k) (if c then r else q) := by
  by_cases hc : c
  · simp only [if_pos hc]; exact h hc
  · simp only [if_neg hc]; exact h' hc
theorem evBy {α : Type} {c : Prop} [Decidable c] {g f : Nat → Option α} {r : α} (h : c → Ev g r) (h' : ¬ c → Ev f r) : Ev (fun k => if c then g k else f k) r := by
  by_cases hc : c
  · simp only [if_pos hc]; exact h hc
  · simp only [if_neg hc]; exact h' hc
theorem someT {p : Prop} [Decidable p] (h : p) : some true = some (decide p) := by rw [decide_eq_true h]
theorem someF {p : Prop} [Decidable p] (h : ¬ p) : some false = some (decide p) := by rw [decide_eq_false h]
theorem someD {p q : Prop} [Decidable p] [Decidable q] (h : p ↔ q) : some (decide p) = some (decide q) := by rw [decide_eq_decide.mpr h]
theorem decF {p : Prop} [Decidable p] (h : ¬ p) : false = decide p := by rw [decide_eq_false h]
theorem decD {p q : Prop} [Decidable p] [Decidable q] (h : p ↔ q) : decide p = decide q := decide_eq_decide.mpr h
theorem allBad {α : Type} {p : α → Bool} {x : α} {suf : List α} {q : Bool} (h : p x = false) : false = ((x :: suf).all p && q) := by simp [h]
theorem allGood {α : Type} {p : α → Bool} {x : α} {suf : List α} {q : Bool} (h : p x = true) : (suf.all p && q) = ((x :: suf).all p && q) := by simp [h]
theorem rgEnd {α : Type} {l pre : List α} (h : l = pre ++ []) : ¬ ((pre.length : Int) < (l.length : Int)) := by subst h; simp
theorem rgHead {α : Type} {l pre suf : List α} {x : α} (h : l = pre ++ x :: suf) (hl : l.length ≤ 4611686018427387904) (z : α) :
    (pre.length : Int) < (l.length : Int) ∧ (0 : Int) ≤ (pre.length : Int) ∧ wrap64 ((pre.length : Int) + 1) = ((pre ++ [x]).length : Int) ∧ l.getD (pre.length : Int).toNat z = x ∧ l = (pre ++ [x]) ++ suf := by
  subst h
  simp at hl
  refine ⟨by simp; omega, by omega, ?_, by simp, by simp⟩
  rw [wrapi (by omega) (by omega)]; simp
theorem in_eq (a b c : Int) : spec_l1In.f a b c = some (decide (b ≤ a ∧ a ≤ c)) := by
  unfold spec_l1In.f
  split
  · exact someD (by omega)
  · exact someF (by omega)
-- ** lists
theorem setAt {α : Type} (A B : List α) (z v : α) (n : Nat) (h : n = A.length) : (A ++ z :: B).set n v = A ++ v :: B := by subst h; simp
theorem getAt {α : Type} (A B : List α) (z v : α) (n : Nat) (h : n = A.length) : (A ++ v :: B).getD n z = v := by subst h; simp
-- ** sheet
def hole (x : S87) : Prop := 0 ≤ x.f0 ∧ x.f0 ≤ 19 ∧ 0 ≤ x.f1 ∧ x.f1 < x.f2 ∧ x.f2 ≤ 2000
instance (x : S87) : Decidable (hole x) := by unfold hole; exact inferInstance
def hbef (a b : S87) : Prop := a.f1 < b.f1 ∨ (a.f1 = b.f1 ∧ a.f0 < b.f0)
instance (a b : S87) : Decidable (hbef a b) := by unfold hbef; exact inferInstance
def hfree (x y : S87) : Bool := !decide (y.f0 = x.f0 ∧ y.f2 ≥ x.f1)
def headOk (pre : List S87) (x : S87) : Bool := decide (hole x) && (decide (pre = [] ∨ hbef (pre.getD (pre.length - 1) z87) x) && pre.all (hfree x))
def goodFrom : List S87 → List S87 → Bool
  | _, [] => true
  | pre, x :: suf => headOk pre x && goodFrom (pre ++ [x]) suf
def goodSheet (l : List S87) : Bool := goodFrom [] l && decide (l.length ≤ 60)
theorem shHole_eq (x : S87) : spec_shHole.f x.f0 x.f1 x.f2 = some (decide (hole x)) := by
  unfold spec_shHole.f; simp only [in_eq, Option.bind_some, decide_eq_true_eq]
  split
  · split
    · rw [wrapi (by omega) (by omega)]; exact someD (by unfold hole; omega)
    · exact someF (by unfold hole; omega)
  · exact someF (by unfold hole; omega)
theorem isHole_eq (x : S87) : impl_IsHole.f x.f0 x.f1 x.f2 = some (decide (hole x)) := by
  unfold impl_IsHole.f impl_isTrack.f
  by_cases c : x.f0 ≥ 0
  · rw [if_pos c]; simp only [Option.bind_some, decide_eq_true_eq]
    split
    · split
      · split
        · exact someD (by unfold hole; omega)
        · exact someF (by unfold hole; omega)
      · exact someF (by unfold hole; omega)
    · exact someF (by unfold hole; omega)
  · rw [if_neg c]; simp only [Option.bind_some, Bool.false_eq_true, if_false]
    exact someF (by unfold hole; omega)
theorem shBefore_eq (a b : S87) : spec_shBefore.f a.f0 a.f1 a.f2 b.f0 b.f1 b.f2 = some (decide (hbef a b)) := by
  unfold spec_shBefore.f
  split
  · exact someT (by unfold hbef; omega)
  · split
    · exact someD (by unfold hbef; omega)
    · exact someF (by unfold hbef; omega)
theorem holeLess_eq (a b : S87) : impl_holeLess.f a.f0 a.f1 a.f2 b.f0 b.f1 b.f2 = some (decide (hbef a b)) := by
  unfold impl_holeLess.f
  split
  · exact someD (by unfold hbef; omega)
  · exact someD (by unfold hbef; omega)
theorem hfree_t {x y : S87} (h : ¬ (y.f0 = x.f0 ∧ y.f2 ≥ x.f1)) : hfree x y = true := by unfold hfree; rw [decide_eq_false h]; rfl
theorem hfree_f {x y : S87} (h : y.f0 = x.f0 ∧ y.f2 ≥ x.f1) : hfree x y = false := by unfold hfree; rw [decide_eq_true h]; rfl
theorem shGood_l1 (l : List S87) (i : Int) (x : S87) (l' : List S87) (n : Int) (q : Bool) (hq : Ev (fun k => spec_shGood.l0 k l l' n (wrap64 (i + 1))) q) (p : List S87) (hl : p.length ≤ 1048576) :
    ∀ (suf pre : List S87), p = pre ++ suf → Ev (fun k => spec_shGood.l1 k l l' n i p (p.length : Int) (pre.length : Int) x.f0 x.f1 x.f2) (suf.all (hfree x) && q) := by
  intro suf
  induction suf with
  | nil =>
    intro pre h
    refine Ev.step (fun k => spec_shGood.l1.eq_2 ..) ?_
    simp only [rgEnd h, if_false]
    exact evEq hq (by simp)
  | cons y suf ih =>
    intro pre h
    obtain ⟨h1, h2, h3, h4, h5⟩ := rgHead h (by omega) z87
    refine Ev.step (fun k => spec_shGood.l1.eq_2 ..) ?_
    simp only [h1, h2, h3, rd_T87, h4, if_true]
    refine evBy (fun c => evBy (fun c' => evNow (allBad (hfree_f ⟨c.symm, c'⟩))) (fun c' => evEq (ih _ h5) (allGood (hfree_t (fun r => c' r.2))))) (fun c => evEq (ih _ h5) (allGood (hfree_t (fun r => c r.1.symm))))
theorem shGood_l0 (l : List S87) (hl : l.length ≤ 1048576) : ∀ (suf pre : List S87), l = pre ++ suf → Ev (fun k => spec_shGood.l0 k l l (l.length : Int) (pre.length : Int)) (goodFrom pre suf && decide (l.length ≤ 60)) := by
  intro suf
  induction suf with
  | nil =>
    intro pre h
    refine Ev.step (fun k => spec_shGood.l0.eq_2 ..) ?_
    simp only [rgEnd h, if_false]
    exact evNow (by rw [goodFrom, Bool.true_and]; exact decD (by omega))
  | cons x suf ih =>
    intro pre h
    obtain ⟨h1, h2, h3, h4, h5⟩ := rgHead h (by omega) z87
    have hpl : pre.length ≤ 1048576 := by omega
    have hj : ∀ b : Bool, b = !decide (pre = [] ∨ hbef (pre.getD (pre.length - 1) z87) x) → hole x → Ev (fun k => spec_shGood.j1 k l (pre.length : Int) l (l.length : Int) (pre.length : Int) b x.f0 x.f1 x.f2) (goodFrom pre (x :: suf) && decide (l.length ≤ 60)) := by
      intro b hb hx
      refine Ev.step (fun k => spec_shGood.j1.eq_2 ..) ?_
      by_cases c : pre = [] ∨ hbef (pre.getD (pre.length - 1) z87) x
      · rw [decide_eq_true c] at hb; subst hb
        refine evNeg (by simp) (evPos h2 (evPos (by omega) ?_))
        simp only [Option.bind_some]
        have e : l.take (pre.length : Int).toNat = pre := by rw [h]; simp
        rw [e]
        refine evEq (shGood_l1 l (pre.length : Int) x l (l.length : Int) _ (by rw [h3]; exact ih _ h5) pre (by omega) pre [] rfl) ?_
        simp only [goodFrom, headOk, decide_eq_true hx, decide_eq_true c, Bool.true_and, Bool.and_assoc]
      · rw [decide_eq_false c] at hb; subst hb
        refine evPos rfl (evNow ?_)
        simp only [goodFrom, headOk, decide_eq_false c, Bool.false_and, Bool.and_false]
    refine Ev.step (fun k => spec_shGood.l0.eq_2 ..) ?_
    simp only [h1, h2, rd_T87, h4, if_true, shHole_eq, Option.bind_some, decide_eq_true_eq]
    refine evBy (fun hx => ?_) (fun hx => Ev.step (fun k => spec_shGood.j1.eq_2 ..) (evPos rfl (evNow (by simp only [goodFrom, headOk, decide_eq_false hx, Bool.false_and]))))
    by_cases c : 0 < pre.length
    · rw [wrapi (x := (pre.length : Int) - 1) (by omega) (by omega)]
      refine evPos (by omega) (evPos (by omega) (evPos (by omega) ?_))
      have e : l.getD ((pre.length : Int) - 1).toNat z87 = pre.getD (pre.length - 1) z87 := by
        rw [show ((pre.length : Int) - 1).toNat = pre.length - 1 by omega, h, List.getD_eq_getElem?_getD, List.getD_eq_getElem?_getD, List.getElem?_append_left (by omega)]
      rw [e, shBefore_eq]
      simp only [Option.bind_some]
      refine hj _ ?_ hx
      congr 1
      refine decide_eq_decide.mpr ⟨fun r => .inr r, fun r => r.resolve_left (fun z => by rw [z] at c; simp at c)⟩
    · refine evNeg (by omega) (hj _ ?_ hx)
      have : pre = [] := List.eq_nil_of_length_eq_zero (by omega)
      rw [decide_eq_true (Or.inl this)]; rfl
theorem shGood_ev {l : List S87} (hl : l.length ≤ 1048576) : Ev (fun k => spec_shGood.f k l) (goodSheet l) := shGood_l0 l hl l [] rfl
theorem isSheet_l1 (l : List S87) (i : Int) (x : S87) (l' : List S87) (n : Int) (q : Bool) (hq : Ev (fun k => impl_IsSheet.l0 k l l' n (wrap64 (i + 1))) q) (p : List S87) (hl : p.length ≤ 1048576) :
    ∀ (suf pre : List S87), p = pre ++ suf → Ev (fun k => impl_IsSheet.l1 k l l' n i p (p.length : Int) (pre.length : Int) x.f0 x.f1 x.f2) (suf.all (hfree x) && q) := by
  intro suf
  induction suf with
  | nil =>
    intro pre h
    refine Ev.step (fun k => impl_IsSheet.l1.eq_2 ..) ?_
    simp only [rgEnd h, if_false]
    exact evEq hq (by simp)
  | cons y suf ih =>
    intro pre h
    obtain ⟨h1, h2, h3, h4, h5⟩ := rgHead h (by omega) z87
    refine Ev.step (fun k => impl_IsSheet.l1.eq_2 ..) ?_
    simp only [h1, h2, h3, rd_T87, h4, if_true]
    refine evBy (fun c => evBy (fun c' => evNow (allBad (hfree_f ⟨c, c'⟩))) (fun c' => evEq (ih _ h5) (allGood (hfree_t (fun r => c' r.2))))) (fun c => evEq (ih _ h5) (allGood (hfree_t (fun r => c r.1))))
theorem isSheet_l0 (l : List S87) (hl : l.length ≤ 1048576) : ∀ (suf pre : List S87), l = pre ++ suf → Ev (fun k => impl_IsSheet.l0 k l l (l.length : Int) (pre.length : Int)) (goodFrom pre suf) := by
  intro suf
  induction suf with
  | nil =>
    intro pre h
    refine Ev.step (fun k => impl_IsSheet.l0.eq_2 ..) ?_
    simp only [rgEnd h, if_false]
    exact evNow (by rw [goodFrom])
  | cons x suf ih =>
    intro pre h
    obtain ⟨h1, h2, h3, h4, h5⟩ := rgHead h (by omega) z87
    have hpl : pre.length ≤ 1048576 := by omega
    have hj : ∀ b : Bool, b = !decide (pre = [] ∨ hbef (pre.getD (pre.length - 1) z87) x) → hole x → Ev (fun k => impl_IsSheet.j1 k l (pre.length : Int) l (l.length : Int) (pre.length : Int) b x.f0 x.f1 x.f2) (goodFrom pre (x :: suf)) := by
      intro b hb hx
      refine Ev.step (fun k => impl_IsSheet.j1.eq_2 ..) ?_
      by_cases c : pre = [] ∨ hbef (pre.getD (pre.length - 1) z87) x
      · rw [decide_eq_true c] at hb; subst hb
        refine evNeg (by simp) (evPos h2 (evPos (by omega) ?_))
        simp only [Option.bind_some]
        have e : l.take (pre.length : Int).toNat = pre := by rw [h]; simp
        rw [e]
        refine evEq (isSheet_l1 l (pre.length : Int) x l (l.length : Int) _ (by rw [h3]; exact ih _ h5) pre (by omega) pre [] rfl) ?_
        simp only [goodFrom, headOk, decide_eq_true hx, decide_eq_true c, Bool.true_and]
      · rw [decide_eq_false c] at hb; subst hb
        refine evPos rfl (evNow ?_)
        simp only [goodFrom, headOk, decide_eq_false c, Bool.false_and, Bool.and_false]
    refine Ev.step (fun k => impl_IsSheet.l0.eq_2 ..) ?_
    simp only [h1, h2, rd_T87, h4, if_true, isHole_eq, Option.bind_some, decide_eq_true_eq]
    refine evBy (fun hx => ?_) (fun hx => Ev.step (fun k => impl_IsSheet.j1.eq_2 ..) (evPos rfl (evNow (by simp only [goodFrom, headOk, decide_eq_false hx, Bool.false_and]))))
    by_cases c : 0 < pre.length
    · rw [wrapi (x := (pre.length : Int) - 1) (by omega) (by omega)]
      refine evPos (by omega) (evPos (by omega) (evPos (by omega) ?_))
      have e : l.getD ((pre.length : Int) - 1).toNat z87 = pre.getD (pre.length - 1) z87 := by
        rw [show ((pre.length : Int) - 1).toNat = pre.length - 1 by omega, h, List.getD_eq_getElem?_getD, List.getD_eq_getElem?_getD, List.getElem?_append_left (by omega)]
      rw [e, holeLess_eq]
      simp only [Option.bind_some]
      refine hj _ ?_ hx
      congr 1
      refine decide_eq_decide.mpr ⟨fun r => .inr r, fun r => r.resolve_left (fun z => by rw [z] at c; simp at c)⟩
    · refine evNeg (by omega) (hj _ ?_ hx)
      have : pre = [] := List.eq_nil_of_length_eq_zero (by omega)
      rw [decide_eq_true (Or.inl this)]; rfl
theorem isSheet_ev {l : List S87} (hl : l.length ≤ 1048576) : Ev (fun k => impl_IsSheet.f k l) (goodSheet l) := by
  unfold impl_IsSheet.f goodSheet
  refine evBy (fun c => evNow ?_) (fun c => evEq (isSheet_l0 l hl l [] rfl) ?_)
  · rw [show decide (l.length ≤ 60) = false from decide_eq_false (by omega), Bool.and_false]
  · rw [show decide (l.length ≤ 60) = true from decide_eq_true (by omega), Bool.and_true]
-- ** most
theorem l1Most_eq (a b : Int) : spec_l1Most.f a b = some (max a b) := by
  unfold spec_l1Most.f; split <;> (congr 1; omega)
-- ** shopen
theorem goodFrom_hole : ∀ {suf pre : List S87}, goodFrom pre suf = true → ∀ x, x ∈ suf → hole x
  | [], _, _, x, hx => by simp at hx
  | y :: suf, pre, h, x, hx => by
    simp only [goodFrom, headOk, Bool.and_eq_true, decide_eq_true_eq] at h
    rcases List.mem_cons.1 hx with r | r
    · subst r; exact h.1.1
    · exact goodFrom_hole h.2 x r
theorem goodSheet_hole {l : List S87} (h : goodSheet l = true) : ∀ x, x ∈ l → hole x := by
  simp only [goodSheet, Bool.and_eq_true] at h; exact goodFrom_hole h.1
theorem goodSheet_len {l : List S87} (h : goodSheet l = true) : l.length ≤ 60 := by
  simp only [goodSheet, Bool.and_eq_true, decide_eq_true_eq] at h; exact h.2
def lenS : Int → List S87 → Int
  | e, [] => e
  | e, x :: l => lenS (max e x.f2) l
theorem shLength_l0 (l : List S87) (hl : l.length ≤ 1048576) : ∀ (suf pre : List S87) (e : Int), l = pre ++ suf → Ev (fun k => spec_shLength.l0 k e l (l.length : Int) (pre.length : Int)) (lenS e suf) := by
  intro suf
  induction suf with
  | nil =>
    intro pre e h
    refine Ev.step (fun k => spec_shLength.l0.eq_2 ..) ?_
    simp only [rgEnd h, if_false]
    exact evNow (by simp [lenS])
  | cons x suf ih =>
    intro pre e h
    obtain ⟨h1, h2, h3, h4, h5⟩ := rgHead h (by omega) z87
    refine Ev.step (fun k => spec_shLength.l0.eq_2 ..) ?_
    simp only [h1, h2, h3, rd_T87, h4, if_true, l1Most_eq, Option.bind_some, lenS]
    exact ih _ _ h5
theorem shLength_ev {l : List S87} (hl : l.length ≤ 1048576) : Ev (fun k => spec_shLength.f k l) (lenS 0 l) := by
  unfold spec_shLength.f; exact shLength_l0 l hl l [] 0 rfl
theorem lenS_bd : ∀ {l : List S87} {e : Int}, (∀ x, x ∈ l → hole x) → 0 ≤ e → e ≤ 2000 → 0 ≤ lenS e l ∧ lenS e l ≤ 2000
  | [], e, _, h0, h1 => ⟨h0, h1⟩
  | x :: l, e, h, h0, h1 => by
    have hx := h x (by simp)
    unfold hole at hx
    exact lenS_bd (l := l) (e := max e x.f2) (fun y hy => h y (by simp [hy])) (by omega) (by omega)
-- ** opentr
theorem hfree_iff {x y : S87} : hfree x y = true ↔ ¬ (y.f0 = x.f0 ∧ y.f2 ≥ x.f1) := by
  unfold hfree
  by_cases c : y.f0 = x.f0 ∧ y.f2 ≥ x.f1
  · rw [decide_eq_true c]; simp [c]
  · rw [decide_eq_false c]; simp [c]
-- ** events
-- the events of a sheet
theorem perm4 {α : Type} (a b c d : List α) : ((a ++ b) ++ (c ++ d)).Perm ((a ++ c) ++ (b ++ d)) := by
  simp only [List.append_assoc]
  refine List.Perm.append_left a ?_
  rw [← List.append_assoc, ← List.append_assoc]
  exact List.Perm.append_right d List.perm_append_comm
def evIn (s t : Int) (x : S87) : List (List Int) := (if x.f0 = t ∧ x.f1 = s then [[s, t, 1]] else []) ++ (if x.f0 = t ∧ x.f2 = s then [[s, t, 0]] else [])
def evAt (s t : Int) (l : List S87) : List (List Int) := l.flatMap (evIn s t)
def evTrs (s : Int) (l : List S87) : Int → Nat → List (List Int)
  | _, 0 => []
  | t, n + 1 => evAt s t l ++ evTrs s l (t + 1) n
def evSts (l : List S87) : Int → Nat → List (List Int)
  | _, 0 => []
  | s, n + 1 => evTrs s l 0 20 ++ evSts l (s + 1) n
def evOne (x : S87) : List (List Int) := [[x.f1, x.f0, 1], [x.f2, x.f0, 0]]
theorem evAt_cons (s t : Int) (x : S87) (l : List S87) : evAt s t (x :: l) = evAt s t [x] ++ evAt s t l := by simp [evAt]
theorem evTrs_cons (s : Int) (x : S87) (l : List S87) : ∀ (n : Nat) (t : Int), (evTrs s (x :: l) t n).Perm (evTrs s [x] t n ++ evTrs s l t n)
  | 0, _ => .refl _
  | n + 1, t => by
    simp only [evTrs]
    rw [evAt_cons]
    exact ((evTrs_cons s x l n (t + 1)).append_left _).trans (perm4 _ _ _ _)
theorem evSts_cons (x : S87) (l : List S87) : ∀ (n : Nat) (s : Int), (evSts (x :: l) s n).Perm (evSts [x] s n ++ evSts l s n)
  | 0, _ => .refl _
  | n + 1, s => by
    simp only [evSts]
    exact ((evTrs_cons s x l 20 0).append (evSts_cons x l n (s + 1))).trans (perm4 _ _ _ _)
theorem evTrs_none (s : Int) : ∀ (n : Nat) (t : Int), evTrs s [] t n = []
  | 0, _ => rfl
  | n + 1, t => by simp [evTrs, evAt, evTrs_none s n]
theorem evSts_none : ∀ (n : Nat) (s : Int), evSts [] s n = []
  | 0, _ => rfl
  | n + 1, s => by simp [evSts, evTrs_none, evSts_none n]
theorem evTrs_one (s : Int) (x : S87) : ∀ (n : Nat) (t : Int), evTrs s [x] t n = if t ≤ x.f0 ∧ x.f0 < t + (n : Int) then evIn s x.f0 x else []
  | 0, t => by rw [if_neg (by omega)]; rfl
  | n + 1, t => by
    simp only [evTrs, evAt, List.flatMap_cons, List.flatMap_nil, List.append_nil]
    rw [evTrs_one s x n (t + 1)]
    by_cases c : x.f0 = t
    · subst c
      rw [if_neg (by omega), if_pos (by omega), List.append_nil]
    · have : evIn s t x = [] := by unfold evIn; rw [if_neg (fun z => c z.1), if_neg (fun z => c z.1)]; rfl
      rw [this, List.nil_append]
      by_cases c2 : t ≤ x.f0 ∧ x.f0 < t + ((n + 1 : Nat) : Int)
      · rw [if_pos (by omega), if_pos c2]
      · rw [if_neg (by omega), if_neg c2]
theorem evSts_one {x : S87} (hx : hole x) : ∀ (n : Nat) (s : Int), evSts [x] s n = (if s ≤ x.f1 ∧ x.f1 < s + (n : Int) then [[x.f1, x.f0, 1]] else []) ++ (if s ≤ x.f2 ∧ x.f2 < s + (n : Int) then [[x.f2, x.f0, 0]] else [])
  | 0, s => by rw [if_neg (by omega), if_neg (by omega)]; rfl
  | n + 1, s => by
    simp only [evSts]
    unfold hole at hx
    rw [evTrs_one, if_pos (by omega), evSts_one (by unfold hole; exact hx) n (s + 1)]
    unfold evIn
    by_cases c1 : x.f1 = s
    · rw [if_pos ⟨rfl, c1⟩, if_neg (c := x.f0 = x.f0 ∧ x.f2 = s) (by omega), if_neg (c := s + 1 ≤ x.f1 ∧ x.f1 < s + 1 + (n : Int)) (by omega), if_pos (c := s ≤ x.f1 ∧ x.f1 < s + ((n + 1 : Nat) : Int)) (by omega), c1]
      by_cases c2 : s ≤ x.f2 ∧ x.f2 < s + ((n + 1 : Nat) : Int)
      · rw [if_pos (by omega), if_pos c2]; rfl
      · rw [if_neg (by omega), if_neg c2]; rfl
    · rw [if_neg (fun z => c1 z.2)]
      by_cases c2 : x.f2 = s
      · rw [if_pos ⟨rfl, c2⟩, if_neg (c := s + 1 ≤ x.f1 ∧ x.f1 < s + 1 + (n : Int)) (by omega), if_neg (c := s + 1 ≤ x.f2 ∧ x.f2 < s + 1 + (n : Int)) (by omega), if_neg (c := s ≤ x.f1 ∧ x.f1 < s + ((n + 1 : Nat) : Int)) (by omega), if_pos (c := s ≤ x.f2 ∧ x.f2 < s + ((n + 1 : Nat) : Int)) (by omega), c2]; rfl
      · rw [if_neg (fun z => c2 z.2), List.nil_append, List.nil_append]
        congr 1
        · by_cases c3 : s ≤ x.f1 ∧ x.f1 < s + ((n + 1 : Nat) : Int)
          · rw [if_pos (by omega), if_pos c3]
          · rw [if_neg (by omega), if_neg c3]
        · by_cases c3 : s ≤ x.f2 ∧ x.f2 < s + ((n + 1 : Nat) : Int)
          · rw [if_pos (by omega), if_pos c3]
          · rw [if_neg (by omega), if_neg c3]
theorem evSts_perm (n : Nat) : ∀ (l : List S87), (∀ x, x ∈ l → hole x) → (∀ x, x ∈ l → x.f2 < (n : Int)) → (evSts l 0 n).Perm (l.flatMap evOne)
  | [], _, _ => by rw [evSts_none]; exact .refl _
  | x :: l, h, hn => by
    have hx := h x (by simp)
    have hxn := hn x (by simp)
    refine (evSts_cons x l n 0).trans ?_
    rw [evSts_one hx, List.flatMap_cons]
    unfold hole at hx
    rw [if_pos (by omega), if_pos (by omega)]
    exact (evSts_perm n l (fun y hy => h y (by simp [hy])) (fun y hy => hn y (by simp [hy]))).append_left _
-- the order of lists
open Sf
theorem leL_3 {a b c a' b' c' : Int} (h : a < a' ∨ (a = a' ∧ (b < b' ∨ (b = b' ∧ c ≤ c')))) : leL [a, b, c] [a', b', c'] = true := by
  unfold leL
  rw [decide_eq_true_eq]
  simp only [cmpL]
  by_cases e1 : a = a'
  · rw [if_pos (cmpI_0.2 e1)]
    by_cases e2 : b = b'
    · rw [if_pos (cmpI_0.2 e2)]
      by_cases e3 : c = c'
      · rw [if_pos (cmpI_0.2 e3)]; exact Int.le_refl _
      · rw [if_neg (fun z => e3 (cmpI_0.1 z))]; unfold cmpI; rw [if_pos (by omega)]; omega
    · rw [if_neg (fun z => e2 (cmpI_0.1 z))]; unfold cmpI; rw [if_pos (by omega)]; omega
  · rw [if_neg (fun z => e1 (cmpI_0.1 z))]; unfold cmpI; rw [if_pos (by omega)]; omega
-- at one step and track a sheet has one event or none
theorem evIn_mem {s t : Int} {x : S87} {q : List Int} (h : q ∈ evIn s t x) : x.f0 = t ∧ ((q = [s, t, 1] ∧ x.f1 = s) ∨ (q = [s, t, 0] ∧ x.f2 = s)) := by
  unfold evIn at h
  rcases List.mem_append.1 h with z | z
  · split at z
    · rename_i c; exact ⟨c.1, .inl ⟨List.mem_singleton.1 z, c.2⟩⟩
    · simp at z
  · split at z
    · rename_i c; exact ⟨c.1, .inr ⟨List.mem_singleton.1 z, c.2⟩⟩
    · simp at z
theorem evAt_mem {s t : Int} {l : List S87} {q : List Int} (h : q ∈ evAt s t l) : ∃ c, q = [s, t, c] ∧ (c = 0 ∨ c = 1) := by
  obtain ⟨x, _, hx⟩ := List.mem_flatMap.1 h
  rcases (evIn_mem hx).2 with r | r
  · exact ⟨1, r.1, .inr rfl⟩
  · exact ⟨0, r.1, .inl rfl⟩
theorem evTrs_mem {s : Int} {l : List S87} : ∀ {n : Nat} {t : Int} {q : List Int}, q ∈ evTrs s l t n → ∃ u c, q = [s, u, c] ∧ t ≤ u ∧ u < t + (n : Int) ∧ (c = 0 ∨ c = 1)
  | 0, _, q, h => by simp [evTrs] at h
  | n + 1, t, q, h => by
    rcases List.mem_append.1 h with z | z
    · obtain ⟨c, e, hc⟩ := evAt_mem z
      exact ⟨t, c, e, by omega, by omega, hc⟩
    · obtain ⟨u, c, e, h1, h2, hc⟩ := evTrs_mem (n := n) z
      exact ⟨u, c, e, by omega, by omega, hc⟩
theorem evSts_mem {l : List S87} : ∀ {n : Nat} {s : Int} {q : List Int}, q ∈ evSts l s n → ∃ v u c, q = [v, u, c] ∧ s ≤ v ∧ v < s + (n : Int) ∧ 0 ≤ u ∧ u < 20 ∧ (c = 0 ∨ c = 1)
  | 0, _, q, h => by simp [evSts] at h
  | n + 1, s, q, h => by
    rcases List.mem_append.1 h with z | z
    · obtain ⟨u, c, e, h1, h2, hc⟩ := evTrs_mem z
      exact ⟨s, u, c, e, by omega, by omega, by omega, by omega, hc⟩
    · obtain ⟨v, u, c, e, h1, h2, hc⟩ := evSts_mem (n := n) z
      exact ⟨v, u, c, e, by omega, by omega, hc⟩
theorem goodFrom_free : ∀ {suf pre : List S87}, goodFrom pre suf = true → (∀ x, x ∈ suf → hole x) ∧ suf.Pairwise (fun y x => y.f0 = x.f0 → y.f2 < x.f1) ∧ ∀ y, y ∈ pre → ∀ x, x ∈ suf → y.f0 = x.f0 → y.f2 < x.f1
  | [], pre, _ => ⟨by simp, List.Pairwise.nil, by simp⟩
  | x :: suf, pre, h => by
    have h0 := h
    simp only [goodFrom, headOk, Bool.and_eq_true, decide_eq_true_eq] at h
    obtain ⟨i1, i2, i3⟩ := goodFrom_free h.2
    refine ⟨goodFrom_hole h0, List.pairwise_cons.2 ⟨fun y hy => i3 x (by simp) y hy, i2⟩, fun y hy z hz => ?_⟩
    rcases List.mem_cons.1 hz with r | r
    · subst r
      have := hfree_iff.1 (List.all_eq_true.1 h.1.2.2 y hy)
      intro e; omega
    · exact i3 y (by simp [hy]) z r
theorem evAt_one {s t : Int} : ∀ {l : List S87}, (∀ x, x ∈ l → hole x) → l.Pairwise (fun y x => y.f0 = x.f0 → y.f2 < x.f1) → (evAt s t l).length ≤ 1
  | [], _, _ => by simp [evAt]
  | x :: l, hh, hp => by
    have hp' := List.pairwise_cons.1 hp
    have hx := hh x (by simp)
    unfold hole at hx
    have ih := evAt_one (s := s) (t := t) (l := l) (fun y hy => hh y (by simp [hy])) hp'.2
    by_cases c : evIn s t x = []
    · simpa [evAt, c] using ih
    · have : ∃ q, q ∈ evIn s t x := List.exists_mem_of_ne_nil _ c
      obtain ⟨q, hq⟩ := this
      have hq' := evIn_mem hq
      have e0 : evAt s t l = [] := by
        unfold evAt
        rw [List.flatMap_eq_nil_iff]
        intro y hy
        refine Classical.byContradiction fun z => ?_
        obtain ⟨q', hz⟩ := List.exists_mem_of_ne_nil _ z
        have hz' := evIn_mem hz
        have hy' := hh y (by simp [hy])
        unfold hole at hy'
        have := hp'.1 y hy (by omega)
        omega
      have e1 : (evIn s t x).length ≤ 1 := by
        unfold evIn
        by_cases z : x.f0 = t ∧ x.f1 = s
        · rw [if_pos z, if_neg (by omega)]; simp
        · rw [if_neg z, List.nil_append]; split <;> simp
      have : evAt s t (x :: l) = evIn s t x ++ evAt s t l := by simp [evAt]
      rw [this, e0, List.append_nil]; exact e1
theorem pairwise_one {α : Type} {R : α → α → Prop} : ∀ {l : List α}, l.length ≤ 1 → l.Pairwise R
  | [], _ => List.Pairwise.nil
  | [_], _ => List.pairwise_singleton _ _
  | _ :: _ :: _, h => by simp at h
theorem evTrs_sorted {s : Int} {l : List S87} (hh : ∀ x, x ∈ l → hole x) (hp : l.Pairwise (fun y x => y.f0 = x.f0 → y.f2 < x.f1)) : ∀ (n : Nat) (t : Int), (evTrs s l t n).Pairwise (fun x y => leL x y = true)
  | 0, _ => List.Pairwise.nil
  | n + 1, t => by
    simp only [evTrs]
    refine List.pairwise_append.2 ⟨pairwise_one (evAt_one hh hp), evTrs_sorted hh hp n (t + 1), fun a ha b hb => ?_⟩
    obtain ⟨c, rfl, _⟩ := evAt_mem ha
    obtain ⟨u, c', rfl, h1, _⟩ := evTrs_mem hb
    exact leL_3 (.inr ⟨rfl, .inl (by omega)⟩)
theorem evSts_sorted {l : List S87} (hh : ∀ x, x ∈ l → hole x) (hp : l.Pairwise (fun y x => y.f0 = x.f0 → y.f2 < x.f1)) : ∀ (n : Nat) (s : Int), (evSts l s n).Pairwise (fun x y => leL x y = true)
  | 0, _ => List.Pairwise.nil
  | n + 1, s => by
    simp only [evSts]
    refine List.pairwise_append.2 ⟨evTrs_sorted hh hp 20 0, evSts_sorted hh hp n (s + 1), fun a ha b hb => ?_⟩
    obtain ⟨u, c, rfl, _⟩ := evTrs_mem ha
    obtain ⟨v, u', c', rfl, h1, _⟩ := evSts_mem hb
    exact leL_3 (.inl (by omega))
def evs (l : List S87) : List (List Int) := evSts l 0 (lenS 0 l + 1).toNat
theorem lenS_ge : ∀ {l : List S87} {e : Int}, e ≤ lenS e l ∧ ∀ x, x ∈ l → x.f2 ≤ lenS e l
  | [], e => ⟨Int.le_refl _, by simp⟩
  | x :: l, e => by
    obtain ⟨h1, h2⟩ := lenS_ge (l := l) (e := max e x.f2)
    simp only [lenS]
    refine ⟨by omega, fun y hy => ?_⟩
    rcases List.mem_cons.1 hy with r | r
    · subst r; omega
    · exact h2 y r
theorem evs_eq {l : List S87} (hg : goodSheet l = true) : sortL (l.flatMap evOne) = evs l := by
  have h : goodFrom [] l = true := by simp only [goodSheet, Bool.and_eq_true] at hg; exact hg.1
  obtain ⟨h1, h2, _⟩ := goodFrom_free h
  refine sortL_eq (evSts_sorted h1 h2 _ _) (evSts_perm _ l h1 (fun x hx => ?_))
  have := (lenS_ge (l := l) (e := 0)).2 x hx
  omega
theorem evOne_len : ∀ (l : List S87), (l.flatMap evOne).length = 2 * l.length
  | [] => rfl
  | x :: l => by rw [List.flatMap_cons, List.length_append, evOne_len l]; simp [evOne]; omega
theorem evs_len {l : List S87} (hg : goodSheet l = true) : (evs l).length = 2 * l.length := by
  rw [← evs_eq hg, ← evOne_len l]; exact List.length_mergeSort _
theorem evs_mem {l : List S87} {q : List Int} (hg : goodSheet l = true) (h : q ∈ evs l) : ∃ v u c, q = [v, u, c] ∧ 0 ≤ v ∧ v ≤ 2000 ∧ 0 ≤ u ∧ u < 20 ∧ (c = 0 ∨ c = 1) := by
  obtain ⟨v, u, c, e, h1, h2, h3⟩ := evSts_mem h
  have := lenS_bd (l := l) (e := 0) (goodSheet_hole hg) (by omega) (by omega)
  exact ⟨v, u, c, e, h1, by omega, h3⟩
-- ** sheetev
-- the sheet of events, as the reference and as the program read them
def okE (e : List Int) : Bool := decide (e.length = 3 ∧ (0 ≤ rd e 0 ∧ rd e 0 ≤ 2000) ∧ (0 ≤ rd e 1 ∧ rd e 1 ≤ 19) ∧ 0 ≤ rd e 2 ∧ rd e 2 ≤ 1)
theorem okE_iff {e : List Int} : okE e = true ↔ e.length = 3 ∧ (0 ≤ rd e 0 ∧ rd e 0 ≤ 2000) ∧ (0 ≤ rd e 1 ∧ rd e 1 ≤ 19) ∧ 0 ≤ rd e 2 ∧ rd e 2 ≤ 1 := by unfold okE; rw [decide_eq_true_eq]
def upd {α : Type} (f : Int → α) (k : Int) (v : α) : Int → α := fun t => if t = k then v else f t
def seS : List (List Int) → List S87 → (Int → Int) → Option (List S87)
  | [], out, _ => some out
  | e :: l, out, O => if okE e = true then (if decide (O (rd e 1) ≥ 0) = decide (rd e 2 = 1) then none else if rd e 2 = 1 then seS l out (upd O (rd e 1) (rd e 0)) else seS l (out ++ [⟨rd e 1, O (rd e 1), rd e 0⟩]) (upd O (rd e 1) (-1))) else none
def seI : List (List Int) → List S87 → (Int → Option Int) → Option (List S87)
  | [], out, _ => some out
  | e :: l, out, M => if e.length = 3 then (if (M (rd e 1)).isSome = decide (rd e 2 = 1) then none else match M (rd e 1) with
      | some s => seI l (out ++ [⟨rd e 1, s, rd e 0⟩]) (upd M (rd e 1) none)
      | none => seI l out (upd M (rd e 1) (some (rd e 0)))) else none
theorem seS_bad : ∀ {l : List (List Int)} {out : List S87} {O : Int → Int}, ¬ l.all okE = true → seS l out O = none
  | [], _, _, h => by simp at h
  | e :: l, out, O, h => by
    simp only [List.all_cons, Bool.and_eq_true] at h
    simp only [seS]
    by_cases c : okE e = true
    · rw [if_pos c]
      have h' : ¬ l.all okE = true := fun z => h ⟨c, z⟩
      split
      · rfl
      · split
        · exact seS_bad h'
        · exact seS_bad h'
    · rw [if_neg c]
def openAs (O : Int → Int) (t : Int) : Option Int := if O t ≥ 0 then some (O t) else none
theorem openAs_some (O : Int → Int) (t : Int) : (openAs O t).isSome = decide (O t ≥ 0) := by
  unfold openAs
  by_cases c : O t ≥ 0
  · rw [if_pos c, decide_eq_true c]; rfl
  · rw [if_neg c, decide_eq_false c]; rfl
theorem se_same : ∀ {l : List (List Int)} {out : List S87} {O : Int → Int}, l.all okE = true → seI l out (openAs O) = seS l out O
  | [], _, _, _ => rfl
  | e :: l, out, O, h => by
    simp only [List.all_cons, Bool.and_eq_true] at h
    have he := okE_iff.1 h.1
    simp only [seS, seI]
    rw [if_pos h.1, if_pos he.1, openAs_some]
    by_cases c : decide (O (rd e 1) ≥ 0) = decide (rd e 2 = 1)
    · rw [if_pos c, if_pos c]
    · rw [if_neg c, if_neg c]
      by_cases d : O (rd e 1) ≥ 0
      · have e2 : ¬ rd e 2 = 1 := fun z => c (by rw [decide_eq_true d, decide_eq_true z])
        rw [if_neg e2]
        have : openAs O (rd e 1) = some (O (rd e 1)) := by unfold openAs; rw [if_pos d]
        rw [this]
        have hu : upd (openAs O) (rd e 1) none = openAs (upd O (rd e 1) (-1)) := by
          funext t; unfold upd openAs
          by_cases z : t = rd e 1
          · rw [if_pos z]; simp only [if_pos z]; rw [if_neg (by omega)]
          · rw [if_neg z]; simp only [if_neg z]
        dsimp only
        rw [hu]; exact se_same h.2
      · have e2 : rd e 2 = 1 := by
          refine Classical.byContradiction fun z => c ?_
          rw [decide_eq_false d, decide_eq_false z]
        rw [if_pos e2]
        have : openAs O (rd e 1) = none := by unfold openAs; rw [if_neg d]
        rw [this]
        have hu : upd (openAs O) (rd e 1) (some (rd e 0)) = openAs (upd O (rd e 1) (rd e 0)) := by
          funext t; unfold upd openAs
          by_cases z : t = rd e 1
          · rw [if_pos z]; simp only [if_pos z]; rw [if_pos he.2.1.1]
          · rw [if_neg z]; simp only [if_neg z]
        dsimp only
        rw [hu]; exact se_same h.2
theorem se_len : ∀ {l : List (List Int)} {out : List S87} {O : Int → Int} {q : List S87}, seS l out O = some q → q.length ≤ out.length + l.length
  | [], out, O, q, h => by simp only [seS] at h; injection h with h; subst h; simp
  | e :: l, out, O, q, h => by
    simp only [seS] at h
    split at h
    · split at h
      · cases h
      · split at h
        · have := se_len h; simp; omega
        · have := se_len h; simp at this ⊢; omega
    · cases h
theorem evs_ok {l : List S87} (hg : goodSheet l = true) : (evs l).all okE = true := by
  refine List.all_eq_true.2 fun q hq => ?_
  obtain ⟨v, u, c, rfl, h⟩ := evs_mem hg hq
  refine okE_iff.2 ⟨rfl, ?_⟩
  show (0 ≤ v ∧ v ≤ 2000) ∧ (0 ≤ u ∧ u ≤ 19) ∧ 0 ≤ c ∧ c ≤ 1
  omega
-- one order alone makes a sheet of holes
theorem good_sorted : ∀ {suf pre : List S87}, goodFrom pre suf = true → suf.Pairwise hbef ∧ ∀ y, pre.getLast? = some y → ∀ x, x ∈ suf → hbef y x
  | [], pre, _ => ⟨List.Pairwise.nil, by simp⟩
  | x :: suf, pre, h => by
    simp only [goodFrom, headOk, Bool.and_eq_true, decide_eq_true_eq] at h
    obtain ⟨i1, i2⟩ := good_sorted h.2
    have hx := i2 x (by simp)
    refine ⟨List.pairwise_cons.2 ⟨hx, i1⟩, fun y hy u hu => ?_⟩
    have hyx : hbef y x := by
      rcases h.1.2.1 with e | e
      · subst e; simp at hy
      · have : pre.getD (pre.length - 1) z87 = y := by
          rw [List.getLast?_eq_getElem?] at hy
          rw [List.getD_eq_getElem?_getD, hy]; rfl
        rw [this] at e; exact e
    rcases List.mem_cons.1 hu with r | r
    · subst r; exact hyx
    · have := hx u r
      unfold hbef at *
      omega
theorem pw_any {α : Type} {R : α → α → Prop} : ∀ {l : List α}, l.Pairwise R → ∀ x, x ∈ l → ∀ y, y ∈ l → x = y ∨ R x y ∨ R y x
  | [], _, x, hx, _, _ => by simp at hx
  | a :: l, h, x, hx, y, hy => by
    obtain ⟨h1, h2⟩ := List.pairwise_cons.1 h
    rcases List.mem_cons.1 hx with e | e
    · rcases List.mem_cons.1 hy with f | f
      · exact .inl (e.trans f.symm)
      · exact .inr (.inl (by rw [e]; exact h1 y f))
    · rcases List.mem_cons.1 hy with f | f
      · exact .inr (.inr (by rw [f]; exact h1 x e))
      · exact pw_any h2 x e y f
theorem sheet_one {a b : List S87} (hg : goodSheet a = true) (hp : a.Perm b) (hs : b.Pairwise (fun x y => ¬ hbef y x)) : b = a := by
  have h : goodFrom [] a = true := by simp only [goodSheet, Bool.and_eq_true] at hg; exact hg.1
  obtain ⟨h1, _⟩ := good_sorted h
  have key : ∀ x, x ∈ a → ∀ y, y ∈ a → ¬ hbef x y → ¬ hbef y x → x = y := by
    intro x hx y hy n1 n2
    rcases pw_any h1 x hx y hy with q | q | q
    · exact q
    · exact absurd q n1
    · exact absurd q n2
  refine (List.Perm.eq_of_pairwise (le := fun x y => ¬ hbef y x) (fun x y hx hy l1 l2 => key x hx y (hp.mem_iff.2 hy) (fun z => l2 z) (fun z => l1 z)) (h1.imp (fun q z => ?_)) hs hp).symm
  unfold hbef at *; omega
theorem sheet_both {a b : List S87} (hp : a.Perm b) (ha : a.Pairwise (fun x y => ¬ hbef y x)) (hb : b.Pairwise (fun x y => ¬ hbef y x)) : goodSheet a = goodSheet b ∧ (goodSheet a = true → a = b) := by
  by_cases ga : goodSheet a = true
  · have := sheet_one ga hp hb
    exact ⟨by rw [this], fun _ => this.symm⟩
  · refine ⟨?_, fun z => absurd z ga⟩
    cases gb : goodSheet b with
    | false => exact Bool.eq_false_iff.2 ga
    | true => exact absurd (by rw [sheet_one gb hp.symm ha]; exact gb) ga
-- ** sheetsort
def insAt (x : S87) (out : List S87) : Nat → Nat
  | 0 => 0
  | k + 1 => if hbef x (out.getD k z87) then insAt x out k else k + 1
def ins1 (x : S87) (out : List S87) : List S87 := out.take (insAt x out out.length) ++ x :: out.drop (insAt x out out.length)
def srt : List S87 → List S87 → List S87
  | out, [] => out
  | out, x :: l => srt (ins1 x out) l
theorem insAt_le (x : S87) (out : List S87) : ∀ (k : Nat), insAt x out k ≤ k
  | 0 => Nat.le_refl _
  | k + 1 => by
    simp only [insAt]; split
    · have := insAt_le x out k; omega
    · exact Nat.le_refl _
theorem insAt_hi (x : S87) (out : List S87) : ∀ (k j : Nat), insAt x out k ≤ j → j < k → hbef x (out.getD j z87)
  | 0, j, _, h => by omega
  | k + 1, j, h1, h2 => by
    simp only [insAt] at h1
    split at h1
    · rename_i c
      by_cases e : j = k
      · rw [e]; exact c
      · exact insAt_hi x out k j h1 (by omega)
    · omega
theorem insAt_lo (x : S87) (out : List S87) : ∀ (k : Nat), 0 < insAt x out k → ¬ hbef x (out.getD (insAt x out k - 1) z87)
  | 0, h => by simp [insAt] at h
  | k + 1, h => by
    simp only [insAt] at h ⊢
    by_cases c : hbef x (out.getD k z87)
    · rw [if_pos c] at h ⊢; exact insAt_lo x out k h
    · rw [if_neg c]; exact c
theorem ins1_perm (x : S87) (out : List S87) : (ins1 x out).Perm (x :: out) := by
  unfold ins1
  refine List.perm_middle.trans ?_
  rw [List.take_append_drop]
theorem ins1_len (x : S87) (out : List S87) : (ins1 x out).length = out.length + 1 := by rw [(ins1_perm x out).length_eq]; rfl
theorem ins1_sorted {x : S87} {out : List S87} (h : out.Pairwise (fun x y => ¬ hbef y x)) : (ins1 x out).Pairwise (fun x y => ¬ hbef y x) := by
  have hk := insAt_le x out out.length
  have lo : ∀ y, y ∈ out.take (insAt x out out.length) → ¬ hbef x y := by
    intro y hy
    obtain ⟨j, hj, e⟩ := List.mem_iff_getElem.1 hy
    have hj' : j < insAt x out out.length := by simp at hj; omega
    have e1 : out[j]'(by omega) = y := by rw [← e]; simp
    have l1 := insAt_lo x out out.length (by omega)
    by_cases c : j = insAt x out out.length - 1
    · rw [List.getD_eq_getElem?_getD, List.getElem?_eq_getElem (by omega)] at l1
      simp only [Option.getD_some] at l1
      rw [← e1]; simp only [c]; exact l1
    · have := List.pairwise_iff_getElem.1 h j (insAt x out out.length - 1) (by omega) (by omega) (by omega)
      rw [List.getD_eq_getElem?_getD, List.getElem?_eq_getElem (by omega)] at l1
      simp only [Option.getD_some] at l1
      rw [e1] at this
      unfold hbef at *; omega
  have hi : ∀ y, y ∈ out.drop (insAt x out out.length) → hbef x y := by
    intro y hy
    obtain ⟨j, hj, e⟩ := List.mem_iff_getElem.1 hy
    have hj' : insAt x out out.length + j < out.length := by simp at hj; omega
    have := insAt_hi x out out.length (insAt x out out.length + j) (by omega) hj'
    rw [List.getD_eq_getElem?_getD, List.getElem?_eq_getElem hj'] at this
    simp only [Option.getD_some] at this
    rw [← e]; simpa using this
  have hs : (out.take (insAt x out out.length) ++ out.drop (insAt x out out.length)).Pairwise (fun x y => ¬ hbef y x) := by rw [List.take_append_drop]; exact h
  obtain ⟨p1, p2, p3⟩ := List.pairwise_append.1 hs
  unfold ins1
  refine List.pairwise_append.2 ⟨p1, List.pairwise_cons.2 ⟨fun y hy => ?_, p2⟩, fun a ha b hb => ?_⟩
  · have := hi y hy
    unfold hbef at *; omega
  · rcases List.mem_cons.1 hb with e | e
    · rw [e]; exact lo a ha
    · exact p3 a ha b e
theorem srt_perm : ∀ (l out : List S87), (srt out l).Perm (out ++ l)
  | [], out => by simp [srt]
  | x :: l, out => by
    simp only [srt]
    refine (srt_perm l (ins1 x out)).trans ?_
    refine ((ins1_perm x out).append_right l).trans ?_
    exact List.perm_middle.symm
theorem srt_sorted : ∀ (l out : List S87), out.Pairwise (fun x y => ¬ hbef y x) → (srt out l).Pairwise (fun x y => ¬ hbef y x)
  | [], out, h => h
  | x :: l, out, h => by simp only [srt]; exact srt_sorted l _ (ins1_sorted h)
theorem srt_len (l out : List S87) : (srt out l).length = out.length + l.length := by rw [(srt_perm l out).length_eq, List.length_append]
/-- the sheet of holes, if they are one -/
def sheetR (l : List S87) : List S87 × Bool := if goodSheet (srt [] l) = true then (srt [] l, true) else ([], false)
theorem sheetR_of {l b : List S87} (hp : b.Perm l) (hs : b.Pairwise (fun x y => ¬ hbef y x)) : sheetR l = if goodSheet b = true then (b, true) else ([], false) := by
  have h1 : (srt [] l).Perm b := (srt_perm l []).trans hp.symm
  obtain ⟨e1, e2⟩ := sheet_both h1 (srt_sorted l [] List.Pairwise.nil) hs
  unfold sheetR
  rw [e1]
  split
  · rename_i c; rw [e2 (e1.trans c)]
  · rfl
-- ** EventsOf_
-- the events of a sheet, as both tell them
theorem rdEv_l2 {l : List S87} (hl : l.length ≤ 60) (s t : Int) (r : List (List Int)) : ∀ (suf pre : List S87) (acc : List (List Int)), l = pre ++ suf → acc.length ≤ 1000000000 + 2 * pre.length →
    Ev (fun k => spec_rdEvents.l1 k l (acc ++ evAt s t suf) s (wrap64 (t + 1))) r → Ev (fun k => spec_rdEvents.l2 k l acc s t l (l.length : Int) (pre.length : Int)) r := by
  intro suf
  induction suf with
  | nil =>
    intro pre acc h _ hr
    simp only [evAt, List.flatMap_nil, List.append_nil] at hr
    exact Ev.step (fun k => spec_rdEvents.l2.eq_2 ..) (evNeg (rgEnd h) hr)
  | cons x suf ih =>
    intro pre acc h ha hr
    obtain ⟨h1, h2, h3, h4, h5⟩ := rgHead h (by omega) z87
    have hp : pre.length ≤ 60 := by rw [h] at hl; simp at hl; omega
    have next : ∀ a : List (List Int), a.length ≤ acc.length + 2 → a ++ evAt s t suf = acc ++ evAt s t (x :: suf) → Ev (fun k => spec_rdEvents.l2 k l a s t l (l.length : Int) (wrap64 ((pre.length : Int) + 1))) r := fun a h6 h7 => by
      rw [h3]; exact ih (pre ++ [x]) a h5 (by simp; omega) (by rw [h7]; exact hr)
    have hx : evAt s t (x :: suf) = evIn s t x ++ evAt s t suf := by simp [evAt]
    refine Ev.step (fun k => spec_rdEvents.l2.eq_2 ..) ?_
    simp only [h1, h2, rd_T87, h4, if_true]
    by_cases c : x.f0 = t
    · refine evPos c (Ev.step (fun k => spec_rdEvents.j3.eq_2 ..) ?_)
      by_cases c1 : x.f1 = s
      · refine evPos (by simp [c1]) (evPos (by omega) ?_)
        simp only [Option.bind_some]
        refine evPos c ?_
        by_cases c2 : x.f2 = s
        · refine evPos c2 (evPos (by simp; omega) (next ((acc ++ [[s, t, 1]]) ++ [[s, t, 0]]) (by simp) ?_))
          rw [hx]; simp [evIn, c, c1, c2]
        · refine evNeg c2 (next (acc ++ [[s, t, 1]]) (by simp) ?_)
          rw [hx]; simp [evIn, c, c1, c2]
      · refine evNeg (by simp [c1]) (evPos c ?_)
        by_cases c2 : x.f2 = s
        · refine evPos c2 (evPos (by omega) (next (acc ++ [[s, t, 0]]) (by simp) ?_))
          rw [hx]; simp [evIn, c, c1, c2]
        · refine evNeg c2 (next acc (by omega) ?_)
          rw [hx]; simp [evIn, c, c1, c2]
    · refine evNeg c (Ev.step (fun k => spec_rdEvents.j3.eq_2 ..) (evNeg (by simp) (evNeg c (next acc (by omega) ?_))))
      rw [hx]; simp [evIn, c]
theorem evAt_len (s t : Int) : ∀ (l : List S87), (evAt s t l).length ≤ 2 * l.length
  | [] => by simp [evAt]
  | x :: l => by
    have := evAt_len s t l
    have e : evAt s t (x :: l) = evIn s t x ++ evAt s t l := by simp [evAt]
    rw [e, List.length_append, List.length_cons]
    have : (evIn s t x).length ≤ 2 := by unfold evIn; split <;> split <;> simp
    omega
theorem evTrs_len (s : Int) (l : List S87) : ∀ (n : Nat) (t : Int), (evTrs s l t n).length ≤ 2 * l.length * n
  | 0, _ => by simp [evTrs]
  | n + 1, t => by
    have h1 := evTrs_len s l n (t + 1)
    have h2 := evAt_len s t l
    simp only [evTrs, List.length_append, Nat.mul_add, Nat.mul_one]
    omega
theorem rdEv_l1 {l : List S87} (hl : l.length ≤ 60) (s : Int) (r : List (List Int)) : ∀ (n t : Nat) (acc : List (List Int)), t + n = 20 → acc.length ≤ 5000000 + 120 * t →
    Ev (fun k => spec_rdEvents.l0 k l (acc ++ evTrs s l (t : Int) n) (wrap64 (s + 1))) r → Ev (fun k => spec_rdEvents.l1 k l acc s (t : Int)) r
  | 0, t, acc, h, _, hr => by
    simp only [evTrs, List.append_nil] at hr
    exact Ev.step (fun k => spec_rdEvents.l1.eq_2 ..) (evNeg (by omega) hr)
  | n + 1, t, acc, h, ha, hr => by
    refine Ev.step (fun k => spec_rdEvents.l1.eq_2 ..) (evPos (by omega) ?_)
    refine rdEv_l2 hl s (t : Int) r l [] acc rfl (by simp; omega) ?_
    have e : wrap64 ((t : Int) + 1) = ((t + 1 : Nat) : Int) := by rw [wrapi (by omega) (by omega)]; omega
    have := evAt_len s (t : Int) l
    rw [e]
    refine rdEv_l1 hl s r n (t + 1) _ (by omega) (by rw [List.length_append]; omega) ?_
    have e2 : ((t + 1 : Nat) : Int) = (t : Int) + 1 := by omega
    rw [List.append_assoc, e2]
    exact hr
theorem rdEv_l0 {l : List S87} (hl : l.length ≤ 60) (hL : lenS 0 l ≤ 2000) : ∀ (n s : Nat) (acc : List (List Int)), (s : Int) + n = lenS 0 l + 1 → acc.length ≤ 2400 * s →
    Ev (fun k => spec_rdEvents.l0 k l acc (s : Int)) (acc ++ evSts l (s : Int) n)
  | 0, s, acc, h, _ => by
    refine Ev.step (fun k => spec_rdEvents.l0.eq_2 ..) (Ev.bind (shLength_ev (by omega)) (evNeg (by omega) (evNow ?_)))
    simp [evSts]
  | n + 1, s, acc, h, ha => by
    refine Ev.step (fun k => spec_rdEvents.l0.eq_2 ..) (Ev.bind (shLength_ev (by omega)) (evPos (by omega) ?_))
    have hs : s ≤ 2000 := by omega
    refine rdEv_l1 hl (s : Int) _ 20 0 acc rfl (by omega) ?_
    have e : wrap64 ((s : Int) + 1) = ((s + 1 : Nat) : Int) := by rw [wrapi (by omega) (by omega)]; omega
    have h2 := evTrs_len (s : Int) l 20 0
    have ih := rdEv_l0 hl hL n (s + 1) (acc ++ evTrs (s : Int) l 0 20) (by omega) (by rw [List.length_append]; omega)
    rw [e]
    refine evEq ih ?_
    have e2 : ((s + 1 : Nat) : Int) = (s : Int) + 1 := by omega
    rw [List.append_assoc, e2]
    rfl
theorem rdEv_ev {l : List S87} (hg : goodSheet l = true) : Ev (fun k => spec_rdEvents.f k l) (evs l) := by
  have hl := goodSheet_len hg
  have hL := lenS_bd (l := l) (e := 0) (goodSheet_hole hg) (by omega) (by omega)
  have h0 := (lenS_ge (l := l) (e := 0)).1
  unfold spec_rdEvents.f
  exact rdEv_l0 hl (by omega) (lenS 0 l + 1).toNat 0 [] (by omega) (by simp)
theorem evsOf_ev {l : List S87} (hg : goodSheet l = true) : Ev (fun k => impl_eventsOf.f k l) (evs l) := by
  have hl := goodSheet_len hg
  unfold impl_eventsOf.f
  have go : ∀ (suf pre : List S87), l = pre ++ suf → Ev (fun k => impl_eventsOf.l0 k (pre.flatMap evOne) l (l.length : Int) (pre.length : Int)) (evs l) := by
    intro suf
    induction suf with
    | nil =>
      intro pre h
      have e : pre = l := by rw [h]; simp
      refine Ev.step (fun k => impl_eventsOf.l0.eq_2 ..) (evNeg (rgEnd h) ?_)
      have hq : slices_SortFunc_int_int.f (pre.flatMap evOne) = some (evs l) := by
        rw [e]
        unfold slices_SortFunc_int_int.f
        rw [if_pos, evs_eq hg]
        refine ⟨by rw [evOne_len]; omega, fun x hx => ?_⟩
        obtain ⟨y, _, hy⟩ := List.mem_flatMap.1 hx
        simp only [evOne, List.mem_cons, List.not_mem_nil, or_false] at hy
        rcases hy with rfl | rfl <;> simp
      exact evC hq (Ev.now _)
    | cons x suf ih =>
      intro pre h
      obtain ⟨h1, h2, h3, h4, h5⟩ := rgHead h (by omega) z87
      have hp : pre.length ≤ 60 := by rw [h] at hl; simp at hl; omega
      have hf := evOne_len pre
      refine Ev.step (fun k => impl_eventsOf.l0.eq_2 ..) ?_
      simp only [h1, h2, h3, rd_T87, h4, if_true]
      refine evPos (by omega) ?_
      have := ih (pre ++ [x]) h5
      simp only [List.flatMap_append, List.flatMap_cons, List.flatMap_nil, List.append_nil] at this
      exact this
  exact go l [] rfl
-- ** same
theorem l1Same_l0 (a b : List Int) (hl : a.length ≤ 1048576) (hab : a.length = b.length) : ∀ (az bs pre : List Int), a = pre ++ az → b = pre ++ bs → Ev (fun k => spec_l1Same.l0 k a b (a.length : Int) (pre.length : Int)) (decide (az = bs)) := by
  intro az
  induction az with
  | nil =>
    intro bs pre h h'
    refine Ev.step (fun k => spec_l1Same.l0.eq_2 ..) ?_
    simp only [rgEnd h, if_false]
    have : bs = [] := by
      have q1 := congrArg List.length h
      have q2 := congrArg List.length h'
      rw [List.length_append] at q1 q2
      rw [List.length_nil] at q1
      exact List.eq_nil_of_length_eq_zero (by omega)
    exact evNow (by rw [this]; simp)
  | cons x az ih =>
    intro bs pre h h'
    cases bs with
    | nil => rw [h, h'] at hab; simp at hab
    | cons y bs =>
      obtain ⟨h1, h2, h3, h4, h5⟩ := rgHead h (by omega) 0
      obtain ⟨g1, _, _, g4, g5⟩ := rgHead h' (by omega) 0
      refine Ev.step (fun k => spec_l1Same.l0.eq_2 ..) ?_
      simp only [h1, h2, h3, g1, rd, h4, g4, if_true]
      refine evBy (fun c => ?_) (fun c => evNow (decF (fun q => c (List.cons.inj q).1)))
      subst c
      refine evEq (ih bs (pre ++ [x]) h5 g5) (decD ⟨fun q => by rw [q], fun q => (List.cons.inj q).2⟩)
theorem l1Same_ev (a b : List Int) (hl : a.length ≤ 1048576) : Ev (fun k => spec_l1Same.f k a b) (decide (a = b)) := by
  unfold spec_l1Same.f
  refine evBy (fun c => l1Same_l0 a b hl (by omega) a b [] rfl rfl) (fun c => evNow (decF (fun q => c (by rw [q]))))
-- ** intlaw
theorem toInt_l0 (l : List Int) (hl : l.length ≤ 1048576) : ∀ (suf pre : List Int), l = pre ++ suf →
    Ev (fun k => laws_toIntS.l0 k l (pre ++ List.replicate suf.length 0) (pre.length : Int)) l := by
  intro suf
  induction suf with
  | nil =>
    intro pre h
    refine Ev.step (fun k => laws_toIntS.l0.eq_2 ..) ?_
    simp only [rgEnd h, if_false]
    exact evNow (by subst h; simp)
  | cons x suf ih =>
    intro pre h
    obtain ⟨h1, h2, h3, h4, h5⟩ := rgHead h (by omega) 0
    refine Ev.step (fun k => laws_toIntS.l0.eq_2 ..) ?_
    simp only [h1, h2, h3, rd, h4, if_true]
    refine evPos (by simp; omega) ?_
    have e : (pre ++ List.replicate (x :: suf).length 0).set (pre.length : Int).toNat x = (pre ++ [x]) ++ List.replicate suf.length 0 := by
      rw [List.length_cons, List.replicate_succ, setAt _ _ _ _ _ (by simp)]
      simp
    rw [e]
    exact ih _ h5
theorem toInt_ev (l : List Int) (hl : l.length ≤ 1048576) : Ev (fun k => laws_toIntS.f k l) l := by
  unfold laws_toIntS.f
  refine evPos (by omega) (evPos (by omega) ?_)
  have := toInt_l0 l hl l [] rfl
  simpa using this
theorem eqInt_l0 (l : List Int) (hl : l.length ≤ 4611686018427387904) : ∀ (suf pre : List Int), l = pre ++ suf → Ev (fun k => laws_eqIntS.l0 k l l (pre.length : Int)) true := by
  intro suf
  induction suf with
  | nil =>
    intro pre h
    refine Ev.step (fun k => laws_eqIntS.l0.eq_2 ..) ?_
    simp only [rgEnd h, if_false]
    exact Ev.now _
  | cons x suf ih =>
    intro pre h
    obtain ⟨h1, h2, h3, h4, h5⟩ := rgHead h hl 0
    refine Ev.step (fun k => laws_eqIntS.l0.eq_2 ..) ?_
    simp only [h1, h2, h3, if_true]
    exact ih _ h5
theorem eqInt_ev (l : List Int) (hl : l.length ≤ 4611686018427387904) : Ev (fun k => laws_eqIntS.f k l l) true := by
  unfold laws_eqIntS.f
  exact evPos rfl (eqInt_l0 l hl l [] rfl)
-- ** ssarg
-- an argument that is a row of rows of whole numbers
theorem toSS_l0 (l : List (List Int)) (hl : l.length ≤ 1048576) (hr : ∀ s, s ∈ l → s.length ≤ 1048576) : ∀ (suf pre : List (List Int)), l = pre ++ suf →
    Ev (fun k => laws_toIntSS.l0 k l (pre ++ List.replicate suf.length []) (pre.length : Int)) l := by
  intro suf
  induction suf with
  | nil =>
    intro pre h
    exact Ev.step (fun k => laws_toIntSS.l0.eq_2 ..) (evNeg (rgEnd h) (evNow (by rw [h]; simp)))
  | cons x suf ih =>
    intro pre h
    obtain ⟨h1, h2, h3, h4, h5⟩ := rgHead h (by omega) []
    have e4 : rd_L1 l (pre.length : Int) = x := h4
    refine Ev.step (fun k => laws_toIntSS.l0.eq_2 ..) (evPos h1 (evPos h2 ?_))
    rw [e4, h3]
    refine Ev.bind (toInt_ev x (hr x (by rw [h]; simp))) (evPos (by simp; omega) ?_)
    have e : (pre ++ List.replicate (x :: suf).length []).set (pre.length : Int).toNat x = (pre ++ [x]) ++ List.replicate suf.length [] := by
      rw [Int.toNat_natCast, List.length_cons, List.replicate_succ]; simp
    rw [e]
    exact ih _ h5
theorem toSS_ev (l : List (List Int)) (hl : l.length ≤ 1048576) (hr : ∀ s, s ∈ l → s.length ≤ 1048576) : Ev (fun k => laws_toIntSS.f k l) l := by
  unfold laws_toIntSS.f
  refine evPos (by omega) (evPos (by omega) ?_)
  rw [Int.toNat_natCast]
  exact toSS_l0 l hl hr l [] rfl
theorem eqSSb_l0 (l : List (List Int)) (hl : l.length ≤ 1048576) (hr : ∀ r, r ∈ l → r.length ≤ 1048576) : ∀ (suf pre : List (List Int)), l = pre ++ suf → Ev (fun k => laws_eqIntSS.l0 k l l (pre.length : Int)) true := by
  intro suf
  induction suf with
  | nil => intro pre h; exact Ev.step (fun k => laws_eqIntSS.l0.eq_2 ..) (evNeg (rgEnd h) (Ev.now _))
  | cons x suf ih =>
    intro pre h
    obtain ⟨h1, h2, h3, h4, h5⟩ := rgHead h (by omega) []
    have e4 : rd_L1 l (pre.length : Int) = x := h4
    refine Ev.step (fun k => laws_eqIntSS.l0.eq_2 ..) (evPos h1 (evPos h2 (evPos h1 ?_)))
    rw [e4, h3]
    exact Ev.bind (eqInt_ev x (by have := hr x (by rw [h]; simp); omega)) (evPos rfl (ih _ h5))
theorem eqSSb_ev {l : List (List Int)} (hl : l.length ≤ 1048576) (hr : ∀ r, r ∈ l → r.length ≤ 1048576) : Ev (fun k => laws_eqIntSS.f k l l) true := by
  unfold laws_eqIntSS.f
  exact evPos rfl (eqSSb_l0 l hl hr l [] rfl)
-- ** intmark
def mkInt : List Int → Int → List Int
  | [], _ => []
  | _ :: l, k => k :: mkInt l (k + 1)
theorem markInt_l0 : ∀ (suf pre : List Int) (k : Int), pre.length + suf.length ≤ 1048576 → 0 ≤ k → k + (suf.length : Int) ≤ 4611686018427387904 →
    Ev (fun n => laws_markIntS.l0 n (pre ++ suf) k (pre.length : Int)) (k + (suf.length : Int), pre ++ mkInt suf k) := by
  intro suf
  induction suf with
  | nil =>
    intro pre k hl h0 hk
    refine Ev.step (fun k => laws_markIntS.l0.eq_2 ..) ?_
    simp only [rgEnd (l := pre ++ []) (pre := pre) rfl, if_false]
    exact evNow (by simp [mkInt])
  | cons x suf ih =>
    intro pre k hl h0 hk
    obtain ⟨h1, h2, h3, h4, h5⟩ := rgHead (l := pre ++ x :: suf) (pre := pre) rfl (by simp at hl ⊢; omega) 0
    simp at hl hk
    refine Ev.step (fun k => laws_markIntS.l0.eq_2 ..) ?_
    simp only [h1, h2, h3, if_true]
    rw [setAt _ _ _ _ _ (by simp), wrapi (by omega) (by omega)]
    have := ih (pre ++ [k]) (k + 1) (by simp; omega) (by omega) (by omega)
    simp only [List.append_assoc, List.singleton_append] at this
    have e : ((pre ++ [x]).length : Int) = ((pre ++ [k] : List Int).length : Int) := by simp
    rw [e]
    exact evEq this (by simp [mkInt]; omega)
theorem markInt_at (l : List Int) (k : Int) (hl : l.length ≤ 1048576) (h0 : 0 ≤ k) (hk : k ≤ 1000000000) : Ev (fun n => laws_markIntS.f n l k) (k + (l.length : Int), mkInt l k) := by
  unfold laws_markIntS.f
  exact markInt_l0 l [] k (by simpa using hl) h0 (by omega)
-- ** intss
def tot : List (List Int) → Nat
  | [] => 0
  | r :: l => r.length + tot l
def mkSS : List (List Int) → Int → List (List Int)
  | [], _ => []
  | r :: l, k => mkInt r k :: mkSS l (k + (r.length : Int))
theorem markSS_l0 : ∀ (suf pre : List (List Int)) (k : Int), pre.length + suf.length ≤ 1048576 → (∀ r, r ∈ suf → r.length ≤ 1048576) → 0 ≤ k → k + (tot suf : Int) ≤ 1000000000 →
    Ev (fun n => laws_markIntSS.l0 n (pre ++ suf) k (pre.length : Int)) (k + (tot suf : Int), pre ++ mkSS suf k) := by
  intro suf
  induction suf with
  | nil =>
    intro pre k hl hr h0 hk
    refine Ev.step (fun k => laws_markIntSS.l0.eq_2 ..) ?_
    simp only [rgEnd (l := pre ++ []) (pre := pre) rfl, if_false]
    exact evNow (by simp [mkSS, tot])
  | cons x suf ih =>
    intro pre k hl hr h0 hk
    obtain ⟨h1, h2, h3, h4, h5⟩ := rgHead (l := pre ++ x :: suf) (pre := pre) rfl (by simp at hl ⊢; omega) []
    simp only [tot] at hk
    simp at hl
    have hx := hr x (by simp)
    refine Ev.step (fun k => laws_markIntSS.l0.eq_2 ..) ?_
    simp only [h1, h2, h3, h4, if_true]
    refine Ev.bind (markInt_at x k hx h0 (by omega)) ?_
    dsimp only
    rw [setAt _ _ _ _ _ (by simp)]
    have := ih (pre ++ [mkInt x k]) (k + (x.length : Int)) (by simp; omega) (fun r hq => hr r (by simp [hq])) (by omega) (by omega)
    simp only [List.append_assoc, List.singleton_append] at this
    have e : ((pre ++ [x]).length : Int) = ((pre ++ [mkInt x k] : List (List Int)).length : Int) := by simp
    rw [e]
    exact evEq this (by simp [mkSS, tot]; omega)
-- ** holelaw
theorem eqHole_l0 (l : List S87) (hl : l.length ≤ 4611686018427387904) : ∀ (suf pre : List S87), l = pre ++ suf → Ev (fun k => laws_eqHoleS.l0 k l l (pre.length : Int)) true := by
  intro suf
  induction suf with
  | nil =>
    intro pre h
    refine Ev.step (fun k => laws_eqHoleS.l0.eq_2 ..) ?_
    simp only [rgEnd h, if_false]
    exact Ev.now _
  | cons x suf ih =>
    intro pre h
    obtain ⟨h1, h2, h3, h4, h5⟩ := rgHead h hl z87
    refine Ev.step (fun k => laws_eqHoleS.l0.eq_2 ..) ?_
    simp only [h1, h2, h3, if_true, laws_eqHole.f, Option.bind_some]
    exact ih _ h5
theorem eqHole_ev (l : List S87) (hl : l.length ≤ 4611686018427387904) : Ev (fun k => laws_eqHoleS.f k l l) true := by
  unfold laws_eqHoleS.f
  exact evPos rfl (eqHole_l0 l hl l [] rfl)
-- ** holemark
def mkHole : List S87 → Int → List S87
  | [], _ => []
  | _ :: l, k => ⟨k, k + 1, k + 2⟩ :: mkHole l (k + 3)
theorem mkHole_length : ∀ (l : List S87) (k : Int), (mkHole l k).length = l.length
  | [], _ => rfl
  | _ :: l, k => by simp [mkHole, mkHole_length l]
theorem markHole_l0 : ∀ (suf pre : List S87) (k : Int), pre.length + suf.length ≤ 1048576 → 0 ≤ k → k ≤ 1000000000 + 3 * (pre.length : Int) →
    Ev (fun n => laws_markHoleS.l0 n (pre ++ suf) k (pre.length : Int)) (k + 3 * (suf.length : Int), pre ++ mkHole suf k) := by
  intro suf
  induction suf with
  | nil =>
    intro pre k hl h0 hk
    refine Ev.step (fun k => laws_markHoleS.l0.eq_2 ..) ?_
    simp only [rgEnd (l := pre ++ []) (pre := pre) rfl, if_false]
    exact evNow (by simp [mkHole])
  | cons x suf ih =>
    intro pre k hl h0 hk
    obtain ⟨h1, h2, h3, h4, h5⟩ := rgHead (l := pre ++ x :: suf) (pre := pre) rfl (by simp at hl ⊢; omega) z87
    simp at hl
    refine Ev.step (fun k => laws_markHoleS.l0.eq_2 ..) ?_
    simp only [h1, h2, h3, rd_T87, h4, if_true, Option.bind_some]
    rw [setAt _ _ _ _ _ (by simp), getAt _ _ _ _ _ (by simp), setAt _ _ _ _ _ (by simp), getAt _ _ _ _ _ (by simp), setAt _ _ _ _ _ (by simp), wrapi (x := k + 1) (by omega) (by omega), wrapi (x := k + 1 + 1) (by omega) (by omega), wrapi (x := k + 1 + 1 + 1) (by omega) (by omega)]
    dsimp only
    have := ih (pre ++ [⟨k, k + 1, k + 2⟩]) (k + 3) (by simp; omega) (by omega) (by simp; omega)
    simp only [List.append_assoc, List.singleton_append] at this
    have e : ((pre ++ [x]).length : Int) = ((pre ++ [⟨k, k + 1, k + 2⟩] : List S87).length : Int) := by simp
    rw [e, show k + 1 + 1 + 1 = k + 3 by omega, show k + 1 + 1 = k + 2 by omega]
    exact evEq this (by simp [mkHole]; omega)
theorem markHole_at (l : List S87) (k : Int) (hl : l.length ≤ 1048576) (h0 : 0 ≤ k) (hk : k ≤ 1000000000) : Ev (fun n => laws_markHoleS.f n l k) (k + 3 * (l.length : Int), mkHole l k) := by
  unfold laws_markHoleS.f
  exact markHole_l0 l [] k (by simpa using hl) h0 (by simpa using hk)
theorem markHole_ev (l : List S87) (hl : l.length ≤ 1048576) : Ev (fun n => laws_markHoleS.f n l 1) (1 + 3 * (l.length : Int), mkHole l 1) := markHole_at l 1 hl (by omega) (by omega)
theorem heldHole_l0 : ∀ (suf pre : List S87) (k : Int), pre.length + suf.length ≤ 1048576 → 0 ≤ k → k ≤ 1000000000 + 3 * (pre.length : Int) →
    Ev (fun n => laws_heldHoleS.l0 n (pre ++ mkHole suf k) k (pre.length : Int)) (k + 3 * (suf.length : Int)) := by
  intro suf
  induction suf with
  | nil =>
    intro pre k hl h0 hk
    refine Ev.step (fun k => laws_heldHoleS.l0.eq_2 ..) ?_
    simp only [mkHole, rgEnd (l := pre ++ []) (pre := pre) rfl, if_false]
    exact evNow (by simp)
  | cons x suf ih =>
    intro pre k hl h0 hk
    simp only [mkHole]
    simp at hl
    obtain ⟨h1, h2, h3, h4, h5⟩ := rgHead (l := pre ++ ⟨k, k + 1, k + 2⟩ :: mkHole suf (k + 3)) (pre := pre) rfl (by simp [mkHole_length]; omega) z87
    refine Ev.step (fun k => laws_heldHoleS.l0.eq_2 ..) ?_
    simp only [h1, h2, h3, rd_T87, h4, if_true]
    rw [wrapi (x := k + 1) (by omega) (by omega), wrapi (x := k + 1 + 1) (by omega) (by omega), wrapi (x := k + 1 + 1 + 1) (by omega) (by omega)]
    repeat (refine evPos (by first | rfl | omega) ?_)
    rw [h5, show k + 1 + 1 + 1 = k + 3 by omega]
    refine evEq (ih (pre ++ [⟨k, k + 1, k + 2⟩]) (k + 3) (by simp; omega) (by omega) (by simp; omega)) (by simp; omega)
theorem heldHole_at (l : List S87) (k : Int) (hl : l.length ≤ 1048576) (h0 : 0 ≤ k) (hk : k ≤ 1000000000) : Ev (fun n => laws_heldHoleS.f n (mkHole l k) k) (k + 3 * (l.length : Int)) := by
  unfold laws_heldHoleS.f
  exact heldHole_l0 l [] k (by simpa using hl) h0 (by simpa using hk)
theorem heldHole_ev (l : List S87) (hl : l.length ≤ 1048576) : Ev (fun n => laws_heldHoleS.f n (mkHole l 1) 1) (1 + 3 * (l.length : Int)) := heldHole_at l 1 hl (by omega) (by omega)
-- ** SheetOfEvents_
-- the sheet that its events make, as the reference and as the program find it
theorem evSame {α : Type} {g : Nat → Option α} {a b : α} (h : Ev g a) (h' : Ev g b) : a = b := by
  obtain ⟨K, hK⟩ := h
  obtain ⟨K', hK'⟩ := h'
  have e := (hK (max K K') (by omega)).symm.trans (hK' (max K K') (by omega))
  exact Option.some.inj e
theorem shExit {R : List S87 × Bool} {x0 x8 out : List S87} {x9 x10 : Int} (x : S87) (hl : out.length ≤ 1000000) (j : Nat) (hj : j ≤ out.length)
    (hk : Ev (fun k => spec_shSorted.l0 k x0 (out.take j ++ x :: out.drop j) x8 x9 (wrap64 (x10 + 1))) R) :
    Ev (fun k => (some ([] : List S87)).bind fun y486 => (if 0 ≤ (j : Int) then (if (j : Int) ≤ (out.length : Int) then ((some (out.take (j : Int).toNat : List S87)).bind fun y489 => (if y486.length + y489.length < 5864062014805 then ((some (y486 ++ y489 : List S87)).bind fun y493 => ((some (([(⟨x.f0, x.f1, x.f2⟩ : S87)] : List S87))).bind fun y496 => (if y493.length + y496.length < 5864062014805 then ((some (y493 ++ y496 : List S87)).bind fun y499 => ((some (out.drop (j : Int).toNat : List S87)).bind fun y502 => (if y499.length + y502.length < 5864062014805 then (spec_shSorted.l0 k x0 (y499 ++ y502) x8 x9 (wrap64 (x10 + 1))) else (none)))) else (none)))) else (none))) else (none)) else (none))) R := by
  have e : ([] ++ out.take (j : Int).toNat ++ [x]) ++ out.drop (j : Int).toNat = out.take j ++ x :: out.drop j := by simp
  refine evC rfl (evPos (by omega) (evPos (by omega) (evC rfl (evPos (by simp; omega) (evC rfl (evC rfl (evPos (by simp; omega) (evC rfl (evC rfl (evPos (by simp; omega) ?_))))))))))
  show Ev (fun k => spec_shSorted.l0 k x0 (([] ++ out.take (j : Int).toNat ++ [x]) ++ out.drop (j : Int).toNat) x8 x9 (wrap64 (x10 + 1))) R
  rw [e]
  exact hk
theorem shIns_ev {R : List S87 × Bool} {x0 x8 out : List S87} {x9 x10 : Int} (x : S87) (hl : out.length ≤ 1000000) : ∀ (m : Nat), m ≤ out.length →
    Ev (fun k => spec_shSorted.l0 k x0 (out.take (insAt x out m) ++ x :: out.drop (insAt x out m)) x8 x9 (wrap64 (x10 + 1))) R → Ev (fun k => spec_shSorted.l1 k x0 out (m : Int) x8 x9 x10 x.f0 x.f1 x.f2) R
  | 0, _, hk => Ev.step (fun k => spec_shSorted.l1.eq_2 ..) (evNeg (by omega) (shExit x hl 0 (by omega) hk))
  | m + 1, hm, hk => by
    have e1 : wrap64 (((m + 1 : Nat) : Int) - 1) = (m : Int) := by rw [wrapi (by omega) (by omega)]; omega
    refine Ev.step (fun k => spec_shSorted.l1.eq_2 ..) (evPos (by omega) ?_)
    rw [e1]
    refine evPos (by omega) (evPos (by omega) (evC (shBefore_eq x (rd_T87 out (m : Int))) ?_))
    have e2 : rd_T87 out (m : Int) = out.getD m z87 := by simp [rd_T87]
    rw [e2]
    simp only [insAt] at hk
    by_cases c : hbef x (out.getD m z87)
    · rw [if_pos c] at hk
      exact evPos (decide_eq_true c) (shIns_ev x hl m (by omega) hk)
    · rw [if_neg c] at hk
      exact evNeg (fun z => c (of_decide_eq_true z)) (shExit x hl (m + 1) hm hk)
theorem shSorted_l0 {l : List S87} (hl : l.length ≤ 1000000) : ∀ (suf pre out : List S87), l = pre ++ suf → out.length = pre.length →
    Ev (fun k => spec_shSorted.l0 k l out l (l.length : Int) (pre.length : Int)) (if goodSheet (srt out suf) = true then (srt out suf, true) else ([], false)) := by
  intro suf
  induction suf with
  | nil =>
    intro pre out h ho
    have : pre.length ≤ 1000000 := by rw [h] at hl; simp at hl; omega
    exact Ev.step (fun k => spec_shSorted.l0.eq_2 ..) (evNeg (rgEnd h) (Ev.bind (shGood_ev (by omega)) (evIte (fun _ => Ev.now _) (fun _ => Ev.now _))))
  | cons x suf ih =>
    intro pre out h ho
    obtain ⟨h1, h2, h3, h4, h5⟩ := rgHead h (by omega) z87
    have hp : pre.length ≤ 1000000 := by rw [h] at hl; simp at hl; omega
    refine Ev.step (fun k => spec_shSorted.l0.eq_2 ..) ?_
    simp only [h1, h2, rd_T87, h4, if_true]
    refine shIns_ev x (by omega) out.length (Nat.le_refl _) ?_
    rw [h3]
    exact ih (pre ++ [x]) (ins1 x out) h5 (by rw [ins1_len]; simp; omega)
theorem shSorted_ev {l : List S87} (hl : l.length ≤ 1000000) : Ev (fun k => spec_shSorted.f k l) (sheetR l) := by
  unfold spec_shSorted.f sheetR
  exact shSorted_l0 hl l [] [] rfl rfl
def spFin (l : List (List Int)) : Option (List S87) → List S87 × Bool
  | none => ([], false)
  | some out => if (sheetR out).2 = true then (if evs (sheetR out).1 = l then ((sheetR out).1, true) else ([], false)) else ([], false)
def soRes (l : List (List Int)) : List S87 × Bool := if (l.length : Int) > 120 then ([], false) else spFin l (seS l [] (fun _ => -1))
theorem sheetR_good {l : List S87} (h : (sheetR l).2 = true) : goodSheet (sheetR l).1 = true := by
  unfold sheetR at h ⊢
  split
  · rename_i c; exact c
  · rename_i c; rw [if_neg c] at h; simp at h
theorem seCmp_l2 (a b : List (List Int)) (x9 : List S87) (ha : a.length ≤ 1000000) (hab : a.length = b.length) (hr : ∀ r, r ∈ a → r.length ≤ 1000) : ∀ (az bz pre : List (List Int)), a = pre ++ az → b = pre ++ bz →
    Ev (fun k => spec_SheetOfEvents.l2 k b x9 a (a.length : Int) (pre.length : Int)) (if az = bz then (x9, true) else ([], false)) := by
  intro az
  induction az with
  | nil =>
    intro bz pre h h'
    have : bz = [] := by
      have e1 := congrArg List.length h
      have e2 := congrArg List.length h'
      rw [List.length_append] at e1 e2
      rw [List.length_nil] at e1
      exact List.eq_nil_of_length_eq_zero (by omega)
    subst this
    exact Ev.step (fun k => spec_SheetOfEvents.l2.eq_2 ..) (evNeg (rgEnd h) (evNow (by simp)))
  | cons x az ih =>
    intro bz pre h h'
    cases bz with
    | nil =>
      have e1 := congrArg List.length h
      have e2 := congrArg List.length h'
      rw [List.length_append] at e1 e2
      rw [List.length_cons] at e1
      rw [List.length_nil] at e2
      omega
    | cons y bz =>
      obtain ⟨h1, h2, h3, h4, h5⟩ := rgHead h (by omega) []
      obtain ⟨g1, g2, g3, g4, g5⟩ := rgHead h' (by rw [← hab]; omega) []
      have e4 : rd_L1 a (pre.length : Int) = x := h4
      have e4' : rd_L1 b (pre.length : Int) = y := g4
      have hx := hr x (by rw [h]; simp)
      refine Ev.step (fun k => spec_SheetOfEvents.l2.eq_2 ..) (evPos h1 (evPos h2 (evPos h1 (evPos g1 ?_))))
      rw [e4, e4']
      refine Ev.bind (l1Same_ev x y (by omega)) ?_
      by_cases c : x = y
      · subst c
        refine evPos (by simp) ?_
        rw [h3]
        refine evEq (ih bz (pre ++ [x]) h5 g5) (by simp)
      · exact evNeg (by simp [c]) (evNow (by simp [c]))
theorem rdStp (n : Int) : spec_rdStep.f n = some (decide (0 ≤ n ∧ n ≤ 2000)) := by
  unfold spec_rdStep.f; rw [in_eq]; rfl
theorem rd_set {arr : List Int} {t v u : Int} (ht : 0 ≤ t) (htl : t < (arr.length : Int)) (hu : 0 ≤ u) : rd (arr.set t.toNat v) u = if u = t then v else rd arr u := by
  unfold rd
  by_cases c : u = t
  · subst c
    rw [if_pos rfl, List.getD_eq_getElem?_getD, List.getElem?_set_self (by omega)]; rfl
  · rw [if_neg c, List.getD_eq_getElem?_getD, List.getElem?_set_ne (by omega), ← List.getD_eq_getElem?_getD]
theorem seOpen_l0 {l : List (List Int)} {R : List S87 × Bool} (h : Ev (fun k => spec_SheetOfEvents.l1 k l [] (List.replicate 20 (-1)) l (l.length : Int) 0) R) : ∀ (n t : Nat), t + n = 20 →
    Ev (fun k => spec_SheetOfEvents.l0 k l (List.replicate t (-1) ++ List.replicate n 0) 20 (t : Int)) R
  | 0, t, hs => by
    obtain rfl : t = 20 := by omega
    refine Ev.step (fun k => spec_SheetOfEvents.l0.eq_2 ..) (evNeg (by omega) ?_)
    simpa using h
  | n + 1, t, hs => by
    have e : (List.replicate t (-1 : Int) ++ List.replicate (n + 1) 0).set ((t : Int)).toNat (-1) = List.replicate (t + 1) (-1) ++ List.replicate n 0 := by
      rw [show ((t : Int)).toNat = t by omega, List.set_append_right _ _ (by simp)]
      rw [List.length_replicate, Nat.sub_self, List.replicate_succ' (n := t), List.replicate_succ (n := n)]
      simp
    have e3 : wrap64 ((t : Int) + 1) = ((t + 1 : Nat) : Int) := by rw [wrapi (by omega) (by omega)]; omega
    refine Ev.step (fun k => spec_SheetOfEvents.l0.eq_2 ..) (evPos (by omega) (evPos (by omega) (evPos (by simp; omega) ?_)))
    rw [e, e3]
    exact seOpen_l0 h n (t + 1) (by omega)
theorem seBad {l a : List (List Int)} {out : List S87} {arr e : List Int} {n i : Int} : Ev (fun k => spec_SheetOfEvents.j2 k l out arr e a n i true) ([], false) := Ev.step (fun _ => spec_SheetOfEvents.j2.eq_2 ..) (evPos rfl (Ev.now _))
theorem se_l1 {l : List (List Int)} (hl : l.length ≤ 120) : ∀ (suf pre : List (List Int)) (out : List S87) (arr : List Int) (O : Int → Int), l = pre ++ suf → arr.length = 20 → (∀ t, 0 ≤ t → t ≤ 19 → rd arr t = O t) → out.length ≤ pre.length →
    Ev (fun k => spec_SheetOfEvents.l1 k l out arr l (l.length : Int) (pre.length : Int)) (spFin l (seS suf out O)) := by
  intro suf
  induction suf with
  | nil =>
    intro pre out arr O h ha hO ho
    have hp : pre.length ≤ 120 := by rw [h] at hl; simp at hl; omega
    refine Ev.step (fun k => spec_SheetOfEvents.l1.eq_2 ..) (evNeg (rgEnd h) (Ev.bind (shSorted_ev (by omega)) ?_))
    simp only [seS, spFin]
    refine evIte (fun c => ?_) (fun _ => Ev.now _)
    have hg := sheetR_good c
    have hn := evs_len hg
    have hq := goodSheet_len hg
    refine Ev.bind (rdEv_ev hg) (evBy (fun c2 => ?_) (fun c2 => evNow ?_))
    · refine seCmp_l2 (evs (sheetR out).1) l _ (by omega) (by omega) (fun r hr => ?_) (evs (sheetR out).1) l [] rfl rfl
      obtain ⟨v, u, c, rfl, _⟩ := evs_mem hg hr
      simp
    · rw [if_neg (fun z => c2 (by rw [z]))]
  | cons e suf ih =>
    intro pre out arr O h ha hO ho
    have hp : pre.length ≤ 120 := by rw [h] at hl; simp at hl; omega
    obtain ⟨h1, h2, h3, h4, h5⟩ := rgHead h (by omega) []
    have e4 : rd_L1 l (pre.length : Int) = e := h4
    refine Ev.step (fun k => spec_SheetOfEvents.l1.eq_2 ..) (evPos h1 (evPos h2 (evPos h1 ?_)))
    rw [e4]
    by_cases hok : okE e = true
    · have he := okE_iff.1 hok
      refine evPos (by omega) (evPos (by omega) (evC (rdStp _) (evPos (decide_eq_true he.2.1) (evPos (by omega) (evC (in_eq ..) (evPos (decide_eq_true he.2.2.1) (evPos (by omega) (evC (in_eq ..) (evPos (decide_eq_true he.2.2.2) (evPos (by omega) (evPos (by omega) ?_)))))))))))
      rw [hO (rd e 1) (by omega) (by omega)]
      simp only [seS]
      rw [if_pos hok]
      refine Ev.step (fun k => spec_SheetOfEvents.j2.eq_2 ..) ?_
      by_cases c : decide (O (rd e 1) ≥ 0) = decide (rd e 2 = 1)
      · rw [if_pos c]
        refine evPos ?_ (Ev.now _)
        rw [c]
        by_cases z : rd e 2 = 1
        · simp [z]
        · simp [z]
      · rw [if_neg c]
        refine evNeg ?_ (evPos (by omega) ?_)
        · intro z
          refine c ?_
          have z' := eq_of_beq z
          rw [z']
          by_cases w : rd e 2 = 1
          · simp [w]
          · simp [w]
        · by_cases w : rd e 2 = 1
          · rw [if_pos w]
            refine evPos w (evPos (by omega) (evPos (by omega) (evPos (by omega) (evPos (by omega) ?_))))
            rw [h3]
            refine ih (pre ++ [e]) out _ (upd O (rd e 1) (rd e 0)) h5 (by simpa using ha) (fun t h0 h19 => ?_) (by simp; omega)
            rw [rd_set (by omega) (by omega) h0]
            unfold upd
            split
            · rfl
            · exact hO t h0 h19
          · rw [if_neg w]
            refine evNeg w (evPos (by omega) (evPos (by omega) (evPos (by omega) (evPos (by omega) (evPos (by omega) ?_)))))
            rw [h3, hO (rd e 1) (by omega) (by omega)]
            refine ih (pre ++ [e]) _ _ (upd O (rd e 1) (-1)) h5 (by simpa using ha) (fun t h0 h19 => ?_) (by simp; omega)
            rw [rd_set (by omega) (by omega) h0]
            unfold upd
            split
            · rfl
            · exact hO t h0 h19
    · simp only [seS]
      rw [if_neg hok]
      show Ev _ ([], false)
      by_cases c3 : e.length = 3
      · refine evPos (by omega) (evPos (by omega) (evC (rdStp _) ?_))
        by_cases d0 : 0 ≤ rd e 0 ∧ rd e 0 ≤ 2000
        · refine evPos (decide_eq_true d0) (evPos (by omega) (evC (in_eq ..) ?_))
          by_cases d1 : 0 ≤ rd e 1 ∧ rd e 1 ≤ 19
          · refine evPos (decide_eq_true d1) (evPos (by omega) (evC (in_eq ..) ?_))
            exact evNeg (fun z => hok (okE_iff.2 ⟨c3, d0, d1, of_decide_eq_true z⟩)) seBad
          · exact evNeg (fun z => d1 (of_decide_eq_true z)) seBad
        · exact evNeg (fun z => d0 (of_decide_eq_true z)) seBad
      · exact evNeg (by omega) seBad
theorem rdAll (t : Int) (h0 : 0 ≤ t) (h1 : t ≤ 19) : rd (List.replicate 20 (-1)) t = -1 := by
  unfold rd
  rw [List.getD_eq_getElem?_getD, List.getElem?_replicate, if_pos (by omega)]; rfl
theorem specSo_ev (l : List (List Int)) : Ev (fun k => spec_SheetOfEvents.f k l) (soRes l) := by
  unfold spec_SheetOfEvents.f soRes
  refine evIte (fun _ => Ev.now _) (fun c => evPos (by omega) (evC rfl ?_))
  refine seOpen_l0 ?_ 20 0 rfl
  exact se_l1 (by omega) l [] [] _ (fun _ => -1) rfl rfl (fun t h0 h1 => rdAll t h0 h1) (by simp)
theorem hlt_eq (a b : S87) : hlt a b = decide (hbef a b) := rfl
theorem sheetR_SP {out d : List S87} (h : SP d out) : sheetR out = if goodSheet d = true then (d, true) else ([], false) := by
  refine sheetR_of h.1 (h.2.imp fun {x y} q => ?_)
  rw [hlt_eq] at q
  exact of_decide_eq_false q
theorem sheetOf_eq (out : List S87) (ho : out.length ≤ 1048576) : impl_sheetOf.f out = some (sheetR out) := by
  unfold impl_sheetOf.f
  split
  · rename_i c
    unfold sheetR
    rw [if_neg]
    intro z
    have := goodSheet_len z
    rw [srt_len] at this
    simp at this
    omega
  · have hS : SheetR out (sheetR out) := by
      intro d hd
      have hl : d.length ≤ 1048576 := by rw [hd.1.length_eq]; exact ho
      obtain ⟨k, hk⟩ := (isSheet_ev hl).rounds
      rw [sheetR_SP hd]
      refine ⟨k, ?_⟩
      by_cases c : goodSheet d = true
      · rw [if_pos c]; exact ⟨hk.trans (by rw [c]), rfl⟩
      · rw [if_neg c]; exact ⟨hk.trans (by rw [Bool.eq_false_iff.2 c]), rfl⟩
    rw [dif_pos ⟨_, hS⟩]
    have hc := (⟨_, hS⟩ : ∃ r, SheetR out r).choose_spec
    generalize (⟨_, hS⟩ : ∃ r, SheetR out r).choose = r at hc ⊢
    have hsp : SP (srt [] out) out := ⟨srt_perm out [], (srt_sorted out [] List.Pairwise.nil).imp fun {x y} q => by rw [hlt_eq]; exact decide_eq_false q⟩
    obtain ⟨k, hk, h1⟩ := hc _ hsp
    have hl : (srt [] out).length ≤ 1048576 := by rw [srt_len]; simpa using ho
    have e2 : r.2 = goodSheet (srt [] out) := evSame (Ev.of (fun k => impl_IsSheet.mono (srt [] out) k) hk) (isSheet_ev hl)
    unfold sheetR
    obtain ⟨r1, r2⟩ := r
    dsimp only at h1 e2 hk
    clear hc hk
    subst e2
    by_cases c : goodSheet (srt [] out) = true
    · rw [if_pos c] at h1
      rw [if_pos c, h1, c]
    · rw [if_neg c] at h1
      rw [if_neg c, h1, Bool.eq_false_iff.2 c]
theorem soe_eq : ∀ (l : List (List Int)) (out : List S87) (M : Int → Option Int), soe l out M = seI l out M
  | [], _, _ => rfl
  | e :: l, out, M => by
    simp only [soe, seI]
    cases M (rd e 1) with
    | none => simp only [soe_eq l]; rfl
    | some s => simp only [soe_eq l]; rfl
theorem seI_len : ∀ {l : List (List Int)} {out q : List S87} {M : Int → Option Int}, seI l out M = some q → q.length ≤ out.length + l.length
  | [], out, q, M, h => by simp only [seI] at h; injection h with h; subst h; simp
  | e :: l, out, q, M, h => by
    simp only [seI] at h
    split at h
    · split at h
      · cases h
      · split at h
        · have := seI_len h; simp at this ⊢; omega
        · have := seI_len h; simp; omega
    · cases h
theorem eqRows_eq {d : List S87} (l : List (List Int)) (hg : goodSheet d = true) : eqRows (evs d) l = some (decide (evs d = l)) := by
  unfold eqRows
  rw [if_pos]
  have h1 := evs_len hg
  have h2 := goodSheet_len hg
  refine ⟨by omega, fun r hr => ?_⟩
  obtain ⟨v, u, c, rfl, _⟩ := evs_mem hg hr
  simp
theorem implSo_ev (l : List (List Int)) (hw : ∀ e, e ∈ l → ∀ x, x ∈ e → -9223372036854775808 ≤ x ∧ x ≤ 9223372036854775807) : Ev (fun k => impl_SheetOfEvents.f k l) (soRes l) := by
  unfold impl_SheetOfEvents.f soRes
  refine evIte (fun _ => Ev.now _) (fun c => evPos (List.all_eq_true.2 fun e he => List.all_eq_true.2 fun x hx => decide_eq_true (hw e he x hx)) ?_)
  by_cases hok : l.all okE = true
  · have e1 : soe l [] (fun _ => none) = seS l [] (fun _ => -1) := by
      rw [soe_eq, ← se_same hok]
      congr 1
    rw [e1]
    cases hs : seS l [] (fun _ => -1) with
    | none => exact Ev.now _
    | some out =>
      have hn := se_len hs
      simp at hn
      refine evC (sheetOf_eq out (by omega)) ?_
      simp only [spFin]
      refine evIte (fun c2 => ?_) (fun _ => Ev.now _)
      have hg := sheetR_good c2
      refine Ev.bind (evsOf_ev hg) (evC (eqRows_eq l hg) (evBy (fun c3 => evNow ?_) (fun c3 => evNow ?_)))
      · rw [if_pos (of_decide_eq_true c3)]
      · rw [if_neg (fun z => c3 (decide_eq_true z))]
  · rw [seS_bad hok]
    show Ev _ ([], false)
    cases hs : soe l [] (fun _ => none) with
    | none => exact Ev.now _
    | some out =>
      have hn := seI_len ((soe_eq _ _ _).symm.trans hs)
      simp at hn
      refine evC (sheetOf_eq out (by omega)) (evBy (fun c2 => ?_) (fun _ => Ev.now _))
      have hg := sheetR_good c2
      refine Ev.bind (evsOf_ev hg) (evC (eqRows_eq l hg) (evNeg (fun c3 => hok ?_) (Ev.now _)))
      rw [← of_decide_eq_true c3]
      exact evs_ok hg
theorem soRes_len (l : List (List Int)) : (soRes l).1.length ≤ 60 := by
  unfold soRes
  split
  · simp
  · cases seS l [] (fun _ => -1) with
    | none => simp [spFin]
    | some out =>
      simp only [spFin]
      split
      · rename_i c
        have := goodSheet_len (sheetR_good c)
        split
        · exact this
        · simp
      · simp
theorem szTot_l0 (l : List (List Int)) (hl : l.length ≤ 1048576) (hw : ∀ r, r ∈ l → r.length ≤ 9223372036854775807) : ∀ (suf pre : List (List Int)) (left : Int), l = pre ++ suf → 0 ≤ left → left ≤ 1048576 →
    ∃ r, Ev (fun k => laws_szIntSS.l0 k l left (pre.length : Int)) r ∧ (¬ r < 0 → (tot suf : Int) ≤ left) := by
  intro suf
  induction suf with
  | nil =>
    intro pre left h h0 h1
    refine ⟨left, Ev.step (fun k => laws_szIntSS.l0.eq_2 ..) (evNeg (rgEnd h) (Ev.now _)), fun _ => by simp [tot]; omega⟩
  | cons x suf ih =>
    intro pre left h h0 h1
    obtain ⟨h1', h2, h3, h4, h5⟩ := rgHead h (by omega) []
    have hx := hw x (by rw [h]; simp)
    have e4 : rd_L1 l (pre.length : Int) = x := h4
    by_cases c : left - (x.length : Int) < 0
    · have ez : laws_szIntS.f x left = some (-1) := by
        unfold laws_szIntS.f; rw [wrapi (by omega) (by omega), if_pos c]
      refine ⟨-1, Ev.step (fun k => laws_szIntSS.l0.eq_2 ..) (evPos h1' (evPos h2 ?_)), fun z => by omega⟩
      rw [e4]
      exact evC ez (evPos (by omega) (Ev.now _))
    · have ez : laws_szIntS.f x left = some (left - (x.length : Int)) := by
        unfold laws_szIntS.f; rw [wrapi (by omega) (by omega), if_neg c]
      obtain ⟨r, hr, hb⟩ := ih (pre ++ [x]) (left - (x.length : Int)) h5 (by omega) (by omega)
      refine ⟨r, Ev.step (fun k => laws_szIntSS.l0.eq_2 ..) (evPos h1' (evPos h2 ?_)), fun z => ?_⟩
      · rw [e4, h3]
        exact evC ez (evNeg (by omega) hr)
      · have := hb z
        simp only [tot]
        omega
theorem szTot_ex (l : List (List Int)) (hl : l.length ≤ 9223372036854775807) (hw : ∀ r, r ∈ l → r.length ≤ 9223372036854775807) : ∃ r, Ev (fun k => laws_szIntSS.f k l 1048576) r ∧ (¬ r < 0 → l.length ≤ 1048576 ∧ tot l ≤ 1048576) := by
  unfold laws_szIntSS.f
  rw [wrapi (by omega) (by omega)]
  by_cases c : (1048576 : Int) - (l.length : Int) < 0
  · exact ⟨-1, evPos c (Ev.now _), fun z => by omega⟩
  · obtain ⟨r, hr, hb⟩ := szTot_l0 l (by omega) hw l [] ((1048576 : Int) - (l.length : Int)) rfl (by omega) (by omega)
    exact ⟨r, evNeg c hr, fun z => ⟨by omega, by have := hb z; omega⟩⟩
theorem tot_mem : ∀ {l : List (List Int)} {s : List Int}, s ∈ l → s.length ≤ tot l
  | x :: l, s, h => by
    rcases List.mem_cons.1 h with rfl | q
    · simp only [tot]; omega
    · have := tot_mem q; simp only [tot]; omega
theorem markSS_at (l : List (List Int)) (hl : l.length ≤ 1048576) (ht : tot l ≤ 1048576) : Ev (fun n => laws_markIntSS.f n l 1) (1 + (tot l : Int), mkSS l 1) := by
  unfold laws_markIntSS.f
  exact markSS_l0 l [] 1 (by simpa using hl) (fun r h => Nat.le_trans (tot_mem h) ht) (by omega) (by omega)
-- ** FnExactSheetOfEvents
theorem FnExactSheetOfEvents (l0 : List (List Int)) (w0 : Opn.Lst (Opn.Lst Opn.I64) l0) : ∃ k, laws_FnExactSheetOfEvents.f k l0 = some true := by
  refine Ev.rounds (g := fun k => laws_FnExactSheetOfEvents.f k l0) ?_
  unfold laws_FnExactSheetOfEvents.f
  obtain ⟨r, hr, hb⟩ := szTot_ex l0 w0.1 (fun s hs => (w0.2 s hs).1)
  refine Ev.bind hr (evBy (fun _ => Ev.now _) (fun c => ?_))
  obtain ⟨hl, ht⟩ := hb c
  have hs : ∀ s, s ∈ l0 → s.length ≤ 1048576 := fun s h => Nat.le_trans (tot_mem h) ht
  have hw : ∀ e, e ∈ l0 → ∀ x, x ∈ e → -9223372036854775808 ≤ x ∧ x ≤ 9223372036854775807 := fun e he x hx => (w0.2 e he).2 x hx
  have hq := soRes_len l0
  refine Ev.bind (toSS_ev l0 hl hs) (Ev.bind (specSo_ev l0) (Ev.bind (toSS_ev l0 hl hs) (Ev.bind (implSo_ev l0 hw) (Ev.bind (eqHole_ev _ (by omega)) (evPos rfl ?_)))))
  simp only [bne_self_eq_false]
  refine Ev.step (fun k => laws_FnExactSheetOfEvents.j0.eq_2 ..) (evNeg (by simp) (Ev.bind (toSS_ev l0 hl hs) (Ev.bind (eqSSb_ev hl hs) (evPos rfl (Ev.bind (markSS_at l0 hl ht) (evNeg (by dsimp only; omega) (Ev.bind (eqHole_ev _ (by omega)) (evPos rfl ?_))))))))
  simp only [bne_self_eq_false]
  refine Ev.step (fun k => laws_FnExactSheetOfEvents.j1.eq_2 ..) ?_
  refine evNeg (by simp) (Ev.bind (markHole_ev _ (by omega)) (Ev.bind (heldHole_ev _ (by omega)) (evNeg (by omega) (evPos rfl (Ev.bind (toSS_ev l0 hl hs) (Ev.bind (implSo_ev l0 hw) (Ev.bind (eqHole_ev _ (by omega)) (evPos rfl ?_))))))))
  simp only [bne_self_eq_false]
  exact Ev.step (fun k => laws_FnExactSheetOfEvents.j2.eq_2 ..) (evNeg (by simp) (Ev.bind (heldHole_ev _ (by omega)) (evNeg (by omega) (evPos rfl (Ev.now _)))))
end Go.Proofs.Ytjdkdbeenggfaaa.Pure
