/- The program's PlayedText returns what the reference's returns, for all arguments.: the plain part: what the program computes and what the reference computes agree, for all arguments. No conditions beyond the arguments' own kinds. -/
import Derived.Test.YtjdkdbeenggfaaaDoorPPtx0
import Derived.Test.YtjdkdbeenggfaaaDoorPPtx1
import Derived.Test.YtjdkdbeenggfaaaDoorPPtx2
import Derived.Test.YtjdkdbeenggfaaaDoorPPtx3
import Derived.Test.YtjdkdbeenggfaaaDoorPPtx4
import Derived.Test.YtjdkdbeenggfaaaDoorPPtx5
import Derived.Test.YtjdkdbeenggfaaaDoorPPtx6
import Derived.Test.YtjdkdbeenggfaaaDoorPPtx7
import Derived.Test.YtjdkdbeenggfaaaDoorPPtx8
import Derived.Test.YtjdkdbeenggfaaaDoorPPtx9
import Derived.Test.YtjdkdbeenggfaaaDoorPPtx10
import Derived.Test.YtjdkdbeenggfaaaDoorPPtx11
import Derived.Test.YtjdkdbeenggfaaaDoorOpn
namespace Go.Proofs.YtjdkdbeenggfaaaDoor.Pure
open Go.RowKit Go.Proofs.YtjdkdbeenggfaaaDoor.PPt Go.Proofs.YtjdkdbeenggfaaaDoorW.PrintWords Go.Proofs.YtjdkdbeenggfaaaDoorW.PrintLast Go.Proofs.YtjdkdbeenggfaaaDoorW.PrintMore
-- ** base
theorem wrapi {x : Int} (h0 : -9223372036854775808 ≤ x) (h1 : x ≤ 9223372036854775807) : wrap64 x = x := by unfold wrap64; omega
theorem evPos {α : Type} {c : Prop} [Decidable c] {g f : Nat → Option α} {r : α} (h : c) (e : Ev g r) : Ev (fun k => if c then g k else f k) r := by
  simp only [if_pos h]; exact e
theorem evNeg {α : Type} {c : Prop} [Decidable c] {g f : Nat → Option α} {r : α} (h : ¬ c) (e : Ev f r) : Ev (fun k => if c then g k else f k) r := by
  simp only [if_neg h]; exact e
theorem evC {α β : Type} {o : Option α} {f : Nat → α → Option β} {a : α} {r : β} (h : o = some a) (e : Ev (fun n => f n a) r) : Ev (fun n => o.bind (f n)) r := by
  subst h; exact e
theorem evNow {α : Type} {r q : α} (h : r = q) : Ev (fun _ => some r) q := by subst h; exact Ev.now r
theorem evEq {α : Type} {g : Nat → Option α} {r q : α} (h : Ev g r) (e : r = q) : Ev g q := e ▸ h
theorem evIte {α : Type} {c : Prop} [Decidable c] {g f : Nat → Option α} {r q : α} (h : c → Ev g r) (h' : ¬ c → Ev f q) : Ev (fun k => if c then g k else f k) (if c then r else q) := by
  by_cases hc : c
  · simp only [if_pos hc]; exact h hc
  · simp only [if_neg hc]; exact h' hc
theorem evBy {α : Type} {c : Prop} [Decidable c] {g f : Nat → Option α} {r : α} (h : c → Ev g r) (h' : ¬ c → Ev f r) : Ev (fun k => if c then g k else f k) r := by
  by_cases hc : c
  · simp only [if_pos hc]; exact h hc
  · simp only [if_neg hc]; exact h' hc
theorem someT {p : Prop} [Decidable p] (h : p) : some true = some (decide p) := by rw [decide_eq_true h]
theorem someF {p : Prop} [Decidable p] (h : ¬ p) : some false = some (decide p) := by rw [decide_eq_false h]
theorem someD {p q : Prop} [Decidable p] [Decidable q] (h : p ↔ q) : some (decide p) = some (decide q) := by rw [decide_eq_decide.mpr h]
theorem decD {p q : Prop} [Decidable p] [Decidable q] (h : p ↔ q) : decide p = decide q := decide_eq_decide.mpr h
theorem allBad {α : Type} {p : α → Bool} {x : α} {suf : List α} {q : Bool} (h : p x = false) : false = ((x :: suf).all p && q) := by simp [h]
theorem allGood {α : Type} {p : α → Bool} {x : α} {suf : List α} {q : Bool} (h : p x = true) : (suf.all p && q) = ((x :: suf).all p && q) := by simp [h]
theorem rgEnd {α : Type} {l pre : List α} (h : l = pre ++ []) : ¬ ((pre.length : Int) < (l.length : Int)) := by subst h; simp
theorem rgHead {α : Type} {l pre suf : List α} {x : α} (h : l = pre ++ x :: suf) (hl : l.length ≤ 4611686018427387904) (z : α) :
    (pre.length : Int) < (l.length : Int) ∧ (0 : Int) ≤ (pre.length : Int) ∧ wrap64 ((pre.length : Int) + 1) = ((pre ++ [x]).length : Int) ∧ l.getD (pre.length : Int).toNat z = x ∧ l = (pre ++ [x]) ++ suf := by
  subst h
  simp at hl
  refine ⟨by simp; omega, by omega, ?_, by simp, by simp⟩
  rw [wrapi (by omega) (by omega)]; simp
theorem in_eq (a b c : Int) : spec_l1In.f a b c = some (decide (b ≤ a ∧ a ≤ c)) := by
  unfold spec_l1In.f
  split
  · exact someD (by omega)
  · exact someF (by omega)
-- ** szint
theorem szInt_eq (l : List Int) (b : Int) (hb : 0 ≤ b) (hb' : b ≤ 1048576) (h : l.length ≤ 9223372036854775807) : laws_szIntS.f l b = some (if (l.length : Int) ≤ b then b - (l.length : Int) else -1) := by
  unfold laws_szIntS.f
  rw [wrapi (by omega) (by omega)]
  by_cases c : (l.length : Int) ≤ b
  · rw [if_neg (by omega), if_pos c]
  · rw [if_pos (by omega), if_neg c]
-- ** lists
theorem setAt {α : Type} (A B : List α) (z v : α) (n : Nat) (h : n = A.length) : (A ++ z :: B).set n v = A ++ v :: B := by subst h; simp
-- ** intlaw
theorem toInt_l0 (l : List Int) (hl : l.length ≤ 1048576) : ∀ (suf pre : List Int), l = pre ++ suf →
    Ev (fun k => laws_toIntS.l0 k l (pre ++ List.replicate suf.length 0) (pre.length : Int)) l := by
  intro suf
  induction suf with
  | nil =>
    intro pre h
    refine Ev.step (fun k => laws_toIntS.l0.eq_2 ..) ?_
    simp only [rgEnd h, if_false]
    exact evNow (by subst h; simp)
  | cons x suf ih =>
    intro pre h
    obtain ⟨h1, h2, h3, h4, h5⟩ := rgHead h (by omega) 0
    refine Ev.step (fun k => laws_toIntS.l0.eq_2 ..) ?_
    simp only [h1, h2, h3, rd, h4, if_true]
    refine evPos (by simp; omega) ?_
    have e : (pre ++ List.replicate (x :: suf).length 0).set (pre.length : Int).toNat x = (pre ++ [x]) ++ List.replicate suf.length 0 := by
      rw [List.length_cons, List.replicate_succ, setAt _ _ _ _ _ (by simp)]
      simp
    rw [e]
    exact ih _ h5
theorem toInt_ev (l : List Int) (hl : l.length ≤ 1048576) : Ev (fun k => laws_toIntS.f k l) l := by
  unfold laws_toIntS.f
  refine evPos (by omega) (evPos (by omega) ?_)
  have := toInt_l0 l hl l [] rfl
  simpa using this
theorem eqInt_l0 (l : List Int) (hl : l.length ≤ 4611686018427387904) : ∀ (suf pre : List Int), l = pre ++ suf → Ev (fun k => laws_eqIntS.l0 k l l (pre.length : Int)) true := by
  intro suf
  induction suf with
  | nil =>
    intro pre h
    refine Ev.step (fun k => laws_eqIntS.l0.eq_2 ..) ?_
    simp only [rgEnd h, if_false]
    exact Ev.now _
  | cons x suf ih =>
    intro pre h
    obtain ⟨h1, h2, h3, h4, h5⟩ := rgHead h hl 0
    refine Ev.step (fun k => laws_eqIntS.l0.eq_2 ..) ?_
    simp only [h1, h2, h3, if_true]
    exact ih _ h5
theorem eqInt_ev (l : List Int) (hl : l.length ≤ 4611686018427387904) : Ev (fun k => laws_eqIntS.f k l l) true := by
  unfold laws_eqIntS.f
  exact evPos rfl (eqInt_l0 l hl l [] rfl)
-- ** holelaw
def cvHole (x : S62) : S60 := ⟨x.f0, x.f1, x.f2⟩
theorem szHole_at (l : List S62) (b : Int) (h0 : 0 ≤ b) (hb : b ≤ 1048576) (h : l.length ≤ 9223372036854775807) : laws_szHoleS.f l b = some (if (l.length : Int) ≤ b then b - (l.length : Int) else -1) := by
  unfold laws_szHoleS.f
  rw [wrapi (by omega) (by omega)]
  by_cases c : (l.length : Int) ≤ b
  · rw [if_neg (by omega), if_pos c]
  · rw [if_pos (by omega), if_neg c]
theorem toHole_l0 (l : List S62) (hl : l.length ≤ 1048576) : ∀ (suf pre : List S62), l = pre ++ suf →
    Ev (fun k => laws_toHoleS.l0 k l (pre.map cvHole ++ List.replicate suf.length z60) (pre.length : Int)) (l.map cvHole) := by
  intro suf
  induction suf with
  | nil =>
    intro pre h
    refine Ev.step (fun k => laws_toHoleS.l0.eq_2 ..) ?_
    simp only [rgEnd h, if_false]
    exact evNow (by subst h; simp)
  | cons x suf ih =>
    intro pre h
    obtain ⟨h1, h2, h3, h4, h5⟩ := rgHead h (by omega) z62
    refine Ev.step (fun k => laws_toHoleS.l0.eq_2 ..) ?_
    simp only [h1, h2, h3, rd_T62, h4, if_true, laws_toHole.f, Option.bind_some]
    refine evPos (by simp; omega) ?_
    have e : (pre.map cvHole ++ List.replicate (x :: suf).length z60).set (pre.length : Int).toNat ⟨x.f0, x.f1, x.f2⟩ = (pre ++ [x]).map cvHole ++ List.replicate suf.length z60 := by
      rw [List.length_cons, List.replicate_succ, setAt _ _ _ _ _ (by simp)]
      simp [cvHole]
    rw [e]
    exact ih _ h5
theorem toHole_ev (l : List S62) (hl : l.length ≤ 1048576) : Ev (fun k => laws_toHoleS.f k l) (l.map cvHole) := by
  unfold laws_toHoleS.f
  refine evPos (by omega) (evPos (by omega) ?_)
  have := toHole_l0 l hl l [] rfl
  simpa using this
theorem eqHole_l0 (l : List S60) (hl : l.length ≤ 4611686018427387904) : ∀ (suf pre : List S60), l = pre ++ suf → Ev (fun k => laws_eqHoleS.l0 k l l (pre.length : Int)) true := by
  intro suf
  induction suf with
  | nil =>
    intro pre h
    refine Ev.step (fun k => laws_eqHoleS.l0.eq_2 ..) ?_
    simp only [rgEnd h, if_false]
    exact Ev.now _
  | cons x suf ih =>
    intro pre h
    obtain ⟨h1, h2, h3, h4, h5⟩ := rgHead h hl z60
    refine Ev.step (fun k => laws_eqHoleS.l0.eq_2 ..) ?_
    simp only [h1, h2, h3, if_true, laws_eqHole.f, Option.bind_some]
    exact ih _ h5
theorem eqHole_ev (l : List S60) (hl : l.length ≤ 4611686018427387904) : Ev (fun k => laws_eqHoleS.f k l l) true := by
  unfold laws_eqHoleS.f
  exact evPos rfl (eqHole_l0 l hl l [] rfl)
-- ** instlaw
theorem szInst_eq (p : List Int) (r : Int) (h : p.length ≤ 9223372036854775807) : laws_szInstrument.f p r 1048576 = some (if p.length ≤ 1048576 then 1048576 - (p.length : Int) else -1) := by
  unfold laws_szInstrument.f
  rw [szInt_eq p _ (by omega) (by omega) h]
  simp only [Option.bind_some]
  by_cases c : p.length ≤ 1048576
  · rw [if_pos (show (p.length : Int) ≤ 1048576 by omega), if_neg (by omega), if_pos c]
  · rw [if_neg (show ¬ (p.length : Int) ≤ 1048576 by omega), if_pos (by omega), if_neg c]
theorem toInst_ev {p : List Int} (r : Int) (hp : p.length ≤ 1048576) : Ev (fun k => laws_toInstrument.f k p r) (p, r) := by
  unfold laws_toInstrument.f; exact Ev.bind (toInt_ev p hp) (Ev.now _)
theorem eqInst_ev {p : List Int} (r : Int) (hp : p.length ≤ 1048576) : Ev (fun k => laws_eqInstrument.f k p r p r) true := by
  unfold laws_eqInstrument.f; exact Ev.bind (eqInt_ev p (by omega)) (evPos rfl (evPos rfl (Ev.now _)))
-- ** sheet
def hole (x : S60) : Prop := 0 ≤ x.f0 ∧ x.f0 ≤ 19 ∧ 0 ≤ x.f1 ∧ x.f1 < x.f2 ∧ x.f2 ≤ 2000
instance (x : S60) : Decidable (hole x) := by unfold hole; exact inferInstance
def hbef (a b : S60) : Prop := a.f1 < b.f1 ∨ (a.f1 = b.f1 ∧ a.f0 < b.f0)
instance (a b : S60) : Decidable (hbef a b) := by unfold hbef; exact inferInstance
def hfree (x y : S60) : Bool := !decide (y.f0 = x.f0 ∧ y.f2 ≥ x.f1)
def headOk (pre : List S60) (x : S60) : Bool := decide (hole x) && (decide (pre = [] ∨ hbef (pre.getD (pre.length - 1) z60) x) && pre.all (hfree x))
def goodFrom : List S60 → List S60 → Bool
  | _, [] => true
  | pre, x :: suf => headOk pre x && goodFrom (pre ++ [x]) suf
def goodSheet (l : List S60) : Bool := goodFrom [] l && decide (l.length ≤ 60)
theorem shHole_eq (x : S60) : spec_shHole.f x.f0 x.f1 x.f2 = some (decide (hole x)) := by
  unfold spec_shHole.f; simp only [in_eq, Option.bind_some, decide_eq_true_eq]
  split
  · split
    · rw [wrapi (by omega) (by omega)]; exact someD (by unfold hole; omega)
    · exact someF (by unfold hole; omega)
  · exact someF (by unfold hole; omega)
theorem isHole_eq (x : S60) : impl_IsHole.f x.f0 x.f1 x.f2 = some (decide (hole x)) := by
  unfold impl_IsHole.f impl_isTrack.f
  by_cases c : x.f0 ≥ 0
  · rw [if_pos c]; simp only [Option.bind_some, decide_eq_true_eq]
    split
    · split
      · split
        · exact someD (by unfold hole; omega)
        · exact someF (by unfold hole; omega)
      · exact someF (by unfold hole; omega)
    · exact someF (by unfold hole; omega)
  · rw [if_neg c]; simp only [Option.bind_some, Bool.false_eq_true, if_false]
    exact someF (by unfold hole; omega)
theorem shBefore_eq (a b : S60) : spec_shBefore.f a.f0 a.f1 a.f2 b.f0 b.f1 b.f2 = some (decide (hbef a b)) := by
  unfold spec_shBefore.f
  split
  · exact someT (by unfold hbef; omega)
  · split
    · exact someD (by unfold hbef; omega)
    · exact someF (by unfold hbef; omega)
theorem holeLess_eq (a b : S60) : impl_holeLess.f a.f0 a.f1 a.f2 b.f0 b.f1 b.f2 = some (decide (hbef a b)) := by
  unfold impl_holeLess.f
  split
  · exact someD (by unfold hbef; omega)
  · exact someD (by unfold hbef; omega)
theorem hfree_t {x y : S60} (h : ¬ (y.f0 = x.f0 ∧ y.f2 ≥ x.f1)) : hfree x y = true := by unfold hfree; rw [decide_eq_false h]; rfl
theorem hfree_f {x y : S60} (h : y.f0 = x.f0 ∧ y.f2 ≥ x.f1) : hfree x y = false := by unfold hfree; rw [decide_eq_true h]; rfl
theorem shGood_l1 (l : List S60) (i : Int) (x : S60) (l' : List S60) (n : Int) (q : Bool) (hq : Ev (fun k => spec_shGood.l0 k l l' n (wrap64 (i + 1))) q) (p : List S60) (hl : p.length ≤ 1048576) :
    ∀ (suf pre : List S60), p = pre ++ suf → Ev (fun k => spec_shGood.l1 k l l' n i p (p.length : Int) (pre.length : Int) x.f0 x.f1 x.f2) (suf.all (hfree x) && q) := by
  intro suf
  induction suf with
  | nil =>
    intro pre h
    refine Ev.step (fun k => spec_shGood.l1.eq_2 ..) ?_
    simp only [rgEnd h, if_false]
    exact evEq hq (by simp)
  | cons y suf ih =>
    intro pre h
    obtain ⟨h1, h2, h3, h4, h5⟩ := rgHead h (by omega) z60
    refine Ev.step (fun k => spec_shGood.l1.eq_2 ..) ?_
    simp only [h1, h2, h3, rd_T60, h4, if_true]
    refine evBy (fun c => evBy (fun c' => evNow (allBad (hfree_f ⟨c.symm, c'⟩))) (fun c' => evEq (ih _ h5) (allGood (hfree_t (fun r => c' r.2))))) (fun c => evEq (ih _ h5) (allGood (hfree_t (fun r => c r.1.symm))))
theorem shGood_l0 (l : List S60) (hl : l.length ≤ 1048576) : ∀ (suf pre : List S60), l = pre ++ suf → Ev (fun k => spec_shGood.l0 k l l (l.length : Int) (pre.length : Int)) (goodFrom pre suf && decide (l.length ≤ 60)) := by
  intro suf
  induction suf with
  | nil =>
    intro pre h
    refine Ev.step (fun k => spec_shGood.l0.eq_2 ..) ?_
    simp only [rgEnd h, if_false]
    exact evNow (by rw [goodFrom, Bool.true_and]; exact decD (by omega))
  | cons x suf ih =>
    intro pre h
    obtain ⟨h1, h2, h3, h4, h5⟩ := rgHead h (by omega) z60
    have hpl : pre.length ≤ 1048576 := by omega
    have hj : ∀ b : Bool, b = !decide (pre = [] ∨ hbef (pre.getD (pre.length - 1) z60) x) → hole x → Ev (fun k => spec_shGood.j1 k l (pre.length : Int) l (l.length : Int) (pre.length : Int) b x.f0 x.f1 x.f2) (goodFrom pre (x :: suf) && decide (l.length ≤ 60)) := by
      intro b hb hx
      refine Ev.step (fun k => spec_shGood.j1.eq_2 ..) ?_
      by_cases c : pre = [] ∨ hbef (pre.getD (pre.length - 1) z60) x
      · rw [decide_eq_true c] at hb; subst hb
        refine evNeg (by simp) (evPos h2 (evPos (by omega) ?_))
        simp only [Option.bind_some]
        have e : l.take (pre.length : Int).toNat = pre := by rw [h]; simp
        rw [e]
        refine evEq (shGood_l1 l (pre.length : Int) x l (l.length : Int) _ (by rw [h3]; exact ih _ h5) pre (by omega) pre [] rfl) ?_
        simp only [goodFrom, headOk, decide_eq_true hx, decide_eq_true c, Bool.true_and, Bool.and_assoc]
      · rw [decide_eq_false c] at hb; subst hb
        refine evPos rfl (evNow ?_)
        simp only [goodFrom, headOk, decide_eq_false c, Bool.false_and, Bool.and_false]
    refine Ev.step (fun k => spec_shGood.l0.eq_2 ..) ?_
    simp only [h1, h2, rd_T60, h4, if_true, shHole_eq, Option.bind_some, decide_eq_true_eq]
    refine evBy (fun hx => ?_) (fun hx => Ev.step (fun k => spec_shGood.j1.eq_2 ..) (evPos rfl (evNow (by simp only [goodFrom, headOk, decide_eq_false hx, Bool.false_and]))))
    by_cases c : 0 < pre.length
    · rw [wrapi (x := (pre.length : Int) - 1) (by omega) (by omega)]
      refine evPos (by omega) (evPos (by omega) (evPos (by omega) ?_))
      have e : l.getD ((pre.length : Int) - 1).toNat z60 = pre.getD (pre.length - 1) z60 := by
        rw [show ((pre.length : Int) - 1).toNat = pre.length - 1 by omega, h, List.getD_eq_getElem?_getD, List.getD_eq_getElem?_getD, List.getElem?_append_left (by omega)]
      rw [e, shBefore_eq]
      simp only [Option.bind_some]
      refine hj _ ?_ hx
      congr 1
      refine decide_eq_decide.mpr ⟨fun r => .inr r, fun r => r.resolve_left (fun z => by rw [z] at c; simp at c)⟩
    · refine evNeg (by omega) (hj _ ?_ hx)
      have : pre = [] := List.eq_nil_of_length_eq_zero (by omega)
      rw [decide_eq_true (Or.inl this)]; rfl
theorem shGood_ev {l : List S60} (hl : l.length ≤ 1048576) : Ev (fun k => spec_shGood.f k l) (goodSheet l) := shGood_l0 l hl l [] rfl
theorem isSheet_l1 (l : List S60) (i : Int) (x : S60) (l' : List S60) (n : Int) (q : Bool) (hq : Ev (fun k => impl_IsSheet.l0 k l l' n (wrap64 (i + 1))) q) (p : List S60) (hl : p.length ≤ 1048576) :
    ∀ (suf pre : List S60), p = pre ++ suf → Ev (fun k => impl_IsSheet.l1 k l l' n i p (p.length : Int) (pre.length : Int) x.f0 x.f1 x.f2) (suf.all (hfree x) && q) := by
  intro suf
  induction suf with
  | nil =>
    intro pre h
    refine Ev.step (fun k => impl_IsSheet.l1.eq_2 ..) ?_
    simp only [rgEnd h, if_false]
    exact evEq hq (by simp)
  | cons y suf ih =>
    intro pre h
    obtain ⟨h1, h2, h3, h4, h5⟩ := rgHead h (by omega) z60
    refine Ev.step (fun k => impl_IsSheet.l1.eq_2 ..) ?_
    simp only [h1, h2, h3, rd_T60, h4, if_true]
    refine evBy (fun c => evBy (fun c' => evNow (allBad (hfree_f ⟨c, c'⟩))) (fun c' => evEq (ih _ h5) (allGood (hfree_t (fun r => c' r.2))))) (fun c => evEq (ih _ h5) (allGood (hfree_t (fun r => c r.1))))
theorem isSheet_l0 (l : List S60) (hl : l.length ≤ 1048576) : ∀ (suf pre : List S60), l = pre ++ suf → Ev (fun k => impl_IsSheet.l0 k l l (l.length : Int) (pre.length : Int)) (goodFrom pre suf) := by
  intro suf
  induction suf with
  | nil =>
    intro pre h
    refine Ev.step (fun k => impl_IsSheet.l0.eq_2 ..) ?_
    simp only [rgEnd h, if_false]
    exact evNow (by rw [goodFrom])
  | cons x suf ih =>
    intro pre h
    obtain ⟨h1, h2, h3, h4, h5⟩ := rgHead h (by omega) z60
    have hpl : pre.length ≤ 1048576 := by omega
    have hj : ∀ b : Bool, b = !decide (pre = [] ∨ hbef (pre.getD (pre.length - 1) z60) x) → hole x → Ev (fun k => impl_IsSheet.j1 k l (pre.length : Int) l (l.length : Int) (pre.length : Int) b x.f0 x.f1 x.f2) (goodFrom pre (x :: suf)) := by
      intro b hb hx
      refine Ev.step (fun k => impl_IsSheet.j1.eq_2 ..) ?_
      by_cases c : pre = [] ∨ hbef (pre.getD (pre.length - 1) z60) x
      · rw [decide_eq_true c] at hb; subst hb
        refine evNeg (by simp) (evPos h2 (evPos (by omega) ?_))
        simp only [Option.bind_some]
        have e : l.take (pre.length : Int).toNat = pre := by rw [h]; simp
        rw [e]
        refine evEq (isSheet_l1 l (pre.length : Int) x l (l.length : Int) _ (by rw [h3]; exact ih _ h5) pre (by omega) pre [] rfl) ?_
        simp only [goodFrom, headOk, decide_eq_true hx, decide_eq_true c, Bool.true_and]
      · rw [decide_eq_false c] at hb; subst hb
        refine evPos rfl (evNow ?_)
        simp only [goodFrom, headOk, decide_eq_false c, Bool.false_and, Bool.and_false]
    refine Ev.step (fun k => impl_IsSheet.l0.eq_2 ..) ?_
    simp only [h1, h2, rd_T60, h4, if_true, isHole_eq, Option.bind_some, decide_eq_true_eq]
    refine evBy (fun hx => ?_) (fun hx => Ev.step (fun k => impl_IsSheet.j1.eq_2 ..) (evPos rfl (evNow (by simp only [goodFrom, headOk, decide_eq_false hx, Bool.false_and]))))
    by_cases c : 0 < pre.length
    · rw [wrapi (x := (pre.length : Int) - 1) (by omega) (by omega)]
      refine evPos (by omega) (evPos (by omega) (evPos (by omega) ?_))
      have e : l.getD ((pre.length : Int) - 1).toNat z60 = pre.getD (pre.length - 1) z60 := by
        rw [show ((pre.length : Int) - 1).toNat = pre.length - 1 by omega, h, List.getD_eq_getElem?_getD, List.getD_eq_getElem?_getD, List.getElem?_append_left (by omega)]
      rw [e, holeLess_eq]
      simp only [Option.bind_some]
      refine hj _ ?_ hx
      congr 1
      refine decide_eq_decide.mpr ⟨fun r => .inr r, fun r => r.resolve_left (fun z => by rw [z] at c; simp at c)⟩
    · refine evNeg (by omega) (hj _ ?_ hx)
      have : pre = [] := List.eq_nil_of_length_eq_zero (by omega)
      rw [decide_eq_true (Or.inl this)]; rfl
theorem isSheet_ev {l : List S60} (hl : l.length ≤ 1048576) : Ev (fun k => impl_IsSheet.f k l) (goodSheet l) := by
  unfold impl_IsSheet.f goodSheet
  refine evBy (fun c => evNow ?_) (fun c => evEq (isSheet_l0 l hl l [] rfl) ?_)
  · rw [show decide (l.length ≤ 60) = false from decide_eq_false (by omega), Bool.and_false]
  · rw [show decide (l.length ≤ 60) = true from decide_eq_true (by omega), Bool.and_true]
-- ** shopen
theorem goodFrom_hole : ∀ {suf pre : List S60}, goodFrom pre suf = true → ∀ x, x ∈ suf → hole x
  | [], _, _, x, hx => by simp at hx
  | y :: suf, pre, h, x, hx => by
    simp only [goodFrom, headOk, Bool.and_eq_true, decide_eq_true_eq] at h
    rcases List.mem_cons.1 hx with r | r
    · subst r; exact h.1.1
    · exact goodFrom_hole h.2 x r
theorem goodSheet_hole {l : List S60} (h : goodSheet l = true) : ∀ x, x ∈ l → hole x := by
  simp only [goodSheet, Bool.and_eq_true] at h; exact goodFrom_hole h.1
theorem goodSheet_len {l : List S60} (h : goodSheet l = true) : l.length ≤ 60 := by
  simp only [goodSheet, Bool.and_eq_true, decide_eq_true_eq] at h; exact h.2
-- ** instr
def ris : Int → List Int → Bool
  | _, [] => true
  | a, x :: l => decide (24 ≤ x ∧ x ≤ 96) && (decide (a < x) && ris x l)
def goodInst (p : List Int) (r : Int) : Bool := decide (1 ≤ (p.length : Int) ∧ (p.length : Int) ≤ 20) && (ris 0 p && decide (1 ≤ r ∧ r ≤ 20))
theorem goodInst_iff {p : List Int} {r : Int} : goodInst p r = true ↔ (1 ≤ (p.length : Int) ∧ (p.length : Int) ≤ 20) ∧ ris 0 p = true ∧ (1 ≤ r ∧ r ≤ 20) := by
  unfold goodInst; rw [Bool.and_eq_true, Bool.and_eq_true, decide_eq_true_eq, decide_eq_true_eq]
theorem rising_l0 (p : List Int) (hl : p.length ≤ 1048576) : ∀ (suf pre : List Int) (a : Int), p = pre ++ suf → (pre = [] ∧ a = 0 ∨ ∃ q, pre = q ++ [a]) → Ev (fun k => spec_l1Rising.l0 k p 24 96 p (p.length : Int) (pre.length : Int)) (ris a suf) := by
  intro suf
  induction suf with
  | nil =>
    intro pre a h _
    refine Ev.step (fun k => spec_l1Rising.l0.eq_2 ..) ?_
    simp only [rgEnd h, if_false]
    exact Ev.now _
  | cons x suf ih =>
    intro pre a h ha
    obtain ⟨h1, h2, h3, h4, h5⟩ := rgHead h (by omega) 0
    have ih' := ih (pre ++ [x]) x h5 (.inr ⟨pre, rfl⟩)
    refine Ev.step (fun k => spec_l1Rising.l0.eq_2 ..) ?_
    simp only [h1, h2, h3, rd, h4, if_true, in_eq, Option.bind_some, decide_eq_true_eq, ris]
    refine evBy (fun c => ?_) (fun c => evNow (by rw [decide_eq_false c, Bool.false_and]))
    rw [decide_eq_true c, Bool.true_and]
    rcases ha with ⟨rfl, rfl⟩ | ⟨q, rfl⟩
    · refine evNeg (by simp) ?_
      rw [decide_eq_true (show (0 : Int) < x by omega), Bool.true_and]; exact ih'
    · have hq : ((q ++ [a]).length : Int) = (q.length : Int) + 1 := by simp
      have hp : q.length ≤ 1048576 := by rw [h] at hl; simp at hl; omega
      have hL : (p.length : Int) = (q.length : Int) + 1 + ((suf.length : Int) + 1) := by rw [h]; simp; omega
      have e : p.getD (q.length : Int).toNat 0 = a := by rw [h]; simp
      refine evPos (by rw [hq]; omega) ?_
      rw [show wrap64 (((q ++ [a]).length : Int) - 1) = (q.length : Int) by rw [hq, wrapi (by omega) (by omega)]; omega]
      refine evPos (by omega) (evPos (by omega) ?_)
      rw [e]
      exact evBy (fun c' => evNow (by rw [decide_eq_false (show ¬ a < x by omega), Bool.false_and])) (fun c' => by rw [decide_eq_true (show a < x by omega), Bool.true_and]; exact ih')
theorem inGood_ev {p : List Int} (hl : p.length ≤ 1048576) (r : Int) : Ev (fun k => spec_inGood.f k p r) (goodInst p r) := by
  unfold spec_inGood.f goodInst
  simp only [in_eq, Option.bind_some, decide_eq_true_eq]
  refine evBy (fun c => ?_) (fun c => evNow (by rw [decide_eq_false c, Bool.false_and]))
  rw [decide_eq_true c, Bool.true_and]
  unfold spec_l1Rising.f
  refine Ev.bind (rising_l0 p hl p [] 0 rfl (.inl ⟨rfl, rfl⟩)) (evBy (fun c' => evNow ?_) (fun c' => evNow ?_))
  · rw [c', Bool.true_and]
  · rw [Bool.eq_false_iff.mpr c', Bool.false_and]
theorem isPitch_eq (a : Int) : impl_isPitch.f a = some (decide (24 ≤ a ∧ a ≤ 96)) := by
  unfold impl_isPitch.f; split
  · exact someD (by omega)
  · exact someF (by omega)
theorem isInst_l0 (p : List Int) (r : Int) (hl : p.length ≤ 1048576) : ∀ (suf pre : List Int) (a : Int), p = pre ++ suf → (pre = [] ∧ a = 0 ∨ ∃ q, pre = q ++ [a]) → Ev (fun k => impl_IsInstrument.l0 k p (p.length : Int) (pre.length : Int) p r) (ris a suf) := by
  intro suf
  induction suf with
  | nil =>
    intro pre a h _
    refine Ev.step (fun k => impl_IsInstrument.l0.eq_2 ..) ?_
    simp only [rgEnd h, if_false]
    exact Ev.now _
  | cons x suf ih =>
    intro pre a h ha
    obtain ⟨h1, h2, h3, h4, h5⟩ := rgHead h (by omega) 0
    have ih' := ih (pre ++ [x]) x h5 (.inr ⟨pre, rfl⟩)
    refine Ev.step (fun k => impl_IsInstrument.l0.eq_2 ..) ?_
    simp only [h1, h2, h3, rd, h4, if_true, isPitch_eq, Option.bind_some, decide_eq_true_eq, ris]
    refine evBy (fun c => ?_) (fun c => evNow (by rw [decide_eq_false c, Bool.false_and]))
    rw [decide_eq_true c, Bool.true_and]
    rcases ha with ⟨rfl, rfl⟩ | ⟨q, rfl⟩
    · refine evNeg (by simp) ?_
      rw [decide_eq_true (show (0 : Int) < x by omega), Bool.true_and]; exact ih'
    · have hq : ((q ++ [a]).length : Int) = (q.length : Int) + 1 := by simp
      have hp : q.length ≤ 1048576 := by rw [h] at hl; simp at hl; omega
      have hL : (p.length : Int) = (q.length : Int) + 1 + ((suf.length : Int) + 1) := by rw [h]; simp; omega
      have e : p.getD (q.length : Int).toNat 0 = a := by rw [h]; simp
      refine evPos (by rw [hq]; omega) ?_
      rw [show wrap64 (((q ++ [a]).length : Int) - 1) = (q.length : Int) by rw [hq, wrapi (by omega) (by omega)]; omega]
      refine evPos (by omega) (evPos (by omega) ?_)
      rw [e]
      exact evBy (fun c' => evNow (by rw [decide_eq_false (show ¬ a < x by omega), Bool.false_and])) (fun c' => by rw [decide_eq_true (show a < x by omega), Bool.true_and]; exact ih')
theorem isInst_ev {p : List Int} (hl : p.length ≤ 1048576) (r : Int) : Ev (fun k => impl_IsInstrument.f k p r) (goodInst p r) := by
  unfold impl_IsInstrument.f goodInst
  have hn : ∀ {b : Bool}, (b = true ↔ ¬ (1 ≤ r ∧ r ≤ 20)) → (1 ≤ (p.length : Int) ∧ (p.length : Int) ≤ 20) → Ev (fun k => impl_IsInstrument.j0 k b p r) (decide (1 ≤ (p.length : Int) ∧ (p.length : Int) ≤ 20) && (ris 0 p && decide (1 ≤ r ∧ r ≤ 20))) := by
    intro b hb c
    refine Ev.step (fun k => impl_IsInstrument.j0.eq_2 ..) (evBy (fun c' => evNow ?_) (fun c' => ?_))
    · rw [decide_eq_false (hb.1 c'), Bool.and_false, Bool.and_false]
    · refine evEq (isInst_l0 p r hl p [] 0 rfl (.inl ⟨rfl, rfl⟩)) ?_
      rw [decide_eq_true c, decide_eq_true (show 1 ≤ r ∧ r ≤ 20 from Decidable.not_not.1 (fun q => c' (hb.2 q))), Bool.true_and, Bool.and_true]
  have hz : ¬ (1 ≤ (p.length : Int) ∧ (p.length : Int) ≤ 20) → Ev (fun k => impl_IsInstrument.j0 k true p r) (decide (1 ≤ (p.length : Int) ∧ (p.length : Int) ≤ 20) && (ris 0 p && decide (1 ≤ r ∧ r ≤ 20))) := fun c =>
    Ev.step (fun k => impl_IsInstrument.j0.eq_2 ..) (evPos rfl (evNow (by rw [decide_eq_false c, Bool.false_and])))
  refine evBy (fun c => hz (by omega)) (fun c => evBy (fun c1 => hz (by omega)) (fun c1 => evBy (fun c2 => hn (by simp; omega) (by omega)) (fun c2 => hn (by simp; omega) (by omega))))
-- ** action
def actn (a b c : Int) : Prop := 0 ≤ a ∧ a ≤ 40 ∧ 0 ≤ b ∧ b ≤ 40 ∧ 0 ≤ c ∧ c ≤ 40
instance (a b c : Int) : Decidable (actn a b c) := by unfold actn; exact inferInstance
theorem pyAction_eq (a b c : Int) : spec_pyAction.f a b c = some (decide (actn a b c)) := by
  unfold spec_pyAction.f; simp only [in_eq, Option.bind_some, decide_eq_true_eq]
  repeat' split
  all_goals first | exact someD (by unfold actn; omega) | exact someF (by unfold actn; omega)
theorem isAction_eq (a b c : Int) : impl_IsAction.f a b c = some (decide (actn a b c)) := by
  unfold impl_IsAction.f
  repeat' split
  all_goals first | exact someD (by unfold actn; omega) | exact someF (by unfold actn; omega)
-- ** spoken
def spk (p : List Int) (rep d r lst : Int) : List S56 → List Int → (Int → Int) → List S60 → Int → List S56 × List Int
  | out, sil, _, [], _ => (out, sil)
  | out, sil, L, x :: l, i => if x.f0 ≥ (p.length : Int) ∨ x.f2 - x.f1 < lst ∨ x.f1 - L x.f0 < 2 * rep ∨ x.f1 + d ≥ x.f2 + r then spk p rep d r lst out (sil ++ [i]) L l (i + 1)
    else spk p rep d r lst (out ++ [⟨rd p x.f0, x.f1 + d, x.f2 + r⟩]) sil (fun t => if t = x.f0 then x.f1 else L t) l (i + 1)
theorem spk_len (p : List Int) (rep d r lst : Int) : ∀ (l : List S60) (out : List S56) (sil : List Int) (L : Int → Int) (i : Int),
    (spk p rep d r lst out sil L l i).1.length + (spk p rep d r lst out sil L l i).2.length = out.length + sil.length + l.length
  | [], out, sil, L, i => by simp [spk]
  | x :: l, out, sil, L, i => by
    simp only [spk]; split
    · rw [spk_len p rep d r lst l]; simp; omega
    · rw [spk_len p rep d r lst l]; simp; omega
theorem setGet (A : List Int) (a t v : Int) (ha : 0 ≤ a) (ht : 0 ≤ t) (h : a < (A.length : Int)) : (A.set a.toNat v).getD t.toNat 0 = if t = a then v else A.getD t.toNat 0 := by
  simp only [List.getD_eq_getElem?_getD, List.getElem?_set]
  by_cases c : t = a
  · subst c; rw [if_pos rfl, if_pos rfl, if_pos (by omega)]; rfl
  · rw [if_neg (by omega), if_neg c]
theorem pyAll_l1 (p : List Int) (rep d r lst : Int) (_ : p.length ≤ 20) (hr : 1 ≤ rep ∧ rep ≤ 20) (ha : actn d r lst) (l : List S60) (hl : l.length ≤ 60) (hh : ∀ x, x ∈ l → hole x) : ∀ (suf pre : List S60) (out : List S56) (sil A : List Int) (L : Int → Int), l = pre ++ suf → out.length ≤ pre.length → sil.length ≤ pre.length →
    A.length = 20 → (∀ t : Int, 0 ≤ t → t < 20 → A.getD t.toNat 0 = L t) → (∀ t, -40 ≤ L t ∧ L t ≤ 2000) →
    Ev (fun k => spec_pyAll.l1 k out sil A l (l.length : Int) (pre.length : Int) p rep d r lst) (spk p rep d r lst out sil L suf (pre.length : Int)) := by
  unfold actn at ha
  intro suf
  induction suf with
  | nil =>
    intro pre out sil A L h _ _ _ _ _
    refine Ev.step (fun k => spec_pyAll.l1.eq_2 ..) ?_
    simp only [rgEnd h, if_false]
    exact Ev.now _
  | cons x suf ih =>
    intro pre out sil A L h ho hs hA hL hb
    obtain ⟨h1, h2, h3, h4, h5⟩ := rgHead h (by omega) z60
    have hx := hh x (by rw [h]; simp)
    unfold hole at hx
    have hpl : pre.length ≤ 60 := by omega
    have hLx := hb x.f0
    have e3 : ((pre ++ [x]).length : Int) = (pre.length : Int) + 1 := by simp
    have bad : ∀ {q : Prop}, q → (q → x.f0 ≥ (p.length : Int) ∨ x.f2 - x.f1 < lst ∨ x.f1 - L x.f0 < 2 * rep ∨ x.f1 + d ≥ x.f2 + r) → Ev (fun k => if sil.length < 17592186044416 then spec_pyAll.l1 k out (sil ++ [(pre.length : Int)]) A l (l.length : Int) ((pre ++ [x]).length : Int) p rep d r lst else none) (spk p rep d r lst out sil L (x :: suf) (pre.length : Int)) := by
      intro q hq hc
      refine evPos (by omega) (evEq (ih (pre ++ [x]) out (sil ++ [(pre.length : Int)]) A L h5 (by simp; omega) (by simp; omega) hA hL hb) ?_)
      rw [e3]; simp only [spk]; rw [if_pos (hc hq)]
    refine Ev.step (fun k => spec_pyAll.l1.eq_2 ..) ?_
    simp only [h1, h2, h3, rd_T60, h4, if_true]
    rw [wrapi (x := x.f2 - x.f1) (by omega) (by omega), wrapi (x := x.f1 + d) (by omega) (by omega), wrapi (x := x.f2 + r) (by omega) (by omega), wrapi (x := 2 * rep) (by omega) (by omega)]
    refine evBy (fun c => bad c .inl) (fun c => evBy (fun c1 => bad c1 (fun q => .inr (.inl q))) (fun c1 => evPos (by omega) (evPos (by omega) ?_)))
    rw [show rd A x.f0 = L x.f0 from hL x.f0 (by omega) (by omega), wrapi (x := x.f1 - L x.f0) (by omega) (by omega)]
    refine evBy (fun c2 => bad c2 (fun q => .inr (.inr (.inl q)))) (fun c2 => evBy (fun c3 => bad c3 (fun q => .inr (.inr (.inr q)))) (fun c3 => evPos (by omega) (evPos (by omega) ?_)))
    refine evEq (ih (pre ++ [x]) (out ++ [⟨rd p x.f0, x.f1 + d, x.f2 + r⟩]) sil (A.set x.f0.toNat x.f1) (fun t => if t = x.f0 then x.f1 else L t) h5 (by simp; omega) (by simp; omega) (by simp [hA]) ?_ ?_) ?_
    · intro t h0 h1
      rw [setGet A x.f0 t x.f1 (by omega) h0 (by omega)]
      split
      · rfl
      · exact hL t h0 h1
    · intro t; split
      · omega
      · exact hb t
    · rw [e3]; simp only [spk]; rw [if_neg (by omega)]
theorem pyAll_l0 (p : List Int) (rep d r lst : Int) (l : List S60) {v : List S56 × List Int} (h : Ev (fun k => spec_pyAll.l1 k [] [] (List.replicate 20 (-40)) l (l.length : Int) 0 p rep d r lst) v) :
    ∀ (n i : Nat), i + n = 20 → Ev (fun k => spec_pyAll.l0 k l (List.replicate i (-40) ++ List.replicate n 0) 20 (i : Int) p rep d r lst) v := by
  intro n
  induction n with
  | zero =>
    intro i hi
    refine Ev.step (fun k => spec_pyAll.l0.eq_2 ..) (evNeg (by omega) ?_)
    rw [show i = 20 by omega]
    simpa using h
  | succ n ih =>
    intro i hi
    refine Ev.step (fun k => spec_pyAll.l0.eq_2 ..) (evPos (by omega) (evPos (by omega) (evPos (by simp; omega) ?_)))
    rw [List.replicate_succ, setAt _ _ _ _ _ (by simp), wrapi (by omega) (by omega), show (i : Int) + 1 = ((i + 1 : Nat) : Int) by omega]
    have := ih (i + 1) (by omega)
    rw [List.replicate_succ', List.append_assoc] at this
    exact this
theorem pyAll_ev {p : List Int} {rep d r lst : Int} {l : List S60} (hp : p.length ≤ 20) (hr : 1 ≤ rep ∧ rep ≤ 20) (ha : actn d r lst) (hg : goodSheet l = true) : Ev (fun k => spec_pyAll.f k p rep l d r lst) (spk p rep d r lst [] [] (fun _ => -40) l 0) := by
  have hl := goodSheet_len hg
  unfold spec_pyAll.f
  refine evPos (by omega) ?_
  simp only [Option.bind_some]
  have h1 := pyAll_l1 p rep d r lst hp hr ha l hl (goodSheet_hole hg) l [] [] [] (List.replicate 20 (-40)) (fun _ => -40) rfl (by simp) (by simp) (by simp) (fun t h0 h1 => by
    rw [List.getD_eq_getElem?_getD, List.getElem?_replicate, if_pos (by omega)]; rfl) (fun _ => by omega)
  have h0 := pyAll_l0 p rep d r lst l h1 20 0 (by omega)
  simpa using h0
theorem mhas_put (M : List (Int × Int)) (k v t : Int) : Mp.mhas (Mp.mput M k v) t = if t = k then true else Mp.mhas M t := by
  induction M with
  | nil => simp [Mp.mput, Mp.mhas]
  | cons q M ih =>
    by_cases c : k = q.1
    · subst c; by_cases e : t = q.1 <;> simp [Mp.mput, Mp.mhas, e]
    · by_cases e : t = q.1
      · have : ¬ t = k := fun z => c (by rw [← z, e])
        simp [Mp.mput, Mp.mhas, c, e, Ne.symm c]
      · simp [Mp.mput, Mp.mhas, c, e, ih]
theorem mget_put (M : List (Int × Int)) (k v t : Int) : Mp.mget 0 (Mp.mput M k v) t = if t = k then v else Mp.mget 0 M t := by
  induction M with
  | nil => simp [Mp.mput, Mp.mget]
  | cons q M ih =>
    by_cases c : k = q.1
    · subst c; by_cases e : t = q.1 <;> simp [Mp.mput, Mp.mget, e]
    · by_cases e : t = q.1
      · have : ¬ t = k := fun z => c (by rw [← z, e])
        simp [Mp.mput, Mp.mget, c, e, Ne.symm c]
      · simp [Mp.mput, Mp.mget, c, e, ih]
theorem spoken_l0 (p : List Int) (rep d r lst : Int) (_ : p.length ≤ 20) (hr : 1 ≤ rep ∧ rep ≤ 20) (ha : actn d r lst) (l : List S60) (hl : l.length ≤ 60) (hh : ∀ x, x ∈ l → hole x) : ∀ (suf pre : List S60) (out : List S56) (sil : List Int) (M : List (Int × Int)) (L : Int → Int), l = pre ++ suf → out.length ≤ pre.length → sil.length ≤ pre.length →
    (∀ t, (Mp.mhas M t = true → Mp.mget 0 M t = L t) ∧ (¬ Mp.mhas M t = true → L t = -40)) → (∀ t, -40 ≤ L t ∧ L t ≤ 2000) →
    Ev (fun k => impl_spoken.l0 k out sil l (l.length : Int) (pre.length : Int) p rep d r lst M) (spk p rep d r lst out sil L suf (pre.length : Int)) := by
  unfold actn at ha
  intro suf
  induction suf with
  | nil =>
    intro pre out sil M L h _ _ _ _
    refine Ev.step (fun k => impl_spoken.l0.eq_2 ..) ?_
    simp only [rgEnd h, if_false]
    exact Ev.now _
  | cons x suf ih =>
    intro pre out sil M L h ho hs hM hb
    obtain ⟨h1, h2, h3, h4, h5⟩ := rgHead h (by omega) z60
    have hx := hh x (by rw [h]; simp)
    unfold hole at hx
    have hpl : pre.length ≤ 60 := by omega
    have hLx := hb x.f0
    obtain ⟨hM1, hM2⟩ := hM x.f0
    have e3 : ((pre ++ [x]).length : Int) = (pre.length : Int) + 1 := by simp
    have bad : ∀ {q : Prop}, q → (q → x.f0 ≥ (p.length : Int) ∨ x.f2 - x.f1 < lst ∨ x.f1 - L x.f0 < 2 * rep ∨ x.f1 + d ≥ x.f2 + r) → Ev (fun k => if sil.length < 17592186044416 then impl_spoken.l0 k out (sil ++ [(pre.length : Int)]) l (l.length : Int) ((pre ++ [x]).length : Int) p rep d r lst M else none) (spk p rep d r lst out sil L (x :: suf) (pre.length : Int)) := by
      intro q hq hc
      refine evPos (by omega) (evEq (ih (pre ++ [x]) out (sil ++ [(pre.length : Int)]) M L h5 (by simp; omega) (by simp; omega) hM hb) ?_)
      rw [e3]; simp only [spk]; rw [if_pos (hc hq)]
    have good : ¬ x.f0 ≥ (p.length : Int) → ¬ x.f2 - x.f1 < lst → ¬ x.f1 - L x.f0 < 2 * rep → Ev (fun k => if x.f1 + d ≥ x.f2 + r then (if sil.length < 17592186044416 then impl_spoken.l0 k out (sil ++ [(pre.length : Int)]) l (l.length : Int) ((pre ++ [x]).length : Int) p rep d r lst M else none) else (if 0 ≤ x.f0 then (if x.f0 < (p.length : Int) then (if out.length < 5864062014805 then impl_spoken.l0 k (out ++ [⟨rd p x.f0, x.f1 + d, x.f2 + r⟩]) sil l (l.length : Int) ((pre ++ [x]).length : Int) p rep d r lst (Mp.mput M x.f0 x.f1) else none) else none) else none)) (spk p rep d r lst out sil L (x :: suf) (pre.length : Int)) := by
      intro c c1 c2
      refine evBy (fun c3 => bad c3 (fun q => .inr (.inr (.inr q)))) (fun c3 => evPos (by omega) (evPos (by omega) (evPos (by omega) ?_)))
      refine evEq (ih (pre ++ [x]) (out ++ [⟨rd p x.f0, x.f1 + d, x.f2 + r⟩]) sil (Mp.mput M x.f0 x.f1) (fun t => if t = x.f0 then x.f1 else L t) h5 (by simp; omega) (by simp; omega) ?_ ?_) ?_
      · intro t
        rw [mhas_put, mget_put]
        by_cases e : t = x.f0
        · simp [e]
        · simp only [if_neg e]; exact hM t
      · intro t; split
        · omega
        · exact hb t
      · rw [e3]; simp only [spk]; rw [if_neg (by omega)]
    refine Ev.step (fun k => impl_spoken.l0.eq_2 ..) ?_
    simp only [h1, h2, h3, rd_T60, h4, if_true]
    rw [wrapi (x := x.f2 - x.f1) (by omega) (by omega), wrapi (x := x.f1 + d) (by omega) (by omega), wrapi (x := x.f2 + r) (by omega) (by omega), wrapi (x := 2 * rep) (by omega) (by omega)]
    refine evBy (fun c => bad c .inl) (fun c => evBy (fun c1 => bad c1 (fun q => .inr (.inl q))) (fun c1 => evBy (fun c2 => ?_) (fun c2 => ?_)))
    · rw [hM1 c2, wrapi (x := x.f1 - L x.f0) (by omega) (by omega)]
      exact evBy (fun c3 => bad c3 (fun q => .inr (.inr (.inl q)))) (fun c3 => good c c1 c3)
    · exact good c c1 (by have := hM2 c2; omega)
theorem spoken_ev {p : List Int} {rep d r lst : Int} {l : List S60} (hp : p.length ≤ 20) (hr : 1 ≤ rep ∧ rep ≤ 20) (ha : actn d r lst) (hg : goodSheet l = true) : Ev (fun k => impl_spoken.f k p rep l d r lst) (spk p rep d r lst [] [] (fun _ => -40) l 0) := by
  unfold impl_spoken.f
  exact spoken_l0 p rep d r lst hp hr ha l (goodSheet_len hg) (goodSheet_hole hg) l [] [] [] [] (fun _ => -40) rfl (by simp) (by simp) (fun t => ⟨fun q => by simp [Mp.mhas] at q, fun _ => rfl⟩) (fun _ => by omega)
def asked (p : List Int) (rep : Int) (l : List S60) (d r lst : Int) : Bool := goodInst p rep && (goodSheet l && decide (actn d r lst))
theorem asked_iff {p : List Int} {rep : Int} {l : List S60} {d r lst : Int} : asked p rep l d r lst = true ↔ ((1 ≤ (p.length : Int) ∧ (p.length : Int) ≤ 20) ∧ ris 0 p = true ∧ (1 ≤ rep ∧ rep ≤ 20)) ∧ goodSheet l = true ∧ actn d r lst := by
  unfold asked; rw [Bool.and_eq_true, Bool.and_eq_true, decide_eq_true_eq, goodInst_iff]
theorem pyAsked_ev {p : List Int} (hp : p.length ≤ 1048576) (rep : Int) {l : List S60} (hl : l.length ≤ 1048576) (d r lst : Int) : Ev (fun k => spec_pyAsked.f k p rep l d r lst) (asked p rep l d r lst) := by
  unfold spec_pyAsked.f spec_laAsked.f asked
  simp only [pyAction_eq, Option.bind_some]
  refine Ev.bind (a := goodInst p rep && goodSheet l) (Ev.bind (inGood_ev hp rep) (evBy (fun c => Ev.bind (shGood_ev hl) (evNow (by rw [c, Bool.true_and]))) (fun c => evNow (by rw [Bool.eq_false_iff.mpr c, Bool.false_and])))) (evBy (fun c => evNow ?_) (fun c => evNow ?_))
  · rw [Bool.and_eq_true] at c; rw [c.1, c.2, Bool.true_and, Bool.true_and]
  · rw [← Bool.and_assoc, Bool.eq_false_iff.mpr c, Bool.false_and]
theorem canBe_ev {p : List Int} (hp : p.length ≤ 1048576) (rep : Int) {l : List S60} (hl : l.length ≤ 1048576) (d r lst : Int) : Ev (fun k => impl_canBePlayed.f k p rep l d r lst) (asked p rep l d r lst) := by
  unfold impl_canBePlayed.f asked
  simp only [isAction_eq, Option.bind_some]
  refine Ev.bind (isInst_ev hp rep) (evBy (fun c => Ev.bind (isSheet_ev hl) (evBy (fun c' => evNow ?_) (fun c' => evNow ?_))) (fun c => evNow ?_))
  · rw [c, c', Bool.true_and, Bool.true_and]
  · rw [Bool.eq_false_iff.mpr c', Bool.false_and, Bool.and_false]
  · rw [Bool.eq_false_iff.mpr c, Bool.false_and]
-- ** numtext
-- numbers in text
def txb (b : List UInt8) : ByteArray := ⟨b.toArray⟩
theorem txb_size (b : List UInt8) : (txb b).size = b.length := by simp [txb, ByteArray.size]
theorem txb_app (a b : List UInt8) : txb a ++ txb b = txb (a ++ b) := by
  have : (txb a ++ txb b).data = (txb (a ++ b)).data := by simp [txb]
  exact ByteArray.ext this
theorem dig_len : ∀ (n u : Nat), u < 10 ^ (n + 1) → (Go.Lib.decDigits u).length ≤ n + 1
  | 0, u, h => by rw [Go.Lib.decDigits, dif_pos (by simpa using h)]; simp
  | n + 1, u, h => by
    rw [Go.Lib.decDigits]
    split
    · simp
    · have := dig_len n (u / 10) (by rw [Nat.div_lt_iff_lt_mul (by omega)]; rw [Nat.pow_succ] at h; exact h)
      simp; omega
theorem dig_ten {u : Nat} (h : u ≤ 1000000000) : (Go.Lib.decDigits u).length ≤ 10 := dig_len 9 u (by omega)
theorem digit_eq (u : Nat) (h : u < 10) : strOfNums ([(wrap64 (48 + (u : Int))) % 256] : List Int) = txb [UInt8.ofNat (48 + u)] := by
  have e : (wrap64 (48 + (u : Int))) % 256 = ((48 + u : Nat) : Int) := by rw [wrapi (by omega) (by omega)]; omega
  rw [e]
  simp only [strOfNums, List.map_cons, List.map_nil, Int.toNat_natCast]
  rfl
theorem l1Num_ev : ∀ (u : Nat), u ≤ 1000000000 → Ev (fun k => spec_l1Num.f k (u : Int)) (txb (Go.Lib.decDigits u)) := by
  intro u
  induction u using Nat.strongRecOn with
  | ind u ih =>
    intro h
    refine Ev.step (fun k => spec_l1Num.f.eq_2 ..) ?_
    by_cases c : u < 10
    · refine evPos (by omega) (evNow ?_)
      rw [digit_eq u c, Go.Lib.decDigits, dif_pos c]
    · have e1 : wrap64 (Int.tdiv (u : Int) 10) = ((u / 10 : Nat) : Int) := by rw [Int.tdiv_eq_ediv_of_nonneg (by omega), wrapi (by omega) (by omega)]; omega
      have e2 : Int.tmod (u : Int) 10 = ((u % 10 : Nat) : Int) := by rw [Int.tmod_eq_emod_of_nonneg (by omega)]; omega
      have hl := dig_ten (u := u / 10) (by omega)
      rw [e1, e2]
      refine evNeg (by omega) (Ev.bind (ih (u / 10) (by omega) (by omega)) ?_)
      simp only [Option.bind_some]
      rw [digit_eq (u % 10) (by omega)]
      refine evPos (by rw [txb_size, txb_size]; simp; omega) (evNow ?_)
      rw [txb_app]
      conv => rhs; rw [Go.Lib.decDigits, dif_neg c]
theorem itoa_nat (u : Nat) : Go.Lib.itoa (u : Int) = Go.Lib.decDigits u := by
  unfold Go.Lib.itoa
  rw [if_neg (by omega), Int.toNat_natCast]
theorem numOf {x : Int} (h0 : 0 ≤ x) (h1 : x ≤ 1000000000) : Ev (fun k => spec_l1Num.f k x) (txb (Go.Lib.itoa x)) ∧ (Go.Lib.itoa x).length ≤ 10 := by
  have e : x = ((x.toNat : Nat) : Int) := by omega
  rw [e, itoa_nat]
  exact ⟨l1Num_ev x.toNat (by omega), dig_ten (by omega)⟩
def wordsTx (l : List Int) : List UInt8 := Go.Lib.join (l.map Go.Lib.itoa) [32]
theorem words_two (a b : Int) : wordsTx [a, b] = Go.Lib.itoa a ++ 32 :: Go.Lib.itoa b := by simp [wordsTx, Go.Lib.join, List.intercalate, List.intersperse]
theorem itoa_eq {x : Int} (h0 : 0 ≤ x) (h1 : x ≤ 1000000000) : strconv_Itoa.f x = some (txb (Go.Lib.itoa x)) := by
  unfold strconv_Itoa.f
  rw [if_pos (by omega)]; rfl
theorem words_ev (l : List Int) (hl : l.length ≤ 1000) (hb : ∀ x, x ∈ l → 0 ≤ x ∧ x ≤ 1000000000) (hj : (wordsTx l).length ≤ 140737488355328) : Ev (fun k => impl_words.f k l) (txb (wordsTx l)) := by
  unfold impl_words.f
  have go : ∀ (suf pre : List Int), l = pre ++ suf → Ev (fun k => impl_words.l0 k (pre.map fun x => txb (Go.Lib.itoa x)) l (l.length : Int) (pre.length : Int)) (txb (wordsTx l)) := by
    intro suf
    induction suf with
    | nil =>
      intro pre h
      have e : pre = l := by rw [h]; simp
      refine Ev.step (fun k => impl_words.l0.eq_2 ..) (evNeg (rgEnd h) ?_)
      have e2 : (l.map fun x => txb (Go.Lib.itoa x)).map (fun s => s.data.toList) = l.map Go.Lib.itoa := by
        rw [List.map_map]
        exact List.map_congr_left (fun x _ => by simp [txb])
      have ej : strings_Join.f (l.map fun x => txb (Go.Lib.itoa x)) (⟨#[32]⟩ : ByteArray) = some (txb (wordsTx l)) := by
        unfold strings_Join.f
        rw [e2]
        rw [if_pos ⟨by simp; omega, hj⟩]; rfl
      rw [e]
      exact evC ej (Ev.now _)
    | cons x suf ih =>
      intro pre h
      obtain ⟨h1, h2, h3, h4, h5⟩ := rgHead h (by omega) 0
      have hx := hb x (by rw [h]; simp)
      have hpl : pre.length ≤ l.length := by rw [h]; simp
      refine Ev.step (fun k => impl_words.l0.eq_2 ..) (evPos h1 (evPos h2 (evPos h1 ?_)))
      rw [show rd l (pre.length : Int) = x from h4, h3]
      refine evC (itoa_eq hx.1 hx.2) (evPos (by simp; omega) ?_)
      have := ih (pre ++ [x]) h5
      simp only [List.map_append, List.map_cons, List.map_nil] at this
      exact this
  exact go l [] rfl
theorem words2_ev {a b : Int} (ha : 0 ≤ a ∧ a ≤ 1000000000) (hb : 0 ≤ b ∧ b ≤ 1000000000) : Ev (fun k => impl_words.f k [a, b]) (txb (Go.Lib.itoa a ++ 32 :: Go.Lib.itoa b)) := by
  have h1 := (numOf ha.1 ha.2).2
  have h2 := (numOf hb.1 hb.2).2
  rw [← words_two]
  refine words_ev [a, b] (by simp) (fun x hx => ?_) (by rw [words_two]; simp; omega)
  simp at hx
  rcases hx with rfl | rfl
  · exact ha
  · exact hb
-- ** PlayedText_
theorem ris_in : ∀ {p : List Int} {a : Int}, ris a p = true → ∀ t, t ∈ p → 24 ≤ t ∧ t ≤ 96
  | [], _, _, t, ht => by simp at ht
  | x :: p, a, h, t, ht => by
    simp only [ris, Bool.and_eq_true, decide_eq_true_eq] at h
    rcases List.mem_cons.1 ht with r | r
    · subst r; exact h.1
    · exact ris_in h.2.2 t r
theorem rdIn {p : List Int} {i : Int} (h0 : 0 ≤ i) (h1 : i < (p.length : Int)) : rd p i ∈ p := by
  unfold rd
  rw [List.getD_eq_getElem?_getD, List.getElem?_eq_getElem (by omega)]
  exact List.getElem_mem _
def ply (y : S56) : Prop := (24 ≤ y.f0 ∧ y.f0 ≤ 96) ∧ (0 ≤ y.f1 ∧ y.f1 ≤ 2040) ∧ (0 ≤ y.f2 ∧ y.f2 ≤ 2040)
theorem spk_ply (p : List Int) (rep d r lst : Int) (hp : ris 0 p = true) (ha : actn d r lst) : ∀ (l : List S60) (out : List S56) (sil : List Int) (L : Int → Int) (i : Int), (∀ x, x ∈ l → hole x) → (∀ y, y ∈ out → ply y) → ∀ y, y ∈ (spk p rep d r lst out sil L l i).1 → ply y
  | [], out, sil, L, i, _, h => by simpa [spk] using h
  | x :: l, out, sil, L, i, hh, h => by
    simp only [spk]; split
    · exact spk_ply p rep d r lst hp ha l _ _ _ _ (fun y hy => hh y (by simp [hy])) h
    · rename_i c
      have hx := hh x (by simp)
      unfold hole at hx
      have ha' := ha
      unfold actn at ha'
      refine spk_ply p rep d r lst hp ha l _ _ _ _ (fun y hy => hh y (by simp [hy])) (fun y hy => ?_)
      rcases List.mem_append.1 hy with q | q
      · exact h y q
      · rw [List.mem_singleton.1 q]
        have := ris_in hp (rd p x.f0) (rdIn (by omega) (by omega))
        unfold ply; dsimp only; omega
def namesP : List ByteArray := [⟨#[99]⟩, ⟨#[99, 35]⟩, ⟨#[100]⟩, ⟨#[100, 35]⟩, ⟨#[101]⟩, ⟨#[102]⟩, ⟨#[102, 35]⟩, ⟨#[103]⟩, ⟨#[103, 35]⟩, ⟨#[97]⟩, ⟨#[97, 35]⟩, ⟨#[98]⟩]
def nmP (i : Int) : List UInt8 := (rdOf ByteArray.empty namesP i).data.toList
theorem nmP_eq (i : Int) : rdOf ByteArray.empty namesP i = txb (nmP i) := by
  unfold nmP txb
  exact ByteArray.ext (by simp)
theorem nmP_lit (i : Int) : rdOf ByteArray.empty ([⟨#[99]⟩, ⟨#[99, 35]⟩, ⟨#[100]⟩, ⟨#[100, 35]⟩, ⟨#[101]⟩, ⟨#[102]⟩, ⟨#[102, 35]⟩, ⟨#[103]⟩, ⟨#[103, 35]⟩, ⟨#[97]⟩, ⟨#[97, 35]⟩, ⟨#[98]⟩] : List ByteArray) i = txb (nmP i) := nmP_eq i
theorem nmP_len {i : Int} (h0 : 0 ≤ i) (h1 : i < 12) : (nmP i).length ≤ 2 := by
  have : i = 0 ∨ i = 1 ∨ i = 2 ∨ i = 3 ∨ i = 4 ∨ i = 5 ∨ i = 6 ∨ i = 7 ∨ i = 8 ∨ i = 9 ∨ i = 10 ∨ i = 11 := by omega
  rcases this with rfl | rfl | rfl | rfl | rfl | rfl | rfl | rfl | rfl | rfl | rfl | rfl <;> decide
def nameTx (x : Int) : List UInt8 := nmP (x % 12) ++ Go.Lib.itoa (x / 12)
theorem nameTx_len {x : Int} (h : 24 ≤ x ∧ x ≤ 96) : (nameTx x).length ≤ 12 := by
  have h1 := nmP_len (i := x % 12) (by omega) (by omega)
  have h2 := (numOf (x := x / 12) (by omega) (by omega)).2
  simp [nameTx]; omega
theorem ntName_ev {x : Int} (h : 24 ≤ x ∧ x ≤ 96) : Ev (fun k => spec_ntName.f k x) (txb (nameTx x)) := by
  have h1 := nmP_len (i := x % 12) (by omega) (by omega)
  obtain ⟨n2, d2⟩ := numOf (x := x / 12) (by omega) (by omega)
  have e1 : Int.tmod x 12 = x % 12 := Int.tmod_eq_emod_of_nonneg (by omega)
  have e2 : wrap64 (Int.tdiv x 12) = x / 12 := by rw [Int.tdiv_eq_ediv_of_nonneg (by omega), wrapi (by omega) (by omega)]
  unfold spec_ntName.f spec_ntNames.f
  simp only [Option.bind_some, e1, e2]
  refine evPos (by omega) (evPos (by simp; omega) (Ev.bind n2 ?_))
  rw [nmP_lit]
  refine evPos (by rw [txb_size, txb_size]; omega) (evNow ?_)
  rw [txb_app]; rfl
theorem pitchName_ev {x : Int} (h : 24 ≤ x ∧ x ≤ 96) : Ev (fun _ => impl_pitchName.f x) (txb (nameTx x)) := by
  have h1 := nmP_len (i := x % 12) (by omega) (by omega)
  obtain ⟨n2, d2⟩ := numOf (x := x / 12) (by omega) (by omega)
  have e1 : Int.tmod x 12 = x % 12 := Int.tmod_eq_emod_of_nonneg (by omega)
  have e2 : wrap64 (Int.tdiv x 12) = x / 12 := by rw [Int.tdiv_eq_ediv_of_nonneg (by omega), wrapi (by omega) (by omega)]
  unfold impl_pitchName.f
  simp only [e1, e2]
  refine evPos (by omega) (evPos (by simp; omega) (evC (itoa_eq (by omega) (by omega)) ?_))
  rw [nmP_lit]
  refine evPos (by rw [txb_size, txb_size]; omega) (evNow ?_)
  rw [txb_app]; rfl
def plyLine (x : S56) : List UInt8 := ((nameTx x.f0 ++ [32]) ++ (Go.Lib.itoa x.f1 ++ 32 :: Go.Lib.itoa x.f2)) ++ [10]
def plyLines (l : List S56) : List UInt8 := l.flatMap plyLine
theorem plyLine_len {x : S56} (h : ply x) : (plyLine x).length ≤ 35 := by
  obtain ⟨h0, h1, h2⟩ := h
  have a0 := nameTx_len h0
  have a1 := (numOf (x := x.f1) (by omega) (by omega)).2
  have a2 := (numOf (x := x.f2) (by omega) (by omega)).2
  simp [plyLine]; omega
theorem plyLines_len : ∀ {l : List S56}, (∀ y, y ∈ l → ply y) → (plyLines l).length ≤ 35 * l.length
  | [], _ => by simp [plyLines]
  | x :: l, h => by
    have h1 := plyLine_len (h x (by simp))
    have h2 := plyLines_len (l := l) (fun y hy => h y (by simp [hy]))
    simp only [plyLines, List.flatMap_cons, List.length_append, List.length_cons] at h2 ⊢
    omega
theorem plyLines_snoc (l : List S56) (x : S56) : plyLines (l ++ [x]) = plyLines l ++ plyLine x := by simp [plyLines]
theorem tp1 : (⟨#[32]⟩ : ByteArray) = txb [32] := rfl
theorem tp2 : (⟨#[10]⟩ : ByteArray) = txb [10] := rfl
def plyTextRes (p : List Int) (rep : Int) (l : List S60) (d r lst : Int) : ByteArray × Bool := if asked p rep l d r lst = true then (txb (plyLines (spk p rep d r lst [] [] (fun _ => -40) l 0).1), true) else (⟨#[]⟩, false)
theorem specPtx_ev {p : List Int} (hp : p.length ≤ 1048576) (rep : Int) {l : List S60} (hl : l.length ≤ 1048576) (d r lst : Int) : Ev (fun k => spec_PlayedText.f k p rep l d r lst) (plyTextRes p rep l d r lst) := by
  unfold spec_PlayedText.f plyTextRes
  refine Ev.bind (pyAsked_ev hp rep hl d r lst) (evIte (fun c => ?_) (fun _ => Ev.now _))
  obtain ⟨⟨h1, hr, h2⟩, h3, h4⟩ := asked_iff.1 c
  refine Ev.bind (pyAll_ev (by omega) h2 h4 h3) ?_
  have hy := spk_ply p rep d r lst hr h4 l [] [] (fun _ => -40) 0 (goodSheet_hole h3) (by simp)
  have hlen := spk_len p rep d r lst l [] [] (fun _ => -40) 0
  have hsl := goodSheet_len h3
  simp only [List.length_nil, Nat.add_zero, Nat.zero_add] at hlen
  generalize hB : (spk p rep d r lst [] [] (fun _ => -40) l 0).1 = B at hy hlen
  have hBl : B.length ≤ 60 := by omega
  clear hlen
  have go : ∀ (suf pre : List S56), B = pre ++ suf → Ev (fun k => spec_PlayedText.l0 k (txb (plyLines pre)) B (B.length : Int) (pre.length : Int)) (txb (plyLines B), true) := by
    intro suf
    induction suf with
    | nil =>
      intro pre h
      refine Ev.step (fun k => spec_PlayedText.l0.eq_2 ..) (evNeg (rgEnd h) (evNow ?_))
      rw [h]; simp
    | cons x suf ih =>
      intro pre h
      obtain ⟨h1, h2, h3, h4, h5⟩ := rgHead h (by omega) z56
      obtain ⟨x0, x1, x2⟩ := hy x (by rw [h]; simp)
      have hpl : pre.length ≤ 60 := by rw [h] at hBl; simp at hBl; omega
      have l1 := plyLines_len (l := pre) (fun y hq => hy y (by rw [h]; simp [hq]))
      have n0 := nameTx_len x0
      obtain ⟨n1, d1⟩ := numOf (x := x.f1) (by omega) (by omega)
      obtain ⟨n2, d2⟩ := numOf (x := x.f2) (by omega) (by omega)
      refine Ev.step (fun k => spec_PlayedText.l0.eq_2 ..) ?_
      simp only [h1, h2, h3, rd_T56, h4, if_true, tp1, tp2]
      refine Ev.bind (ntName_ev x0) (evPos (by rw [txb_size]; omega) (Ev.bind n1 ?_))
      simp only [txb_app]
      refine evPos (by rw [txb_size, txb_size]; simp; omega) (evPos (by rw [txb_size]; simp; omega) (Ev.bind n2 ?_))
      simp only [txb_app]
      refine evPos (by rw [txb_size, txb_size]; simp; omega) (evPos (by rw [txb_size]; simp; omega) (evPos (by rw [txb_size, txb_size]; simp; omega) ?_))
      have e : plyLines pre ++ (nameTx x.f0 ++ [32] ++ Go.Lib.itoa x.f1 ++ [32] ++ Go.Lib.itoa x.f2 ++ [10]) = plyLines (pre ++ [x]) := by rw [plyLines_snoc]; simp [plyLine]
      rw [e]
      exact ih _ h5
  exact go B [] rfl
theorem implPtx_ev {p : List Int} (hp : p.length ≤ 1048576) (rep : Int) {l : List S60} (hl : l.length ≤ 1048576) (d r lst : Int) : Ev (fun k => impl_PlayedText.f k p rep l d r lst) (plyTextRes p rep l d r lst) := by
  unfold impl_PlayedText.f plyTextRes
  refine Ev.bind (canBe_ev hp rep hl d r lst) (evIte (fun c => ?_) (fun _ => Ev.now _))
  obtain ⟨⟨h1, hr, h2⟩, h3, h4⟩ := asked_iff.1 c
  refine Ev.bind (spoken_ev (by omega) h2 h4 h3) ?_
  have hy := spk_ply p rep d r lst hr h4 l [] [] (fun _ => -40) 0 (goodSheet_hole h3) (by simp)
  have hlen := spk_len p rep d r lst l [] [] (fun _ => -40) 0
  have hsl := goodSheet_len h3
  simp only [List.length_nil, Nat.add_zero, Nat.zero_add] at hlen
  generalize hB : (spk p rep d r lst [] [] (fun _ => -40) l 0).1 = B at hy hlen
  have hBl : B.length ≤ 60 := by omega
  clear hlen
  have go : ∀ (suf pre : List S56), B = pre ++ suf → Ev (fun k => impl_PlayedText.l0 k (txb (plyLines pre)) B (B.length : Int) (pre.length : Int)) (txb (plyLines B), true) := by
    intro suf
    induction suf with
    | nil =>
      intro pre h
      refine Ev.step (fun k => impl_PlayedText.l0.eq_2 ..) (evNeg (rgEnd h) (evNow ?_))
      rw [h]; simp
    | cons x suf ih =>
      intro pre h
      obtain ⟨h1, h2, h3, h4, h5⟩ := rgHead h (by omega) z56
      obtain ⟨x0, x1, x2⟩ := hy x (by rw [h]; simp)
      have hpl : pre.length ≤ 60 := by rw [h] at hBl; simp at hBl; omega
      have l1 := plyLines_len (l := pre) (fun y hq => hy y (by rw [h]; simp [hq]))
      have n0 := nameTx_len x0
      have w2 := words2_ev (a := x.f1) (b := x.f2) (by omega) (by omega)
      obtain ⟨n1, d1⟩ := numOf (x := x.f1) (by omega) (by omega)
      obtain ⟨n2, d2⟩ := numOf (x := x.f2) (by omega) (by omega)
      refine Ev.step (fun k => impl_PlayedText.l0.eq_2 ..) ?_
      simp only [h1, h2, h3, rd_T56, h4, if_true, tp1, tp2]
      refine Ev.bind (pitchName_ev x0) (evPos (by rw [txb_size]; omega) (Ev.bind w2 ?_))
      simp only [txb_app]
      refine evPos (by rw [txb_size, txb_size]; simp; omega) (evPos (by rw [txb_size]; simp; omega) (evPos (by rw [txb_size, txb_size]; simp; omega) ?_))
      have e : plyLines pre ++ (nameTx x.f0 ++ [32] ++ (Go.Lib.itoa x.f1 ++ 32 :: Go.Lib.itoa x.f2) ++ [10]) = plyLines (pre ++ [x]) := by rw [plyLines_snoc]; rfl
      rw [e]
      exact ih _ h5
  exact go B [] rfl
-- ** FnExactPlayedText
theorem FnExactPlayedText (l0_0 : List Int) (a0_1 : Int) (l1 : List S62) (a2_0 a2_1 a2_2 : Int) (w0 : Opn.Lst Opn.I64 l0_0) (_ : Opn.I64 a0_1) (w1 : Opn.Lst (fun x : S62 => Opn.I64 x.f0 ∧ Opn.I64 x.f1 ∧ Opn.I64 x.f2) l1) (_ : Opn.I64 a2_0) (_ : Opn.I64 a2_1) (_ : Opn.I64 a2_2) : ∃ k, laws_FnExactPlayedText.f k l0_0 a0_1 l1 a2_0 a2_1 a2_2 = some true := by
  refine Ev.rounds (g := fun k => laws_FnExactPlayedText.f k l0_0 a0_1 l1 a2_0 a2_1 a2_2) ?_
  unfold laws_FnExactPlayedText.f
  simp only [laws_toAction.f, Option.bind_some]
  rw [szInst_eq l0_0 a0_1 w0.1]
  simp only [Option.bind_some]
  by_cases c : l0_0.length ≤ 1048576
  · rw [if_pos c]
    refine evNeg (by omega) ?_
    rw [szHole_at l1 _ (by omega) (by omega) w1.1]
    simp only [Option.bind_some]
    by_cases c1 : (l1.length : Int) ≤ 1048576 - (l0_0.length : Int)
    · rw [if_pos c1]
      have hm : (l1.map cvHole).length ≤ 1048576 := by simp; omega
      refine evNeg (by omega) (Ev.bind (toInst_ev a0_1 c) (Ev.bind (toHole_ev l1 (by omega)) (Ev.bind (specPtx_ev c a0_1 hm a2_0 a2_1 a2_2) (Ev.bind (toInst_ev a0_1 c) (Ev.bind (toHole_ev l1 (by omega)) (Ev.bind (implPtx_ev c a0_1 hm a2_0 a2_1 a2_2) ?_))))))
      simp only [bne_self_eq_false, if_true]
      exact Ev.step (fun k => laws_FnExactPlayedText.j0.eq_2 ..) (evNeg (by simp) (Ev.bind (toInst_ev a0_1 c) (Ev.bind (eqInst_ev a0_1 c) (evPos rfl (Ev.bind (toHole_ev l1 (by omega)) (Ev.bind (eqHole_ev _ (by omega)) (evPos rfl (Ev.now _))))))))
    · rw [if_neg c1]
      exact evPos (by omega) (Ev.now _)
  · rw [if_neg c]
    exact evPos (by omega) (Ev.now _)
end Go.Proofs.YtjdkdbeenggfaaaDoor.Pure
