/- The program's PromisedTimes returns what the reference's returns, for all arguments.: the plain part: what the program computes and what the reference computes agree, for all arguments. No conditions beyond the arguments' own kinds. -/
import Derived.Test.YtjjjikdpegogcaaPRrx0
import Derived.Test.YtjjjikdpegogcaaPRrx1
import Derived.Test.YtjjjikdpegogcaaPRrx2
import Derived.Test.YtjjjikdpegogcaaPRrx3
import Derived.Test.YtjjjikdpegogcaaPRrx4
import Derived.Test.YtjjjikdpegogcaaPRrx5
import Derived.Test.YtjjjikdpegogcaaPRrx6
import Derived.Test.YtjjjikdpegogcaaPRrx7
import Derived.Test.YtjjjikdpegogcaaPRrx8
import Derived.Test.YtjjjikdpegogcaaOpn
namespace Go.Proofs.Ytjjjikdpegogcaa.Pure
open Go.RowKit Go.Proofs.Ytjjjikdpegogcaa.PRr Go.Proofs.YtjjjikdpegogcaaW.PrintWords Go.Proofs.YtjjjikdpegogcaaW.PrintLast Go.Proofs.YtjjjikdpegogcaaW.PrintMore
-- ** base
theorem wrapi {x : Int} (h0 : -9223372036854775808 ≤ x) (h1 : x ≤ 9223372036854775807) : wrap64 x = x := by unfold wrap64; omega
theorem evPos {α : Type} {c : Prop} [Decidable c] {g f : Nat → Option α} {r : α} (h : c) (e : Ev g r) : Ev (fun k => if c then g k else f k) r := by
  simp only [if_pos h]; exact e
theorem evNeg {α : Type} {c : Prop} [Decidable c] {g f : Nat → Option α} {r : α} (h : ¬ c) (e : Ev f r) : Ev (fun k => if c then g k else f k) r := by
  simp only [if_neg h]; exact e
theorem evNow {α : Type} {r q : α} (h : r = q) : Ev (fun _ => some r) q := by subst h; exact Ev.now r
theorem evEq {α : Type} {g : Nat → Option α} {r q : α} (h : Ev g r) (e : r = q) : Ev g q := e ▸ h
theorem evIte {α : Type} {c : Prop} [Decidable c] {g f : Nat → Option α} {r q : α} (h : c → Ev g r) (h' : ¬ c → Ev f q) : Ev (fun k => if c then g k else f k) (if c then r else q) := by
  by_cases hc : c
  · simp only [if_pos hc]; exact h hc
  · simp only [if_neg hc]; exact h' hc
theorem evBy {α : Type} {c : Prop} [Decidable c] {g f : Nat → Option α} {r : α} (h : c → Ev g r) (h' : ¬ c → Ev f r) : Ev (fun k => if c then g k else f k) r := by
  by_cases hc : c
  · simp only [if_pos hc]; exact h hc
  · simp only [if_neg hc]; exact h' hc
theorem someT {p : Prop} [Decidable p] (h : p) : some true = some (decide p) := by rw [decide_eq_true h]
theorem someF {p : Prop} [Decidable p] (h : ¬ p) : some false = some (decide p) := by rw [decide_eq_false h]
theorem someD {p q : Prop} [Decidable p] [Decidable q] (h : p ↔ q) : some (decide p) = some (decide q) := by rw [decide_eq_decide.mpr h]
theorem decD {p q : Prop} [Decidable p] [Decidable q] (h : p ↔ q) : decide p = decide q := decide_eq_decide.mpr h
theorem allBad {α : Type} {p : α → Bool} {x : α} {suf : List α} {q : Bool} (h : p x = false) : false = ((x :: suf).all p && q) := by simp [h]
theorem allGood {α : Type} {p : α → Bool} {x : α} {suf : List α} {q : Bool} (h : p x = true) : (suf.all p && q) = ((x :: suf).all p && q) := by simp [h]
theorem rgEnd {α : Type} {l pre : List α} (h : l = pre ++ []) : ¬ ((pre.length : Int) < (l.length : Int)) := by subst h; simp
theorem rgHead {α : Type} {l pre suf : List α} {x : α} (h : l = pre ++ x :: suf) (hl : l.length ≤ 4611686018427387904) (z : α) :
    (pre.length : Int) < (l.length : Int) ∧ (0 : Int) ≤ (pre.length : Int) ∧ wrap64 ((pre.length : Int) + 1) = ((pre ++ [x]).length : Int) ∧ l.getD (pre.length : Int).toNat z = x ∧ l = (pre ++ [x]) ++ suf := by
  subst h
  simp at hl
  refine ⟨by simp; omega, by omega, ?_, by simp, by simp⟩
  rw [wrapi (by omega) (by omega)]; simp
theorem in_eq (a b c : Int) : spec_l1In.f a b c = some (decide (b ≤ a ∧ a ≤ c)) := by
  unfold spec_l1In.f
  split
  · exact someD (by omega)
  · exact someF (by omega)
-- ** lists
theorem setAt {α : Type} (A B : List α) (z v : α) (n : Nat) (h : n = A.length) : (A ++ z :: B).set n v = A ++ v :: B := by subst h; simp
theorem getAt {α : Type} (A B : List α) (z v : α) (n : Nat) (h : n = A.length) : (A ++ v :: B).getD n z = v := by subst h; simp
-- ** notelaw
def cvNote (x : S84) : S82 := ⟨x.f0, x.f1, x.f2⟩
theorem szNote_eq (l : List S84) (h : l.length ≤ 9223372036854775807) : laws_szNoteS.f l 1048576 = some (if l.length ≤ 1048576 then 1048576 - (l.length : Int) else -1) := by
  unfold laws_szNoteS.f
  rw [wrapi (by omega) (by omega)]
  by_cases c : l.length ≤ 1048576
  · rw [if_neg (by omega), if_pos c]
  · rw [if_pos (by omega), if_neg c]
theorem toNote_l0 (l : List S84) (hl : l.length ≤ 1048576) : ∀ (suf pre : List S84), l = pre ++ suf →
    Ev (fun k => laws_toNoteS.l0 k l (pre.map cvNote ++ List.replicate suf.length z82) (pre.length : Int)) (l.map cvNote) := by
  intro suf
  induction suf with
  | nil =>
    intro pre h
    refine Ev.step (fun k => laws_toNoteS.l0.eq_2 ..) ?_
    simp only [rgEnd h, if_false]
    exact evNow (by subst h; simp)
  | cons x suf ih =>
    intro pre h
    obtain ⟨h1, h2, h3, h4, h5⟩ := rgHead h (by omega) z84
    refine Ev.step (fun k => laws_toNoteS.l0.eq_2 ..) ?_
    simp only [h1, h2, h3, rd_T84, h4, if_true, laws_toNote.f, Option.bind_some]
    refine evPos (by simp; omega) ?_
    have e : (pre.map cvNote ++ List.replicate (x :: suf).length z82).set (pre.length : Int).toNat ⟨x.f0, x.f1, x.f2⟩ = (pre ++ [x]).map cvNote ++ List.replicate suf.length z82 := by
      rw [List.length_cons, List.replicate_succ, setAt _ _ _ _ _ (by simp)]
      simp [cvNote]
    rw [e]
    exact ih _ h5
theorem toNote_ev (l : List S84) (hl : l.length ≤ 1048576) : Ev (fun k => laws_toNoteS.f k l) (l.map cvNote) := by
  unfold laws_toNoteS.f
  refine evPos (by omega) (evPos (by omega) ?_)
  have := toNote_l0 l hl l [] rfl
  simpa using this
theorem eqNote_l0 (l : List S82) (hl : l.length ≤ 4611686018427387904) : ∀ (suf pre : List S82), l = pre ++ suf → Ev (fun k => laws_eqNoteS.l0 k l l (pre.length : Int)) true := by
  intro suf
  induction suf with
  | nil =>
    intro pre h
    refine Ev.step (fun k => laws_eqNoteS.l0.eq_2 ..) ?_
    simp only [rgEnd h, if_false]
    exact Ev.now _
  | cons x suf ih =>
    intro pre h
    obtain ⟨h1, h2, h3, h4, h5⟩ := rgHead h hl z82
    refine Ev.step (fun k => laws_eqNoteS.l0.eq_2 ..) ?_
    simp only [h1, h2, h3, if_true, laws_eqNote.f, Option.bind_some]
    exact ih _ h5
theorem eqNote_ev (l : List S82) (hl : l.length ≤ 4611686018427387904) : Ev (fun k => laws_eqNoteS.f k l l) true := by
  unfold laws_eqNoteS.f
  exact evPos rfl (eqNote_l0 l hl l [] rfl)
-- ** notemark
def mkNote : List S82 → Int → List S82
  | [], _ => []
  | _ :: l, k => ⟨k, k + 1, k + 2⟩ :: mkNote l (k + 3)
theorem markNote_l0 : ∀ (suf pre : List S82) (k : Int), pre.length + suf.length ≤ 1048576 → 0 ≤ k → k ≤ 1000000000 + 3 * (pre.length : Int) →
    Ev (fun n => laws_markNoteS.l0 n (pre ++ suf) k (pre.length : Int)) (k + 3 * (suf.length : Int), pre ++ mkNote suf k) := by
  intro suf
  induction suf with
  | nil =>
    intro pre k hl h0 hk
    refine Ev.step (fun k => laws_markNoteS.l0.eq_2 ..) ?_
    simp only [rgEnd (l := pre ++ []) (pre := pre) rfl, if_false]
    exact evNow (by simp [mkNote])
  | cons x suf ih =>
    intro pre k hl h0 hk
    obtain ⟨h1, h2, h3, h4, h5⟩ := rgHead (l := pre ++ x :: suf) (pre := pre) rfl (by simp at hl ⊢; omega) z82
    simp at hl
    refine Ev.step (fun k => laws_markNoteS.l0.eq_2 ..) ?_
    simp only [h1, h2, h3, rd_T82, h4, if_true, Option.bind_some]
    rw [setAt _ _ _ _ _ (by simp), getAt _ _ _ _ _ (by simp), setAt _ _ _ _ _ (by simp), getAt _ _ _ _ _ (by simp), setAt _ _ _ _ _ (by simp), wrapi (x := k + 1) (by omega) (by omega), wrapi (x := k + 1 + 1) (by omega) (by omega), wrapi (x := k + 1 + 1 + 1) (by omega) (by omega)]
    dsimp only
    have := ih (pre ++ [⟨k, k + 1, k + 2⟩]) (k + 3) (by simp; omega) (by omega) (by simp; omega)
    simp only [List.append_assoc, List.singleton_append] at this
    have e : ((pre ++ [x]).length : Int) = ((pre ++ [⟨k, k + 1, k + 2⟩] : List S82).length : Int) := by simp
    rw [e, show k + 1 + 1 + 1 = k + 3 by omega, show k + 1 + 1 = k + 2 by omega]
    exact evEq this (by simp [mkNote]; omega)
theorem markNote_at (l : List S82) (k : Int) (hl : l.length ≤ 1048576) (h0 : 0 ≤ k) (hk : k ≤ 1000000000) : Ev (fun n => laws_markNoteS.f n l k) (k + 3 * (l.length : Int), mkNote l k) := by
  unfold laws_markNoteS.f
  exact markNote_l0 l [] k (by simpa using hl) h0 (by simpa using hk)
theorem markNote_ev (l : List S82) (hl : l.length ≤ 1048576) : Ev (fun n => laws_markNoteS.f n l 1) (1 + 3 * (l.length : Int), mkNote l 1) := markNote_at l 1 hl (by omega) (by omega)
-- ** intmark
def mkInt : List Int → Int → List Int
  | [], _ => []
  | _ :: l, k => k :: mkInt l (k + 1)
theorem mkInt_length : ∀ (l : List Int) (k : Int), (mkInt l k).length = l.length
  | [], _ => rfl
  | _ :: l, k => by simp [mkInt, mkInt_length l]
theorem markInt_l0 : ∀ (suf pre : List Int) (k : Int), pre.length + suf.length ≤ 1048576 → 0 ≤ k → k + (suf.length : Int) ≤ 4611686018427387904 →
    Ev (fun n => laws_markIntS.l0 n (pre ++ suf) k (pre.length : Int)) (k + (suf.length : Int), pre ++ mkInt suf k) := by
  intro suf
  induction suf with
  | nil =>
    intro pre k hl h0 hk
    refine Ev.step (fun k => laws_markIntS.l0.eq_2 ..) ?_
    simp only [rgEnd (l := pre ++ []) (pre := pre) rfl, if_false]
    exact evNow (by simp [mkInt])
  | cons x suf ih =>
    intro pre k hl h0 hk
    obtain ⟨h1, h2, h3, h4, h5⟩ := rgHead (l := pre ++ x :: suf) (pre := pre) rfl (by simp at hl ⊢; omega) 0
    simp at hl hk
    refine Ev.step (fun k => laws_markIntS.l0.eq_2 ..) ?_
    simp only [h1, h2, h3, if_true]
    rw [setAt _ _ _ _ _ (by simp), wrapi (by omega) (by omega)]
    have := ih (pre ++ [k]) (k + 1) (by simp; omega) (by omega) (by omega)
    simp only [List.append_assoc, List.singleton_append] at this
    have e : ((pre ++ [x]).length : Int) = ((pre ++ [k] : List Int).length : Int) := by simp
    rw [e]
    exact evEq this (by simp [mkInt]; omega)
theorem markInt_at (l : List Int) (k : Int) (hl : l.length ≤ 1048576) (h0 : 0 ≤ k) (hk : k ≤ 1000000000) : Ev (fun n => laws_markIntS.f n l k) (k + (l.length : Int), mkInt l k) := by
  unfold laws_markIntS.f
  exact markInt_l0 l [] k (by simpa using hl) h0 (by omega)
theorem heldInt_l0 : ∀ (suf pre : List Int) (k : Int), pre.length + suf.length ≤ 1048576 → 0 ≤ k → k + (suf.length : Int) ≤ 4611686018427387904 →
    Ev (fun n => laws_heldIntS.l0 n (pre ++ mkInt suf k) k (pre.length : Int)) (k + (suf.length : Int)) := by
  intro suf
  induction suf with
  | nil =>
    intro pre k hl h0 hk
    refine Ev.step (fun k => laws_heldIntS.l0.eq_2 ..) ?_
    simp only [mkInt, rgEnd (l := pre ++ []) (pre := pre) rfl, if_false]
    exact evNow (by simp)
  | cons x suf ih =>
    intro pre k hl h0 hk
    simp only [mkInt]
    simp at hl hk
    obtain ⟨h1, h2, h3, h4, h5⟩ := rgHead (l := pre ++ k :: mkInt suf (k + 1)) (pre := pre) rfl (by simp [mkInt_length]; omega) 0
    refine Ev.step (fun k => laws_heldIntS.l0.eq_2 ..) ?_
    simp only [h1, h2, h3, rd, h4, if_true]
    rw [wrapi (by omega) (by omega), h5]
    refine evEq (ih (pre ++ [k]) (k + 1) (by simp; omega) (by omega) (by omega)) (by simp; omega)
theorem heldInt_at (l : List Int) (k : Int) (hl : l.length ≤ 1048576) (h0 : 0 ≤ k) (hk : k ≤ 1000000000) : Ev (fun n => laws_heldIntS.f n (mkInt l k) k) (k + (l.length : Int)) := by
  unfold laws_heldIntS.f
  exact heldInt_l0 l [] k (by simpa using hl) h0 (by omega)
-- ** intlaw
theorem eqInt_l0 (l : List Int) (hl : l.length ≤ 4611686018427387904) : ∀ (suf pre : List Int), l = pre ++ suf → Ev (fun k => laws_eqIntS.l0 k l l (pre.length : Int)) true := by
  intro suf
  induction suf with
  | nil =>
    intro pre h
    refine Ev.step (fun k => laws_eqIntS.l0.eq_2 ..) ?_
    simp only [rgEnd h, if_false]
    exact Ev.now _
  | cons x suf ih =>
    intro pre h
    obtain ⟨h1, h2, h3, h4, h5⟩ := rgHead h hl 0
    refine Ev.step (fun k => laws_eqIntS.l0.eq_2 ..) ?_
    simp only [h1, h2, h3, if_true]
    exact ih _ h5
theorem eqInt_ev (l : List Int) (hl : l.length ≤ 4611686018427387904) : Ev (fun k => laws_eqIntS.f k l l) true := by
  unfold laws_eqIntS.f
  exact evPos rfl (eqInt_l0 l hl l [] rfl)
-- ** intss
def tot : List (List Int) → Nat
  | [] => 0
  | r :: l => r.length + tot l
def mkSS : List (List Int) → Int → List (List Int)
  | [], _ => []
  | r :: l, k => mkInt r k :: mkSS l (k + (r.length : Int))
theorem mkSS_length : ∀ (l : List (List Int)) (k : Int), (mkSS l k).length = l.length
  | [], _ => rfl
  | _ :: l, k => by simp [mkSS, mkSS_length l]
theorem tot_le : ∀ (l : List (List Int)) (n : Nat), (∀ r, r ∈ l → r.length ≤ n) → tot l ≤ n * l.length
  | [], n, _ => by simp [tot]
  | r :: l, n, h => by
    have h1 := h r (by simp)
    have h2 := tot_le l n (fun q hq => h q (by simp [hq]))
    rw [List.length_cons, Nat.mul_succ]
    simp only [tot]; omega
theorem markSS_l0 : ∀ (suf pre : List (List Int)) (k : Int), pre.length + suf.length ≤ 1048576 → (∀ r, r ∈ suf → r.length ≤ 1048576) → 0 ≤ k → k + (tot suf : Int) ≤ 1000000000 →
    Ev (fun n => laws_markIntSS.l0 n (pre ++ suf) k (pre.length : Int)) (k + (tot suf : Int), pre ++ mkSS suf k) := by
  intro suf
  induction suf with
  | nil =>
    intro pre k hl hr h0 hk
    refine Ev.step (fun k => laws_markIntSS.l0.eq_2 ..) ?_
    simp only [rgEnd (l := pre ++ []) (pre := pre) rfl, if_false]
    exact evNow (by simp [mkSS, tot])
  | cons x suf ih =>
    intro pre k hl hr h0 hk
    obtain ⟨h1, h2, h3, h4, h5⟩ := rgHead (l := pre ++ x :: suf) (pre := pre) rfl (by simp at hl ⊢; omega) []
    simp only [tot] at hk
    simp at hl
    have hx := hr x (by simp)
    refine Ev.step (fun k => laws_markIntSS.l0.eq_2 ..) ?_
    simp only [h1, h2, h3, h4, if_true]
    refine Ev.bind (markInt_at x k hx h0 (by omega)) ?_
    dsimp only
    rw [setAt _ _ _ _ _ (by simp)]
    have := ih (pre ++ [mkInt x k]) (k + (x.length : Int)) (by simp; omega) (fun r hq => hr r (by simp [hq])) (by omega) (by omega)
    simp only [List.append_assoc, List.singleton_append] at this
    have e : ((pre ++ [x]).length : Int) = ((pre ++ [mkInt x k] : List (List Int)).length : Int) := by simp
    rw [e]
    exact evEq this (by simp [mkSS, tot]; omega)
theorem markSS_ev (l : List (List Int)) (hl : l.length ≤ 100000) (hr : ∀ r, r ∈ l → r.length ≤ 1000) : Ev (fun n => laws_markIntSS.f n l 1) (1 + (tot l : Int), mkSS l 1) := by
  have := tot_le l 1000 hr
  unfold laws_markIntSS.f
  exact markSS_l0 l [] 1 (by simp; omega) (fun r h => by have := hr r h; omega) (by omega) (by omega)
theorem heldSS_l0 : ∀ (suf pre : List (List Int)) (k : Int), pre.length + suf.length ≤ 1048576 → (∀ r, r ∈ suf → r.length ≤ 1048576) → 0 ≤ k → k + (tot suf : Int) ≤ 1000000000 →
    Ev (fun n => laws_heldIntSS.l0 n (pre ++ mkSS suf k) k (pre.length : Int)) (k + (tot suf : Int)) := by
  intro suf
  induction suf with
  | nil =>
    intro pre k hl hr h0 hk
    refine Ev.step (fun k => laws_heldIntSS.l0.eq_2 ..) ?_
    simp only [mkSS, rgEnd (l := pre ++ []) (pre := pre) rfl, if_false]
    exact evNow (by simp [tot])
  | cons x suf ih =>
    intro pre k hl hr h0 hk
    simp only [mkSS]
    simp only [tot] at hk
    simp at hl
    have hx := hr x (by simp)
    obtain ⟨h1, h2, h3, h4, h5⟩ := rgHead (l := pre ++ mkInt x k :: mkSS suf (k + (x.length : Int))) (pre := pre) rfl (by simp [mkSS_length]; omega) []
    refine Ev.step (fun k => laws_heldIntSS.l0.eq_2 ..) ?_
    simp only [h1, h2, h3, rd_L3, h4, if_true]
    refine Ev.bind (heldInt_at x k hx h0 (by omega)) (evNeg (by omega) ?_)
    rw [h5]
    refine evEq (ih (pre ++ [mkInt x k]) (k + (x.length : Int)) (by simp; omega) (fun r hq => hr r (by simp [hq])) (by omega) (by omega)) (by simp only [tot]; omega)
theorem heldSS_ev (l : List (List Int)) (hl : l.length ≤ 100000) (hr : ∀ r, r ∈ l → r.length ≤ 1000) : Ev (fun n => laws_heldIntSS.f n (mkSS l 1) 1) (1 + (tot l : Int)) := by
  have := tot_le l 1000 hr
  unfold laws_heldIntSS.f
  exact heldSS_l0 l [] 1 (by simp; omega) (fun r h => by have := hr r h; omega) (by omega) (by omega)
theorem eqSS_l0 (l : List (List Int)) (hl : l.length ≤ 100000) (hr : ∀ r, r ∈ l → r.length ≤ 1000) : ∀ (suf pre : List (List Int)), l = pre ++ suf → Ev (fun k => laws_eqIntSS.l0 k l l (pre.length : Int)) true := by
  intro suf
  induction suf with
  | nil =>
    intro pre h
    exact Ev.step (fun k => laws_eqIntSS.l0.eq_2 ..) (evNeg (rgEnd h) (Ev.now _))
  | cons x suf ih =>
    intro pre h
    have hx := hr x (by rw [h]; simp)
    obtain ⟨h1, h2, h3, h4, h5⟩ := rgHead h (by omega) []
    refine Ev.step (fun k => laws_eqIntSS.l0.eq_2 ..) ?_
    simp only [h1, h2, h3, rd_L3, h4, if_true]
    exact Ev.bind (eqInt_ev x (by omega)) (evPos rfl (ih _ h5))
theorem eqSS_ev {l : List (List Int)} (hl : l.length ≤ 100000) (hr : ∀ r, r ∈ l → r.length ≤ 1000) : Ev (fun k => laws_eqIntSS.f k l l) true := by
  unfold laws_eqIntSS.f
  exact evPos rfl (eqSS_l0 l hl hr l [] rfl)
-- ** score
def note (x : S82) : Prop := 24 ≤ x.f0 ∧ x.f0 ≤ 96 ∧ 0 ≤ x.f1 ∧ x.f1 ≤ 999 ∧ 1 ≤ x.f2 ∧ x.f2 ≤ 99
instance (x : S82) : Decidable (note x) := by unfold note; exact inferInstance
def nbef (a b : S82) : Prop := a.f1 < b.f1 ∨ (a.f1 = b.f1 ∧ a.f0 < b.f0)
instance (a b : S82) : Decidable (nbef a b) := by unfold nbef; exact inferInstance
def nfree (x y : S82) : Bool := !decide (y.f0 = x.f0 ∧ y.f1 + y.f2 > x.f1)
def nHead (pre : List S82) (x : S82) : Bool := decide (note x) && (decide (pre = [] ∨ nbef (pre.getD (pre.length - 1) z82) x) && pre.all (nfree x))
def nFrom : List S82 → List S82 → Bool
  | _, [] => true
  | pre, x :: suf => nHead pre x && nFrom (pre ++ [x]) suf
def goodScore (l : List S82) : Bool := nFrom [] l && decide (l.length ≤ 30)
theorem ntNote_eq (x : S82) : spec_ntNote.f x.f0 x.f1 x.f2 = some (decide (note x)) := by
  unfold spec_ntNote.f spec_ntPitch.f; simp only [in_eq, Option.bind_some, decide_eq_true_eq]
  split
  · split
    · exact someD (by unfold note; omega)
    · exact someF (by unfold note; omega)
  · exact someF (by unfold note; omega)
theorem isNote_eq (x : S82) : impl_IsNote.f x.f0 x.f1 x.f2 = some (decide (note x)) := by
  unfold impl_IsNote.f
  repeat' split
  all_goals first | exact someD (by unfold note; omega) | exact someF (by unfold note; omega)
theorem ntBefore_eq (a b : S82) : spec_ntBefore.f a.f0 a.f1 a.f2 b.f0 b.f1 b.f2 = some (decide (nbef a b)) := by
  unfold spec_ntBefore.f
  split
  · exact someT (by unfold nbef; omega)
  · split
    · exact someD (by unfold nbef; omega)
    · exact someF (by unfold nbef; omega)
theorem noteLess_eq (a b : S82) : impl_noteLess.f a.f0 a.f1 a.f2 b.f0 b.f1 b.f2 = some (decide (nbef a b)) := by
  unfold impl_noteLess.f
  split
  · exact someD (by unfold nbef; omega)
  · exact someD (by unfold nbef; omega)
theorem ntMeet_eq {x y : S82} (hx : note x) (hy : note y) (h : y.f1 ≤ x.f1) : spec_ntMeet.f x.f0 x.f1 x.f2 y.f0 y.f1 y.f2 = some (!nfree x y) := by
  unfold note at hx hy
  unfold spec_ntMeet.f nfree
  rw [Bool.not_not, wrapi (x := y.f1 + y.f2) (by omega) (by omega), wrapi (x := x.f1 + x.f2) (by omega) (by omega)]
  split
  · split
    · exact someD (by omega)
    · exact someF (by omega)
  · exact someF (by omega)
theorem lastAt (pre : List S82) (x : S82) : (pre ++ [x]).getD ((pre ++ [x]).length - 1) z82 = x := by simp
theorem ordNext {pre : List S82} {x : S82} (hS : ∀ y, y ∈ pre → y.f1 ≤ (pre.getD (pre.length - 1) z82).f1) (c : pre = [] ∨ nbef (pre.getD (pre.length - 1) z82) x) : ∀ y, y ∈ pre → y.f1 ≤ x.f1 := by
  intro y hy
  rcases c with rfl | c
  · simp at hy
  · have := hS y hy; unfold nbef at c; omega
theorem nfree_t {x y : S82} (h : ¬ (y.f0 = x.f0 ∧ y.f1 + y.f2 > x.f1)) : nfree x y = true := by unfold nfree; rw [decide_eq_false h]; rfl
theorem nfree_f {x y : S82} (h : y.f0 = x.f0 ∧ y.f1 + y.f2 > x.f1) : nfree x y = false := by unfold nfree; rw [decide_eq_true h]; rfl
theorem ntGood_l1 (l : List S82) (i : Int) (x : S82) (l' : List S82) (n : Int) (q : Bool) (hq : Ev (fun k => spec_ntGood.l0 k l l' n (wrap64 (i + 1))) q) (p : List S82) (hl : p.length ≤ 1048576) (hx : note x) (hp : ∀ y, y ∈ p → note y ∧ y.f1 ≤ x.f1) :
    ∀ (suf pre : List S82), p = pre ++ suf → Ev (fun k => spec_ntGood.l1 k l l' n i p (p.length : Int) (pre.length : Int) x.f0 x.f1 x.f2) (suf.all (nfree x) && q) := by
  intro suf
  induction suf with
  | nil =>
    intro pre h
    refine Ev.step (fun k => spec_ntGood.l1.eq_2 ..) ?_
    simp only [rgEnd h, if_false]
    exact evEq hq (by simp)
  | cons y suf ih =>
    intro pre h
    obtain ⟨h1, h2, h3, h4, h5⟩ := rgHead h (by omega) z82
    refine Ev.step (fun k => spec_ntGood.l1.eq_2 ..) ?_
    obtain ⟨hy, hyx⟩ := hp y (by rw [h]; simp)
    simp only [h1, h2, h3, rd_T82, h4, if_true, ntMeet_eq hx hy hyx, Option.bind_some]
    refine evBy (fun c => evNow (allBad (by simpa using c))) (fun c => evEq (ih _ h5) (allGood (by simpa using c)))
theorem ntGood_l0 (l : List S82) (hl : l.length ≤ 1048576) : ∀ (suf pre : List S82), l = pre ++ suf → (∀ y, y ∈ pre → note y) → (∀ y, y ∈ pre → y.f1 ≤ (pre.getD (pre.length - 1) z82).f1) → Ev (fun k => spec_ntGood.l0 k l l (l.length : Int) (pre.length : Int)) (nFrom pre suf && decide (l.length ≤ 30)) := by
  intro suf
  induction suf with
  | nil =>
    intro pre h _ _
    refine Ev.step (fun k => spec_ntGood.l0.eq_2 ..) ?_
    simp only [rgEnd h, if_false]
    exact evNow (by rw [nFrom, Bool.true_and]; exact decD (by omega))
  | cons x suf ih =>
    intro pre h hN hS
    obtain ⟨h1, h2, h3, h4, h5⟩ := rgHead h (by omega) z82
    have hpl : pre.length ≤ 1048576 := by omega
    have hj : ∀ b : Bool, b = !decide (pre = [] ∨ nbef (pre.getD (pre.length - 1) z82) x) → note x → Ev (fun k => spec_ntGood.j1 k l (pre.length : Int) l (l.length : Int) (pre.length : Int) b x.f0 x.f1 x.f2) (nFrom pre (x :: suf) && decide (l.length ≤ 30)) := by
      intro b hb hx
      refine Ev.step (fun k => spec_ntGood.j1.eq_2 ..) ?_
      by_cases c : pre = [] ∨ nbef (pre.getD (pre.length - 1) z82) x
      · rw [decide_eq_true c] at hb; subst hb
        refine evNeg (by simp) (evPos h2 (evPos (by omega) ?_))
        simp only [Option.bind_some]
        have e : l.take (pre.length : Int).toNat = pre := by rw [h]; simp
        rw [e]
        refine evEq (ntGood_l1 l (pre.length : Int) x l (l.length : Int) _ (by rw [h3]; exact ih _ h5 (fun y hy => (List.mem_append.1 hy).elim (hN y) (fun q => by rw [List.mem_singleton.1 q]; exact hx)) (fun y hy => by rw [lastAt]; exact (List.mem_append.1 hy).elim (ordNext hS c y) (fun q => by rw [List.mem_singleton.1 q]; omega))) pre (by omega) hx (fun y hy => ⟨hN y hy, ordNext hS c y hy⟩) pre [] rfl) ?_
        simp only [nFrom, nHead, decide_eq_true hx, decide_eq_true c, Bool.true_and, Bool.and_assoc]
      · rw [decide_eq_false c] at hb; subst hb
        refine evPos rfl (evNow ?_)
        simp only [nFrom, nHead, decide_eq_false c, Bool.false_and, Bool.and_false]
    refine Ev.step (fun k => spec_ntGood.l0.eq_2 ..) ?_
    simp only [h1, h2, rd_T82, h4, if_true, ntNote_eq, Option.bind_some, decide_eq_true_eq]
    refine evBy (fun hx => ?_) (fun hx => Ev.step (fun k => spec_ntGood.j1.eq_2 ..) (evPos rfl (evNow (by simp only [nFrom, nHead, decide_eq_false hx, Bool.false_and]))))
    by_cases c : 0 < pre.length
    · rw [wrapi (x := (pre.length : Int) - 1) (by omega) (by omega)]
      refine evPos (by omega) (evPos (by omega) (evPos (by omega) ?_))
      have e : l.getD ((pre.length : Int) - 1).toNat z82 = pre.getD (pre.length - 1) z82 := by
        rw [show ((pre.length : Int) - 1).toNat = pre.length - 1 by omega, h, List.getD_eq_getElem?_getD, List.getD_eq_getElem?_getD, List.getElem?_append_left (by omega)]
      rw [e, ntBefore_eq]
      simp only [Option.bind_some]
      refine hj _ ?_ hx
      congr 1
      refine decide_eq_decide.mpr ⟨fun r => .inr r, fun r => r.resolve_left (fun z => by rw [z] at c; simp at c)⟩
    · refine evNeg (by omega) (hj _ ?_ hx)
      have : pre = [] := List.eq_nil_of_length_eq_zero (by omega)
      rw [decide_eq_true (Or.inl this)]; rfl
theorem ntGood_ev {l : List S82} (hl : l.length ≤ 1048576) : Ev (fun k => spec_ntGood.f k l) (goodScore l) := ntGood_l0 l hl l [] rfl (by simp) (by simp)
theorem isScore_l1 (l : List S82) (i : Int) (x : S82) (l' : List S82) (n : Int) (q : Bool) (hq : Ev (fun k => impl_IsScore.l0 k l l' n (wrap64 (i + 1))) q) (p : List S82) (hl : p.length ≤ 1048576) (hp : ∀ y, y ∈ p → note y) :
    ∀ (suf pre : List S82), p = pre ++ suf → Ev (fun k => impl_IsScore.l1 k l l' n i p (p.length : Int) (pre.length : Int) x.f0 x.f1 x.f2) (suf.all (nfree x) && q) := by
  intro suf
  induction suf with
  | nil =>
    intro pre h
    refine Ev.step (fun k => impl_IsScore.l1.eq_2 ..) ?_
    simp only [rgEnd h, if_false]
    exact evEq hq (by simp)
  | cons y suf ih =>
    intro pre h
    obtain ⟨h1, h2, h3, h4, h5⟩ := rgHead h (by omega) z82
    refine Ev.step (fun k => impl_IsScore.l1.eq_2 ..) ?_
    have hy := hp y (by rw [h]; simp)
    unfold note at hy
    simp only [h1, h2, h3, rd_T82, h4, if_true, impl_noteEnd.f, Option.bind_some]
    rw [wrapi (x := y.f1 + y.f2) (by omega) (by omega)]
    refine evBy (fun c => evBy (fun c' => evNow (allBad (nfree_f ⟨c, c'⟩))) (fun c' => evEq (ih _ h5) (allGood (nfree_t (fun r => c' r.2))))) (fun c => evEq (ih _ h5) (allGood (nfree_t (fun r => c r.1))))
theorem isScore_l0 (l : List S82) (hl : l.length ≤ 1048576) : ∀ (suf pre : List S82), l = pre ++ suf → (∀ y, y ∈ pre → note y) → Ev (fun k => impl_IsScore.l0 k l l (l.length : Int) (pre.length : Int)) (nFrom pre suf) := by
  intro suf
  induction suf with
  | nil =>
    intro pre h _
    refine Ev.step (fun k => impl_IsScore.l0.eq_2 ..) ?_
    simp only [rgEnd h, if_false]
    exact evNow (by rw [nFrom])
  | cons x suf ih =>
    intro pre h hN
    obtain ⟨h1, h2, h3, h4, h5⟩ := rgHead h (by omega) z82
    have hpl : pre.length ≤ 1048576 := by omega
    have hj : ∀ b : Bool, b = !decide (pre = [] ∨ nbef (pre.getD (pre.length - 1) z82) x) → note x → Ev (fun k => impl_IsScore.j1 k l (pre.length : Int) l (l.length : Int) (pre.length : Int) b x.f0 x.f1 x.f2) (nFrom pre (x :: suf)) := by
      intro b hb hx
      refine Ev.step (fun k => impl_IsScore.j1.eq_2 ..) ?_
      by_cases c : pre = [] ∨ nbef (pre.getD (pre.length - 1) z82) x
      · rw [decide_eq_true c] at hb; subst hb
        refine evNeg (by simp) (evPos h2 (evPos (by omega) ?_))
        simp only [Option.bind_some]
        have e : l.take (pre.length : Int).toNat = pre := by rw [h]; simp
        rw [e]
        refine evEq (isScore_l1 l (pre.length : Int) x l (l.length : Int) _ (by rw [h3]; exact ih _ h5 (fun y hy => (List.mem_append.1 hy).elim (hN y) (fun q => by rw [List.mem_singleton.1 q]; exact hx))) pre (by omega) hN pre [] rfl) ?_
        simp only [nFrom, nHead, decide_eq_true hx, decide_eq_true c, Bool.true_and]
      · rw [decide_eq_false c] at hb; subst hb
        refine evPos rfl (evNow ?_)
        simp only [nFrom, nHead, decide_eq_false c, Bool.false_and, Bool.and_false]
    refine Ev.step (fun k => impl_IsScore.l0.eq_2 ..) ?_
    simp only [h1, h2, rd_T82, h4, if_true, isNote_eq, Option.bind_some, decide_eq_true_eq]
    refine evBy (fun hx => ?_) (fun hx => Ev.step (fun k => impl_IsScore.j1.eq_2 ..) (evPos rfl (evNow (by simp only [nFrom, nHead, decide_eq_false hx, Bool.false_and]))))
    by_cases c : 0 < pre.length
    · rw [wrapi (x := (pre.length : Int) - 1) (by omega) (by omega)]
      refine evPos (by omega) (evPos (by omega) (evPos (by omega) ?_))
      have e : l.getD ((pre.length : Int) - 1).toNat z82 = pre.getD (pre.length - 1) z82 := by
        rw [show ((pre.length : Int) - 1).toNat = pre.length - 1 by omega, h, List.getD_eq_getElem?_getD, List.getD_eq_getElem?_getD, List.getElem?_append_left (by omega)]
      rw [e, noteLess_eq]
      simp only [Option.bind_some]
      refine hj _ ?_ hx
      congr 1
      refine decide_eq_decide.mpr ⟨fun r => .inr r, fun r => r.resolve_left (fun z => by rw [z] at c; simp at c)⟩
    · refine evNeg (by omega) (hj _ ?_ hx)
      have : pre = [] := List.eq_nil_of_length_eq_zero (by omega)
      rw [decide_eq_true (Or.inl this)]; rfl
theorem isScore_ev {l : List S82} (hl : l.length ≤ 1048576) : Ev (fun k => impl_IsScore.f k l) (goodScore l) := by
  unfold impl_IsScore.f goodScore
  refine evBy (fun c => evNow ?_) (fun c => evEq (isScore_l0 l hl l [] rfl (by simp)) ?_)
  · rw [show decide (l.length ≤ 30) = false from decide_eq_false (by omega), Bool.and_false]
  · rw [show decide (l.length ≤ 30) = true from decide_eq_true (by omega), Bool.and_true]
-- ** action
def actn (a b c : Int) : Prop := 0 ≤ a ∧ a ≤ 40 ∧ 0 ≤ b ∧ b ≤ 40 ∧ 0 ≤ c ∧ c ≤ 40
instance (a b c : Int) : Decidable (actn a b c) := by unfold actn; exact inferInstance
theorem pyAction_eq (a b c : Int) : spec_pyAction.f a b c = some (decide (actn a b c)) := by
  unfold spec_pyAction.f; simp only [in_eq, Option.bind_some, decide_eq_true_eq]
  repeat' split
  all_goals first | exact someD (by unfold actn; omega) | exact someF (by unfold actn; omega)
theorem isAction_eq (a b c : Int) : impl_IsAction.f a b c = some (decide (actn a b c)) := by
  unfold impl_IsAction.f
  repeat' split
  all_goals first | exact someD (by unfold actn; omega) | exact someF (by unfold actn; omega)
-- ** PromisedTimes_
def pmt (d m : Int) (x : S82) : List Int := [wrap64 ((wrap64 ((wrap64 (2 * x.f1)) + d)) - m), wrap64 ((wrap64 ((wrap64 (2 * x.f1)) + d)) + m)]
theorem vfTimes_l0 (d r lst m : Int) (l : List S82) (hl : l.length ≤ 1048576) : ∀ (suf pre : List S82), l = pre ++ suf →
    Ev (fun k => spec_vfTimes.l0 k m (pre.map (pmt d m)) l (l.length : Int) (pre.length : Int) d r lst) (l.map (pmt d m)) := by
  intro suf
  induction suf with
  | nil =>
    intro pre h
    exact Ev.step (fun k => spec_vfTimes.l0.eq_2 ..) (evNeg (rgEnd h) (evNow (by subst h; simp)))
  | cons x suf ih =>
    intro pre h
    obtain ⟨h1, h2, h3, h4, h5⟩ := rgHead h (by omega) z82
    have hp : pre.length ≤ 1048576 := by rw [h] at hl; simp at hl; omega
    refine Ev.step (fun k => spec_vfTimes.l0.eq_2 ..) ?_
    simp only [h1, h2, h3, rd_T82, h4, if_true]
    refine evPos (by simp; omega) ?_
    have := ih _ h5
    simp only [List.map_append, List.map_cons, List.map_nil] at this
    exact this
theorem prTimes_l0 (d r lst m : Int) (l : List S82) (hl : l.length ≤ 1048576) : ∀ (suf pre : List S82), l = pre ++ suf →
    Ev (fun k => impl_promisedTimes.l0 k m (pre.map (pmt d m)) l (l.length : Int) (pre.length : Int) d r lst) (l.map (pmt d m)) := by
  intro suf
  induction suf with
  | nil =>
    intro pre h
    exact Ev.step (fun k => impl_promisedTimes.l0.eq_2 ..) (evNeg (rgEnd h) (evNow (by subst h; simp)))
  | cons x suf ih =>
    intro pre h
    obtain ⟨h1, h2, h3, h4, h5⟩ := rgHead h (by omega) z82
    have hp : pre.length ≤ 1048576 := by rw [h] at hl; simp at hl; omega
    refine Ev.step (fun k => impl_promisedTimes.l0.eq_2 ..) ?_
    simp only [h1, h2, h3, rd_T82, h4, if_true]
    refine evPos (by simp; omega) ?_
    have := ih _ h5
    simp only [List.map_append, List.map_cons, List.map_nil] at this
    exact this
def pmRes (l : List S82) (d r lst m : Int) : List (List Int) × Bool := if goodScore l = true then (if decide (actn d r lst) = true then (if decide (0 ≤ m ∧ m ≤ 50) = true then (l.map (pmt d m), true) else ([], false)) else ([], false)) else ([], false)
theorem specPm_ev {l : List S82} (hl : l.length ≤ 1048576) (d r lst m : Int) : Ev (fun k => spec_PromisedTimes.f k l d r lst m) (pmRes l d r lst m) := by
  unfold spec_PromisedTimes.f pmRes spec_vfMost.f spec_vfTimes.f
  simp only [pyAction_eq, in_eq, Option.bind_some]
  exact Ev.bind (ntGood_ev hl) (evIte (fun _ => evIte (fun _ => evIte (fun _ => Ev.bind (vfTimes_l0 d r lst m l hl l [] rfl) (Ev.now _)) (fun _ => Ev.now _)) (fun _ => Ev.now _)) (fun _ => Ev.now _))
theorem tol_eq (m : Int) : impl_isTolerance.f m = some (decide (0 ≤ m ∧ m ≤ 50)) := by
  unfold impl_isTolerance.f
  split
  · exact someD (by omega)
  · exact someF (by omega)
theorem implPm_ev {l : List S82} (hl : l.length ≤ 1048576) (d r lst m : Int) : Ev (fun k => impl_PromisedTimes.f k l d r lst m) (pmRes l d r lst m) := by
  unfold impl_PromisedTimes.f pmRes impl_promisedTimes.f
  simp only [isAction_eq, tol_eq, Option.bind_some]
  exact Ev.bind (isScore_ev hl) (evIte (fun _ => evIte (fun _ => evIte (fun _ => Ev.bind (prTimes_l0 d r lst m l hl l [] rfl) (Ev.now _)) (fun _ => Ev.now _)) (fun _ => Ev.now _)) (fun _ => Ev.now _))
theorem goodScore_len {l : List S82} (h : goodScore l = true) : l.length ≤ 30 := by
  unfold goodScore at h
  rw [Bool.and_eq_true, decide_eq_true_eq] at h
  exact h.2
theorem pmRes_bd (l : List S82) (d r lst m : Int) : (pmRes l d r lst m).1.length ≤ 100000 ∧ ∀ q, q ∈ (pmRes l d r lst m).1 → q.length ≤ 1000 := by
  unfold pmRes
  split
  · rename_i c
    have := goodScore_len c
    split
    · split
      · refine ⟨by simp; omega, fun q hq => ?_⟩
        obtain ⟨x, _, rfl⟩ := List.mem_map.1 hq
        simp [pmt]
      · simp
    · simp
  · simp
-- ** FnExactPromisedTimes
theorem FnExactPromisedTimes (l0 : List S84) (a1_0 a1_1 a1_2 a2 : Int) (w0 : Opn.Lst (fun x : S84 => Opn.I64 x.f0 ∧ Opn.I64 x.f1 ∧ Opn.I64 x.f2) l0) (_ : Opn.I64 a1_0) (_ : Opn.I64 a1_1) (_ : Opn.I64 a1_2) (_ : Opn.I64 a2) : ∃ k, laws_FnExactPromisedTimes.f k l0 a1_0 a1_1 a1_2 a2 = some true := by
  refine Ev.rounds (g := fun k => laws_FnExactPromisedTimes.f k l0 a1_0 a1_1 a1_2 a2) ?_
  unfold laws_FnExactPromisedTimes.f
  simp only [laws_toAction.f, Option.bind_some]
  rw [szNote_eq l0 w0.1]
  simp only [Option.bind_some]
  by_cases c : l0.length ≤ 1048576
  · rw [if_pos c]
    have hm : (l0.map cvNote).length ≤ 1048576 := by simp; omega
    obtain ⟨hb, hr⟩ := pmRes_bd (l0.map cvNote) a1_0 a1_1 a1_2 a2
    refine evNeg (by omega) (Ev.bind (toNote_ev l0 c) (Ev.bind (specPm_ev hm a1_0 a1_1 a1_2 a2) (Ev.bind (toNote_ev l0 c) (Ev.bind (implPm_ev hm a1_0 a1_1 a1_2 a2) (Ev.bind (eqSS_ev hb hr) (evPos rfl ?_))))))
    simp only [bne_self_eq_false]
    refine Ev.step (fun k => laws_FnExactPromisedTimes.j0.eq_2 ..) (evNeg (by simp) (Ev.bind (toNote_ev l0 c) (Ev.bind (eqNote_ev _ (by omega)) (evPos rfl (Ev.bind (markNote_ev _ hm) (evNeg (by dsimp only; omega) (Ev.bind (eqSS_ev hb hr) (evPos rfl ?_))))))))
    simp only [bne_self_eq_false]
    refine Ev.step (fun k => laws_FnExactPromisedTimes.j1.eq_2 ..) ?_
    simp only [laws_toAction.f, Option.bind_some]
    refine evNeg (by simp) (Ev.bind (markSS_ev _ hb hr) (Ev.bind (heldSS_ev _ hb hr) (evNeg (by omega) (evPos rfl (Ev.bind (toNote_ev l0 c) (Ev.bind (implPm_ev hm a1_0 a1_1 a1_2 a2) (Ev.bind (eqSS_ev hb hr) (evPos rfl ?_))))))))
    simp only [bne_self_eq_false]
    exact Ev.step (fun k => laws_FnExactPromisedTimes.j2.eq_2 ..) (evNeg (by simp) (Ev.bind (heldSS_ev _ hb hr) (evNeg (by omega) (evPos rfl (Ev.now _)))))
  · rw [if_neg c]
    exact evPos (by omega) (Ev.now _)
end Go.Proofs.Ytjjjikdpegogcaa.Pure
