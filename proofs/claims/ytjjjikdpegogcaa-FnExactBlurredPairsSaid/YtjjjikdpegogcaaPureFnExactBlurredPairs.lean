/- The program's BlurredPairs returns what the reference's returns, for all arguments.: the plain part: what the program computes and what the reference computes agree, for all arguments. No conditions beyond the arguments' own kinds. -/
import Derived.Test.YtjjjikdpegogcaaPRrx0
import Derived.Test.YtjjjikdpegogcaaPRrx1
import Derived.Test.YtjjjikdpegogcaaPRrx2
import Derived.Test.YtjjjikdpegogcaaPRrx3
import Derived.Test.YtjjjikdpegogcaaPRrx4
import Derived.Test.YtjjjikdpegogcaaPRrx5
import Derived.Test.YtjjjikdpegogcaaPRrx6
import Derived.Test.YtjjjikdpegogcaaPRrx7
import Derived.Test.YtjjjikdpegogcaaPRrx9
import Derived.Test.YtjjjikdpegogcaaPRrx10
import Derived.Test.YtjjjikdpegogcaaPRrx11
import Derived.Test.YtjjjikdpegogcaaPRrx12
import Derived.Test.YtjjjikdpegogcaaPRrx13
import Derived.Test.YtjjjikdpegogcaaPRrx14
import Derived.Test.YtjjjikdpegogcaaPRrx15
import Derived.Test.YtjjjikdpegogcaaPRrx16
import Derived.Test.YtjjjikdpegogcaaPRrx17
import Derived.Test.YtjjjikdpegogcaaOpn
namespace Go.Proofs.Ytjjjikdpegogcaa.Pure
open Go.RowKit Go.Proofs.Ytjjjikdpegogcaa.PRr Go.Proofs.YtjjjikdpegogcaaW.PrintWords Go.Proofs.YtjjjikdpegogcaaW.PrintLast Go.Proofs.YtjjjikdpegogcaaW.PrintMore
-- ** base
theorem wrapi {x : Int} (h0 : -9223372036854775808 ≤ x) (h1 : x ≤ 9223372036854775807) : wrap64 x = x := by unfold wrap64; omega
theorem evPos {α : Type} {c : Prop} [Decidable c] {g f : Nat → Option α} {r : α} (h : c) (e : Ev g r) : Ev (fun k => if c then g k else f k) r := by
  simp only [if_pos h]; exact e
theorem evNeg {α : Type} {c : Prop} [Decidable c] {g f : Nat → Option α} {r : α} (h : ¬ c) (e : Ev f r) : Ev (fun k => if c then g k else f k) r := by
  simp only [if_neg h]; exact e
theorem evNow {α : Type} {r q : α} (h : r = q) : Ev (fun _ => some r) q := by subst h; exact Ev.now r
theorem evEq {α : Type} {g : Nat → Option α} {r q : α} (h : Ev g r) (e : r = q) : Ev g q := e ▸ h
theorem evIte {α : Type} {c : Prop} [Decidable c] {g f : Nat → Option α} {r q : α} (h : c → Ev g r) (h' : ¬ c → Ev f q) : Ev (fun k => if c then g k else f k) (if c then r else q) := by
  by_cases hc : c
  · simp only [if_pos hc]; exact h hc
  · simp only [if_neg hc]; exact h' hc
theorem evBy {α : Type} {c : Prop} [Decidable c] {g f : Nat → Option α} {r : α} (h : c → Ev g r) (h' : ¬ c → Ev f r) : Ev (fun k => if c then g k else f k) r := by
  by_cases hc : c
  · simp only [if_pos hc]; exact h hc
  · simp only [if_neg hc]; exact h' hc
theorem someT {p : Prop} [Decidable p] (h : p) : some true = some (decide p) := by rw [decide_eq_true h]
theorem someF {p : Prop} [Decidable p] (h : ¬ p) : some false = some (decide p) := by rw [decide_eq_false h]
theorem someD {p q : Prop} [Decidable p] [Decidable q] (h : p ↔ q) : some (decide p) = some (decide q) := by rw [decide_eq_decide.mpr h]
theorem decD {p q : Prop} [Decidable p] [Decidable q] (h : p ↔ q) : decide p = decide q := decide_eq_decide.mpr h
theorem allBad {α : Type} {p : α → Bool} {x : α} {suf : List α} {q : Bool} (h : p x = false) : false = ((x :: suf).all p && q) := by simp [h]
theorem allGood {α : Type} {p : α → Bool} {x : α} {suf : List α} {q : Bool} (h : p x = true) : (suf.all p && q) = ((x :: suf).all p && q) := by simp [h]
theorem rgEnd {α : Type} {l pre : List α} (h : l = pre ++ []) : ¬ ((pre.length : Int) < (l.length : Int)) := by subst h; simp
theorem rgHead {α : Type} {l pre suf : List α} {x : α} (h : l = pre ++ x :: suf) (hl : l.length ≤ 4611686018427387904) (z : α) :
    (pre.length : Int) < (l.length : Int) ∧ (0 : Int) ≤ (pre.length : Int) ∧ wrap64 ((pre.length : Int) + 1) = ((pre ++ [x]).length : Int) ∧ l.getD (pre.length : Int).toNat z = x ∧ l = (pre ++ [x]) ++ suf := by
  subst h
  simp at hl
  refine ⟨by simp; omega, by omega, ?_, by simp, by simp⟩
  rw [wrapi (by omega) (by omega)]; simp
theorem in_eq (a b c : Int) : spec_l1In.f a b c = some (decide (b ≤ a ∧ a ≤ c)) := by
  unfold spec_l1In.f
  split
  · exact someD (by omega)
  · exact someF (by omega)
theorem mx_eq (a b : Int) : mx a b = max a b := by unfold mx; omega
theorem mn_eq (a b : Int) : mn a b = min a b := by unfold mn; omega
-- ** szint
theorem szInt_eq (l : List Int) (b : Int) (hb : 0 ≤ b) (hb' : b ≤ 1048576) (h : l.length ≤ 9223372036854775807) : laws_szIntS.f l b = some (if (l.length : Int) ≤ b then b - (l.length : Int) else -1) := by
  unfold laws_szIntS.f
  rw [wrapi (by omega) (by omega)]
  by_cases c : (l.length : Int) ≤ b
  · rw [if_neg (by omega), if_pos c]
  · rw [if_pos (by omega), if_neg c]
-- ** lists
theorem setAt {α : Type} (A B : List α) (z v : α) (n : Nat) (h : n = A.length) : (A ++ z :: B).set n v = A ++ v :: B := by subst h; simp
theorem getAt {α : Type} (A B : List α) (z v : α) (n : Nat) (h : n = A.length) : (A ++ v :: B).getD n z = v := by subst h; simp
-- ** intlaw
theorem toInt_l0 (l : List Int) (hl : l.length ≤ 1048576) : ∀ (suf pre : List Int), l = pre ++ suf →
    Ev (fun k => laws_toIntS.l0 k l (pre ++ List.replicate suf.length 0) (pre.length : Int)) l := by
  intro suf
  induction suf with
  | nil =>
    intro pre h
    refine Ev.step (fun k => laws_toIntS.l0.eq_2 ..) ?_
    simp only [rgEnd h, if_false]
    exact evNow (by subst h; simp)
  | cons x suf ih =>
    intro pre h
    obtain ⟨h1, h2, h3, h4, h5⟩ := rgHead h (by omega) 0
    refine Ev.step (fun k => laws_toIntS.l0.eq_2 ..) ?_
    simp only [h1, h2, h3, rd, h4, if_true]
    refine evPos (by simp; omega) ?_
    have e : (pre ++ List.replicate (x :: suf).length 0).set (pre.length : Int).toNat x = (pre ++ [x]) ++ List.replicate suf.length 0 := by
      rw [List.length_cons, List.replicate_succ, setAt _ _ _ _ _ (by simp)]
      simp
    rw [e]
    exact ih _ h5
theorem toInt_ev (l : List Int) (hl : l.length ≤ 1048576) : Ev (fun k => laws_toIntS.f k l) l := by
  unfold laws_toIntS.f
  refine evPos (by omega) (evPos (by omega) ?_)
  have := toInt_l0 l hl l [] rfl
  simpa using this
theorem eqInt_l0 (l : List Int) (hl : l.length ≤ 4611686018427387904) : ∀ (suf pre : List Int), l = pre ++ suf → Ev (fun k => laws_eqIntS.l0 k l l (pre.length : Int)) true := by
  intro suf
  induction suf with
  | nil =>
    intro pre h
    refine Ev.step (fun k => laws_eqIntS.l0.eq_2 ..) ?_
    simp only [rgEnd h, if_false]
    exact Ev.now _
  | cons x suf ih =>
    intro pre h
    obtain ⟨h1, h2, h3, h4, h5⟩ := rgHead h hl 0
    refine Ev.step (fun k => laws_eqIntS.l0.eq_2 ..) ?_
    simp only [h1, h2, h3, if_true]
    exact ih _ h5
theorem eqInt_ev (l : List Int) (hl : l.length ≤ 4611686018427387904) : Ev (fun k => laws_eqIntS.f k l l) true := by
  unfold laws_eqIntS.f
  exact evPos rfl (eqInt_l0 l hl l [] rfl)
-- ** intmark
def mkInt : List Int → Int → List Int
  | [], _ => []
  | _ :: l, k => k :: mkInt l (k + 1)
theorem mkInt_length : ∀ (l : List Int) (k : Int), (mkInt l k).length = l.length
  | [], _ => rfl
  | _ :: l, k => by simp [mkInt, mkInt_length l]
theorem markInt_l0 : ∀ (suf pre : List Int) (k : Int), pre.length + suf.length ≤ 1048576 → 0 ≤ k → k + (suf.length : Int) ≤ 4611686018427387904 →
    Ev (fun n => laws_markIntS.l0 n (pre ++ suf) k (pre.length : Int)) (k + (suf.length : Int), pre ++ mkInt suf k) := by
  intro suf
  induction suf with
  | nil =>
    intro pre k hl h0 hk
    refine Ev.step (fun k => laws_markIntS.l0.eq_2 ..) ?_
    simp only [rgEnd (l := pre ++ []) (pre := pre) rfl, if_false]
    exact evNow (by simp [mkInt])
  | cons x suf ih =>
    intro pre k hl h0 hk
    obtain ⟨h1, h2, h3, h4, h5⟩ := rgHead (l := pre ++ x :: suf) (pre := pre) rfl (by simp at hl ⊢; omega) 0
    simp at hl hk
    refine Ev.step (fun k => laws_markIntS.l0.eq_2 ..) ?_
    simp only [h1, h2, h3, if_true]
    rw [setAt _ _ _ _ _ (by simp), wrapi (by omega) (by omega)]
    have := ih (pre ++ [k]) (k + 1) (by simp; omega) (by omega) (by omega)
    simp only [List.append_assoc, List.singleton_append] at this
    have e : ((pre ++ [x]).length : Int) = ((pre ++ [k] : List Int).length : Int) := by simp
    rw [e]
    exact evEq this (by simp [mkInt]; omega)
theorem markInt_at (l : List Int) (k : Int) (hl : l.length ≤ 1048576) (h0 : 0 ≤ k) (hk : k ≤ 1000000000) : Ev (fun n => laws_markIntS.f n l k) (k + (l.length : Int), mkInt l k) := by
  unfold laws_markIntS.f
  exact markInt_l0 l [] k (by simpa using hl) h0 (by omega)
theorem markInt_ev (l : List Int) (hl : l.length ≤ 1048576) : Ev (fun n => laws_markIntS.f n l 1) (1 + (l.length : Int), mkInt l 1) := markInt_at l 1 hl (by omega) (by omega)
theorem heldInt_l0 : ∀ (suf pre : List Int) (k : Int), pre.length + suf.length ≤ 1048576 → 0 ≤ k → k + (suf.length : Int) ≤ 4611686018427387904 →
    Ev (fun n => laws_heldIntS.l0 n (pre ++ mkInt suf k) k (pre.length : Int)) (k + (suf.length : Int)) := by
  intro suf
  induction suf with
  | nil =>
    intro pre k hl h0 hk
    refine Ev.step (fun k => laws_heldIntS.l0.eq_2 ..) ?_
    simp only [mkInt, rgEnd (l := pre ++ []) (pre := pre) rfl, if_false]
    exact evNow (by simp)
  | cons x suf ih =>
    intro pre k hl h0 hk
    simp only [mkInt]
    simp at hl hk
    obtain ⟨h1, h2, h3, h4, h5⟩ := rgHead (l := pre ++ k :: mkInt suf (k + 1)) (pre := pre) rfl (by simp [mkInt_length]; omega) 0
    refine Ev.step (fun k => laws_heldIntS.l0.eq_2 ..) ?_
    simp only [h1, h2, h3, rd, h4, if_true]
    rw [wrapi (by omega) (by omega), h5]
    refine evEq (ih (pre ++ [k]) (k + 1) (by simp; omega) (by omega) (by omega)) (by simp; omega)
theorem heldInt_at (l : List Int) (k : Int) (hl : l.length ≤ 1048576) (h0 : 0 ≤ k) (hk : k ≤ 1000000000) : Ev (fun n => laws_heldIntS.f n (mkInt l k) k) (k + (l.length : Int)) := by
  unfold laws_heldIntS.f
  exact heldInt_l0 l [] k (by simpa using hl) h0 (by omega)
-- ** holelaw
def cvHole (x : S98) : S96 := ⟨x.f0, x.f1, x.f2⟩
theorem szHole_at (l : List S98) (b : Int) (h0 : 0 ≤ b) (hb : b ≤ 1048576) (h : l.length ≤ 9223372036854775807) : laws_szHoleS.f l b = some (if (l.length : Int) ≤ b then b - (l.length : Int) else -1) := by
  unfold laws_szHoleS.f
  rw [wrapi (by omega) (by omega)]
  by_cases c : (l.length : Int) ≤ b
  · rw [if_neg (by omega), if_pos c]
  · rw [if_pos (by omega), if_neg c]
theorem toHole_l0 (l : List S98) (hl : l.length ≤ 1048576) : ∀ (suf pre : List S98), l = pre ++ suf →
    Ev (fun k => laws_toHoleS.l0 k l (pre.map cvHole ++ List.replicate suf.length z96) (pre.length : Int)) (l.map cvHole) := by
  intro suf
  induction suf with
  | nil =>
    intro pre h
    refine Ev.step (fun k => laws_toHoleS.l0.eq_2 ..) ?_
    simp only [rgEnd h, if_false]
    exact evNow (by subst h; simp)
  | cons x suf ih =>
    intro pre h
    obtain ⟨h1, h2, h3, h4, h5⟩ := rgHead h (by omega) z98
    refine Ev.step (fun k => laws_toHoleS.l0.eq_2 ..) ?_
    simp only [h1, h2, h3, rd_T98, h4, if_true, laws_toHole.f, Option.bind_some]
    refine evPos (by simp; omega) ?_
    have e : (pre.map cvHole ++ List.replicate (x :: suf).length z96).set (pre.length : Int).toNat ⟨x.f0, x.f1, x.f2⟩ = (pre ++ [x]).map cvHole ++ List.replicate suf.length z96 := by
      rw [List.length_cons, List.replicate_succ, setAt _ _ _ _ _ (by simp)]
      simp [cvHole]
    rw [e]
    exact ih _ h5
theorem toHole_ev (l : List S98) (hl : l.length ≤ 1048576) : Ev (fun k => laws_toHoleS.f k l) (l.map cvHole) := by
  unfold laws_toHoleS.f
  refine evPos (by omega) (evPos (by omega) ?_)
  have := toHole_l0 l hl l [] rfl
  simpa using this
theorem eqHole_l0 (l : List S96) (hl : l.length ≤ 4611686018427387904) : ∀ (suf pre : List S96), l = pre ++ suf → Ev (fun k => laws_eqHoleS.l0 k l l (pre.length : Int)) true := by
  intro suf
  induction suf with
  | nil =>
    intro pre h
    refine Ev.step (fun k => laws_eqHoleS.l0.eq_2 ..) ?_
    simp only [rgEnd h, if_false]
    exact Ev.now _
  | cons x suf ih =>
    intro pre h
    obtain ⟨h1, h2, h3, h4, h5⟩ := rgHead h hl z96
    refine Ev.step (fun k => laws_eqHoleS.l0.eq_2 ..) ?_
    simp only [h1, h2, h3, if_true, laws_eqHole.f, Option.bind_some]
    exact ih _ h5
theorem eqHole_ev (l : List S96) (hl : l.length ≤ 4611686018427387904) : Ev (fun k => laws_eqHoleS.f k l l) true := by
  unfold laws_eqHoleS.f
  exact evPos rfl (eqHole_l0 l hl l [] rfl)
-- ** instlaw
theorem szInst_eq (p : List Int) (r : Int) (h : p.length ≤ 9223372036854775807) : laws_szInstrument.f p r 1048576 = some (if p.length ≤ 1048576 then 1048576 - (p.length : Int) else -1) := by
  unfold laws_szInstrument.f
  rw [szInt_eq p _ (by omega) (by omega) h]
  simp only [Option.bind_some]
  by_cases c : p.length ≤ 1048576
  · rw [if_pos (show (p.length : Int) ≤ 1048576 by omega), if_neg (by omega), if_pos c]
  · rw [if_neg (show ¬ (p.length : Int) ≤ 1048576 by omega), if_pos (by omega), if_neg c]
theorem toInst_ev {p : List Int} (r : Int) (hp : p.length ≤ 1048576) : Ev (fun k => laws_toInstrument.f k p r) (p, r) := by
  unfold laws_toInstrument.f; exact Ev.bind (toInt_ev p hp) (Ev.now _)
theorem eqInst_ev {p : List Int} (r : Int) (hp : p.length ≤ 1048576) : Ev (fun k => laws_eqInstrument.f k p r p r) true := by
  unfold laws_eqInstrument.f; exact Ev.bind (eqInt_ev p (by omega)) (evPos rfl (evPos rfl (Ev.now _)))
theorem markInst_ev {p : List Int} (r : Int) (hp : p.length ≤ 1048576) : Ev (fun k => laws_markInstrument.f k p r 1) (1 + (p.length : Int), mkInt p 1) := by
  unfold laws_markInstrument.f; exact Ev.bind (markInt_ev p hp) (Ev.now _)
-- ** holemark
def mkHole : List S96 → Int → List S96
  | [], _ => []
  | _ :: l, k => ⟨k, k + 1, k + 2⟩ :: mkHole l (k + 3)
theorem markHole_l0 : ∀ (suf pre : List S96) (k : Int), pre.length + suf.length ≤ 1048576 → 0 ≤ k → k ≤ 1000000000 + 3 * (pre.length : Int) →
    Ev (fun n => laws_markHoleS.l0 n (pre ++ suf) k (pre.length : Int)) (k + 3 * (suf.length : Int), pre ++ mkHole suf k) := by
  intro suf
  induction suf with
  | nil =>
    intro pre k hl h0 hk
    refine Ev.step (fun k => laws_markHoleS.l0.eq_2 ..) ?_
    simp only [rgEnd (l := pre ++ []) (pre := pre) rfl, if_false]
    exact evNow (by simp [mkHole])
  | cons x suf ih =>
    intro pre k hl h0 hk
    obtain ⟨h1, h2, h3, h4, h5⟩ := rgHead (l := pre ++ x :: suf) (pre := pre) rfl (by simp at hl ⊢; omega) z96
    simp at hl
    refine Ev.step (fun k => laws_markHoleS.l0.eq_2 ..) ?_
    simp only [h1, h2, h3, rd_T96, h4, if_true, Option.bind_some]
    rw [setAt _ _ _ _ _ (by simp), getAt _ _ _ _ _ (by simp), setAt _ _ _ _ _ (by simp), getAt _ _ _ _ _ (by simp), setAt _ _ _ _ _ (by simp), wrapi (x := k + 1) (by omega) (by omega), wrapi (x := k + 1 + 1) (by omega) (by omega), wrapi (x := k + 1 + 1 + 1) (by omega) (by omega)]
    dsimp only
    have := ih (pre ++ [⟨k, k + 1, k + 2⟩]) (k + 3) (by simp; omega) (by omega) (by simp; omega)
    simp only [List.append_assoc, List.singleton_append] at this
    have e : ((pre ++ [x]).length : Int) = ((pre ++ [⟨k, k + 1, k + 2⟩] : List S96).length : Int) := by simp
    rw [e, show k + 1 + 1 + 1 = k + 3 by omega, show k + 1 + 1 = k + 2 by omega]
    exact evEq this (by simp [mkHole]; omega)
theorem markHole_at (l : List S96) (k : Int) (hl : l.length ≤ 1048576) (h0 : 0 ≤ k) (hk : k ≤ 1000000000) : Ev (fun n => laws_markHoleS.f n l k) (k + 3 * (l.length : Int), mkHole l k) := by
  unfold laws_markHoleS.f
  exact markHole_l0 l [] k (by simpa using hl) h0 (by simpa using hk)
-- ** intss
def tot : List (List Int) → Nat
  | [] => 0
  | r :: l => r.length + tot l
def mkSS : List (List Int) → Int → List (List Int)
  | [], _ => []
  | r :: l, k => mkInt r k :: mkSS l (k + (r.length : Int))
theorem mkSS_length : ∀ (l : List (List Int)) (k : Int), (mkSS l k).length = l.length
  | [], _ => rfl
  | _ :: l, k => by simp [mkSS, mkSS_length l]
theorem tot_le : ∀ (l : List (List Int)) (n : Nat), (∀ r, r ∈ l → r.length ≤ n) → tot l ≤ n * l.length
  | [], n, _ => by simp [tot]
  | r :: l, n, h => by
    have h1 := h r (by simp)
    have h2 := tot_le l n (fun q hq => h q (by simp [hq]))
    rw [List.length_cons, Nat.mul_succ]
    simp only [tot]; omega
theorem markSS_l0 : ∀ (suf pre : List (List Int)) (k : Int), pre.length + suf.length ≤ 1048576 → (∀ r, r ∈ suf → r.length ≤ 1048576) → 0 ≤ k → k + (tot suf : Int) ≤ 1000000000 →
    Ev (fun n => laws_markIntSS.l0 n (pre ++ suf) k (pre.length : Int)) (k + (tot suf : Int), pre ++ mkSS suf k) := by
  intro suf
  induction suf with
  | nil =>
    intro pre k hl hr h0 hk
    refine Ev.step (fun k => laws_markIntSS.l0.eq_2 ..) ?_
    simp only [rgEnd (l := pre ++ []) (pre := pre) rfl, if_false]
    exact evNow (by simp [mkSS, tot])
  | cons x suf ih =>
    intro pre k hl hr h0 hk
    obtain ⟨h1, h2, h3, h4, h5⟩ := rgHead (l := pre ++ x :: suf) (pre := pre) rfl (by simp at hl ⊢; omega) []
    simp only [tot] at hk
    simp at hl
    have hx := hr x (by simp)
    refine Ev.step (fun k => laws_markIntSS.l0.eq_2 ..) ?_
    simp only [h1, h2, h3, h4, if_true]
    refine Ev.bind (markInt_at x k hx h0 (by omega)) ?_
    dsimp only
    rw [setAt _ _ _ _ _ (by simp)]
    have := ih (pre ++ [mkInt x k]) (k + (x.length : Int)) (by simp; omega) (fun r hq => hr r (by simp [hq])) (by omega) (by omega)
    simp only [List.append_assoc, List.singleton_append] at this
    have e : ((pre ++ [x]).length : Int) = ((pre ++ [mkInt x k] : List (List Int)).length : Int) := by simp
    rw [e]
    exact evEq this (by simp [mkSS, tot]; omega)
theorem markSS_ev (l : List (List Int)) (hl : l.length ≤ 100000) (hr : ∀ r, r ∈ l → r.length ≤ 1000) : Ev (fun n => laws_markIntSS.f n l 1) (1 + (tot l : Int), mkSS l 1) := by
  have := tot_le l 1000 hr
  unfold laws_markIntSS.f
  exact markSS_l0 l [] 1 (by simp; omega) (fun r h => by have := hr r h; omega) (by omega) (by omega)
theorem heldSS_l0 : ∀ (suf pre : List (List Int)) (k : Int), pre.length + suf.length ≤ 1048576 → (∀ r, r ∈ suf → r.length ≤ 1048576) → 0 ≤ k → k + (tot suf : Int) ≤ 1000000000 →
    Ev (fun n => laws_heldIntSS.l0 n (pre ++ mkSS suf k) k (pre.length : Int)) (k + (tot suf : Int)) := by
  intro suf
  induction suf with
  | nil =>
    intro pre k hl hr h0 hk
    refine Ev.step (fun k => laws_heldIntSS.l0.eq_2 ..) ?_
    simp only [mkSS, rgEnd (l := pre ++ []) (pre := pre) rfl, if_false]
    exact evNow (by simp [tot])
  | cons x suf ih =>
    intro pre k hl hr h0 hk
    simp only [mkSS]
    simp only [tot] at hk
    simp at hl
    have hx := hr x (by simp)
    obtain ⟨h1, h2, h3, h4, h5⟩ := rgHead (l := pre ++ mkInt x k :: mkSS suf (k + (x.length : Int))) (pre := pre) rfl (by simp [mkSS_length]; omega) []
    refine Ev.step (fun k => laws_heldIntSS.l0.eq_2 ..) ?_
    simp only [h1, h2, h3, rd_L3, h4, if_true]
    refine Ev.bind (heldInt_at x k hx h0 (by omega)) (evNeg (by omega) ?_)
    rw [h5]
    refine evEq (ih (pre ++ [mkInt x k]) (k + (x.length : Int)) (by simp; omega) (fun r hq => hr r (by simp [hq])) (by omega) (by omega)) (by simp only [tot]; omega)
theorem heldSS_ev (l : List (List Int)) (hl : l.length ≤ 100000) (hr : ∀ r, r ∈ l → r.length ≤ 1000) : Ev (fun n => laws_heldIntSS.f n (mkSS l 1) 1) (1 + (tot l : Int)) := by
  have := tot_le l 1000 hr
  unfold laws_heldIntSS.f
  exact heldSS_l0 l [] 1 (by simp; omega) (fun r h => by have := hr r h; omega) (by omega) (by omega)
theorem eqSS_l0 (l : List (List Int)) (hl : l.length ≤ 100000) (hr : ∀ r, r ∈ l → r.length ≤ 1000) : ∀ (suf pre : List (List Int)), l = pre ++ suf → Ev (fun k => laws_eqIntSS.l0 k l l (pre.length : Int)) true := by
  intro suf
  induction suf with
  | nil =>
    intro pre h
    exact Ev.step (fun k => laws_eqIntSS.l0.eq_2 ..) (evNeg (rgEnd h) (Ev.now _))
  | cons x suf ih =>
    intro pre h
    have hx := hr x (by rw [h]; simp)
    obtain ⟨h1, h2, h3, h4, h5⟩ := rgHead h (by omega) []
    refine Ev.step (fun k => laws_eqIntSS.l0.eq_2 ..) ?_
    simp only [h1, h2, h3, rd_L3, h4, if_true]
    exact Ev.bind (eqInt_ev x (by omega)) (evPos rfl (ih _ h5))
theorem eqSS_ev {l : List (List Int)} (hl : l.length ≤ 100000) (hr : ∀ r, r ∈ l → r.length ≤ 1000) : Ev (fun k => laws_eqIntSS.f k l l) true := by
  unfold laws_eqIntSS.f
  exact evPos rfl (eqSS_l0 l hl hr l [] rfl)
-- ** sheet
def hole (x : S96) : Prop := 0 ≤ x.f0 ∧ x.f0 ≤ 19 ∧ 0 ≤ x.f1 ∧ x.f1 < x.f2 ∧ x.f2 ≤ 2000
instance (x : S96) : Decidable (hole x) := by unfold hole; exact inferInstance
def hbef (a b : S96) : Prop := a.f1 < b.f1 ∨ (a.f1 = b.f1 ∧ a.f0 < b.f0)
instance (a b : S96) : Decidable (hbef a b) := by unfold hbef; exact inferInstance
def hfree (x y : S96) : Bool := !decide (y.f0 = x.f0 ∧ y.f2 ≥ x.f1)
def headOk (pre : List S96) (x : S96) : Bool := decide (hole x) && (decide (pre = [] ∨ hbef (pre.getD (pre.length - 1) z96) x) && pre.all (hfree x))
def goodFrom : List S96 → List S96 → Bool
  | _, [] => true
  | pre, x :: suf => headOk pre x && goodFrom (pre ++ [x]) suf
def goodSheet (l : List S96) : Bool := goodFrom [] l && decide (l.length ≤ 60)
theorem shHole_eq (x : S96) : spec_shHole.f x.f0 x.f1 x.f2 = some (decide (hole x)) := by
  unfold spec_shHole.f; simp only [in_eq, Option.bind_some, decide_eq_true_eq]
  split
  · split
    · rw [wrapi (by omega) (by omega)]; exact someD (by unfold hole; omega)
    · exact someF (by unfold hole; omega)
  · exact someF (by unfold hole; omega)
theorem isHole_eq (x : S96) : impl_IsHole.f x.f0 x.f1 x.f2 = some (decide (hole x)) := by
  unfold impl_IsHole.f impl_isTrack.f
  by_cases c : x.f0 ≥ 0
  · rw [if_pos c]; simp only [Option.bind_some, decide_eq_true_eq]
    split
    · split
      · split
        · exact someD (by unfold hole; omega)
        · exact someF (by unfold hole; omega)
      · exact someF (by unfold hole; omega)
    · exact someF (by unfold hole; omega)
  · rw [if_neg c]; simp only [Option.bind_some, Bool.false_eq_true, if_false]
    exact someF (by unfold hole; omega)
theorem shBefore_eq (a b : S96) : spec_shBefore.f a.f0 a.f1 a.f2 b.f0 b.f1 b.f2 = some (decide (hbef a b)) := by
  unfold spec_shBefore.f
  split
  · exact someT (by unfold hbef; omega)
  · split
    · exact someD (by unfold hbef; omega)
    · exact someF (by unfold hbef; omega)
theorem holeLess_eq (a b : S96) : impl_holeLess.f a.f0 a.f1 a.f2 b.f0 b.f1 b.f2 = some (decide (hbef a b)) := by
  unfold impl_holeLess.f
  split
  · exact someD (by unfold hbef; omega)
  · exact someD (by unfold hbef; omega)
theorem hfree_t {x y : S96} (h : ¬ (y.f0 = x.f0 ∧ y.f2 ≥ x.f1)) : hfree x y = true := by unfold hfree; rw [decide_eq_false h]; rfl
theorem hfree_f {x y : S96} (h : y.f0 = x.f0 ∧ y.f2 ≥ x.f1) : hfree x y = false := by unfold hfree; rw [decide_eq_true h]; rfl
theorem shGood_l1 (l : List S96) (i : Int) (x : S96) (l' : List S96) (n : Int) (q : Bool) (hq : Ev (fun k => spec_shGood.l0 k l l' n (wrap64 (i + 1))) q) (p : List S96) (hl : p.length ≤ 1048576) :
    ∀ (suf pre : List S96), p = pre ++ suf → Ev (fun k => spec_shGood.l1 k l l' n i p (p.length : Int) (pre.length : Int) x.f0 x.f1 x.f2) (suf.all (hfree x) && q) := by
  intro suf
  induction suf with
  | nil =>
    intro pre h
    refine Ev.step (fun k => spec_shGood.l1.eq_2 ..) ?_
    simp only [rgEnd h, if_false]
    exact evEq hq (by simp)
  | cons y suf ih =>
    intro pre h
    obtain ⟨h1, h2, h3, h4, h5⟩ := rgHead h (by omega) z96
    refine Ev.step (fun k => spec_shGood.l1.eq_2 ..) ?_
    simp only [h1, h2, h3, rd_T96, h4, if_true]
    refine evBy (fun c => evBy (fun c' => evNow (allBad (hfree_f ⟨c.symm, c'⟩))) (fun c' => evEq (ih _ h5) (allGood (hfree_t (fun r => c' r.2))))) (fun c => evEq (ih _ h5) (allGood (hfree_t (fun r => c r.1.symm))))
theorem shGood_l0 (l : List S96) (hl : l.length ≤ 1048576) : ∀ (suf pre : List S96), l = pre ++ suf → Ev (fun k => spec_shGood.l0 k l l (l.length : Int) (pre.length : Int)) (goodFrom pre suf && decide (l.length ≤ 60)) := by
  intro suf
  induction suf with
  | nil =>
    intro pre h
    refine Ev.step (fun k => spec_shGood.l0.eq_2 ..) ?_
    simp only [rgEnd h, if_false]
    exact evNow (by rw [goodFrom, Bool.true_and]; exact decD (by omega))
  | cons x suf ih =>
    intro pre h
    obtain ⟨h1, h2, h3, h4, h5⟩ := rgHead h (by omega) z96
    have hpl : pre.length ≤ 1048576 := by omega
    have hj : ∀ b : Bool, b = !decide (pre = [] ∨ hbef (pre.getD (pre.length - 1) z96) x) → hole x → Ev (fun k => spec_shGood.j1 k l (pre.length : Int) l (l.length : Int) (pre.length : Int) b x.f0 x.f1 x.f2) (goodFrom pre (x :: suf) && decide (l.length ≤ 60)) := by
      intro b hb hx
      refine Ev.step (fun k => spec_shGood.j1.eq_2 ..) ?_
      by_cases c : pre = [] ∨ hbef (pre.getD (pre.length - 1) z96) x
      · rw [decide_eq_true c] at hb; subst hb
        refine evNeg (by simp) (evPos h2 (evPos (by omega) ?_))
        simp only [Option.bind_some]
        have e : l.take (pre.length : Int).toNat = pre := by rw [h]; simp
        rw [e]
        refine evEq (shGood_l1 l (pre.length : Int) x l (l.length : Int) _ (by rw [h3]; exact ih _ h5) pre (by omega) pre [] rfl) ?_
        simp only [goodFrom, headOk, decide_eq_true hx, decide_eq_true c, Bool.true_and, Bool.and_assoc]
      · rw [decide_eq_false c] at hb; subst hb
        refine evPos rfl (evNow ?_)
        simp only [goodFrom, headOk, decide_eq_false c, Bool.false_and, Bool.and_false]
    refine Ev.step (fun k => spec_shGood.l0.eq_2 ..) ?_
    simp only [h1, h2, rd_T96, h4, if_true, shHole_eq, Option.bind_some, decide_eq_true_eq]
    refine evBy (fun hx => ?_) (fun hx => Ev.step (fun k => spec_shGood.j1.eq_2 ..) (evPos rfl (evNow (by simp only [goodFrom, headOk, decide_eq_false hx, Bool.false_and]))))
    by_cases c : 0 < pre.length
    · rw [wrapi (x := (pre.length : Int) - 1) (by omega) (by omega)]
      refine evPos (by omega) (evPos (by omega) (evPos (by omega) ?_))
      have e : l.getD ((pre.length : Int) - 1).toNat z96 = pre.getD (pre.length - 1) z96 := by
        rw [show ((pre.length : Int) - 1).toNat = pre.length - 1 by omega, h, List.getD_eq_getElem?_getD, List.getD_eq_getElem?_getD, List.getElem?_append_left (by omega)]
      rw [e, shBefore_eq]
      simp only [Option.bind_some]
      refine hj _ ?_ hx
      congr 1
      refine decide_eq_decide.mpr ⟨fun r => .inr r, fun r => r.resolve_left (fun z => by rw [z] at c; simp at c)⟩
    · refine evNeg (by omega) (hj _ ?_ hx)
      have : pre = [] := List.eq_nil_of_length_eq_zero (by omega)
      rw [decide_eq_true (Or.inl this)]; rfl
theorem shGood_ev {l : List S96} (hl : l.length ≤ 1048576) : Ev (fun k => spec_shGood.f k l) (goodSheet l) := shGood_l0 l hl l [] rfl
theorem isSheet_l1 (l : List S96) (i : Int) (x : S96) (l' : List S96) (n : Int) (q : Bool) (hq : Ev (fun k => impl_IsSheet.l0 k l l' n (wrap64 (i + 1))) q) (p : List S96) (hl : p.length ≤ 1048576) :
    ∀ (suf pre : List S96), p = pre ++ suf → Ev (fun k => impl_IsSheet.l1 k l l' n i p (p.length : Int) (pre.length : Int) x.f0 x.f1 x.f2) (suf.all (hfree x) && q) := by
  intro suf
  induction suf with
  | nil =>
    intro pre h
    refine Ev.step (fun k => impl_IsSheet.l1.eq_2 ..) ?_
    simp only [rgEnd h, if_false]
    exact evEq hq (by simp)
  | cons y suf ih =>
    intro pre h
    obtain ⟨h1, h2, h3, h4, h5⟩ := rgHead h (by omega) z96
    refine Ev.step (fun k => impl_IsSheet.l1.eq_2 ..) ?_
    simp only [h1, h2, h3, rd_T96, h4, if_true]
    refine evBy (fun c => evBy (fun c' => evNow (allBad (hfree_f ⟨c, c'⟩))) (fun c' => evEq (ih _ h5) (allGood (hfree_t (fun r => c' r.2))))) (fun c => evEq (ih _ h5) (allGood (hfree_t (fun r => c r.1))))
theorem isSheet_l0 (l : List S96) (hl : l.length ≤ 1048576) : ∀ (suf pre : List S96), l = pre ++ suf → Ev (fun k => impl_IsSheet.l0 k l l (l.length : Int) (pre.length : Int)) (goodFrom pre suf) := by
  intro suf
  induction suf with
  | nil =>
    intro pre h
    refine Ev.step (fun k => impl_IsSheet.l0.eq_2 ..) ?_
    simp only [rgEnd h, if_false]
    exact evNow (by rw [goodFrom])
  | cons x suf ih =>
    intro pre h
    obtain ⟨h1, h2, h3, h4, h5⟩ := rgHead h (by omega) z96
    have hpl : pre.length ≤ 1048576 := by omega
    have hj : ∀ b : Bool, b = !decide (pre = [] ∨ hbef (pre.getD (pre.length - 1) z96) x) → hole x → Ev (fun k => impl_IsSheet.j1 k l (pre.length : Int) l (l.length : Int) (pre.length : Int) b x.f0 x.f1 x.f2) (goodFrom pre (x :: suf)) := by
      intro b hb hx
      refine Ev.step (fun k => impl_IsSheet.j1.eq_2 ..) ?_
      by_cases c : pre = [] ∨ hbef (pre.getD (pre.length - 1) z96) x
      · rw [decide_eq_true c] at hb; subst hb
        refine evNeg (by simp) (evPos h2 (evPos (by omega) ?_))
        simp only [Option.bind_some]
        have e : l.take (pre.length : Int).toNat = pre := by rw [h]; simp
        rw [e]
        refine evEq (isSheet_l1 l (pre.length : Int) x l (l.length : Int) _ (by rw [h3]; exact ih _ h5) pre (by omega) pre [] rfl) ?_
        simp only [goodFrom, headOk, decide_eq_true hx, decide_eq_true c, Bool.true_and]
      · rw [decide_eq_false c] at hb; subst hb
        refine evPos rfl (evNow ?_)
        simp only [goodFrom, headOk, decide_eq_false c, Bool.false_and, Bool.and_false]
    refine Ev.step (fun k => impl_IsSheet.l0.eq_2 ..) ?_
    simp only [h1, h2, rd_T96, h4, if_true, isHole_eq, Option.bind_some, decide_eq_true_eq]
    refine evBy (fun hx => ?_) (fun hx => Ev.step (fun k => impl_IsSheet.j1.eq_2 ..) (evPos rfl (evNow (by simp only [goodFrom, headOk, decide_eq_false hx, Bool.false_and]))))
    by_cases c : 0 < pre.length
    · rw [wrapi (x := (pre.length : Int) - 1) (by omega) (by omega)]
      refine evPos (by omega) (evPos (by omega) (evPos (by omega) ?_))
      have e : l.getD ((pre.length : Int) - 1).toNat z96 = pre.getD (pre.length - 1) z96 := by
        rw [show ((pre.length : Int) - 1).toNat = pre.length - 1 by omega, h, List.getD_eq_getElem?_getD, List.getD_eq_getElem?_getD, List.getElem?_append_left (by omega)]
      rw [e, holeLess_eq]
      simp only [Option.bind_some]
      refine hj _ ?_ hx
      congr 1
      refine decide_eq_decide.mpr ⟨fun r => .inr r, fun r => r.resolve_left (fun z => by rw [z] at c; simp at c)⟩
    · refine evNeg (by omega) (hj _ ?_ hx)
      have : pre = [] := List.eq_nil_of_length_eq_zero (by omega)
      rw [decide_eq_true (Or.inl this)]; rfl
theorem isSheet_ev {l : List S96} (hl : l.length ≤ 1048576) : Ev (fun k => impl_IsSheet.f k l) (goodSheet l) := by
  unfold impl_IsSheet.f goodSheet
  refine evBy (fun c => evNow ?_) (fun c => evEq (isSheet_l0 l hl l [] rfl) ?_)
  · rw [show decide (l.length ≤ 60) = false from decide_eq_false (by omega), Bool.and_false]
  · rw [show decide (l.length ≤ 60) = true from decide_eq_true (by omega), Bool.and_true]
-- ** shopen
theorem goodFrom_hole : ∀ {suf pre : List S96}, goodFrom pre suf = true → ∀ x, x ∈ suf → hole x
  | [], _, _, x, hx => by simp at hx
  | y :: suf, pre, h, x, hx => by
    simp only [goodFrom, headOk, Bool.and_eq_true, decide_eq_true_eq] at h
    rcases List.mem_cons.1 hx with r | r
    · subst r; exact h.1.1
    · exact goodFrom_hole h.2 x r
theorem goodSheet_hole {l : List S96} (h : goodSheet l = true) : ∀ x, x ∈ l → hole x := by
  simp only [goodSheet, Bool.and_eq_true] at h; exact goodFrom_hole h.1
theorem goodSheet_len {l : List S96} (h : goodSheet l = true) : l.length ≤ 60 := by
  simp only [goodSheet, Bool.and_eq_true, decide_eq_true_eq] at h; exact h.2
-- ** instr
def ris : Int → List Int → Bool
  | _, [] => true
  | a, x :: l => decide (24 ≤ x ∧ x ≤ 96) && (decide (a < x) && ris x l)
def goodInst (p : List Int) (r : Int) : Bool := decide (1 ≤ (p.length : Int) ∧ (p.length : Int) ≤ 20) && (ris 0 p && decide (1 ≤ r ∧ r ≤ 20))
theorem goodInst_iff {p : List Int} {r : Int} : goodInst p r = true ↔ (1 ≤ (p.length : Int) ∧ (p.length : Int) ≤ 20) ∧ ris 0 p = true ∧ (1 ≤ r ∧ r ≤ 20) := by
  unfold goodInst; rw [Bool.and_eq_true, Bool.and_eq_true, decide_eq_true_eq, decide_eq_true_eq]
theorem rising_l0 (p : List Int) (hl : p.length ≤ 1048576) : ∀ (suf pre : List Int) (a : Int), p = pre ++ suf → (pre = [] ∧ a = 0 ∨ ∃ q, pre = q ++ [a]) → Ev (fun k => spec_l1Rising.l0 k p 24 96 p (p.length : Int) (pre.length : Int)) (ris a suf) := by
  intro suf
  induction suf with
  | nil =>
    intro pre a h _
    refine Ev.step (fun k => spec_l1Rising.l0.eq_2 ..) ?_
    simp only [rgEnd h, if_false]
    exact Ev.now _
  | cons x suf ih =>
    intro pre a h ha
    obtain ⟨h1, h2, h3, h4, h5⟩ := rgHead h (by omega) 0
    have ih' := ih (pre ++ [x]) x h5 (.inr ⟨pre, rfl⟩)
    refine Ev.step (fun k => spec_l1Rising.l0.eq_2 ..) ?_
    simp only [h1, h2, h3, rd, h4, if_true, in_eq, Option.bind_some, decide_eq_true_eq, ris]
    refine evBy (fun c => ?_) (fun c => evNow (by rw [decide_eq_false c, Bool.false_and]))
    rw [decide_eq_true c, Bool.true_and]
    rcases ha with ⟨rfl, rfl⟩ | ⟨q, rfl⟩
    · refine evNeg (by simp) ?_
      rw [decide_eq_true (show (0 : Int) < x by omega), Bool.true_and]; exact ih'
    · have hq : ((q ++ [a]).length : Int) = (q.length : Int) + 1 := by simp
      have hp : q.length ≤ 1048576 := by rw [h] at hl; simp at hl; omega
      have hL : (p.length : Int) = (q.length : Int) + 1 + ((suf.length : Int) + 1) := by rw [h]; simp; omega
      have e : p.getD (q.length : Int).toNat 0 = a := by rw [h]; simp
      refine evPos (by rw [hq]; omega) ?_
      rw [show wrap64 (((q ++ [a]).length : Int) - 1) = (q.length : Int) by rw [hq, wrapi (by omega) (by omega)]; omega]
      refine evPos (by omega) (evPos (by omega) ?_)
      rw [e]
      exact evBy (fun c' => evNow (by rw [decide_eq_false (show ¬ a < x by omega), Bool.false_and])) (fun c' => by rw [decide_eq_true (show a < x by omega), Bool.true_and]; exact ih')
theorem inGood_ev {p : List Int} (hl : p.length ≤ 1048576) (r : Int) : Ev (fun k => spec_inGood.f k p r) (goodInst p r) := by
  unfold spec_inGood.f goodInst
  simp only [in_eq, Option.bind_some, decide_eq_true_eq]
  refine evBy (fun c => ?_) (fun c => evNow (by rw [decide_eq_false c, Bool.false_and]))
  rw [decide_eq_true c, Bool.true_and]
  unfold spec_l1Rising.f
  refine Ev.bind (rising_l0 p hl p [] 0 rfl (.inl ⟨rfl, rfl⟩)) (evBy (fun c' => evNow ?_) (fun c' => evNow ?_))
  · rw [c', Bool.true_and]
  · rw [Bool.eq_false_iff.mpr c', Bool.false_and]
theorem isPitch_eq (a : Int) : impl_isPitch.f a = some (decide (24 ≤ a ∧ a ≤ 96)) := by
  unfold impl_isPitch.f; split
  · exact someD (by omega)
  · exact someF (by omega)
theorem isInst_l0 (p : List Int) (r : Int) (hl : p.length ≤ 1048576) : ∀ (suf pre : List Int) (a : Int), p = pre ++ suf → (pre = [] ∧ a = 0 ∨ ∃ q, pre = q ++ [a]) → Ev (fun k => impl_IsInstrument.l0 k p (p.length : Int) (pre.length : Int) p r) (ris a suf) := by
  intro suf
  induction suf with
  | nil =>
    intro pre a h _
    refine Ev.step (fun k => impl_IsInstrument.l0.eq_2 ..) ?_
    simp only [rgEnd h, if_false]
    exact Ev.now _
  | cons x suf ih =>
    intro pre a h ha
    obtain ⟨h1, h2, h3, h4, h5⟩ := rgHead h (by omega) 0
    have ih' := ih (pre ++ [x]) x h5 (.inr ⟨pre, rfl⟩)
    refine Ev.step (fun k => impl_IsInstrument.l0.eq_2 ..) ?_
    simp only [h1, h2, h3, rd, h4, if_true, isPitch_eq, Option.bind_some, decide_eq_true_eq, ris]
    refine evBy (fun c => ?_) (fun c => evNow (by rw [decide_eq_false c, Bool.false_and]))
    rw [decide_eq_true c, Bool.true_and]
    rcases ha with ⟨rfl, rfl⟩ | ⟨q, rfl⟩
    · refine evNeg (by simp) ?_
      rw [decide_eq_true (show (0 : Int) < x by omega), Bool.true_and]; exact ih'
    · have hq : ((q ++ [a]).length : Int) = (q.length : Int) + 1 := by simp
      have hp : q.length ≤ 1048576 := by rw [h] at hl; simp at hl; omega
      have hL : (p.length : Int) = (q.length : Int) + 1 + ((suf.length : Int) + 1) := by rw [h]; simp; omega
      have e : p.getD (q.length : Int).toNat 0 = a := by rw [h]; simp
      refine evPos (by rw [hq]; omega) ?_
      rw [show wrap64 (((q ++ [a]).length : Int) - 1) = (q.length : Int) by rw [hq, wrapi (by omega) (by omega)]; omega]
      refine evPos (by omega) (evPos (by omega) ?_)
      rw [e]
      exact evBy (fun c' => evNow (by rw [decide_eq_false (show ¬ a < x by omega), Bool.false_and])) (fun c' => by rw [decide_eq_true (show a < x by omega), Bool.true_and]; exact ih')
theorem isInst_ev {p : List Int} (hl : p.length ≤ 1048576) (r : Int) : Ev (fun k => impl_IsInstrument.f k p r) (goodInst p r) := by
  unfold impl_IsInstrument.f goodInst
  have hn : ∀ {b : Bool}, (b = true ↔ ¬ (1 ≤ r ∧ r ≤ 20)) → (1 ≤ (p.length : Int) ∧ (p.length : Int) ≤ 20) → Ev (fun k => impl_IsInstrument.j0 k b p r) (decide (1 ≤ (p.length : Int) ∧ (p.length : Int) ≤ 20) && (ris 0 p && decide (1 ≤ r ∧ r ≤ 20))) := by
    intro b hb c
    refine Ev.step (fun k => impl_IsInstrument.j0.eq_2 ..) (evBy (fun c' => evNow ?_) (fun c' => ?_))
    · rw [decide_eq_false (hb.1 c'), Bool.and_false, Bool.and_false]
    · refine evEq (isInst_l0 p r hl p [] 0 rfl (.inl ⟨rfl, rfl⟩)) ?_
      rw [decide_eq_true c, decide_eq_true (show 1 ≤ r ∧ r ≤ 20 from Decidable.not_not.1 (fun q => c' (hb.2 q))), Bool.true_and, Bool.and_true]
  have hz : ¬ (1 ≤ (p.length : Int) ∧ (p.length : Int) ≤ 20) → Ev (fun k => impl_IsInstrument.j0 k true p r) (decide (1 ≤ (p.length : Int) ∧ (p.length : Int) ≤ 20) && (ris 0 p && decide (1 ≤ r ∧ r ≤ 20))) := fun c =>
    Ev.step (fun k => impl_IsInstrument.j0.eq_2 ..) (evPos rfl (evNow (by rw [decide_eq_false c, Bool.false_and])))
  refine evBy (fun c => hz (by omega)) (fun c => evBy (fun c1 => hz (by omega)) (fun c1 => evBy (fun c2 => hn (by simp; omega) (by omega)) (fun c2 => hn (by simp; omega) (by omega))))
-- ** action
def actn (a b c : Int) : Prop := 0 ≤ a ∧ a ≤ 40 ∧ 0 ≤ b ∧ b ≤ 40 ∧ 0 ≤ c ∧ c ≤ 40
instance (a b c : Int) : Decidable (actn a b c) := by unfold actn; exact inferInstance
theorem pyAction_eq (a b c : Int) : spec_pyAction.f a b c = some (decide (actn a b c)) := by
  unfold spec_pyAction.f; simp only [in_eq, Option.bind_some, decide_eq_true_eq]
  repeat' split
  all_goals first | exact someD (by unfold actn; omega) | exact someF (by unfold actn; omega)
theorem isAction_eq (a b c : Int) : impl_IsAction.f a b c = some (decide (actn a b c)) := by
  unfold impl_IsAction.f
  repeat' split
  all_goals first | exact someD (by unfold actn; omega) | exact someF (by unfold actn; omega)
-- ** spoken
def spk (p : List Int) (rep d r lst : Int) : List S93 → List Int → (Int → Int) → List S96 → Int → List S93 × List Int
  | out, sil, _, [], _ => (out, sil)
  | out, sil, L, x :: l, i => if x.f0 ≥ (p.length : Int) ∨ x.f2 - x.f1 < lst ∨ x.f1 - L x.f0 < 2 * rep ∨ x.f1 + d ≥ x.f2 + r then spk p rep d r lst out (sil ++ [i]) L l (i + 1)
    else spk p rep d r lst (out ++ [⟨rd p x.f0, x.f1 + d, x.f2 + r⟩]) sil (fun t => if t = x.f0 then x.f1 else L t) l (i + 1)
theorem spk_len (p : List Int) (rep d r lst : Int) : ∀ (l : List S96) (out : List S93) (sil : List Int) (L : Int → Int) (i : Int),
    (spk p rep d r lst out sil L l i).1.length + (spk p rep d r lst out sil L l i).2.length = out.length + sil.length + l.length
  | [], out, sil, L, i => by simp [spk]
  | x :: l, out, sil, L, i => by
    simp only [spk]; split
    · rw [spk_len p rep d r lst l]; simp; omega
    · rw [spk_len p rep d r lst l]; simp; omega
theorem setGet (A : List Int) (a t v : Int) (ha : 0 ≤ a) (ht : 0 ≤ t) (h : a < (A.length : Int)) : (A.set a.toNat v).getD t.toNat 0 = if t = a then v else A.getD t.toNat 0 := by
  simp only [List.getD_eq_getElem?_getD, List.getElem?_set]
  by_cases c : t = a
  · subst c; rw [if_pos rfl, if_pos rfl, if_pos (by omega)]; rfl
  · rw [if_neg (by omega), if_neg c]
theorem pyAll_l1 (p : List Int) (rep d r lst : Int) (_ : p.length ≤ 20) (hr : 1 ≤ rep ∧ rep ≤ 20) (ha : actn d r lst) (l : List S96) (hl : l.length ≤ 60) (hh : ∀ x, x ∈ l → hole x) : ∀ (suf pre : List S96) (out : List S93) (sil A : List Int) (L : Int → Int), l = pre ++ suf → out.length ≤ pre.length → sil.length ≤ pre.length →
    A.length = 20 → (∀ t : Int, 0 ≤ t → t < 20 → A.getD t.toNat 0 = L t) → (∀ t, -40 ≤ L t ∧ L t ≤ 2000) →
    Ev (fun k => spec_pyAll.l1 k out sil A l (l.length : Int) (pre.length : Int) p rep d r lst) (spk p rep d r lst out sil L suf (pre.length : Int)) := by
  unfold actn at ha
  intro suf
  induction suf with
  | nil =>
    intro pre out sil A L h _ _ _ _ _
    refine Ev.step (fun k => spec_pyAll.l1.eq_2 ..) ?_
    simp only [rgEnd h, if_false]
    exact Ev.now _
  | cons x suf ih =>
    intro pre out sil A L h ho hs hA hL hb
    obtain ⟨h1, h2, h3, h4, h5⟩ := rgHead h (by omega) z96
    have hx := hh x (by rw [h]; simp)
    unfold hole at hx
    have hpl : pre.length ≤ 60 := by omega
    have hLx := hb x.f0
    have e3 : ((pre ++ [x]).length : Int) = (pre.length : Int) + 1 := by simp
    have bad : ∀ {q : Prop}, q → (q → x.f0 ≥ (p.length : Int) ∨ x.f2 - x.f1 < lst ∨ x.f1 - L x.f0 < 2 * rep ∨ x.f1 + d ≥ x.f2 + r) → Ev (fun k => if sil.length < 17592186044416 then spec_pyAll.l1 k out (sil ++ [(pre.length : Int)]) A l (l.length : Int) ((pre ++ [x]).length : Int) p rep d r lst else none) (spk p rep d r lst out sil L (x :: suf) (pre.length : Int)) := by
      intro q hq hc
      refine evPos (by omega) (evEq (ih (pre ++ [x]) out (sil ++ [(pre.length : Int)]) A L h5 (by simp; omega) (by simp; omega) hA hL hb) ?_)
      rw [e3]; simp only [spk]; rw [if_pos (hc hq)]
    refine Ev.step (fun k => spec_pyAll.l1.eq_2 ..) ?_
    simp only [h1, h2, h3, rd_T96, h4, if_true]
    rw [wrapi (x := x.f2 - x.f1) (by omega) (by omega), wrapi (x := x.f1 + d) (by omega) (by omega), wrapi (x := x.f2 + r) (by omega) (by omega), wrapi (x := 2 * rep) (by omega) (by omega)]
    refine evBy (fun c => bad c .inl) (fun c => evBy (fun c1 => bad c1 (fun q => .inr (.inl q))) (fun c1 => evPos (by omega) (evPos (by omega) ?_)))
    rw [show rd A x.f0 = L x.f0 from hL x.f0 (by omega) (by omega), wrapi (x := x.f1 - L x.f0) (by omega) (by omega)]
    refine evBy (fun c2 => bad c2 (fun q => .inr (.inr (.inl q)))) (fun c2 => evBy (fun c3 => bad c3 (fun q => .inr (.inr (.inr q)))) (fun c3 => evPos (by omega) (evPos (by omega) ?_)))
    refine evEq (ih (pre ++ [x]) (out ++ [⟨rd p x.f0, x.f1 + d, x.f2 + r⟩]) sil (A.set x.f0.toNat x.f1) (fun t => if t = x.f0 then x.f1 else L t) h5 (by simp; omega) (by simp; omega) (by simp [hA]) ?_ ?_) ?_
    · intro t h0 h1
      rw [setGet A x.f0 t x.f1 (by omega) h0 (by omega)]
      split
      · rfl
      · exact hL t h0 h1
    · intro t; split
      · omega
      · exact hb t
    · rw [e3]; simp only [spk]; rw [if_neg (by omega)]
theorem pyAll_l0 (p : List Int) (rep d r lst : Int) (l : List S96) {v : List S93 × List Int} (h : Ev (fun k => spec_pyAll.l1 k [] [] (List.replicate 20 (-40)) l (l.length : Int) 0 p rep d r lst) v) :
    ∀ (n i : Nat), i + n = 20 → Ev (fun k => spec_pyAll.l0 k l (List.replicate i (-40) ++ List.replicate n 0) 20 (i : Int) p rep d r lst) v := by
  intro n
  induction n with
  | zero =>
    intro i hi
    refine Ev.step (fun k => spec_pyAll.l0.eq_2 ..) (evNeg (by omega) ?_)
    rw [show i = 20 by omega]
    simpa using h
  | succ n ih =>
    intro i hi
    refine Ev.step (fun k => spec_pyAll.l0.eq_2 ..) (evPos (by omega) (evPos (by omega) (evPos (by simp; omega) ?_)))
    rw [List.replicate_succ, setAt _ _ _ _ _ (by simp), wrapi (by omega) (by omega), show (i : Int) + 1 = ((i + 1 : Nat) : Int) by omega]
    have := ih (i + 1) (by omega)
    rw [List.replicate_succ', List.append_assoc] at this
    exact this
theorem pyAll_ev {p : List Int} {rep d r lst : Int} {l : List S96} (hp : p.length ≤ 20) (hr : 1 ≤ rep ∧ rep ≤ 20) (ha : actn d r lst) (hg : goodSheet l = true) : Ev (fun k => spec_pyAll.f k p rep l d r lst) (spk p rep d r lst [] [] (fun _ => -40) l 0) := by
  have hl := goodSheet_len hg
  unfold spec_pyAll.f
  refine evPos (by omega) ?_
  simp only [Option.bind_some]
  have h1 := pyAll_l1 p rep d r lst hp hr ha l hl (goodSheet_hole hg) l [] [] [] (List.replicate 20 (-40)) (fun _ => -40) rfl (by simp) (by simp) (by simp) (fun t h0 h1 => by
    rw [List.getD_eq_getElem?_getD, List.getElem?_replicate, if_pos (by omega)]; rfl) (fun _ => by omega)
  have h0 := pyAll_l0 p rep d r lst l h1 20 0 (by omega)
  simpa using h0
theorem mhas_put (M : List (Int × Int)) (k v t : Int) : Mp.mhas (Mp.mput M k v) t = if t = k then true else Mp.mhas M t := by
  induction M with
  | nil => simp [Mp.mput, Mp.mhas]
  | cons q M ih =>
    by_cases c : k = q.1
    · subst c; by_cases e : t = q.1 <;> simp [Mp.mput, Mp.mhas, e]
    · by_cases e : t = q.1
      · have : ¬ t = k := fun z => c (by rw [← z, e])
        simp [Mp.mput, Mp.mhas, c, e, Ne.symm c]
      · simp [Mp.mput, Mp.mhas, c, e, ih]
theorem mget_put (M : List (Int × Int)) (k v t : Int) : Mp.mget 0 (Mp.mput M k v) t = if t = k then v else Mp.mget 0 M t := by
  induction M with
  | nil => simp [Mp.mput, Mp.mget]
  | cons q M ih =>
    by_cases c : k = q.1
    · subst c; by_cases e : t = q.1 <;> simp [Mp.mput, Mp.mget, e]
    · by_cases e : t = q.1
      · have : ¬ t = k := fun z => c (by rw [← z, e])
        simp [Mp.mput, Mp.mget, c, e, Ne.symm c]
      · simp [Mp.mput, Mp.mget, c, e, ih]
theorem spoken_l0 (p : List Int) (rep d r lst : Int) (_ : p.length ≤ 20) (hr : 1 ≤ rep ∧ rep ≤ 20) (ha : actn d r lst) (l : List S96) (hl : l.length ≤ 60) (hh : ∀ x, x ∈ l → hole x) : ∀ (suf pre : List S96) (out : List S93) (sil : List Int) (M : List (Int × Int)) (L : Int → Int), l = pre ++ suf → out.length ≤ pre.length → sil.length ≤ pre.length →
    (∀ t, (Mp.mhas M t = true → Mp.mget 0 M t = L t) ∧ (¬ Mp.mhas M t = true → L t = -40)) → (∀ t, -40 ≤ L t ∧ L t ≤ 2000) →
    Ev (fun k => impl_spoken.l0 k out sil l (l.length : Int) (pre.length : Int) p rep d r lst M) (spk p rep d r lst out sil L suf (pre.length : Int)) := by
  unfold actn at ha
  intro suf
  induction suf with
  | nil =>
    intro pre out sil M L h _ _ _ _
    refine Ev.step (fun k => impl_spoken.l0.eq_2 ..) ?_
    simp only [rgEnd h, if_false]
    exact Ev.now _
  | cons x suf ih =>
    intro pre out sil M L h ho hs hM hb
    obtain ⟨h1, h2, h3, h4, h5⟩ := rgHead h (by omega) z96
    have hx := hh x (by rw [h]; simp)
    unfold hole at hx
    have hpl : pre.length ≤ 60 := by omega
    have hLx := hb x.f0
    obtain ⟨hM1, hM2⟩ := hM x.f0
    have e3 : ((pre ++ [x]).length : Int) = (pre.length : Int) + 1 := by simp
    have bad : ∀ {q : Prop}, q → (q → x.f0 ≥ (p.length : Int) ∨ x.f2 - x.f1 < lst ∨ x.f1 - L x.f0 < 2 * rep ∨ x.f1 + d ≥ x.f2 + r) → Ev (fun k => if sil.length < 17592186044416 then impl_spoken.l0 k out (sil ++ [(pre.length : Int)]) l (l.length : Int) ((pre ++ [x]).length : Int) p rep d r lst M else none) (spk p rep d r lst out sil L (x :: suf) (pre.length : Int)) := by
      intro q hq hc
      refine evPos (by omega) (evEq (ih (pre ++ [x]) out (sil ++ [(pre.length : Int)]) M L h5 (by simp; omega) (by simp; omega) hM hb) ?_)
      rw [e3]; simp only [spk]; rw [if_pos (hc hq)]
    have good : ¬ x.f0 ≥ (p.length : Int) → ¬ x.f2 - x.f1 < lst → ¬ x.f1 - L x.f0 < 2 * rep → Ev (fun k => if x.f1 + d ≥ x.f2 + r then (if sil.length < 17592186044416 then impl_spoken.l0 k out (sil ++ [(pre.length : Int)]) l (l.length : Int) ((pre ++ [x]).length : Int) p rep d r lst M else none) else (if 0 ≤ x.f0 then (if x.f0 < (p.length : Int) then (if out.length < 5864062014805 then impl_spoken.l0 k (out ++ [⟨rd p x.f0, x.f1 + d, x.f2 + r⟩]) sil l (l.length : Int) ((pre ++ [x]).length : Int) p rep d r lst (Mp.mput M x.f0 x.f1) else none) else none) else none)) (spk p rep d r lst out sil L (x :: suf) (pre.length : Int)) := by
      intro c c1 c2
      refine evBy (fun c3 => bad c3 (fun q => .inr (.inr (.inr q)))) (fun c3 => evPos (by omega) (evPos (by omega) (evPos (by omega) ?_)))
      refine evEq (ih (pre ++ [x]) (out ++ [⟨rd p x.f0, x.f1 + d, x.f2 + r⟩]) sil (Mp.mput M x.f0 x.f1) (fun t => if t = x.f0 then x.f1 else L t) h5 (by simp; omega) (by simp; omega) ?_ ?_) ?_
      · intro t
        rw [mhas_put, mget_put]
        by_cases e : t = x.f0
        · simp [e]
        · simp only [if_neg e]; exact hM t
      · intro t; split
        · omega
        · exact hb t
      · rw [e3]; simp only [spk]; rw [if_neg (by omega)]
    refine Ev.step (fun k => impl_spoken.l0.eq_2 ..) ?_
    simp only [h1, h2, h3, rd_T96, h4, if_true]
    rw [wrapi (x := x.f2 - x.f1) (by omega) (by omega), wrapi (x := x.f1 + d) (by omega) (by omega), wrapi (x := x.f2 + r) (by omega) (by omega), wrapi (x := 2 * rep) (by omega) (by omega)]
    refine evBy (fun c => bad c .inl) (fun c => evBy (fun c1 => bad c1 (fun q => .inr (.inl q))) (fun c1 => evBy (fun c2 => ?_) (fun c2 => ?_)))
    · rw [hM1 c2, wrapi (x := x.f1 - L x.f0) (by omega) (by omega)]
      exact evBy (fun c3 => bad c3 (fun q => .inr (.inr (.inl q)))) (fun c3 => good c c1 c3)
    · exact good c c1 (by have := hM2 c2; omega)
theorem spoken_ev {p : List Int} {rep d r lst : Int} {l : List S96} (hp : p.length ≤ 20) (hr : 1 ≤ rep ∧ rep ≤ 20) (ha : actn d r lst) (hg : goodSheet l = true) : Ev (fun k => impl_spoken.f k p rep l d r lst) (spk p rep d r lst [] [] (fun _ => -40) l 0) := by
  unfold impl_spoken.f
  exact spoken_l0 p rep d r lst hp hr ha l (goodSheet_len hg) (goodSheet_hole hg) l [] [] [] [] (fun _ => -40) rfl (by simp) (by simp) (fun t => ⟨fun q => by simp [Mp.mhas] at q, fun _ => rfl⟩) (fun _ => by omega)
def asked (p : List Int) (rep : Int) (l : List S96) (d r lst : Int) : Bool := goodInst p rep && (goodSheet l && decide (actn d r lst))
theorem asked_iff {p : List Int} {rep : Int} {l : List S96} {d r lst : Int} : asked p rep l d r lst = true ↔ ((1 ≤ (p.length : Int) ∧ (p.length : Int) ≤ 20) ∧ ris 0 p = true ∧ (1 ≤ rep ∧ rep ≤ 20)) ∧ goodSheet l = true ∧ actn d r lst := by
  unfold asked; rw [Bool.and_eq_true, Bool.and_eq_true, decide_eq_true_eq, goodInst_iff]
theorem pyAsked_ev {p : List Int} (hp : p.length ≤ 1048576) (rep : Int) {l : List S96} (hl : l.length ≤ 1048576) (d r lst : Int) : Ev (fun k => spec_pyAsked.f k p rep l d r lst) (asked p rep l d r lst) := by
  unfold spec_pyAsked.f spec_laAsked.f asked
  simp only [pyAction_eq, Option.bind_some]
  refine Ev.bind (a := goodInst p rep && goodSheet l) (Ev.bind (inGood_ev hp rep) (evBy (fun c => Ev.bind (shGood_ev hl) (evNow (by rw [c, Bool.true_and]))) (fun c => evNow (by rw [Bool.eq_false_iff.mpr c, Bool.false_and])))) (evBy (fun c => evNow ?_) (fun c => evNow ?_))
  · rw [Bool.and_eq_true] at c; rw [c.1, c.2, Bool.true_and, Bool.true_and]
  · rw [← Bool.and_assoc, Bool.eq_false_iff.mpr c, Bool.false_and]
theorem canBe_ev {p : List Int} (hp : p.length ≤ 1048576) (rep : Int) {l : List S96} (hl : l.length ≤ 1048576) (d r lst : Int) : Ev (fun k => impl_canBePlayed.f k p rep l d r lst) (asked p rep l d r lst) := by
  unfold impl_canBePlayed.f asked
  simp only [isAction_eq, Option.bind_some]
  refine Ev.bind (isInst_ev hp rep) (evBy (fun c => Ev.bind (isSheet_ev hl) (evBy (fun c' => evNow ?_) (fun c' => evNow ?_))) (fun c => evNow ?_))
  · rw [c, c', Bool.true_and, Bool.true_and]
  · rw [Bool.eq_false_iff.mpr c', Bool.false_and, Bool.and_false]
  · rw [Bool.eq_false_iff.mpr c, Bool.false_and]
-- ** BlurredPairs_
theorem spk_ord (p : List Int) (rep d r lst : Int) : ∀ (l : List S96) (out : List S93) (sil : List Int) (L : Int → Int) (i : Int), (∀ y, y ∈ out → y.f1 < y.f2) → ∀ y, y ∈ (spk p rep d r lst out sil L l i).1 → y.f1 < y.f2
  | [], out, sil, L, i, h => by simpa [spk] using h
  | x :: l, out, sil, L, i, h => by
    simp only [spk]; split
    · exact spk_ord p rep d r lst l _ _ _ _ h
    · rename_i c
      refine spk_ord p rep d r lst l _ _ _ _ (fun y hy => ?_)
      rcases List.mem_append.1 hy with q | q
      · exact h y q
      · rw [List.mem_singleton.1 q]; show x.f1 + d < x.f2 + r; omega
def blur (x y : S93) : Bool := decide (x.f0 = y.f0 ∧ x.f1 < y.f2 ∧ y.f1 < x.f2)
def bl1 (x : S93) (i : Int) : List S93 → Int → List (List Int)
  | [], _ => []
  | y :: l, k => (if blur x y = true then [[i, k]] else []) ++ bl1 x i l (k + 1)
def bl0 : List S93 → Int → List (List Int)
  | [], _ => []
  | x :: l, i => bl1 x i l (i + 1) ++ bl0 l (i + 1)
theorem bl1_len (x : S93) (i : Int) : ∀ (l : List S93) (k : Int), (bl1 x i l k).length ≤ l.length
  | [], _ => by simp [bl1]
  | y :: l, k => by
    have := bl1_len x i l (k + 1)
    simp only [bl1, List.length_append, List.length_cons]; split <;> simp <;> omega
theorem bl0_len : ∀ (l : List S93) (i : Int) (n : Nat), l.length ≤ n → (bl0 l i).length ≤ n * l.length
  | [], _, _, _ => by simp [bl0]
  | x :: l, i, n, h => by
    simp at h
    have h1 := bl1_len x i l (i + 1)
    have h2 := bl0_len l (i + 1) n (by omega)
    rw [List.length_cons, Nat.mul_succ]
    simp only [bl0, List.length_append]; omega
theorem bl1_two (x : S93) (i : Int) : ∀ (l : List S93) (k : Int) (q : List Int), q ∈ bl1 x i l k → q.length = 2
  | [], _, q, h => by simp [bl1] at h
  | y :: l, k, q, h => by
    simp only [bl1] at h
    rcases List.mem_append.1 h with z | z
    · split at z
      · rw [List.mem_singleton.1 z]; rfl
      · simp at z
    · exact bl1_two x i l _ q z
theorem bl0_two : ∀ (l : List S93) (i : Int) (q : List Int), q ∈ bl0 l i → q.length = 2
  | [], _, q, h => by simp [bl0] at h
  | x :: l, i, q, h => by
    simp only [bl0] at h
    rcases List.mem_append.1 h with z | z
    · exact bl1_two x i l _ q z
    · exact bl0_two l _ q z
theorem sBlur_l1 (l : List S93) (hl : l.length ≤ 60) (x : S93) (i : Int) (l' : List S93) (n : Int) (r : List (List Int) × Bool) : ∀ (suf pre : List S93) (out : List (List Int)), l = pre ++ suf → out.length + suf.length ≤ 100000 →
    Ev (fun k => spec_BlurredPairs.l0 k l (out ++ bl1 x i suf (pre.length : Int)) l' n (wrap64 (i + 1))) r →
    Ev (fun k => spec_BlurredPairs.l1 k l out i (pre.length : Int) l' n i x.f0 x.f1 x.f2) r := by
  intro suf
  induction suf with
  | nil =>
    intro pre out h _ hq
    exact Ev.step (fun k => spec_BlurredPairs.l1.eq_2 ..) (evNeg (rgEnd h) (by simpa [bl1] using hq))
  | cons y suf ih =>
    intro pre out h ho hq
    obtain ⟨h1, h2, h3, h4, h5⟩ := rgHead h (by omega) z93
    simp at ho
    refine Ev.step (fun k => spec_BlurredPairs.l1.eq_2 ..) ?_
    simp only [h1, h2, h3, rd_T93, h4, if_true]
    have e : ((pre ++ [y]).length : Int) = (pre.length : Int) + 1 := by simp
    have no : ¬ (x.f0 = y.f0 ∧ x.f1 < y.f2 ∧ y.f1 < x.f2) → Ev (fun k => spec_BlurredPairs.l1 k l out i ((pre ++ [y]).length : Int) l' n i x.f0 x.f1 x.f2) r := by
      intro c
      refine ih (pre ++ [y]) out h5 (by omega) ?_
      have : blur x y = false := decide_eq_false c
      simp only [bl1, this] at hq
      rw [e]; simpa using hq
    refine evBy (fun c1 => evBy (fun c2 => evBy (fun c3 => evPos (by omega) ?_) (fun c => no (fun z => c z.2.2))) (fun c => no (fun z => c z.2.1))) (fun c => no (fun z => c z.1))
    refine ih (pre ++ [y]) (out ++ [[i, (pre.length : Int)]]) h5 (by simp; omega) ?_
    have : blur x y = true := decide_eq_true ⟨c1, c2, c3⟩
    simp only [bl1, this] at hq
    rw [e]; simpa using hq
theorem iBlur_l1 (l : List S93) (hl : l.length ≤ 60) (ho_ : ∀ y, y ∈ l → y.f1 < y.f2) (x : S93) (hx : x.f1 < x.f2) (i : Int) (l' : List S93) (n : Int) (r : List (List Int) × Bool) : ∀ (suf pre : List S93) (out : List (List Int)), l = pre ++ suf → out.length + suf.length ≤ 100000 →
    Ev (fun k => impl_BlurredPairs.l0 k l (out ++ bl1 x i suf (pre.length : Int)) l' n (wrap64 (i + 1))) r →
    Ev (fun k => impl_BlurredPairs.l1 k l out i (pre.length : Int) l' n i x.f0 x.f1 x.f2) r := by
  intro suf
  induction suf with
  | nil =>
    intro pre out h _ hq
    exact Ev.step (fun k => impl_BlurredPairs.l1.eq_2 ..) (evNeg (rgEnd h) (by simpa [bl1] using hq))
  | cons y suf ih =>
    intro pre out h ho hq
    obtain ⟨h1, h2, h3, h4, h5⟩ := rgHead h (by omega) z93
    have hy := ho_ y (by rw [h]; simp)
    simp at ho
    refine Ev.step (fun k => impl_BlurredPairs.l1.eq_2 ..) ?_
    simp only [h1, h2, h3, rd_T93, h4, if_true, mx_eq, mn_eq]
    have e : ((pre ++ [y]).length : Int) = (pre.length : Int) + 1 := by simp
    have no : ¬ (x.f0 = y.f0 ∧ x.f1 < y.f2 ∧ y.f1 < x.f2) → Ev (fun k => impl_BlurredPairs.l1 k l out i ((pre ++ [y]).length : Int) l' n i x.f0 x.f1 x.f2) r := by
      intro c
      refine ih (pre ++ [y]) out h5 (by omega) ?_
      have : blur x y = false := decide_eq_false c
      simp only [bl1, this] at hq
      rw [e]; simpa using hq
    refine evBy (fun c1 => evBy (fun c2 => evPos (by omega) ?_) (fun c => no (fun z => c (by omega)))) (fun c => no (fun z => c z.1))
    refine ih (pre ++ [y]) (out ++ [[i, (pre.length : Int)]]) h5 (by simp; omega) ?_
    have : blur x y = true := decide_eq_true ⟨c1, by omega, by omega⟩
    simp only [bl1, this] at hq
    rw [e]; simpa using hq
theorem sBlur_l0 (l : List S93) (hl : l.length ≤ 60) : ∀ (suf pre : List S93) (out : List (List Int)), l = pre ++ suf → out.length ≤ 60 * pre.length →
    Ev (fun k => spec_BlurredPairs.l0 k l out l (l.length : Int) (pre.length : Int)) (out ++ bl0 suf (pre.length : Int), true) := by
  intro suf
  induction suf with
  | nil =>
    intro pre out h _
    exact Ev.step (fun k => spec_BlurredPairs.l0.eq_2 ..) (evNeg (rgEnd h) (evNow (by simp [bl0])))
  | cons x suf ih =>
    intro pre out h ho
    obtain ⟨h1, h2, h3, h4, h5⟩ := rgHead h (by omega) z93
    have hp : pre.length + (suf.length + 1) ≤ 60 := by rw [h] at hl; simpa using hl
    have hb := bl1_len x (pre.length : Int) suf ((pre ++ [x]).length : Int)
    have hb2 := bl1_len x (pre.length : Int) suf ((pre.length : Int) + 1)
    refine Ev.step (fun k => spec_BlurredPairs.l0.eq_2 ..) ?_
    simp only [h1, h2, h3, rd_T93, h4, if_true]
    refine sBlur_l1 l hl x (pre.length : Int) l (l.length : Int) _ suf (pre ++ [x]) out h5 (by omega) ?_
    rw [h3]
    refine evEq (ih (pre ++ [x]) _ h5 (by simp; omega)) ?_
    simp [bl0]
theorem iBlur_l0 (l : List S93) (hl : l.length ≤ 60) (ho_ : ∀ y, y ∈ l → y.f1 < y.f2) : ∀ (suf pre : List S93) (out : List (List Int)), l = pre ++ suf → out.length ≤ 60 * pre.length →
    Ev (fun k => impl_BlurredPairs.l0 k l out l (l.length : Int) (pre.length : Int)) (out ++ bl0 suf (pre.length : Int), true) := by
  intro suf
  induction suf with
  | nil =>
    intro pre out h _
    exact Ev.step (fun k => impl_BlurredPairs.l0.eq_2 ..) (evNeg (rgEnd h) (evNow (by simp [bl0])))
  | cons x suf ih =>
    intro pre out h ho
    obtain ⟨h1, h2, h3, h4, h5⟩ := rgHead h (by omega) z93
    have hp : pre.length + (suf.length + 1) ≤ 60 := by rw [h] at hl; simpa using hl
    have hb := bl1_len x (pre.length : Int) suf ((pre ++ [x]).length : Int)
    have hb2 := bl1_len x (pre.length : Int) suf ((pre.length : Int) + 1)
    refine Ev.step (fun k => impl_BlurredPairs.l0.eq_2 ..) ?_
    simp only [h1, h2, h3, rd_T93, h4, if_true]
    refine iBlur_l1 l hl ho_ x (ho_ x (by rw [h]; simp)) (pre.length : Int) l (l.length : Int) _ suf (pre ++ [x]) out h5 (by omega) ?_
    rw [h3]
    refine evEq (ih (pre ++ [x]) _ h5 (by simp; omega)) ?_
    simp [bl0]
def blRes (p : List Int) (rep : Int) (l : List S96) (d r lst : Int) : List (List Int) × Bool := if asked p rep l d r lst = true then (bl0 (spk p rep d r lst [] [] (fun _ => -40) l 0).1 0, true) else ([], false)
theorem spk_sm {p : List Int} {rep d r lst : Int} {l : List S96} (hg : goodSheet l = true) : (spk p rep d r lst [] [] (fun _ => -40) l 0).1.length ≤ 60 := by
  have h := spk_len p rep d r lst l [] [] (fun _ => -40) 0
  have := goodSheet_len hg
  simp at h; omega
theorem specBl_ev {p : List Int} (hp : p.length ≤ 1048576) (rep : Int) {l : List S96} (hl : l.length ≤ 1048576) (d r lst : Int) : Ev (fun k => spec_BlurredPairs.f k p rep l d r lst) (blRes p rep l d r lst) := by
  unfold spec_BlurredPairs.f blRes
  refine Ev.bind (pyAsked_ev hp rep hl d r lst) (evIte (fun c => ?_) (fun _ => Ev.now _))
  obtain ⟨⟨h1, _, h2⟩, h3, h4⟩ := asked_iff.1 c
  exact Ev.bind (pyAll_ev (by omega) h2 h4 h3) (sBlur_l0 _ (spk_sm h3) _ [] [] rfl (by simp))
theorem implBl_ev {p : List Int} (hp : p.length ≤ 1048576) (rep : Int) {l : List S96} (hl : l.length ≤ 1048576) (d r lst : Int) : Ev (fun k => impl_BlurredPairs.f k p rep l d r lst) (blRes p rep l d r lst) := by
  unfold impl_BlurredPairs.f blRes
  refine Ev.bind (canBe_ev hp rep hl d r lst) (evIte (fun c => ?_) (fun _ => Ev.now _))
  obtain ⟨⟨h1, _, h2⟩, h3, h4⟩ := asked_iff.1 c
  exact Ev.bind (spoken_ev (by omega) h2 h4 h3) (iBlur_l0 _ (spk_sm h3) (spk_ord p rep d r lst l _ _ _ _ (by simp)) _ [] [] rfl (by simp))
theorem blRes_bd (p : List Int) (rep : Int) (l : List S96) (d r lst : Int) : (blRes p rep l d r lst).1.length ≤ 100000 ∧ ∀ q, q ∈ (blRes p rep l d r lst).1 → q.length ≤ 1000 := by
  unfold blRes
  split
  · rename_i c
    have h := @spk_sm p rep d r lst l (asked_iff.1 c).2.1
    refine ⟨?_, fun q hq => ?_⟩
    · have := bl0_len _ 0 60 h
      dsimp only; omega
    · have := bl0_two _ _ q hq
      omega
  · simp
-- ** FnExactBlurredPairs
theorem FnExactBlurredPairs (l0_0 : List Int) (a0_1 : Int) (l1 : List S98) (a2_0 a2_1 a2_2 : Int) (w0 : Opn.Lst Opn.I64 l0_0) (_ : Opn.I64 a0_1) (w1 : Opn.Lst (fun x : S98 => Opn.I64 x.f0 ∧ Opn.I64 x.f1 ∧ Opn.I64 x.f2) l1) (_ : Opn.I64 a2_0) (_ : Opn.I64 a2_1) (_ : Opn.I64 a2_2) : ∃ k, laws_FnExactBlurredPairs.f k l0_0 a0_1 l1 a2_0 a2_1 a2_2 = some true := by
  refine Ev.rounds (g := fun k => laws_FnExactBlurredPairs.f k l0_0 a0_1 l1 a2_0 a2_1 a2_2) ?_
  unfold laws_FnExactBlurredPairs.f
  simp only [laws_toAction.f, Option.bind_some]
  rw [szInst_eq l0_0 a0_1 w0.1]
  simp only [Option.bind_some]
  by_cases c : l0_0.length ≤ 1048576
  · rw [if_pos c]
    refine evNeg (by omega) ?_
    rw [szHole_at l1 _ (by omega) (by omega) w1.1]
    simp only [Option.bind_some]
    by_cases c1 : (l1.length : Int) ≤ 1048576 - (l0_0.length : Int)
    · rw [if_pos c1]
      have hm : (l1.map cvHole).length ≤ 1048576 := by simp; omega
      obtain ⟨hb, hr⟩ := blRes_bd l0_0 a0_1 (l1.map cvHole) a2_0 a2_1 a2_2
      refine evNeg (by omega) (Ev.bind (toInst_ev a0_1 c) (Ev.bind (toHole_ev l1 (by omega)) (Ev.bind (specBl_ev c a0_1 hm a2_0 a2_1 a2_2) (Ev.bind (toInst_ev a0_1 c) (Ev.bind (toHole_ev l1 (by omega)) (Ev.bind (implBl_ev c a0_1 hm a2_0 a2_1 a2_2) (Ev.bind (eqSS_ev hb hr) (evPos rfl ?_))))))))
      simp only [bne_self_eq_false]
      refine Ev.step (fun k => laws_FnExactBlurredPairs.j0.eq_2 ..) (evNeg (by simp) (Ev.bind (toInst_ev a0_1 c) (Ev.bind (eqInst_ev a0_1 c) (evPos rfl (Ev.bind (toHole_ev l1 (by omega)) (Ev.bind (eqHole_ev _ (by omega)) (evPos rfl (Ev.bind (markInst_ev a0_1 c) (Ev.bind (markHole_at _ _ hm (by dsimp only; omega) (by dsimp only; omega)) (evNeg (by dsimp only; omega) (Ev.bind (eqSS_ev hb hr) (evPos rfl ?_))))))))))))
      simp only [bne_self_eq_false]
      refine Ev.step (fun k => laws_FnExactBlurredPairs.j1.eq_2 ..) ?_
      simp only [laws_toAction.f, Option.bind_some]
      refine evNeg (by simp) (Ev.bind (markSS_ev _ hb hr) (Ev.bind (heldSS_ev _ hb hr) (evNeg (by omega) (evPos rfl (Ev.bind (toInst_ev a0_1 c) (Ev.bind (toHole_ev l1 (by omega)) (Ev.bind (implBl_ev c a0_1 hm a2_0 a2_1 a2_2) (Ev.bind (eqSS_ev hb hr) (evPos rfl ?_)))))))))
      simp only [bne_self_eq_false]
      exact Ev.step (fun k => laws_FnExactBlurredPairs.j2.eq_2 ..) (evNeg (by simp) (Ev.bind (heldSS_ev _ hb hr) (evNeg (by omega) (evPos rfl (Ev.now _)))))
    · rw [if_neg c1]
      exact evPos (by omega) (Ev.now _)
  · rw [if_neg c]
    exact evPos (by omega) (Ev.now _)
end Go.Proofs.Ytjjjikdpegogcaa.Pure
