/- For every drawn blocks, those with no free choice are decoded, peeled ones agree with what they were, and best feed holes have the fewest errors. (P14): the plain part: what the program computes and what the reference computes agree, for all arguments. No conditions beyond the arguments' own kinds. -/
import Derived.Test.YtjdkdbeenggfaaaPErx0
import Derived.Test.YtjdkdbeenggfaaaPErx1
import Derived.Test.YtjdkdbeenggfaaaPErx2
import Derived.Test.YtjdkdbeenggfaaaPErx3
import Derived.Test.YtjdkdbeenggfaaaPErx4
import Derived.Test.YtjdkdbeenggfaaaPErx5
import Derived.Test.YtjdkdbeenggfaaaPErx6
import Derived.Test.YtjdkdbeenggfaaaPErx7
import Derived.Test.YtjdkdbeenggfaaaPErx8
import Derived.Test.YtjdkdbeenggfaaaPErx9
import Derived.Test.YtjdkdbeenggfaaaPErx10
import Derived.Test.YtjdkdbeenggfaaaPErx11
import Derived.Test.YtjdkdbeenggfaaaPErx12
import Derived.Test.YtjdkdbeenggfaaaPErx13
import Derived.Test.YtjdkdbeenggfaaaPErx14
import Derived.Test.YtjdkdbeenggfaaaPErx15
import Derived.Test.YtjdkdbeenggfaaaPErx16
import Derived.Test.YtjdkdbeenggfaaaPErx17
import Derived.Test.YtjdkdbeenggfaaaPErx18
import Derived.Test.YtjdkdbeenggfaaaPErx19
import Derived.Test.YtjdkdbeenggfaaaPErx20
import Derived.Test.YtjdkdbeenggfaaaPErx21
import Derived.Test.YtjdkdbeenggfaaaPErx22
import Derived.Test.YtjdkdbeenggfaaaPErx23
import Derived.Test.YtjdkdbeenggfaaaPErx24
import Derived.Test.YtjdkdbeenggfaaaOpn
namespace Go.Proofs.Ytjdkdbeenggfaaa.Pure
open Go.RowKit Go.Proofs.Ytjdkdbeenggfaaa.PEr Go.Proofs.YtjdkdbeenggfaaaW.PrintWords Go.Proofs.YtjdkdbeenggfaaaW.PrintLast Go.Proofs.YtjdkdbeenggfaaaW.PrintMore
set_option linter.unusedVariables false
set_option linter.unusedSectionVars false
theorem Q5 {x : Int} (h0 : -9223372036854775808 ≤ x) (h1 : x ≤ 9223372036854775807) : wrap64 x = x := by unfold wrap64; omega
theorem y5 {α : Type} {c : Prop} [Decidable c] {g f : Nat → Option α} {r : α} (h : c) (e : Ev g r) : Ev (fun k => if c then g k else f k) r := by
 simp only [if_pos h]; exact e
theorem z8 {α : Type} {c : Prop} [Decidable c] {g f : Nat → Option α} {r : α} (h : ¬ c) (e : Ev f r) : Ev (fun k => if c then g k else f k) r := by
 simp only [if_neg h]; exact e
theorem evC {α β : Type} {o : Option α} {f : Nat → α → Option β} {a : α} {r : β} (h : o = some a) (e : Ev (fun n => f n a) r) : Ev (fun n => o.bind (f n)) r := by
 subst h; exact e
theorem q94 {α : Type} {o : Option α} {r : α} (h : o = some r) : Ev (fun _ => o) r := by subst h; exact Ev.now r
theorem J2 {α : Type} {r q : α} (h : r = q) : Ev (fun _ => some r) q := by subst h; exact Ev.now r
theorem K9 {α : Type} {g : Nat → Option α} {r q : α} (h : Ev g r) (e : r = q) : Ev g q := e ▸ h
theorem E8 {α : Type} {c : Prop} [Decidable c] {g f : Nat → Option α} {r q : α} (h : c → Ev g r) (h' : ¬ c → Ev f q) : Ev (fun k => if c then g k else f k) (if c then r else q) := by
 by_cases hc : c
 ·simp only [if_pos hc]; exact h hc
 ·simp only [if_neg hc]; exact h' hc
theorem J7 {α : Type} {c : Prop} [Decidable c] {g f : Nat → Option α} {r : α} (h : c → Ev g r) (h' : ¬ c → Ev f r) : Ev (fun k => if c then g k else f k) r := by
 by_cases hc : c
 ·simp only [if_pos hc]; exact h hc
 ·simp only [if_neg hc]; exact h' hc
theorem q97 {p : Prop} [Decidable p] (h : p) : some true = some (decide p) := by rw [decide_eq_true h]
theorem q3i {p : Prop} [Decidable p] (h : ¬ p) : some false = some (decide p) := by rw [decide_eq_false h]
theorem q5r {p q : Prop} [Decidable p] [Decidable q] (h : p ↔ q) : some (decide p) = some (decide q) := by rw [decide_eq_decide.mpr h]
theorem q5p {p : Prop} [Decidable p] (h : ¬ p) : false = decide p := by rw [decide_eq_false h]
theorem q2j {p q : Prop} [Decidable p] [Decidable q] (h : p ↔ q) : decide p = decide q := decide_eq_decide.mpr h
theorem q8y {α : Type} {p : α → Bool} {x : α} {suf : List α} {q : Bool} (h : p x = false) : false = ((x :: suf).all p && q) := by simp [h]
theorem q53 {α : Type} {p : α → Bool} {x : α} {suf : List α} {q : Bool} (h : p x = true) : (suf.all p && q) = ((x :: suf).all p && q) := by simp [h]
theorem P5 {α : Type} {l pre : List α} (h : l = pre ++ []) : ¬ ((pre.length : Int) < (l.length : Int)) := by subst h; simp
theorem H9 {α : Type} {l pre suf : List α} {x : α} (h : l = pre ++ x :: suf) (hl : l.length ≤ 4611686018427387904) (z : α) :
  (pre.length : Int) < (l.length : Int) ∧ (0 : Int) ≤ (pre.length : Int) ∧ wrap64 ((pre.length : Int) + 1) = ((pre ++ [x]).length : Int) ∧ l.getD (pre.length : Int).toNat z = x ∧ l = (pre ++ [x]) ++ suf := by
 subst h
 simp at hl
 refine ⟨by simp; omega, by omega, ?_, by simp, by simp⟩
 rw [Q5 (by omega) (by omega)]; simp
theorem q0j (a b c : Int) : V5.f a b c = some (decide (b ≤ a ∧ a ≤ c)) := by
 unfold V5.f
 split
 ·exact q5r (by omega)
 ·exact q3i (by omega)
theorem q6r (y : Int) : 0 ≤ wrap64 (Go.bits .and .u64 (IntKind.u64.wrap y / 1099511627776) 255) ∧ wrap64 (Go.bits .and .u64 (IntKind.u64.wrap y / 1099511627776) 255) ≤ 255 := by
 have h : 0 ≤ IntKind.u64.wrap y / 1099511627776 ∧ IntKind.u64.wrap y / 1099511627776 < 18446744073709551616 := by rw [IntKind.wrap_u64]; omega
 generalize IntKind.u64.wrap y / 1099511627776 = x at h
 have e := Go.bits_and_u64_nat x.toNat 255 (by omega) (by omega)
 rw [show ((x.toNat : Nat) : Int) = x by omega] at e
 have l : x.toNat &&& 255 ≤ 255 := Nat.and_le_right
 rw [show Go.bits .and .u64 x 255 = ((x.toNat &&& 255 : Nat) : Int) from e, Q5 (by omega) (by omega)]
 omega
def bytes (l : List Int) : Prop := ∀ x, x ∈ l → 0 ≤ x ∧ x ≤ 255
theorem q4y {l : List Int} (hl : bytes l) {a : Int} (s : Int) (h0 : 0 ≤ a) (h1 : a ≤ 1000000000) : ∃ v s', W9.f l a s = some (v, a + 1, s') ∧ 0 ≤ v ∧ v ≤ 255 := by
 unfold W9.f
 rw [Q5 (x := a + 1) (by omega) (by omega)]
 by_cases c : a < (l.length : Int)
 ·have hr : 0 ≤ rd l a ∧ rd l a ≤ 255 := hl _ (by unfold rd; rw [List.getD_eq_getElem?_getD, List.getElem?_eq_getElem (by omega), Option.getD_some]; exact List.getElem_mem _)
  rw [if_pos c, if_pos h0]
  split
  ·exact ⟨_, _, rfl, by rw [Q5 (by omega) (by omega)]; omega⟩
  ·exact ⟨_, _, rfl, q6r _⟩
 ·rw [if_neg c]
  split
  ·exact ⟨_, _, rfl, by omega⟩
  ·exact ⟨_, _, rfl, q6r _⟩
theorem Z6 {l : List Int} (hl : bytes l) {a : Int} (s : Int) (h0 : 0 ≤ a) (h1 : a ≤ 900000000) {m : Int} (hm : m ≤ 65000) : ∃ v a' s', j5.f l a s m = some (v, a', s') ∧ (0 ≤ v ∧ (1 ≤ m → v < m)) ∧ a ≤ a' ∧ a' ≤ a + 2 := by
 unfold j5.f
 by_cases c : m ≤ 1
 ·rw [if_pos c]; exact ⟨_, _, _, rfl, by omega⟩
 ·rw [if_neg c]
  obtain ⟨v, s', e, hv⟩ := q4y hl s h0 (by omega)
  rw [e]
  simp only [Option.bind_some]
  by_cases c1 : m > 200
  ·obtain ⟨v2, s2, e2, hv2⟩ := q4y hl s' (show 0 ≤ a + 1 by omega) (by omega)
   rw [if_pos c1, e2]
   simp only [Option.bind_some]
   rw [if_neg (by omega), Q5 (x := v * 256) (by omega) (by omega), Q5 (x := v * 256 + v2) (by omega) (by omega)]
   exact ⟨_, _, _, rfl, ⟨Int.tmod_nonneg _ (by omega), fun _ => Int.tmod_lt_of_pos _ (by omega)⟩, by omega, by omega⟩
  ·rw [if_neg c1, if_neg (by omega)]
   exact ⟨_, _, _, rfl, ⟨Int.tmod_nonneg _ (by omega), fun _ => Int.tmod_lt_of_pos _ (by omega)⟩, by omega, by omega⟩
theorem I6 {l : List Int} (hl : bytes l) {a : Int} (s : Int) (h0 : 0 ≤ a) (h1 : a ≤ 900000000) {m : Int} (hm : m ≤ 65000) : ∃ v a' s', Q7.f l a s m = some (v, a', s') ∧ a ≤ a' ∧ a' ≤ a + 2 := by
 unfold Q7.f
 obtain ⟨v, a', s', e, hv, ha⟩ := Z6 hl s h0 h1 hm
 rw [e]
 exact ⟨_, _, _, rfl, ha⟩
theorem setAt {α : Type} (A B : List α) (z v : α) (n : Nat) (h : n = A.length) : (A ++ z :: B).set n v = A ++ v :: B := by subst h; simp
def bl (s : ByteArray) : List UInt8 := s.data.toList
theorem Z8 (s : ByteArray) : (bl s).length = s.size := by unfold bl ByteArray.size; exact Array.length_toList
theorem O3 {s : ByteArray} {pre suf : List UInt8} {b : UInt8} (h : bl s = pre ++ b :: suf) : bt s (pre.length : Int) = (b.toNat : Int) := by
 have hl : pre.length < s.size := by rw [← Z8, h]; simp
 unfold bt
 rw [dif_pos (by simpa using hl)]
 have : s[pre.length]'hl = b := by
  show s.data[pre.length]'_ = b
  rw [← Array.getElem_toList]
  have e : s.data.toList = pre ++ b :: suf := h
  simp [e]
 simp only [Int.toNat_natCast, this]
def chr (b : UInt8) : Bool := decide (b = 46 ∨ b = 111 ∨ b = 63)
def rowOk (n : Nat) (s : ByteArray) : Bool := decide (s.size = n) && (bl s).all chr
def sz0 (l : List ByteArray) : Nat := (l.getD 0 ByteArray.empty).size
def good (l : List ByteArray) : Bool := decide (2 ≤ l.length ∧ l.length ≤ 12) && (decide (2 ≤ sz0 l ∧ sz0 l ≤ 12) && l.all (rowOk (sz0 l)))
theorem U8 {l : List ByteArray} : good l = true ↔ (2 ≤ l.length ∧ l.length ≤ 12) ∧ (2 ≤ sz0 l ∧ sz0 l ≤ 12) ∧ l.all (rowOk (sz0 l)) = true := by simp [good]
theorem bt0 : bt (⟨#[46, 111, 63]⟩ : ByteArray) 0 = 46 := by decide
theorem bt1 : bt (⟨#[46, 111, 63]⟩ : ByteArray) 1 = 111 := by decide
theorem bt2 : bt (⟨#[46, 111, 63]⟩ : ByteArray) 2 = 63 := by decide
theorem sz3 : ((⟨#[46, 111, 63]⟩ : ByteArray).size : Int) = 3 := by decide
theorem R7 (b : UInt8) (n : Nat) (hn : n < 256) : ((b.toNat : Int) = (n : Int)) ↔ b = UInt8.ofNat n := by
 constructor
 ·intro h
  have : b.toNat = n := by omega
  apply UInt8.toNat_inj.1
  rw [this, UInt8.toNat_ofNat']; omega
 ·intro h; subst h; rw [UInt8.toNat_ofNat']; omega
theorem q52 (b : UInt8) : chr b = true ↔ ((b.toNat : Int) = 46 ∨ (b.toNat : Int) = 111 ∨ (b.toNat : Int) = 63) := by
 unfold chr
 rw [decide_eq_true_eq, show ((46 : Int) = ((46 : Nat) : Int)) from rfl, show ((111 : Int) = ((111 : Nat) : Int)) from rfl, show ((63 : Int) = ((63 : Nat) : Int)) from rfl, R7 b 46 (by omega), R7 b 111 (by omega), R7 b 63 (by omega)]
 rfl
theorem q7q (l : List ByteArray) (s : ByteArray) (hs : s.size ≤ 1048576) (l' : List ByteArray) (n i : Int) (q : Bool) (hq : Ev (fun k => l7.l0 k l 2 12 ⟨#[46, 111, 63]⟩ l' n (wrap64 (i + 1))) q) : ∀ (suf pre : List UInt8), bl s = pre ++ suf →
  Ev (fun k => l7.l1 k l 2 12 ⟨#[46, 111, 63]⟩ s (pre.length : Int) l' n i) (suf.all chr && q) := by
 intro suf
 have hsz := Z8 s
 induction suf with
 | nil =>
  intro pre h
  have : pre.length = s.size := by rw [← hsz, h]; simp
  exact Ev.step (fun k => l7.l1.eq_2 ..) (z8 (by omega) (K9 hq (by simp)))
 | cons b suf ih =>
  intro pre h
  have hl : pre.length + (suf.length + 1) = s.size := by rw [← hsz, h]; simp
  have hb := O3 h
  have ih' := ih (pre ++ [b]) (by rw [h]; simp)
  have e : wrap64 ((pre.length : Int) + 1) = ((pre ++ [b]).length : Int) := by rw [Q5 (by omega) (by omega)]; simp
  have hc := q52 b
  refine Ev.step (fun k => l7.l1.eq_2 ..) (y5 (by omega) ?_)
  have fin : ∀ (f : Bool), f = chr b → Ev (fun k => l7.l2 k l 2 12 ⟨#[46, 111, 63]⟩ s (pre.length : Int) f 3 l' n i) ((b :: suf).all chr && q) := by
   intro f hf
   refine Ev.step (fun k => l7.l2.eq_2 ..) (z8 (by rw [sz3]; omega) ?_)
   rw [List.all_cons, ← hf]
   cases f with
   | true => exact y5 rfl (by rw [e]; simpa using ih')
   | false => exact z8 (by simp) (J2 (by simp))
  have s2 : ∀ (f : Bool), (f = true ↔ ((b.toNat : Int) = 46 ∨ (b.toNat : Int) = 111)) → Ev (fun k => l7.l2 k l 2 12 ⟨#[46, 111, 63]⟩ s (pre.length : Int) f 2 l' n i) ((b :: suf).all chr && q) := by
   intro f hf
   refine Ev.step (fun k => l7.l2.eq_2 ..) ?_
   rw [show wrap64 (2 + 1) = 3 by unfold wrap64; omega]
   refine (y5 (by rw [sz3]; omega) (J7 (fun c => fin true ?_) (fun c => y5 (by omega) (y5 (by omega) (y5 (by omega) ?_)))))
   ·exact (hc.2 (by have := hf.1 c; omega)).symm
   ·rw [hb, bt2]
    refine fin _ ?_
    rw [Bool.eq_iff_iff, hc, beq_iff_eq]
    have : ¬ ((b.toNat : Int) = 46 ∨ (b.toNat : Int) = 111) := fun z => c (hf.2 z)
    omega
  have s1 : ∀ (f : Bool), (f = true ↔ (b.toNat : Int) = 46) → Ev (fun k => l7.l2 k l 2 12 ⟨#[46, 111, 63]⟩ s (pre.length : Int) f 1 l' n i) ((b :: suf).all chr && q) := by
   intro f hf
   refine Ev.step (fun k => l7.l2.eq_2 ..) ?_
   rw [show wrap64 (1 + 1) = 2 by unfold wrap64; omega]
   refine (y5 (by rw [sz3]; omega) (J7 (fun c => s2 true ?_) (fun c => y5 (by omega) (y5 (by omega) (y5 (by omega) ?_)))))
   ·simp only [true_iff]; exact .inl (hf.1 c)
   ·rw [hb, bt1]
    refine s2 _ ?_
    rw [beq_iff_eq]
    have : ¬ (b.toNat : Int) = 46 := fun z => c (hf.2 z)
    omega
  refine Ev.step (fun k => l7.l2.eq_2 ..) ?_
  rw [show wrap64 (0 + 1) = 1 by unfold wrap64; omega]
  refine (y5 (by rw [sz3]; omega) (z8 (by simp) (y5 (by omega) (y5 (by omega) (y5 (by omega) ?_)))))
  rw [hb, bt0]
  exact s1 _ (by rw [beq_iff_eq])
theorem at0 {l : List ByteArray} : rdOf ByteArray.empty l 0 = l.getD 0 ByteArray.empty := rfl
theorem R9 {l : List ByteArray} (hl : l.length ≤ 1048576) (hb : ∀ s, s ∈ l → s.size ≤ 1048576) : Ev (fun k => Y7.f k l) (good l) := by
 unfold Y7.f l7.f
 have go : ∀ (suf pre : List ByteArray), l = pre ++ suf → Ev (fun k => l7.l0 k l 2 12 ⟨#[46, 111, 63]⟩ l (l.length : Int) (pre.length : Int)) (suf.all (rowOk (sz0 l)) && (decide (2 ≤ l.length ∧ l.length ≤ 12) && decide (2 ≤ sz0 l ∧ sz0 l ≤ 12))) := by
  intro suf
  induction suf with
  | nil =>
   intro pre h
   refine Ev.step (fun k => l7.l0.eq_2 ..) (z8 (P5 h) ?_)
   simp only [q0j, Option.bind_some, decide_eq_true_eq, List.all_nil, Bool.true_and]
   refine J7 (fun c => y5 (by omega) (J2 ?_)) (fun c => J2 ?_)
   ·rw [decide_eq_true (show 2 ≤ l.length ∧ l.length ≤ 12 by omega), Bool.true_and, at0]
    exact q2j (by unfold sz0; omega)
   ·rw [decide_eq_false (show ¬ (2 ≤ l.length ∧ l.length ≤ 12) by omega), Bool.false_and]
  | cons s suf ih =>
   intro pre h
   obtain ⟨h1, h2, h3, h4, h5⟩ := H9 h (by omega) ByteArray.empty
   refine Ev.step (fun k => l7.l0.eq_2 ..) ?_
   simp only [h1, h2, rdOf, h4, if_true]
   refine y5 (by omega) (J7 (fun c => ?_) (fun c => J2 ?_))
   ·have := q7q l s (hb s (by rw [h]; simp)) l (l.length : Int) (pre.length : Int) _ (by rw [h3]; exact ih _ h5) (bl s) [] rfl
    refine K9 this ?_
    have e : rowOk (sz0 l) s = (bl s).all chr := by
     unfold rowOk; rw [decide_eq_true (show s.size = sz0 l by unfold sz0; have c' : (s.size : Int) = ((l.getD 0 ByteArray.empty).size : Int) := c; omega), Bool.true_and]
    rw [List.all_cons, e, Bool.and_assoc]
   ·have e : rowOk (sz0 l) s = false := by
     unfold rowOk; rw [decide_eq_false (show ¬ s.size = sz0 l by unfold sz0; have c' : ¬ (s.size : Int) = ((l.getD 0 ByteArray.empty).size : Int) := c; omega), Bool.false_and]
    rw [List.all_cons, e]; rfl
 refine Ev.bind (go l [] rfl) (J2 ?_)
 unfold good
 rw [Bool.and_comm, Bool.and_assoc]
theorem q74 (b : UInt8) : ¬ Go.Lib.indexByte (⟨#[46, 111, 63]⟩ : ByteArray).data.toList b < 0 ↔ chr b = true := by
 show ¬ Go.Lib.indexByte [46, 111, 63] b < 0 ↔ chr b = true
 unfold chr
 simp only [Go.Lib.indexByte]
 by_cases c1 : b = 46
 ·subst c1; decide
 ·by_cases c2 : b = 111
  ·subst c2; decide
  ·by_cases c3 : b = 63
   ·subst c3; decide
   ·simp [c1, c2, c3, Ne.symm c1, Ne.symm c2, Ne.symm c3]
theorem q58 (l : List ByteArray) (s : ByteArray) (hs : s.size ≤ 1048576) (l' : List ByteArray) (n i : Int) (q : Bool) (hq : Ev (fun k => o5.l0 k l ⟨#[46, 111, 63]⟩ l' n (wrap64 (i + 1))) q) : ∀ (suf pre : List UInt8), bl s = pre ++ suf →
  Ev (fun k => o5.l1 k l ⟨#[46, 111, 63]⟩ s (pre.length : Int) l' n i) (suf.all chr && q) := by
 intro suf
 have hsz := Z8 s
 induction suf with
 | nil =>
  intro pre h
  have : pre.length = s.size := by rw [← hsz, h]; simp
  exact Ev.step (fun k => o5.l1.eq_2 ..) (z8 (by omega) (K9 hq (by simp)))
 | cons b suf ih =>
  intro pre h
  have hl : pre.length + (suf.length + 1) = s.size := by rw [← hsz, h]; simp
  have hb := O3 h
  have ih' := ih (pre ++ [b]) (by rw [h]; simp)
  have e : wrap64 ((pre.length : Int) + 1) = ((pre ++ [b]).length : Int) := by rw [Q5 (by omega) (by omega)]; simp
  refine Ev.step (fun k => o5.l1.eq_2 ..) (y5 (by omega) (y5 (by omega) ?_))
  rw [hb, e]
  simp only [strings_IndexByte.f, Option.bind_some]
  rw [show ((b.toNat : Int).toNat.toUInt8) = b by simp]
  have hi := q74 b
  refine J7 (fun c => J2 ?_) (fun c => K9 ih' ?_)
  ·have : chr b = false := Bool.eq_false_iff.2 (fun z => hi.2 z c)
   rw [List.all_cons, this]; rfl
  ·rw [List.all_cons, hi.1 c, Bool.true_and]
theorem N9 {l : List ByteArray} (hl : l.length ≤ 1048576) (hb : ∀ s, s ∈ l → s.size ≤ 1048576) : Ev (fun k => J3.f k l) (good l) := by
 unfold J3.f o5.f
 have go : ∀ (suf pre : List ByteArray), l = pre ++ suf → Ev (fun k => o5.l0 k l ⟨#[46, 111, 63]⟩ l (l.length : Int) (pre.length : Int)) (suf.all (rowOk (sz0 l))) := by
  intro suf
  induction suf with
  | nil =>
   intro pre h
   exact Ev.step (fun k => o5.l0.eq_2 ..) (z8 (P5 h) (Ev.now _))
  | cons s suf ih =>
   intro pre h
   obtain ⟨h1, h2, h3, h4, h5⟩ := H9 h (by omega) ByteArray.empty
   refine Ev.step (fun k => o5.l0.eq_2 ..) ?_
   simp only [h1, h2, rdOf, h4, if_true]
   refine y5 (by omega) (J7 (fun c => ?_) (fun c => J2 ?_))
   ·have := q58 l s (hb s (by rw [h]; simp)) l (l.length : Int) (pre.length : Int) _ (by rw [h3]; exact ih _ h5) (bl s) [] rfl
    refine K9 this ?_
    have e : rowOk (sz0 l) s = (bl s).all chr := by
     unfold rowOk; rw [decide_eq_true (show s.size = sz0 l by unfold sz0; have c' : (s.size : Int) = ((l.getD 0 ByteArray.empty).size : Int) := c; omega), Bool.true_and]
    rw [List.all_cons, e]
   ·have e : rowOk (sz0 l) s = false := by
     unfold rowOk; rw [decide_eq_false (show ¬ s.size = sz0 l by unfold sz0; have c' : ¬ (s.size : Int) = ((l.getD 0 ByteArray.empty).size : Int) := c; omega), Bool.false_and]
    rw [List.all_cons, e]; rfl
 have bad : ∀ {z : Bool}, z = true → good l = false → Ev (fun k => o5.j0 k l ⟨#[46, 111, 63]⟩ z) (good l) := fun hz h =>
  Ev.step (fun k => o5.j0.eq_2 ..) (y5 hz (J2 h.symm))
 have nog : ¬ ((2 ≤ l.length ∧ l.length ≤ 12) ∧ (2 ≤ sz0 l ∧ sz0 l ≤ 12)) → good l = false := fun h => Bool.eq_false_iff.2 (fun z => h ⟨(U8.1 z).1, (U8.1 z).2.1⟩)
 refine Ev.bind (a := good l) (J7 (fun c => bad rfl (nog (by omega))) (fun c => J7 (fun c1 => bad rfl (nog (by omega))) (fun c1 => y5 (by omega) ?_))) (Ev.now _)
 rw [at0]
 refine J7 (fun c2 => bad rfl (nog (by unfold sz0; omega))) (fun c2 => ?_)
 by_cases c3 : ((l.getD 0 ByteArray.empty).size : Int) > 12
 ·exact bad (decide_eq_true c3) (nog (by unfold sz0; omega))
 ·refine Ev.step (fun k => o5.j0.eq_2 ..) (z8 (by simpa using c3) (K9 (go l [] rfl) ?_))
  unfold good
  rw [decide_eq_true (show 2 ≤ l.length ∧ l.length ≤ 12 by omega), decide_eq_true (show 2 ≤ sz0 l ∧ sz0 l ≤ 12 by unfold sz0; omega), Bool.true_and, Bool.true_and]
def cnt (s : ByteArray) : Nat := (bl s).count 63
theorem q6l (s : ByteArray) : cnt s ≤ s.size := by unfold cnt; rw [← Z8]; exact List.count_le_length
def ers : List ByteArray → Nat
 | [] => 0
 | s :: l => cnt s + ers l
theorem q5s {s : ByteArray} (hs : s.size ≤ 1048576) : Ev (fun k => Q8.f k s 63) ((cnt s : Nat) : Int) := by
 unfold Q8.f
 have hsz := Z8 s
 have go : ∀ (suf pre : List UInt8) (a : Nat), bl s = pre ++ suf → a ≤ pre.length → Ev (fun k => Q8.l0 k s 63 (a : Int) (pre.length : Int)) ((a + suf.count 63 : Nat) : Int) := by
  intro suf
  induction suf with
  | nil =>
   intro pre a h _
   have : pre.length = s.size := by rw [← hsz, h]; simp
   exact Ev.step (fun k => Q8.l0.eq_2 ..) (z8 (by omega) (J2 (by simp)))
  | cons b suf ih =>
   intro pre a h ha
   have hl : pre.length + (suf.length + 1) = s.size := by rw [← hsz, h]; simp
   have hb := O3 h
   have e : wrap64 ((pre.length : Int) + 1) = ((pre ++ [b]).length : Int) := by rw [Q5 (by omega) (by omega)]; simp
   refine Ev.step (fun k => Q8.l0.eq_2 ..) (y5 (by omega) (y5 (by omega) ?_))
   rw [hb, e, Q5 (x := (a : Int) + 1) (by omega) (by omega)]
   have hu := R7 b 63 (by omega)
   refine J7 (fun c => ?_) (fun c => ?_)
   ·have c' : b = 63 := hu.1 c
    refine K9 (ih (pre ++ [b]) (a + 1) (by rw [h]; simp) (by simp; omega)) ?_
    rw [c', List.count_cons_self]; omega
   ·have c' : ¬ b = 63 := fun z => c (hu.2 z)
    refine K9 (ih (pre ++ [b]) a (by rw [h]; simp) (by simp; omega)) ?_
    rw [List.count_cons_of_ne (by simpa using c')]
 have := go (bl s) [] 0 rfl (by simp)
 simpa [cnt] using this
theorem q1q (l : List ByteArray) (hl : l.length ≤ 1048576) (hb : ∀ s, s ∈ l → s.size ≤ 1048576) : ∀ (suf pre : List ByteArray) (a : Nat), l = pre ++ suf → a ≤ 1048576 * pre.length → Ev (fun k => J9.l0 k (a : Int) l (l.length : Int) (pre.length : Int)) ((a + ers suf : Nat) : Int) := by
 intro suf
 induction suf with
 | nil =>
  intro pre a h _
  exact Ev.step (fun k => J9.l0.eq_2 ..) (z8 (P5 h) (J2 (by simp [ers])))
 | cons s suf ih =>
  intro pre a h ha
  obtain ⟨h1, h2, h3, h4, h5⟩ := H9 h (by omega) ByteArray.empty
  have hs := hb s (by rw [h]; simp)
  have hc := q6l s
  have hp : pre.length ≤ 1048576 := by rw [h] at hl; simp at hl; omega
  refine Ev.step (fun k => J9.l0.eq_2 ..) ?_
  simp only [h1, h2, h3, rdOf, h4, if_true]
  refine Ev.bind (q5s hs) ?_
  rw [Q5 (x := (a : Int) + (cnt s : Nat)) (by omega) (by omega), show (a : Int) + (cnt s : Nat) = ((a + cnt s : Nat) : Int) by omega]
  exact K9 (ih _ (a + cnt s) h5 (by simp; omega)) (by simp only [ers]; omega)
theorem q3x (l : List ByteArray) (hl : l.length ≤ 1048576) (hb : ∀ s, s ∈ l → s.size ≤ 1048576) : ∀ (suf pre : List ByteArray) (a : Nat), l = pre ++ suf → a ≤ 1048576 * pre.length → Ev (fun k => Y9.l0 k ⟨#[63]⟩ (a : Int) l (l.length : Int) (pre.length : Int)) ((a + ers suf : Nat) : Int) := by
 intro suf
 induction suf with
 | nil =>
  intro pre a h _
  exact Ev.step (fun k => Y9.l0.eq_2 ..) (z8 (P5 h) (J2 (by simp [ers])))
 | cons s suf ih =>
  intro pre a h ha
  obtain ⟨h1, h2, h3, h4, h5⟩ := H9 h (by omega) ByteArray.empty
  have hs := hb s (by rw [h]; simp)
  have hc := q6l s
  have hp : pre.length ≤ 1048576 := by rw [h] at hl; simp at hl; omega
  have e : strings_Count.f s ⟨#[63]⟩ = some ((cnt s : Nat) : Int) := by
   unfold strings_Count.f; rw [if_pos (by rfl)]; rfl
  refine Ev.step (fun k => Y9.l0.eq_2 ..) ?_
  simp only [h1, h2, h3, rdOf, h4, if_true, e, Option.bind_some]
  rw [Q5 (x := (a : Int) + (cnt s : Nat)) (by omega) (by omega), show (a : Int) + (cnt s : Nat) = ((a + cnt s : Nat) : Int) by omega]
  exact K9 (ih _ (a + cnt s) h5 (by simp; omega)) (by simp only [ers]; omega)
def U3 (l : List ByteArray) : Int × Bool := if good l = true then (((ers l : Nat) : Int), true) else (0, false)
theorem q2t {l : List ByteArray} (hl : l.length ≤ 1048576) (hb : ∀ s, s ∈ l → s.size ≤ 1048576) : Ev (fun k => Z4.f k l) (U3 l) := by
 unfold Z4.f J9.f U3
 refine Ev.bind (R9 hl hb) (E8 (fun _ => ?_) (fun _ => Ev.now _))
 refine Ev.bind (q1q l hl hb l [] 0 rfl (by simp)) (J2 (by simp))
theorem q2w {l : List ByteArray} (hl : l.length ≤ 1048576) (hb : ∀ s, s ∈ l → s.size ≤ 1048576) : Ev (fun k => Z7.f k l) (U3 l) := by
 unfold Z7.f Y9.f U3
 refine Ev.bind (N9 hl hb) (E8 (fun _ => ?_) (fun _ => Ev.now _))
 refine Ev.bind (q3x l hl hb l [] 0 rfl (by simp)) (J2 (by simp))
def mkb (b : List UInt8) : ByteArray := ⟨b.toArray⟩
theorem R8 (b : List UInt8) : bl (mkb b) = b := by simp [bl, mkb]
theorem I4 (s : ByteArray) : mkb (bl s) = s := by cases s; simp [bl, mkb]
theorem N8 (b : List UInt8) : (mkb b).size = b.length := by simp [mkb, ByteArray.size]
theorem q64 {s t : ByteArray} (h : bl s = bl t) : s = t := by rw [← I4 s, ← I4 t, h]
theorem q08 (s t : ByteArray) : bl (s ++ t) = bl s ++ bl t := by simp [bl]
theorem F5 (s : ByteArray) (i j : Nat) : bl (s.extract i j) = ((bl s).drop i).take (j - i) := by simp [bl, List.extract]
theorem q0k (a b : List UInt8) : mkb a ++ mkb b = mkb (a ++ b) := q64 (by rw [q08, R8, R8, R8])
theorem q0f (s : ByteArray) (i : Nat) (h : i < (bl s).length) : bt s (i : Int) = (((bl s).getD i 0).toNat : Int) := by
 have hl : i < s.size := by rw [← Z8]; exact h
 unfold bt
 rw [dif_pos (by simpa using hl)]
 have e : s[(i : Int).toNat]'(by simpa using hl) = (bl s).getD i 0 := by
  show s.data[(i : Int).toNat]'_ = _
  rw [List.getD_eq_getElem?_getD, List.getElem?_eq_getElem h]
  simp [bl]
 rw [e]
structure Shp (n m : Nat) (l : List ByteArray) : Prop where
 n2 : 2 ≤ n ∧ n ≤ 12
 m2 : 2 ≤ m ∧ m ≤ 12
 ln : l.length = n
 rw_ : ∀ s, s ∈ l → s.size = m
theorem G8 {n m : Nat} {l : List ByteArray} (h : Shp n m l) {r : Nat} (hr : r < n) : (bl (l.getD r ByteArray.empty)).length = m := by
 rw [Z8]
 refine h.rw_ _ ?_
 rw [List.getD_eq_getElem?_getD, List.getElem?_eq_getElem (by rw [h.ln]; exact hr)]
 exact List.getElem_mem _
theorem q5j {n m : Nat} {l : List ByteArray} (h : Shp n m l) : ((rdOf ByteArray.empty l 0).size : Int) = (m : Int) := by
 have := G8 h (r := 0) (by have := h.n2; omega)
 rw [Z8] at this
 show ((l.getD 0 ByteArray.empty).size : Int) = _
 omega
theorem O1 {l : List ByteArray} (h : good l = true) : Shp l.length (sz0 l) l := by
 obtain ⟨h1, h2, h3⟩ := U8.1 h
 refine ⟨h1, h2, rfl, fun s hs => ?_⟩
 have := List.all_eq_true.1 h3 s hs
 unfold rowOk at this
 simp at this
 exact this.1
def ch (l : List ByteArray) (r c : Nat) : UInt8 := (bl (l.getD r ByteArray.empty)).getD c 0
def lnL (l : List ByteArray) (i : Nat) : List UInt8 := if i < l.length then bl (l.getD i ByteArray.empty) else l.map fun s => (bl s).getD (i - l.length) 0
def cO (l : List ByteArray) (i : Nat) : Nat := (lnL l i).count 111
def cQ (l : List ByteArray) (i : Nat) : Nat := (lnL l i).count 63
theorem O0 {n m : Nat} {l : List ByteArray} (h : Shp n m l) (i : Nat) : (lnL l i).length ≤ 12 := by
 unfold lnL
 split
 ·rename_i c
  rw [G8 h (by rw [← h.ln]; exact c)]; exact h.m2.2
 ·simp; rw [h.ln]; exact h.n2.2
theorem q0n {n m : Nat} {l : List ByteArray} (h : Shp n m l) : wrap64 ((l.length : Int) + ((rdOf ByteArray.empty l 0).size : Int)) = ((n + m : Nat) : Int) := by
 rw [q5j h, h.ln, Q5 (by have := h.n2; have := h.m2; omega) (by have := h.n2; have := h.m2; omega)]; omega
theorem L9 {n m : Nat} {l : List ByteArray} (h : Shp n m l) : D8.f l = some ((n + m : Nat) : Int) := by
 unfold D8.f
 rw [if_pos (by rw [h.ln]; have := h.n2; omega), q0n h]
theorem q35 {n m : Nat} {l : List ByteArray} (h : Shp n m l) {i : Nat} (hi : i < n + m) : Ev (fun k => J5.f k l (i : Int)) (mkb (lnL l i)) := by
 have hn := h.n2; have hm := h.m2; have hl := h.ln
 unfold J5.f
 by_cases c : i < n
 ·refine y5 (by omega) (y5 (by omega) (J2 ?_))
  unfold lnL
  rw [if_pos (by omega), I4]
  rfl
 ·refine z8 (by omega) ?_
  have e1 : wrap64 ((i : Int) - (l.length : Int)) = ((i - n : Nat) : Int) := by rw [Q5 (by omega) (by omega)]; omega
  have e2 : wrap64 (((i - n : Nat) : Int) + 1) = ((i - n + 1 : Nat) : Int) := by rw [Q5 (by omega) (by omega)]; omega
  have go : ∀ (suf pre : List ByteArray), l = pre ++ suf → Ev (fun k => J5.l0 k l (i : Int) (mkb (pre.map fun s => (bl s).getD (i - n) 0)) l (l.length : Int) (pre.length : Int)) (mkb (l.map fun s => (bl s).getD (i - n) 0)) := by
   intro suf
   induction suf with
   | nil =>
    intro pre hp
    exact Ev.step (fun k => J5.l0.eq_2 ..) (z8 (P5 hp) (J2 (by subst hp; simp)))
   | cons s suf ih =>
    intro pre hp
    obtain ⟨h1, h2, h3, h4, h5⟩ := H9 hp (by omega) ByteArray.empty
    have hs := h.rw_ s (by rw [hp]; simp)
    have hb := Z8 s
    have hpl : pre.length ≤ 12 := by rw [hp] at hl; simp at hl; omega
    refine Ev.step (fun k => J5.l0.eq_2 ..) ?_
    simp only [h1, h2, h3, e1, e2, rdOf, h4, if_true]
    have e3 : bl (s.extract (((i - n : Nat) : Int)).toNat (((i - n + 1 : Nat) : Int)).toNat) = [(bl s).getD (i - n) 0] := by
     rw [F5]
     have hx : i - n < (bl s).length := by omega
     rw [Int.toNat_natCast, Int.toNat_natCast, show i - n + 1 - (i - n) = 1 by omega, List.drop_eq_getElem_cons hx, List.take_succ_cons, List.take_zero, List.getD_eq_getElem?_getD, List.getElem?_eq_getElem hx]
     rfl
    have e4 : s.extract (((i - n : Nat) : Int)).toNat (((i - n + 1 : Nat) : Int)).toNat = mkb [(bl s).getD (i - n) 0] := by rw [← e3, I4]
    refine y5 (by omega) (y5 (by omega) (y5 (by omega) ?_))
    rw [e4]
    refine y5 (by rw [N8, N8]; simp; omega) ?_
    have := ih (pre ++ [s]) h5
    simp only [List.map_append, List.map_cons, List.map_nil] at this
    rw [q0k]
    exact this
  have := go l [] rfl
  unfold lnL
  rw [if_neg (by omega), hl]
  rw [hl] at this
  exact this
theorem q1i {n m : Nat} {l : List ByteArray} (h : Shp n m l) {i : Nat} (hi : i < n + m) : Ev (fun k => J4.f k l (i : Int)) ((lnL l i).map fun b => (b.toNat : Int)) := by
 have hn := h.n2; have hm := h.m2; have hl := h.ln
 unfold J4.f
 by_cases c : i < n
 ·have hr := G8 h c
  rw [Z8] at hr
  refine y5 (by omega) (y5 (by omega) (y5 ?_ (J2 ?_)))
  ·show (l.getD (i : Int).toNat ByteArray.empty).size ≤ _
   rw [Int.toNat_natCast]; omega
  ·unfold lnL
   rw [if_pos (by omega)]
   rfl
 ·refine z8 (by omega) ?_
  have e1 : wrap64 ((i : Int) - (l.length : Int)) = ((i - n : Nat) : Int) := by rw [Q5 (by omega) (by omega)]; omega
  have go : ∀ (suf pre : List ByteArray), l = pre ++ suf → Ev (fun k => J4.l0 k l (i : Int) (pre.map fun s => (((bl s).getD (i - n) 0).toNat : Int)) l (l.length : Int) (pre.length : Int)) (l.map fun s => (((bl s).getD (i - n) 0).toNat : Int)) := by
   intro suf
   induction suf with
   | nil =>
    intro pre hp
    exact Ev.step (fun k => J4.l0.eq_2 ..) (z8 (P5 hp) (J2 (by subst hp; simp)))
   | cons s suf ih =>
    intro pre hp
    obtain ⟨h1, h2, h3, h4, h5⟩ := H9 hp (by omega) ByteArray.empty
    have hs := h.rw_ s (by rw [hp]; simp)
    have hb := Z8 s
    have hpl : pre.length ≤ 12 := by rw [hp] at hl; simp at hl; omega
    refine Ev.step (fun k => J4.l0.eq_2 ..) ?_
    simp only [h1, h2, h3, e1, rdOf, h4, if_true]
    refine y5 (by omega) (y5 (by omega) (y5 (by simp; omega) ?_))
    rw [q0f s (i - n) (by omega)]
    have := ih (pre ++ [s]) h5
    simp only [List.map_append, List.map_cons, List.map_nil] at this
    exact this
  have := go l [] rfl
  unfold lnL
  rw [if_neg (by omega), hl, List.map_map]
  rw [hl] at this
  exact this
theorem O4 (b : List UInt8) (hs : b.length ≤ 1048576) (c : Nat) (hc : c < 256) : Ev (fun k => Q8.f k (mkb b) (c : Int)) ((b.count (UInt8.ofNat c) : Nat) : Int) := by
 unfold Q8.f
 have hsz : (mkb b).size = b.length := N8 b
 have go : ∀ (suf pre : List UInt8) (a : Nat), b = pre ++ suf → a ≤ pre.length → Ev (fun k => Q8.l0 k (mkb b) (c : Int) (a : Int) (pre.length : Int)) ((a + suf.count (UInt8.ofNat c) : Nat) : Int) := by
  intro suf
  induction suf with
  | nil =>
   intro pre a h _
   have : pre.length = (mkb b).size := by rw [hsz, h]; simp
   exact Ev.step (fun k => Q8.l0.eq_2 ..) (z8 (by omega) (J2 (by simp)))
  | cons x suf ih =>
   intro pre a h ha
   have hl : pre.length + (suf.length + 1) = (mkb b).size := by rw [hsz, h]; simp
   have hb := O3 (s := mkb b) (by rw [R8]; exact h)
   have e : wrap64 ((pre.length : Int) + 1) = ((pre ++ [x]).length : Int) := by rw [Q5 (by omega) (by omega)]; simp
   refine Ev.step (fun k => Q8.l0.eq_2 ..) (y5 (by omega) (y5 (by omega) ?_))
   rw [hb, e, Q5 (x := (a : Int) + 1) (by omega) (by omega)]
   have hu := R7 x c hc
   refine J7 (fun q => ?_) (fun q => ?_)
   ·have q' : x = UInt8.ofNat c := hu.1 q
    refine K9 (ih (pre ++ [x]) (a + 1) (by rw [h]; simp) (by simp; omega)) ?_
    rw [q', List.count_cons_self]; omega
   ·have q' : ¬ x = UInt8.ofNat c := fun z => q (hu.2 z)
    refine K9 (ih (pre ++ [x]) a (by rw [h]; simp) (by simp; omega)) ?_
    rw [List.count_cons_of_ne (by simpa using q')]
 have := go b [] 0 rfl (by simp)
 simpa using this
theorem q82 {b pre suf : List UInt8} {x : UInt8} (h : b = pre ++ x :: suf) : rd (b.map fun (b : UInt8) => (b.toNat : Int)) (pre.length : Int) = (x.toNat : Int) := by
 subst h; simp [rd]
theorem q3f (b : List UInt8) (hs : b.length ≤ 1048576) : ∀ (suf pre : List UInt8) (p q : Nat), b = pre ++ suf → p ≤ pre.length → q ≤ pre.length →
  Ev (fun k => V4.l0 k (p : Int) (q : Int) (b.map fun b => (b.toNat : Int)) ((b.map fun (b : UInt8) => (b.toNat : Int)).length : Int) (pre.length : Int)) (((p + suf.count 111 : Nat) : Int), ((q + suf.count 63 : Nat) : Int)) := by
 intro suf
 induction suf with
 | nil =>
  intro pre p q h _ _
  exact Ev.step (fun k => V4.l0.eq_2 ..) (z8 (by subst h; simp) (J2 (by simp)))
 | cons x suf ih =>
  intro pre p q h hp hq
  have hl : pre.length + (suf.length + 1) = b.length := by rw [h]; simp
  have e : wrap64 ((pre.length : Int) + 1) = ((pre ++ [x]).length : Int) := by rw [Q5 (by omega) (by omega)]; simp
  have h5 : b = (pre ++ [x]) ++ suf := by rw [h]; simp
  refine Ev.step (fun k => V4.l0.eq_2 ..) (y5 (by simp; omega) (y5 (by omega) (y5 (by simp; omega) ?_)))
  rw [q82 h, e, Q5 (x := (p : Int) + 1) (by omega) (by omega), Q5 (x := (q : Int) + 1) (by omega) (by omega)]
  have h1 := R7 x 111 (by omega)
  have h2 := R7 x 63 (by omega)
  refine J7 (fun c => ?_) (fun c => J7 (fun c' => ?_) (fun c' => ?_))
  ·have z : x = 111 := h1.1 c
   refine K9 (ih (pre ++ [x]) (p + 1) q h5 (by simp; omega) (by simp; omega)) ?_
   rw [z, List.count_cons_self, List.count_cons_of_ne (by decide)]
   congr 1; omega
  ·have z : x = 63 := h2.1 c'
   refine K9 (ih (pre ++ [x]) p (q + 1) h5 (by simp; omega) (by simp; omega)) ?_
   rw [z, List.count_cons_self, List.count_cons_of_ne (by decide)]
   congr 1; omega
  ·have z1 : ¬ x = 111 := fun z => c (h1.2 z)
   have z2 : ¬ x = 63 := fun z => c' (h2.2 z)
   refine K9 (ih (pre ++ [x]) p q h5 (by simp; omega) (by simp; omega)) ?_
   rw [List.count_cons_of_ne (by simpa using z1), List.count_cons_of_ne (by simpa using z2)]
theorem I9 {n m : Nat} {l : List ByteArray} (h : Shp n m l) {i : Nat} (hi : i < n + m) : Ev (fun k => V4.f k l (i : Int)) (((cO l i : Nat) : Int), ((cQ l i : Nat) : Int)) := by
 unfold V4.f
 refine Ev.bind (q1i h hi) ?_
 have := q3f (lnL l i) (by have := O0 h i; omega) (lnL l i) [] 0 0 rfl (by simp) (by simp)
 simpa [cO, cQ] using this
def G6 (l : List ByteArray) (r c : Nat) (b : UInt8) : List ByteArray := l.set r (mkb ((bl (l.getD r ByteArray.empty)).set c b))
theorem U9 {n m : Nat} {l : List ByteArray} (h : Shp n m l) {r : Nat} (hr : r < n) (c : Nat) (b : UInt8) : Shp n m (G6 l r c b) := by
 refine ⟨h.n2, h.m2, by simp [G6, h.ln], fun s hs => ?_⟩
 rcases List.mem_or_eq_of_mem_set hs with z | z
 ·exact h.rw_ s z
 ·rw [z, N8, List.length_set, G8 h hr]
theorem q6s {l : List ByteArray} (hl : l.length ≤ 1048576) : M5.f l = some l := by
 unfold M5.f
 simp only [Option.bind_some]
 rw [if_pos (by simp; omega)]; simp
theorem I8 {n m : Nat} {l : List ByteArray} (h : Shp n m l) {r c : Nat} (hr : r < n) (hc : c < m) (b : UInt8) : Y2.f l (r : Int) (c : Int) (mkb [b]) = some (G6 l r c b) := by
 have hn := h.n2; have hm := h.m2; have hl := h.ln
 have hrow := G8 h hr
 have hsz : (rdOf ByteArray.empty l (r : Int)).size = m := by rw [← hrow, Z8]; rfl
 have eb : bl (rdOf ByteArray.empty l (r : Int)) = bl (l.getD r ByteArray.empty) := rfl
 have e1 : wrap64 ((c : Int) + 1) = ((c + 1 : Nat) : Int) := by rw [Q5 (by omega) (by omega)]; omega
 unfold Y2.f
 rw [q6s (by omega)]
 simp only [Option.bind_some, e1]
 have sz : ∀ (i j : Nat), ((rdOf ByteArray.empty l (r : Int)).extract i j).size ≤ m := fun i j => by rw [← Z8, F5, eb, List.length_take, List.length_drop]; omega
 have s1 := sz 0 (c : Int).toNat
 have s2 := sz ((c + 1 : Nat) : Int).toNat (rdOf ByteArray.empty l (r : Int)).size
 have s3 : (((rdOf ByteArray.empty l (r : Int)).extract 0 (c : Int).toNat) ++ mkb [b]).size ≤ m + 1 := by rw [← Z8, q08, List.length_append, R8, Z8]; simp; omega
 rw [if_pos (by omega), if_pos (by omega), if_pos (by omega), if_pos (by omega), if_pos (by rw [N8]; simp; omega), if_pos (by omega), if_pos (by omega), if_pos (by omega), if_pos (by omega)]
 congr 1
 unfold G6
 rw [Int.toNat_natCast]
 congr 1
 refine q64 ?_
 rw [q08, q08, R8, R8, F5, F5, eb, hsz, Int.toNat_natCast, Int.toNat_natCast, List.drop_zero, Nat.sub_zero]
 rw [List.set_eq_take_append_cons_drop, if_pos (by omega), List.append_assoc, List.singleton_append]
 congr 2
 exact List.take_of_length_le (by rw [List.length_drop]; omega)
theorem getD_in {α : Type} {l : List α} {i : Nat} (z : α) (h : i < l.length) : l.getD i z = l[i] := by rw [List.getD_eq_getElem?_getD, List.getElem?_eq_getElem h]; rfl
theorem q9i {n m : Nat} {l : List ByteArray} (h : Shp n m l) (r c : Nat) (b : UInt8) {x y : Nat} (hx : x < n) (hy : y < m) : P6.f (x : Int) (y : Int) (r : Int) (c : Int) (b.toNat : Int) l = some (((if x = r ∧ y = c then b else ch l x y).toNat : Nat) : Int) := by
 have hn := h.n2; have hl := h.ln
 have hr := G8 h hx
 have hsz : (rdOf ByteArray.empty l (x : Int)).size = m := by rw [← hr, Z8]; rfl
 have e : bt (rdOf ByteArray.empty l (x : Int)) (y : Int) = ((ch l x y).toNat : Int) := q0f (l.getD x ByteArray.empty) y (by omega)
 have rest : (if (0 : Int) ≤ (x : Int) then (if (x : Int) < (l.length : Int) then (if (0 : Int) ≤ (y : Int) then (if (y : Int) < ((rdOf ByteArray.empty l (x : Int)).size : Int) then (some (bt (rdOf ByteArray.empty l (x : Int)) (y : Int))) else none) else none) else none) else none) = some ((ch l x y).toNat : Int) := by
  rw [if_pos (by omega), if_pos (by omega), if_pos (by omega), if_pos (by omega), e]
 unfold P6.f
 by_cases c1 : x = r
 ·rw [if_pos (by omega)]
  by_cases c2 : y = c
  ·rw [if_pos (by omega), if_pos ⟨c1, c2⟩]
  ·rw [if_neg (show ¬ ((y : Int) = (c : Int)) by omega), rest, if_neg (fun z => c2 z.2)]
 ·rw [if_neg (show ¬ ((x : Int) = (r : Int)) by omega), rest, if_neg (fun z => c1 z.1)]
def P9 (l : List ByteArray) (m r c : Nat) (b : UInt8) (x : Nat) : List UInt8 := (List.range m).map fun y => if x = r ∧ y = c then b else ch l x y
theorem q54 {n m : Nat} {l : List ByteArray} (h : Shp n m l) {r c : Nat} (b : UInt8) {x : Nat} (hx : x < n) : P9 l m r c b x = bl ((G6 l r c b).getD x ByteArray.empty) := by
 have hr := G8 h hx
 have hl := h.ln
 unfold G6
 apply List.ext_getElem
 ·by_cases e : r = x
  ·subst e; rw [List.getD_eq_getElem?_getD, List.getElem?_set_self (by omega)]; simp [P9, R8]; exact hr.symm
  ·rw [List.getD_eq_getElem?_getD, List.getElem?_set_ne e, ← List.getD_eq_getElem?_getD, hr]; simp [P9]
 ·intro y h1 h2
  have hy : y < m := by simpa [P9] using h1
  have hc : ch l x y = (bl (l.getD x ByteArray.empty))[y]'(by omega) := getD_in 0 (by omega)
  by_cases e : r = x
  ·subst e
   have e2 : (l.set r (mkb ((bl (l.getD r ByteArray.empty)).set c b))).getD r ByteArray.empty = mkb ((bl (l.getD r ByteArray.empty)).set c b) := by rw [List.getD_eq_getElem?_getD, List.getElem?_set_self (by omega)]; rfl
   simp only [e2, R8, List.getElem_set]
   simp only [P9, List.getElem_map, List.getElem_range, hc, true_and]
   by_cases q : c = y
   ·rw [if_pos q, if_pos q.symm]
   ·rw [if_neg q, if_neg (fun z => q z.symm)]
  ·have e2 : (l.set r (mkb ((bl (l.getD r ByteArray.empty)).set c b))).getD x ByteArray.empty = l.getD x ByteArray.empty := by rw [List.getD_eq_getElem?_getD, List.getElem?_set_ne e, ← List.getD_eq_getElem?_getD]
   simp only [e2]
   simp only [P9, List.getElem_map, List.getElem_range, hc]
   rw [if_neg (fun z => e z.1.symm)]
theorem q7t {n m : Nat} {l : List ByteArray} (h : Shp n m l) (r c : Nat) (b : UInt8) (out : List ByteArray) (ho : out.length ≤ 12) {x : Nat} (hx : x < n) (q : List ByteArray) (hq : Ev (fun k => Y1.l0 k (n : Int) (m : Int) (r : Int) (c : Int) (b.toNat : Int) l (out ++ [mkb (P9 l m r c b x)]) (wrap64 ((x : Int) + 1))) q) : ∀ (d y : Nat), y + d = m →
  Ev (fun k => Y1.l1 k (n : Int) (m : Int) (r : Int) (c : Int) (b.toNat : Int) l out (x : Int) (((P9 l m r c b x).take y).map (fun b => (b.toNat : Int)) ++ List.replicate d 0) (m : Int) (y : Int)) q := by
 have hm := h.m2
 have hlen : (P9 l m r c b x).length = m := by simp [P9]
 intro d
 induction d with
 | zero =>
  intro y hy
  have : y = m := by omega
  subst this
  refine Ev.step (fun k => Y1.l1.eq_2 ..) (z8 (by omega) (y5 (by omega) ?_))
  rw [List.take_of_length_le (by omega), List.replicate_zero, List.append_nil]
  have e : strOfNums ((P9 l y r c b x).map fun b => (b.toNat : Int)) = mkb (P9 l y r c b x) := (by
   unfold strOfNums mkb
   congr 2
   rw [List.map_map]
   conv => rhs; rw [← List.map_id (P9 l y r c b x)]
   refine List.map_congr_left (fun b _ => ?_)
   simp)
  rw [e]; exact hq
 | succ d ih =>
  intro y hy
  have hy' : y < m := by omega
  have e1 : wrap64 ((y : Int) + 1) = ((y + 1 : Nat) : Int) := by rw [Q5 (by omega) (by omega)]; omega
  refine Ev.step (fun k => Y1.l1.eq_2 ..) (y5 (by omega) ?_)
  rw [q9i h r c b hx hy']
  simp only [Option.bind_some]
  refine y5 (by omega) (y5 (by simp; omega) ?_)
  have tk : (P9 l m r c b x).take (y + 1) = (P9 l m r c b x).take y ++ [if x = r ∧ y = c then b else ch l x y] := by
   rw [List.take_add_one, List.getElem?_eq_getElem (by omega)]
   simp [P9]
  have st : (((P9 l m r c b x).take y).map (fun (b : UInt8) => (b.toNat : Int)) ++ List.replicate (d + 1) 0).set (y : Int).toNat (((if x = r ∧ y = c then b else ch l x y).toNat : Nat) : Int) = ((P9 l m r c b x).take (y + 1)).map (fun (b : UInt8) => (b.toNat : Int)) ++ List.replicate d 0 := by
   rw [List.replicate_succ, setAt _ _ _ _ _ (by simp; omega), tk]
   simp
  rw [st, e1]
  exact ih (y + 1) (by omega)
theorem q7r {n m : Nat} {l : List ByteArray} (h : Shp n m l) {r c : Nat} (b : UInt8) : ∀ (d x : Nat), x + d = n →
  Ev (fun k => Y1.l0 k (n : Int) (m : Int) (r : Int) (c : Int) (b.toNat : Int) l ((G6 l r c b).take x) (x : Int)) (G6 l r c b) := by
 have hn := h.n2; have hm := h.m2
 have hlen : (G6 l r c b).length = n := by simp [G6, h.ln]
 intro d
 induction d with
 | zero =>
  intro x hx
  refine Ev.step (fun k => Y1.l0.eq_2 ..) (z8 (by omega) (J2 ?_))
  exact List.take_of_length_le (by omega)
 | succ d ih =>
  intro x hx
  have e1 : wrap64 ((x : Int) + 1) = ((x + 1 : Nat) : Int) := by rw [Q5 (by omega) (by omega)]; omega
  refine Ev.step (fun k => Y1.l0.eq_2 ..) (y5 (by omega) (y5 (by omega) (y5 (by omega) ?_)))
  simp only [Option.bind_some]
  have := q7t h r c b ((G6 l r c b).take x) (by rw [List.length_take]; omega) (x := x) (by omega) (G6 l r c b) (by
   have tk : (G6 l r c b).take (x + 1) = (G6 l r c b).take x ++ [mkb (P9 l m r c b x)] := by
    rw [List.take_add_one, List.getElem?_eq_getElem (by omega), q54 h b (by omega), I4, getD_in _ (by omega)]; rfl
   rw [← tk, e1]; exact ih (x + 1) (by omega)) m 0 (by omega)
  simpa using this
theorem q1t {n m : Nat} {l : List ByteArray} (h : Shp n m l) {r c : Nat} (b : UInt8) : Ev (fun k => V8.f k l (r : Int) (c : Int) (b.toNat : Int)) (G6 l r c b) := by
 unfold V8.f Y1.f
 refine y5 (by rw [h.ln]; have := h.n2; omega) ?_
 rw [q5j h, h.ln]
 have := q7r h (r := r) (c := c) b n 0 (by omega)
 exact Ev.bind (by simpa using this) (Ev.now _)
def evB (n : Nat) : UInt8 := if n % 2 = 0 then 46 else 111
def M9 (l : List ByteArray) (i : Nat) : List ByteArray := if i < l.length then G6 l i ((lnL l i).idxOf 63) (evB (cO l i)) else G6 l ((lnL l i).idxOf 63) (i - l.length) (evB (cO l i))
def X4 (l : List ByteArray) : Nat → Nat → Option (List ByteArray)
 | _, 0 => none
 | i, d + 1 => if cQ l i = 1 then some (M9 l i) else X4 l (i + 1) d
theorem q4a {n m : Nat} {l : List ByteArray} (h : Shp n m l) {i : Nat} (_ : i < n + m) (hc : cQ l i = 1) : (lnL l i).idxOf 63 < (if i < n then m else n) := by
 have hm : (63 : UInt8) ∈ lnL l i := List.count_pos_iff.1 (by unfold cQ at hc; omega)
 have := List.idxOf_lt_length_iff.2 hm
 refine Nat.lt_of_lt_of_le this ?_
 unfold lnL
 rw [h.ln]
 split
 ·rename_i c; rw [G8 h c]; exact Nat.le_refl _
 ·simp [h.ln]
theorem q3r {n m : Nat} {l : List ByteArray} (h : Shp n m l) {i : Nat} (hi : i < n + m) (hc : cQ l i = 1) : Shp n m (M9 l i) := by
 have := q4a h hi hc
 unfold M9
 rw [h.ln]
 split
 ·rename_i c; exact U9 h c _ _
 ·rename_i c; rw [if_neg c] at this; exact U9 h this _ _
theorem q2s : ∀ (a b : List ByteArray), ers (a ++ b) = ers a + ers b
 | [], b => by simp [ers]
 | s :: a, b => by simp [ers, q2s a b]; omega
theorem q67 {b : List UInt8} {c : Nat} (hc : c < b.length) (h : b[c] = 63) {v : UInt8} (hv : v ≠ 63) : (b.set c v).count 63 + 1 = b.count 63 := by
 have e : b = b.take c ++ 63 :: b.drop (c + 1) := by rw [← h]; simp
 have : b.set c v = b.take c ++ v :: b.drop (c + 1) := by rw [List.set_eq_take_append_cons_drop, if_pos hc]
 rw [this]
 conv => rhs; rw [e]
 rw [List.count_append, List.count_append, List.count_cons_self, List.count_cons_of_ne hv]; omega
theorem q50 {n m : Nat} {l : List ByteArray} (h : Shp n m l) {r c : Nat} (hr : r < n) (hc : c < m) (he : ch l r c = 63) {v : UInt8} (hv : v ≠ 63) : ers (G6 l r c v) + 1 = ers l := by
 have hl := h.ln
 have hrow := G8 h hr
 have e : l = l.take r ++ l.getD r ByteArray.empty :: l.drop (r + 1) := by
  rw [getD_in _ (by omega)]; simp
 have e2 : G6 l r c v = l.take r ++ mkb ((bl (l.getD r ByteArray.empty)).set c v) :: l.drop (r + 1) := by unfold G6; rw [List.set_eq_take_append_cons_drop, if_pos (by omega)]
 rw [e2]
 conv => rhs; rw [e]
 rw [q2s, q2s]
 simp only [ers, cnt, R8]
 have := q67 (b := bl (l.getD r ByteArray.empty)) (c := c) (by omega) (by rw [← getD_in 0 (by omega)]; exact he) hv
 omega
theorem q40 (n : Nat) : evB n ≠ 63 := by unfold evB; split <;> decide
theorem q3y {n m : Nat} {l : List ByteArray} (h : Shp n m l) {i : Nat} (hi : i < n + m) (hc : cQ l i = 1) : ers (M9 l i) + 1 = ers l := by
 have hx := q4a h hi hc
 have hm : (63 : UInt8) ∈ lnL l i := List.count_pos_iff.1 (by unfold cQ at hc; omega)
 have hlt := List.idxOf_lt_length_iff.2 hm
 have hg : (lnL l i)[(lnL l i).idxOf 63]'hlt = 63 := List.getElem_idxOf hlt
 unfold M9
 rw [h.ln]
 split
 ·rename_i c
  rw [if_pos c] at hx
  refine q50 h c hx ?_ (q40 _)
  have e : lnL l i = bl (l.getD i ByteArray.empty) := by unfold lnL; rw [if_pos (by rw [h.ln]; exact c)]
  have : (lnL l i).getD ((lnL l i).idxOf 63) 0 = 63 := by rw [getD_in 0 hlt]; exact hg
  unfold ch
  rw [e] at this ⊢
  exact this
 ·rename_i c
  rw [if_neg c] at hx
  refine q50 h hx (by omega) ?_ (q40 _)
  have e : lnL l i = l.map fun s => (bl s).getD (i - l.length) 0 := by unfold lnL; rw [if_neg (by rw [h.ln]; exact c)]
  have : (lnL l i).getD ((lnL l i).idxOf 63) 0 = 63 := by rw [getD_in 0 hlt]; exact hg
  generalize hat : (lnL l i).idxOf 63 = at_ at this hx ⊢
  rw [e, getD_in 0 (by simp; rw [h.ln]; exact hx), List.getElem_map] at this
  unfold ch
  have hle := h.ln
  rw [getD_in ByteArray.empty (by omega)]
  simp only [hle] at this
  exact this
inductive U0 : List ByteArray → List ByteArray → Prop
 | stop {n m : Nat} {l : List ByteArray} (h : Shp n m l) (hp : X4 l 0 (n + m) = none) : U0 l l
 | next {n m : Nat} {l l' r : List ByteArray} (h : Shp n m l) (hp : X4 l 0 (n + m) = some l') (hr : U0 l' r) : U0 l r
theorem q0b {n m : Nat} {l : List ByteArray} (h : Shp n m l) {l' : List ByteArray} : ∀ (d i : Nat), i + d = n + m → X4 l i d = some l' → Shp n m l' ∧ ers l' + 1 = ers l
 | 0, i, _, hp => by simp [X4] at hp
 | d + 1, i, hd, hp => by
  simp only [X4] at hp
  split at hp
  ·rename_i c
   obtain rfl := Option.some.inj hp
   exact ⟨q3r h (by omega) c, q3y h (by omega) c⟩
  ·exact q0b h d (i + 1) (by omega) hp
theorem q2x {n m : Nat} : ∀ (e : Nat) {l : List ByteArray}, Shp n m l → ers l = e → ∃ r, U0 l r ∧ Shp n m r
 | e, l, h, he => by
  cases hp : X4 l 0 (n + m) with
  | none => exact ⟨l, U0.stop h hp, h⟩
  | some l' =>
   obtain ⟨h', he'⟩ := q0b h (n + m) 0 (by omega) hp
   obtain ⟨r, hr, hs⟩ := q2x (n := n) (m := m) (ers l') h' rfl
   exact ⟨r, U0.next h hp hr, hs⟩
 termination_by e => e
theorem q8f (n : Nat) : M8.f (n : Int) = some (((evB n).toNat : Nat) : Int) := by
 unfold M8.f evB
 by_cases c : n % 2 = 0
 ·rw [if_neg (by rw [Int.tmod_eq_emod_of_nonneg (by omega)]; omega), if_pos c]; rfl
 ·rw [if_pos (by rw [Int.tmod_eq_emod_of_nonneg (by omega)]; omega), if_neg c]; rfl
theorem q1g (n : Nat) : H5.f (n : Int) = some (mkb [evB n]) := by
 unfold H5.f evB
 by_cases c : n % 2 = 0
 ·rw [if_pos (by rw [Int.tmod_eq_emod_of_nonneg (by omega)]; omega), if_pos c]; rfl
 ·rw [if_neg (by rw [Int.tmod_eq_emod_of_nonneg (by omega)]; omega), if_neg c]; rfl
theorem q59 {pre suf : List UInt8} {x : UInt8} (h : ∀ y, y ∈ pre → y ≠ 63) (hx : x = 63) : (pre ++ x :: suf).idxOf 63 = pre.length := by
 subst hx
 rw [List.idxOf_append, if_neg (fun z => h _ z rfl)]; simp
theorem q8n {n m : Nat} {l : List ByteArray} (h : Shp n m l) {i : Nat} (hi : i < n + m) : ∀ (suf pre : List UInt8), lnL l i = pre ++ suf → (∀ y, y ∈ pre → y ≠ 63) → (63 : UInt8) ∈ suf →
  Ev (fun k => V7.l1 k l (i : Int) ((cO l i : Nat) : Int) ((n + m : Nat) : Int) (i : Int) ((lnL l i).map fun b => (b.toNat : Int)) (((lnL l i).map fun (b : UInt8) => (b.toNat : Int)).length : Int) (pre.length : Int)) (M9 l i, true) := by
 have hl := h.ln; have hn := h.n2; have hm := h.m2
 intro suf
 induction suf with
 | nil => intro pre _ _ hm; simp at hm
 | cons x suf ih =>
  intro pre hp hne hmem
  have hlen := O0 h i
  have hpl : pre.length + (suf.length + 1) = (lnL l i).length := by rw [hp]; simp
  have e : wrap64 ((pre.length : Int) + 1) = ((pre ++ [x]).length : Int) := by rw [Q5 (by omega) (by omega)]; simp
  refine Ev.step (fun k => V7.l1.eq_2 ..) (y5 (by simp; omega) (y5 (by omega) (y5 (by simp; omega) ?_)))
  rw [q82 hp, e]
  have hu := R7 x 63 (by omega)
  refine J7 (fun c => ?_) (fun c => ?_)
  ·have hx : x = 63 := hu.1 c
   have hidx : (lnL l i).idxOf 63 = pre.length := by rw [hp]; exact q59 hne hx
   rw [q8f]
   simp only [Option.bind_some]
   have ef : M9 l i = if i < n then G6 l i pre.length (evB (cO l i)) else G6 l pre.length (i - n) (evB (cO l i)) := by unfold M9; rw [hidx, hl]
   rw [ef]
   by_cases q : i < n
   ·rw [if_pos q]
    exact y5 (by omega) (Ev.bind (q1t h _) (Ev.now _))
   ·rw [if_neg q]
    have e1 : wrap64 ((i : Int) - (l.length : Int)) = ((i - n : Nat) : Int) := by rw [Q5 (by omega) (by omega)]; omega
    rw [e1]
    exact z8 (by omega) (Ev.bind (q1t h _) (Ev.now _))
  ·have hx : x ≠ 63 := fun z => c (hu.2 z)
   refine ih (pre ++ [x]) (by rw [hp]; simp) (fun y hy => ?_) ?_
   ·rcases List.mem_append.1 hy with z | z
    ·exact hne y z
    ·rw [List.mem_singleton.1 z]; exact hx
   ·rcases List.mem_cons.1 hmem with z | z
    ·exact absurd z.symm hx
    ·exact z
theorem q8d {n m : Nat} {l : List ByteArray} (h : Shp n m l) : ∀ (d i : Nat), i + d = n + m →
  Ev (fun k => V7.l0 k l ((n + m : Nat) : Int) (i : Int)) (match X4 l i d with | some l' => (l', true) | none => (l, false)) := by
 have hn := h.n2; have hm := h.m2
 intro d
 induction d with
 | zero =>
  intro i hd
  exact Ev.step (fun k => V7.l0.eq_2 ..) (z8 (by omega) (Ev.now _))
 | succ d ih =>
  intro i hd
  have hi : i < n + m := by omega
  have e1 : wrap64 ((i : Int) + 1) = ((i + 1 : Nat) : Int) := by rw [Q5 (by omega) (by omega)]; omega
  refine Ev.step (fun k => V7.l0.eq_2 ..) (y5 (by omega) (Ev.bind (I9 h hi) ?_))
  dsimp only
  by_cases c : cQ l i = 1
  ·have e : X4 l i (d + 1) = some (M9 l i) := by simp only [X4]; rw [if_pos c]
   rw [e]
   refine y5 (by omega) (Ev.bind (q1i h hi) ?_)
   have := q8n h hi (lnL l i) [] rfl (by simp) (List.count_pos_iff.1 (by unfold cQ at c; omega))
   simpa using this
  ·have e : X4 l i (d + 1) = X4 l (i + 1) d := by simp only [X4]; rw [if_neg c]
   rw [e, e1]
   exact z8 (by omega) (ih (i + 1) (by omega))
theorem q5a {n m : Nat} {l : List ByteArray} (h : Shp n m l) : Ev (fun k => V7.f k l) (match X4 l 0 (n + m) with | some l' => (l', true) | none => (l, false)) := by
 unfold V7.f
 refine y5 (by rw [h.ln]; have := h.n2; omega) ?_
 rw [q0n h]
 exact q8d h (n + m) 0 (by omega)
theorem q4t {l r : List ByteArray} (h : U0 l r) : Ev (fun k => J6.l0 k l true) r := by
 induction h with
 | stop h hp =>
  have := q5a h
  rw [hp] at this
  exact Ev.step (fun k => J6.l0.eq_2 ..) (y5 rfl (Ev.bind this (Ev.step (fun k => J6.l0.eq_2 ..) (z8 (by simp) (Ev.now _)))))
 | next h hp _ ih =>
  have := q5a h
  rw [hp] at this
  exact Ev.step (fun k => J6.l0.eq_2 ..) (y5 rfl (Ev.bind this ih))
theorem q0d {l r : List ByteArray} (hl : l.length ≤ 1048576) (h : U0 l r) : Ev (fun k => J6.f k l) r := by
 unfold J6.f
 simp only [Option.bind_some, List.nil_append, List.length_nil]
 exact y5 (by omega) (q4t h)
theorem q4l {n m : Nat} {l : List ByteArray} (h : Shp n m l) {i : Nat} (hi : i < n + m) {r : List ByteArray} (hr : Ev (fun k => o7.l1 k (M9 l i) true (wrap64 ((i : Int) + 1))) r) : ∀ (suf pre : List UInt8), lnL l i = pre ++ suf → (∀ y, y ∈ pre → y ≠ 63) → (63 : UInt8) ∈ suf →
  Ev (fun k => o7.l2 k l (i : Int) (mkb (lnL l i)) (pre.length : Int)) r := by
 have hl := h.ln; have hn := h.n2; have hm := h.m2
 intro suf
 induction suf with
 | nil => intro pre _ _ hm; simp at hm
 | cons x suf ih =>
  intro pre hp hne hmem
  have hlen := O0 h i
  have hpl : pre.length + (suf.length + 1) = (lnL l i).length := by rw [hp]; simp
  have e : wrap64 ((pre.length : Int) + 1) = ((pre ++ [x]).length : Int) := by rw [Q5 (by omega) (by omega)]; simp
  have hb := O3 (s := mkb (lnL l i)) (by rw [R8]; exact hp)
  refine Ev.step (fun k => o7.l2.eq_2 ..) (y5 (by omega) (y5 (by rw [N8]; omega) ?_))
  rw [hb, e]
  have hu := R7 x 63 (by omega)
  refine J7 (fun c => ?_) (fun c => ?_)
  ·have hx : x = 63 := hu.1 c
   have hidx : (lnL l i).idxOf 63 = pre.length := by rw [hp]; exact q59 hne hx
   have ef : M9 l i = if i < n then G6 l i pre.length (evB (cO l i)) else G6 l pre.length (i - n) (evB (cO l i)) := by unfold M9; rw [hidx, hl]
   refine Ev.bind (O4 (lnL l i) (by omega) 111 (by omega)) ?_
   rw [show (List.count (UInt8.ofNat 111) (lnL l i)) = cO l i from rfl, q1g]
   simp only [Option.bind_some]
   have hq : ∃ q, cQ l i = q := ⟨_, rfl⟩
   by_cases q : i < n
   ·rw [if_pos q] at ef
    have hmm : pre.length < m := by
     have : (lnL l i).length = m := by unfold lnL; rw [if_pos (by omega)]; exact G8 h q
     omega
    rw [I8 h q hmm]
    refine y5 (by omega) ?_
    simp only [Option.bind_some]
    rw [ef] at hr; exact hr
   ·rw [if_neg q] at ef
    have hmm : pre.length < n := by
     have : (lnL l i).length = n := by unfold lnL; rw [if_neg (by omega)]; simp [hl]
     omega
    have e1 : wrap64 ((i : Int) - (l.length : Int)) = ((i - n : Nat) : Int) := by rw [Q5 (by omega) (by omega)]; omega
    rw [e1, I8 h hmm (by omega)]
    refine z8 (by omega) ?_
    simp only [Option.bind_some]
    rw [ef] at hr; exact hr
  ·have hx : x ≠ 63 := fun z => c (hu.2 z)
   refine ih (pre ++ [x]) (by rw [hp]; simp) (fun y hy => ?_) ?_
   ·rcases List.mem_append.1 hy with z | z
    ·exact hne y z
    ·rw [List.mem_singleton.1 z]; exact hx
   ·rcases List.mem_cons.1 hmem with z | z
    ·exact absurd z.symm hx
    ·exact z
theorem q1a {n m : Nat} {l : List ByteArray} (h : Shp n m l) {i : Nat} (b : Bool) {r : List ByteArray} (hr : Ev (fun k => o7.l0 k l b) r) (hb : b = true ∨ ¬ i < n + m) : Ev (fun k => o7.l1 k l b (i : Int)) r := by
 refine Ev.step (fun k => o7.l1.eq_2 ..) ?_
 rw [L9 h]
 simp only [Option.bind_some]
 refine J7 (fun c => ?_) (fun c => Ev.step (fun k => o7.j2.eq_2 ..) (z8 (by simp) hr))
 have : b = true := by
  rcases hb with z | z
  ·exact z
  ·exact absurd c (by omega)
 subst this
 exact Ev.step (fun k => o7.j2.eq_2 ..) (z8 (by simp) hr)
theorem q1r {n m : Nat} {l : List ByteArray} (h : Shp n m l) {r : List ByteArray} (hr : match X4 l 0 (n + m) with | some l' => Ev (fun k => o7.l0 k l' true) r | none => r = l) : ∀ (d i : Nat), i + d = n + m → X4 l i d = X4 l 0 (n + m) →
  Ev (fun k => o7.l1 k l false (i : Int)) r := by
 have hn := h.n2; have hm := h.m2
 intro d
 induction d with
 | zero =>
  intro i hd hp
  have hz : X4 l i 0 = none := rfl
  rw [← hp, hz] at hr
  refine q1a h false ?_ (.inr (by omega))
  exact Ev.step (fun k => o7.l0.eq_2 ..) (z8 (by simp) (J2 hr.symm))
 | succ d ih =>
  intro i hd hp
  have hi : i < n + m := by omega
  have e1 : wrap64 ((i : Int) + 1) = ((i + 1 : Nat) : Int) := by rw [Q5 (by omega) (by omega)]; omega
  refine Ev.step (fun k => o7.l1.eq_2 ..) ?_
  rw [L9 h]
  simp only [Option.bind_some]
  refine y5 (by omega) (Ev.step (fun k => o7.j2.eq_2 ..) (y5 (by simp) (Ev.bind (q35 h hi) (Ev.bind (O4 (lnL l i) (by have := O0 h i; omega) 63 (by omega)) ?_))))
  rw [show (List.count (UInt8.ofNat 63) (lnL l i)) = cQ l i from rfl]
  by_cases c : cQ l i = 1
  ·have e : X4 l i (d + 1) = some (M9 l i) := by simp only [X4]; rw [if_pos c]
   rw [← hp, e] at hr
   refine y5 (by omega) ?_
   have := q4l h hi (r := r) (by
    rw [e1]
    exact q1a (q3r h hi c) true hr (.inl rfl)) (lnL l i) [] rfl (by simp) (List.count_pos_iff.1 (by unfold cQ at c; omega))
   simpa using this
  ·have e : X4 l i (d + 1) = X4 l (i + 1) d := by simp only [X4]; rw [if_neg c]
   refine z8 (by omega) ?_
   rw [e1]
   exact ih (i + 1) (by omega) (e ▸ hp)
theorem q4m {l r : List ByteArray} (h : U0 l r) : Ev (fun k => o7.l0 k l true) r := by
 induction h with
 | stop h hp => exact Ev.step (fun k => o7.l0.eq_2 ..) (y5 rfl (q1r h (by rw [hp]) _ 0 (by omega) rfl))
 | next h hp _ ih => exact Ev.step (fun k => o7.l0.eq_2 ..) (y5 rfl (q1r h (by rw [hp]; exact ih) _ 0 (by omega) rfl))
theorem q1u {l r : List ByteArray} (hl : l.length ≤ 1048576) (h : U0 l r) : Ev (fun k => o7.f k l) r := by
 unfold o7.f
 rw [q6s hl]
 exact q4m h
def q5y (l : List ByteArray) (i : Nat) : Bool := decide (cO l i % 2 = 1)
theorem tm (n : Nat) : (Int.tmod (n : Int) 2 = 0) ↔ n % 2 = 0 := by rw [Int.tmod_eq_emod_of_nonneg (by omega)]; omega
theorem E5 : ∀ {l : List ByteArray} {s : ByteArray}, s ∈ l → cnt s ≤ ers l
 | x :: l, s, h => by
  simp only [ers]
  rcases List.mem_cons.1 h with rfl | z
  ·omega
  ·have := E5 z; omega
theorem q2a : ∀ {l : List ByteArray}, (∀ s, s ∈ l → cnt s = 0) → ers l = 0
 | [], _ => rfl
 | x :: l, h => by simp only [ers]; rw [h x (by simp), q2a (fun s hs => h s (by simp [hs]))]
theorem q4e {n m : Nat} {l : List ByteArray} (h : Shp n m l) {i : Nat} (hi : i < n) : cQ l i = cnt (l.getD i ByteArray.empty) := by unfold cQ lnL cnt; rw [if_pos (by rw [h.ln]; exact hi)]
theorem q1y {n m : Nat} {l : List ByteArray} (h : Shp n m l) : ers l = 0 ↔ ∀ i, i < n + m → cQ l i = 0 := by
 have hl := h.ln
 constructor
 ·intro he i hi
  by_cases c : i < n
  ·rw [q4e h c]
   have := E5 (l := l) (s := l.getD i ByteArray.empty) (by rw [getD_in _ (by omega)]; exact List.getElem_mem _)
   omega
  ·unfold cQ lnL
   rw [if_neg (by omega)]
   refine List.count_eq_zero.2 (fun hm => ?_)
   obtain ⟨s, hs, e⟩ := List.mem_map.1 hm
   have hc : cnt s = 0 := by have := E5 hs; omega
   unfold cnt at hc
   have hlen : i - l.length < (bl s).length := by rw [Z8, h.rw_ s hs]; omega
   rw [getD_in 0 hlen] at e
   exact List.count_eq_zero.1 hc (e ▸ List.getElem_mem hlen)
 ·intro he
  refine q2a (fun s hs => ?_)
  obtain ⟨i, hi, rfl⟩ := List.getElem_of_mem hs
  have := he i (by omega)
  rw [q4e h (by omega), getD_in _ hi] at this
  exact this
theorem q4v {n m : Nat} {l : List ByteArray} (h : Shp n m l) : Ev (fun k => J9.f k l) ((ers l : Nat) : Int) := by
 unfold J9.f
 have hl := h.ln; have hn := h.n2; have hm := h.m2
 have := q1q l (by omega) (fun s hs => by rw [h.rw_ s hs]; omega) l [] 0 rfl (by simp)
 simpa using this
theorem q6m {n m : Nat} {l : List ByteArray} (h : Shp n m l) : ∀ (d i : Nat), i + d = n + m →
  Ev (fun k => X3.l0 k l ((n + m : Nat) : Int) (i : Int)) ((List.range' i d).all fun j => !q5y l j && decide (cQ l j = 0)) := by
 have hn := h.n2; have hm := h.m2
 intro d
 induction d with
 | zero =>
  intro i hd
  exact Ev.step (fun k => X3.l0.eq_2 ..) (z8 (by omega) (Ev.now _))
 | succ d ih =>
  intro i hd
  have e1 : wrap64 ((i : Int) + 1) = ((i + 1 : Nat) : Int) := by rw [Q5 (by omega) (by omega)]; omega
  refine Ev.step (fun k => X3.l0.eq_2 ..) (y5 (by omega) (Ev.bind (I9 h (by omega)) ?_))
  dsimp only
  rw [List.range'_succ, List.all_cons, e1]
  refine J7 (fun c => J7 (fun c2 => J2 ?_) (fun c2 => K9 (ih (i + 1) (by omega)) ?_)) (fun c => J2 ?_)
  ·rw [decide_eq_false (show ¬ cQ l i = 0 by omega)]; simp
  ·rw [decide_eq_true (show cQ l i = 0 by omega)]
   have : q5y l i = false := decide_eq_false (by have := (tm _).1 c; omega)
   simp [this]
  ·have : q5y l i = true := decide_eq_true (by have q : ¬ cO l i % 2 = 0 := fun z => c ((tm _).2 z); omega)
   simp [this]
def q1n (n m : Nat) (l : List ByteArray) : Bool := (List.range (n + m)).all fun j => !q5y l j && decide (cQ l j = 0)
theorem q68 {n m : Nat} {l : List ByteArray} (h : Shp n m l) : Ev (fun k => X3.f k l) (q1n n m l) := by
 unfold X3.f q1n
 refine y5 (by rw [h.ln]; have := h.n2; omega) ?_
 rw [q0n h, List.range_eq_range']
 exact q6m h (n + m) 0 (by omega)
def par (l : List ByteArray) (i : Nat) : Nat := cO l i % 2
def q0c (b : UInt8) : Bool := decide (b = 46 ∨ b = 111)
def full (l : List ByteArray) : Prop := ∀ s, s ∈ l → ∀ b, b ∈ bl s → q0c b = true
theorem q8l {n m : Nat} {l : List ByteArray} (h : Shp n m l) (hf : full l) : good l = true := by
 have hn := h.n2; have hm := h.m2; have hl := h.ln
 have hs : sz0 l = m := by
  have := G8 h (r := 0) (by omega)
  rw [Z8] at this
  exact this
 rw [U8]
 refine ⟨by omega, by omega, List.all_eq_true.2 (fun s hs' => ?_)⟩
 unfold rowOk
 rw [hs, decide_eq_true (h.rw_ s hs'), Bool.true_and]
 refine List.all_eq_true.2 (fun b hb => ?_)
 have := of_decide_eq_true (hf s hs' b hb)
 unfold chr
 exact decide_eq_true (by rcases this with z | z <;> simp [z])
theorem q7j {l : List ByteArray} (hf : full l) : ers l = 0 :=
 q2a (fun s hs => List.count_eq_zero.2 (fun hm => by have := of_decide_eq_true (hf s hs 63 hm); revert this; decide))
theorem q75 {l : List ByteArray} (hg : good l = true) (he : ers l = 0) : full l := by
 intro s hs b hb
 have h := O1 hg
 have h3 := (U8.1 hg).2.2
 have := List.all_eq_true.1 h3 s hs
 unfold rowOk at this
 rw [Bool.and_eq_true] at this
 have hc := List.all_eq_true.1 this.2 b hb
 have hz : cnt s = 0 := by have := E5 hs; omega
 unfold cnt at hz
 have hb3 : b ≠ 63 := fun z => List.count_eq_zero.1 hz (z ▸ hb)
 have := of_decide_eq_true hc
 unfold q0c
 exact decide_eq_true (by
  rcases this with z | z | z
  ·exact .inl z
  ·exact .inr z
  ·exact absurd z hb3)
theorem C8 {n m : Nat} {l : List ByteArray} (h : Shp n m l) {r c : Nat} (_ : r < n) (_ : c < m) (b : UInt8) {x y : Nat} (hx : x < n) (hy : y < m) : ch (G6 l r c b) x y = if x = r ∧ y = c then b else ch l x y := by
 have e := q54 h (r := r) (c := c) b hx
 unfold ch
 rw [← e]
 have hlen : (P9 l m r c b x).length = m := by simp [P9]
 rw [getD_in 0 (by omega)]
 simp [P9, ch]
theorem q2p {n m : Nat} {l : List ByteArray} (h : Shp n m l) {i : Nat} (hi : i < n) : lnL l i = (List.range m).map fun c => ch l i c := by
 have hrow := G8 h hi
 unfold lnL
 rw [if_pos (by rw [h.ln]; exact hi)]
 apply List.ext_getElem
 ·rw [hrow]; simp
 ·intro c h1 h2
  simp only [List.getElem_map, List.getElem_range]
  exact (getD_in 0 h1).symm
theorem q2l {n m : Nat} {l : List ByteArray} (h : Shp n m l) {j : Nat} : lnL l (n + j) = (List.range n).map fun r => ch l r j := by
 have hl := h.ln
 unfold lnL
 rw [if_neg (by omega)]
 apply List.ext_getElem
 ·simp [hl]
 ·intro r h1 h2
  simp only [List.getElem_map, List.getElem_range]
  unfold ch
  rw [getD_in ByteArray.empty (by simp at h1; omega)]
  congr 1; omega
theorem q2b {n : Nat} (f g : Nat → Bool) {a : Nat} (ha : a < n) (hfg : ∀ i, i < n → i ≠ a → f i = g i) : (List.range n).countP f + (if g a = true then 1 else 0) = (List.range n).countP g + (if f a = true then 1 else 0) := by
 induction n with
 | zero => omega
 | succ n ih =>
  rw [List.range_succ, List.countP_append, List.countP_append, List.countP_singleton, List.countP_singleton]
  by_cases e : a = n
  ·subst e
   have : (List.range a).countP f = (List.range a).countP g := List.countP_congr (fun i hi => by
    have := List.mem_range.1 hi
    rw [hfg i (by omega) (by omega)])
   omega
  ·have := ih (by omega) (fun i hi hne => hfg i (by omega) hne)
   rw [hfg n (by omega) (by omega)]
   omega
theorem q73 {n m : Nat} {l : List ByteArray} (h : Shp n m l) {i : Nat} (hi : i < n) : cO l i = (List.range m).countP fun c => decide (ch l i c = 111) := by
 unfold cO
 rw [q2p h hi, List.count, List.countP_map]
 exact List.countP_congr (fun c _ => by simp)
theorem q65 {n m : Nat} {l : List ByteArray} (h : Shp n m l) (j : Nat) : cO l (n + j) = (List.range n).countP fun r => decide (ch l r j = 111) := by
 unfold cO
 rw [q2l h, List.count, List.countP_map]
 exact List.countP_congr (fun c _ => by simp)
theorem q1f {n m : Nat} {l : List ByteArray} (h : Shp n m l) : q1n n m l = true ↔ (∀ i, i < n + m → par l i = 0) ∧ ers l = 0 := by
 unfold q1n
 rw [List.all_eq_true, q1y h]
 simp only [List.mem_range, Bool.and_eq_true, Bool.not_eq_true', decide_eq_true_eq]
 constructor
 ·intro z
  refine ⟨fun i hi => ?_, fun i hi => (z i hi).2⟩
  have := of_decide_eq_false (z i hi).1
  unfold par; omega
 ·rintro ⟨z1, z2⟩ i hi
  refine ⟨decide_eq_false ?_, z2 i hi⟩
  have := z1 i hi
  unfold par at this; omega
def M4 (f : Nat → Nat) : Nat → Nat
 | 0 => 0
 | n + 1 => M4 f n + f n
theorem q45 (f g : Nat → Nat) : ∀ n, M4 (fun i => f i + g i) n = M4 f n + M4 g n
 | 0 => rfl
 | n + 1 => by simp only [M4, q45 f g n]; omega
theorem q2v : ∀ n, M4 (fun _ => 0) n = 0
 | 0 => rfl
 | n + 1 => by simp only [M4, q2v n]
def q5h (rows : List ByteArray) (c : Nat) : Nat := rows.countP fun s => decide ((bl s).getD c 0 = 111)
def q5n (s : ByteArray) : ByteArray := mkb (bl s ++ [evB ((bl s).count 111)])
def P8 (d : List ByteArray) : List ByteArray := d.map q5n
def lastB (w : List ByteArray) (K : Nat) : List UInt8 := (List.range K).map fun c => evB (q5h w c)
def q43 (d : List ByteArray) (M : Nat) : List ByteArray := P8 d ++ [mkb (lastB (P8 d) (M + 1))]
structure Dat (N M : Nat) (d : List ByteArray) : Prop where
 n1 : 1 ≤ N ∧ N ≤ 11
 m1 : 1 ≤ M ∧ M ≤ 11
 ln : d.length = N
 rw_ : ∀ s, s ∈ d → s.size = M
 fl : full d
theorem q8i (n : Nat) : (n + if evB n = 111 then 1 else 0) % 2 = 0 := by
 unfold evB
 by_cases c : n % 2 = 0
 ·rw [if_pos c, if_neg (by decide)]; omega
 ·rw [if_neg c, if_pos rfl]; omega
theorem q3d {s : ByteArray} {M : Nat} (h : s.size = M) : (bl (q5n s)).length = M + 1 := by unfold q5n; rw [R8, List.length_append, Z8, h]; rfl
theorem q7i {N M : Nat} {d : List ByteArray} (h : Dat N M d) : Shp (N + 1) (M + 1) (q43 d M) := by
 have hn := h.n1; have hm := h.m1
 refine ⟨by omega, by omega, by simp [q43, P8, h.ln], fun s hs => ?_⟩
 rcases List.mem_append.1 hs with z | z
 ·obtain ⟨x, hx, rfl⟩ := List.mem_map.1 z
  rw [← Z8]; exact q3d (h.rw_ x hx)
 ·rw [List.mem_singleton.1 z, N8]; simp [lastB]
def q0m (n : Nat) (s : ByteArray) : Bool := decide (s.size = n) && (bl s).all q0c
def q09 (l : List ByteArray) : Bool := decide (1 ≤ l.length ∧ l.length ≤ 11) && (decide (1 ≤ sz0 l ∧ sz0 l ≤ 11) && l.all (q0m (sz0 l)))
theorem q70 {l : List ByteArray} : q09 l = true ↔ (1 ≤ l.length ∧ l.length ≤ 11) ∧ (1 ≤ sz0 l ∧ sz0 l ≤ 11) ∧ l.all (q0m (sz0 l)) = true := by simp [q09]
theorem q6y {l : List ByteArray} (h : q09 l = true) : Dat l.length (sz0 l) l := by
 obtain ⟨h1, h2, h3⟩ := q70.1 h
 refine ⟨h1, h2, rfl, fun s hs => ?_, fun s hs b hb => ?_⟩
 ·have := List.all_eq_true.1 h3 s hs
  unfold q0m at this
  rw [Bool.and_eq_true] at this
  exact of_decide_eq_true this.1
 ·have := List.all_eq_true.1 h3 s hs
  unfold q0m at this
  rw [Bool.and_eq_true] at this
  exact List.all_eq_true.1 this.2 b hb
theorem bu0 : bt (⟨#[46, 111]⟩ : ByteArray) 0 = 46 := by decide
theorem bu1 : bt (⟨#[46, 111]⟩ : ByteArray) 1 = 111 := by decide
theorem q81 : ((⟨#[46, 111]⟩ : ByteArray).size : Int) = 2 := by decide
theorem q78 (b : UInt8) : q0c b = true ↔ ((b.toNat : Int) = 46 ∨ (b.toNat : Int) = 111) := by
 unfold q0c
 rw [decide_eq_true_eq, show ((46 : Int) = ((46 : Nat) : Int)) from rfl, show ((111 : Int) = ((111 : Nat) : Int)) from rfl, R7 b 46 (by omega), R7 b 111 (by omega)]
 rfl
theorem q6k (l : List ByteArray) (s : ByteArray) (hs : s.size ≤ 1048576) (l' : List ByteArray) (n i : Int) (q : Bool) (hq : Ev (fun k => l7.l0 k l 1 11 ⟨#[46, 111]⟩ l' n (wrap64 (i + 1))) q) : ∀ (suf pre : List UInt8), bl s = pre ++ suf →
  Ev (fun k => l7.l1 k l 1 11 ⟨#[46, 111]⟩ s (pre.length : Int) l' n i) (suf.all q0c && q) := by
 intro suf
 have hsz := Z8 s
 induction suf with
 | nil =>
  intro pre h
  have : pre.length = s.size := by rw [← hsz, h]; simp
  exact Ev.step (fun k => l7.l1.eq_2 ..) (z8 (by omega) (K9 hq (by simp)))
 | cons b suf ih =>
  intro pre h
  have hl : pre.length + (suf.length + 1) = s.size := by rw [← hsz, h]; simp
  have hb := O3 h
  have ih' := ih (pre ++ [b]) (by rw [h]; simp)
  have e : wrap64 ((pre.length : Int) + 1) = ((pre ++ [b]).length : Int) := by rw [Q5 (by omega) (by omega)]; simp
  have hc := q78 b
  refine Ev.step (fun k => l7.l1.eq_2 ..) (y5 (by omega) ?_)
  have fin : ∀ (f : Bool), f = q0c b → Ev (fun k => l7.l2 k l 1 11 ⟨#[46, 111]⟩ s (pre.length : Int) f 2 l' n i) ((b :: suf).all q0c && q) := by
   intro f hf
   refine Ev.step (fun k => l7.l2.eq_2 ..) (z8 (by rw [q81]; omega) ?_)
   rw [List.all_cons, ← hf]
   cases f with
   | true => exact y5 rfl (by rw [e]; simpa using ih')
   | false => exact z8 (by simp) (J2 (by simp))
  have s1 : ∀ (f : Bool), (f = true ↔ (b.toNat : Int) = 46) → Ev (fun k => l7.l2 k l 1 11 ⟨#[46, 111]⟩ s (pre.length : Int) f 1 l' n i) ((b :: suf).all q0c && q) := by
   intro f hf
   refine Ev.step (fun k => l7.l2.eq_2 ..) ?_
   rw [show wrap64 (1 + 1) = 2 by unfold wrap64; omega]
   refine (y5 (by rw [q81]; omega) (J7 (fun c => fin true ?_) (fun c => y5 (by omega) (y5 (by omega) (y5 (by omega) ?_)))))
   ·exact (hc.2 (.inl (hf.1 c))).symm
   ·rw [hb, bu1]
    refine fin _ ?_
    rw [Bool.eq_iff_iff, hc, beq_iff_eq]
    have : ¬ ((b.toNat : Int) = 46) := fun z => c (hf.2 z)
    omega
  refine Ev.step (fun k => l7.l2.eq_2 ..) ?_
  rw [show wrap64 (0 + 1) = 1 by unfold wrap64; omega]
  refine (y5 (by rw [q81]; omega) (z8 (by simp) (y5 (by omega) (y5 (by omega) (y5 (by omega) ?_)))))
  rw [hb, bu0]
  exact s1 _ (by rw [beq_iff_eq])
theorem q4p {l : List ByteArray} (hl : l.length ≤ 1048576) (hb : ∀ s, s ∈ l → s.size ≤ 1048576) : Ev (fun k => l7.f k l 1 11 ⟨#[46, 111]⟩) (q09 l) := by
 unfold l7.f
 have go : ∀ (suf pre : List ByteArray), l = pre ++ suf → Ev (fun k => l7.l0 k l 1 11 ⟨#[46, 111]⟩ l (l.length : Int) (pre.length : Int)) (suf.all (q0m (sz0 l)) && (decide (1 ≤ l.length ∧ l.length ≤ 11) && decide (1 ≤ sz0 l ∧ sz0 l ≤ 11))) := by
  intro suf
  induction suf with
  | nil =>
   intro pre h
   refine Ev.step (fun k => l7.l0.eq_2 ..) (z8 (P5 h) ?_)
   simp only [q0j, Option.bind_some, decide_eq_true_eq, List.all_nil, Bool.true_and]
   refine J7 (fun c => y5 (by omega) (J2 ?_)) (fun c => J2 ?_)
   ·rw [decide_eq_true (show 1 ≤ l.length ∧ l.length ≤ 11 by omega), Bool.true_and, at0]
    exact q2j (by unfold sz0; omega)
   ·rw [decide_eq_false (show ¬ (1 ≤ l.length ∧ l.length ≤ 11) by omega), Bool.false_and]
  | cons s suf ih =>
   intro pre h
   obtain ⟨h1, h2, h3, h4, h5⟩ := H9 h (by omega) ByteArray.empty
   refine Ev.step (fun k => l7.l0.eq_2 ..) ?_
   simp only [h1, h2, rdOf, h4, if_true]
   refine y5 (by omega) (J7 (fun c => ?_) (fun c => J2 ?_))
   ·have := q6k l s (hb s (by rw [h]; simp)) l (l.length : Int) (pre.length : Int) _ (by rw [h3]; exact ih _ h5) (bl s) [] rfl
    refine K9 this ?_
    have e : q0m (sz0 l) s = (bl s).all q0c := by
     unfold q0m; rw [decide_eq_true (show s.size = sz0 l by unfold sz0; have c' : (s.size : Int) = ((l.getD 0 ByteArray.empty).size : Int) := c; omega), Bool.true_and]
    rw [List.all_cons, e, Bool.and_assoc]
   ·have e : q0m (sz0 l) s = false := by
     unfold q0m; rw [decide_eq_false (show ¬ s.size = sz0 l by unfold sz0; have c' : ¬ (s.size : Int) = ((l.getD 0 ByteArray.empty).size : Int) := c; omega), Bool.false_and]
    rw [List.all_cons, e]; rfl
 refine K9 (go l [] rfl) ?_
 unfold q09
 rw [Bool.and_comm, Bool.and_assoc]
theorem q5q {l : List ByteArray} {m : Nat} (hl : l.length ≤ 12) (hm : m ≤ 12) (hb : ∀ s, s ∈ l → s.size = m) {c : Nat} (hc : c < m) : Ev (fun k => J5.f k l ((l.length + c : Nat) : Int)) (mkb (l.map fun s => (bl s).getD c 0)) := by
 unfold J5.f
 refine z8 (by omega) ?_
 have e1 : wrap64 (((l.length + c : Nat) : Int) - (l.length : Int)) = (c : Int) := by rw [Q5 (by omega) (by omega)]; omega
 have e2 : wrap64 ((c : Int) + 1) = ((c + 1 : Nat) : Int) := by rw [Q5 (by omega) (by omega)]; omega
 have go : ∀ (suf pre : List ByteArray), l = pre ++ suf → Ev (fun k => J5.l0 k l ((l.length + c : Nat) : Int) (mkb (pre.map fun s => (bl s).getD c 0)) l (l.length : Int) (pre.length : Int)) (mkb (l.map fun s => (bl s).getD c 0)) := by
  intro suf
  induction suf with
  | nil =>
   intro pre hp
   exact Ev.step (fun k => J5.l0.eq_2 ..) (z8 (P5 hp) (J2 (by subst hp; simp)))
  | cons s suf ih =>
   intro pre hp
   obtain ⟨h1, h2, h3, h4, h5⟩ := H9 hp (by omega) ByteArray.empty
   have hs := hb s (by rw [hp]; simp)
   have hbl := Z8 s
   have hpl : pre.length ≤ 12 := by rw [hp] at hl; simp at hl; omega
   refine Ev.step (fun k => J5.l0.eq_2 ..) ?_
   simp only [h1, h2, h3, e1, e2, rdOf, h4, if_true]
   have e3 : bl (s.extract ((c : Int)).toNat (((c + 1 : Nat) : Int)).toNat) = [(bl s).getD c 0] := by
    rw [F5]
    have hx : c < (bl s).length := by omega
    rw [Int.toNat_natCast, Int.toNat_natCast, show c + 1 - c = 1 by omega, List.drop_eq_getElem_cons hx, List.take_succ_cons, List.take_zero, List.getD_eq_getElem?_getD, List.getElem?_eq_getElem hx]
    rfl
   have e4 : s.extract ((c : Int)).toNat (((c + 1 : Nat) : Int)).toNat = mkb [(bl s).getD c 0] := by rw [← e3, I4]
   refine y5 (by omega) (y5 (by omega) (y5 (by omega) ?_))
   rw [e4]
   refine y5 (by rw [N8, N8]; simp; omega) ?_
   have := ih (pre ++ [s]) h5
   simp only [List.map_append, List.map_cons, List.map_nil] at this
   rw [q0k]
   exact this
 exact go l [] rfl
theorem q8h (w : List ByteArray) (c : Nat) : (w.map fun s => (bl s).getD c 0).count 111 = q5h w c := by
 unfold q5h
 rw [List.count, List.countP_map]
 exact List.countP_congr (fun s _ => by simp)
def encR (l : List ByteArray) : List ByteArray × Bool := if q09 l = true then (q43 l (sz0 l), true) else ([], false)
theorem q1h (d : List ByteArray) : (P8 d).length = d.length := by simp [P8]
theorem q2g {N M : Nat} {d : List ByteArray} (h : Dat N M d) : ∀ s, s ∈ P8 d → s.size = M + 1 := by
 intro s hs
 obtain ⟨x, hx, rfl⟩ := List.mem_map.1 hs
 rw [← Z8]; exact q3d (h.rw_ x hx)
theorem q83 {N M : Nat} {d : List ByteArray} (h : Dat N M d) : ((rdOf ByteArray.empty (P8 d) 0).size : Int) = ((M + 1 : Nat) : Int) := by
 have hn := h.n1; have hl := h.ln
 have := q2g h ((P8 d).getD 0 ByteArray.empty) (by rw [getD_in _ (by rw [q1h]; omega)]; exact List.getElem_mem _)
 show ((((P8 d).getD 0 ByteArray.empty).size : Nat) : Int) = _
 omega
theorem q1c (w : List ByteArray) (K : Nat) : (lastB w K).length = K := by simp [lastB]
theorem q5l (w : List ByteArray) {K c : Nat} (h : c < K) : (lastB w K).take (c + 1) = (lastB w K).take c ++ [evB (q5h w c)] := by
 rw [List.take_add_one, List.getElem?_eq_getElem (by rw [q1c]; exact h)]
 simp [lastB]
theorem q5w {l : List ByteArray} (hl : l.length ≤ 1048576) (hb : ∀ s, s ∈ l → s.size ≤ 1048576) : Ev (fun k => Q6.f k l) (encR l) := by
 unfold Q6.f encR
 refine Ev.bind (q4p hl hb) (E8 (fun c => ?_) (fun _ => Ev.now _))
 have h := q6y c
 have hn := h.n1; have hm := h.m1
 have hw := q2g h
 have hwl := q1h l
 have cols : ∀ (d c : Nat), c + d = sz0 l + 1 → Ev (fun k => Q6.l1 k (P8 l) (mkb ((lastB (P8 l) (sz0 l + 1)).take c)) (c : Int)) (q43 l (sz0 l), true) := by
  intro d
  induction d with
  | zero =>
   intro c hc
   refine Ev.step (fun k => Q6.l1.eq_2 ..) (y5 (by omega) ?_)
   rw [q83 h]
   refine z8 (by omega) (y5 (by omega) (J2 ?_))
   rw [List.take_of_length_le (by rw [q1c]; omega)]
   rfl
  | succ d ih =>
   intro c hc
   refine Ev.step (fun k => Q6.l1.eq_2 ..) (y5 (by omega) ?_)
   rw [q83 h]
   have e0 : wrap64 (((P8 l).length : Int) + (c : Int)) = (((P8 l).length + c : Nat) : Int) := by rw [Q5 (by omega) (by omega)]; omega
   have e1 : wrap64 ((c : Int) + 1) = ((c + 1 : Nat) : Int) := by rw [Q5 (by omega) (by omega)]; omega
   rw [e0, e1]
   have hcnt := O4 ((P8 l).map fun s => (bl s).getD c 0) (by simp; omega) 111 (by omega)
   rw [show (UInt8.ofNat 111) = 111 from rfl, q8h] at hcnt
   refine y5 (by omega) (Ev.bind (q5q (by omega) (show sz0 l + 1 ≤ 12 by omega) hw (by omega)) (Ev.bind hcnt (evC (q1g _) (y5 ?_ ?_))))
   ·rw [N8, N8, List.length_take, q1c]; simp; omega
   ·rw [q0k, ← q5l _ (by omega)]
    exact ih (c + 1) (by omega)
 have rows : ∀ (suf pre : List ByteArray), l = pre ++ suf → Ev (fun k => Q6.l0 k (P8 pre) l (l.length : Int) (pre.length : Int)) (q43 l (sz0 l), true) := by
  intro suf
  induction suf with
  | nil =>
   intro pre hp
   have : pre = l := by rw [hp]; simp
   refine Ev.step (fun k => Q6.l0.eq_2 ..) (z8 (P5 hp) ?_)
   rw [this]
   exact cols (sz0 l + 1) 0 (by omega)
  | cons s suf ih =>
   intro pre hp
   obtain ⟨h1, h2, h3, h4, h5⟩ := H9 hp (by omega) ByteArray.empty
   have hs := h.rw_ s (by rw [hp]; simp)
   have hpl : pre.length ≤ l.length := by rw [hp]; simp
   have hcnt := O4 (bl s) (by rw [Z8]; omega) 111 (by omega)
   rw [I4, show (UInt8.ofNat 111) = 111 from rfl] at hcnt
   refine Ev.step (fun k => Q6.l0.eq_2 ..) ?_
   simp only [h1, h2, h3, rdOf, h4, if_true]
   refine Ev.bind hcnt (evC (q1g _) (y5 ?_ (y5 (by rw [q1h]; omega) ?_)))
   ·rw [N8]; simp; omega
   ·have := ih (pre ++ [s]) h5
    have e : P8 (pre ++ [s]) = P8 pre ++ [s ++ mkb [evB ((bl s).count 111)]] := by
     unfold P8
     rw [List.map_append]
     congr 1
    rw [e] at this
    exact this
 exact rows l [] rfl
theorem R5 {l : List Int} (hl : bytes l) {a : Int} (s : Int) (h0 : 0 ≤ a) (h1 : a ≤ 900000000) {q : List Int} (hq : 1 ≤ q.length ∧ q.length ≤ 1000) : ∃ v a' s', o6.f l a s q = some (v, a', s') ∧ v ∈ q ∧ a ≤ a' ∧ a' ≤ a + 2 := by
 unfold o6.f
 obtain ⟨v, a', s', e, hv, ha⟩ := Z6 hl s h0 h1 (m := (q.length : Int)) (by omega)
 rw [e]
 simp only [Option.bind_some]
 have := hv.2 (by omega)
 rw [if_pos hv.1, if_pos this]
 refine ⟨_, _, _, rfl, ?_, ha⟩
 unfold rd
 have hi : v.toNat < q.length := by omega
 rw [List.getD_eq_getElem?_getD, List.getElem?_eq_getElem hi]
 exact List.getElem_mem _
theorem q3l {l : List Int} (hl : bytes l) {a : Int} (s : Int) (h0 : 0 ≤ a) (h1 : a ≤ 900000000) {q : List ByteArray} (hq : 1 ≤ q.length ∧ q.length ≤ 1000) : ∃ v a' s', K7.f l a s q = some (v, a', s') ∧ v ∈ q ∧ a ≤ a' ∧ a' ≤ a + 2 := by
 unfold K7.f
 obtain ⟨v, a', s', e, hv, ha⟩ := Z6 hl s h0 h1 (m := (q.length : Int)) (by omega)
 rw [e]
 simp only [Option.bind_some]
 have := hv.2 (by omega)
 rw [if_pos hv.1, if_pos this]
 refine ⟨_, _, _, rfl, ?_, ha⟩
 unfold rdOf
 have hi : v.toNat < q.length := by omega
 rw [List.getD_eq_getElem?_getD, List.getElem?_eq_getElem hi]
 exact List.getElem_mem _
def U6 (r : List ByteArray) : Prop := r.length ≤ 14 ∧ ∀ s, s ∈ r → s.size ≤ 14
theorem q8g {l : List Int} (hl : bytes l) (x3 : Int) (m : Nat) (hm : m ≤ 12) (x5 : List ByteArray) (hx : x5.length ≤ 12) : ∀ (d : Nat) (x6 : ByteArray) (a s : Int), x6.size + d = m → 0 ≤ a → a + 2 * (d : Int) ≤ 800000000 →
  ∃ x' a' s', x'.size = m ∧ a ≤ a' ∧ a' ≤ a + 2 * (d : Int) ∧ ∀ q, Ev (fun k => y9.l0 k x3 (m : Int) (x5 ++ [x']) l a' s') q → Ev (fun k => y9.l1 k x3 (m : Int) x5 x6 l a s) q := by
 intro d
 induction d with
 | zero =>
  intro x6 a s h h0 h1
  exact ⟨x6, a, s, by omega, by omega, by omega, fun q hq => Ev.step (fun k => y9.l1.eq_2 ..) (z8 (by omega) (y5 (by omega) hq))⟩
 | succ d ih =>
  intro x6 a s h h0 h1
  obtain ⟨v, a1, s1, e1, hv, h1a⟩ := q3l hl s h0 (by omega) (q := [⟨#[46]⟩, ⟨#[111]⟩]) (by simp)
  have hs : v.size = 1 := by
   simp at hv
   rcases hv with z | z <;> subst z <;> rfl
  obtain ⟨x', a', s', hx', ha, hb, hE⟩ := ih (x6 ++ v) a1 s1 (by rw [ByteArray.size_append]; omega) (by omega) (by omega)
  exact ⟨x', a', s', hx', by omega, by omega, fun q hq => Ev.step (fun k => y9.l1.eq_2 ..) (y5 (by omega) (evC e1 (y5 (by dsimp only; omega) (hE q hq))))⟩
theorem q8c {l : List Int} (hl : bytes l) (n m : Nat) (hn : n ≤ 12) (hm : m ≤ 12) : ∀ (d : Nat) (x5 : List ByteArray) (a s : Int), x5.length + d = n → (∀ s, s ∈ x5 → s.size ≤ 12) → 0 ≤ a → a + 24 * (d : Int) + 100 ≤ 700000000 →
  ∃ r a' s', Ev (fun k => y9.l0 k (n : Int) (m : Int) x5 l a s) (r, a', s') ∧ U6 r ∧ a ≤ a' ∧ a' ≤ a + 24 * (d : Int) + 10 := by
 intro d
 induction d with
 | zero =>
  intro x5 a s h hs h0 h1
  by_cases c : (n : Int) > 1
  ·obtain ⟨f, a1, s1, e1, h1a⟩ := I6 hl s h0 (by omega) (m := 24) (by omega)
   cases f with
   | true =>
    obtain ⟨v, a2, s2, e2, hv, h2a⟩ := q3l hl s1 (show 0 ≤ a1 by omega) (by omega) (q := [⟨#[111]⟩, ⟨#[63]⟩]) (by simp)
    have hsz : v.size = 1 := by
     simp at hv
     rcases hv with z | z <;> subst z <;> rfl
    have h00 : (rdOf ByteArray.empty x5 0).size ≤ 12 := hs _ (by
     show x5.getD 0 ByteArray.empty ∈ x5
     rw [getD_in _ (by omega)]; exact List.getElem_mem _)
    refine ⟨x5.set (0 : Int).toNat ((rdOf ByteArray.empty x5 0) ++ v), a2, s2, Ev.step (fun k => y9.l0.eq_2 ..) (z8 (by omega) (y5 c (evC e1 (y5 rfl (y5 (by omega) (evC e2 (y5 (by dsimp only; omega) (Ev.now _)))))))), ⟨by simp; omega, fun t ht => ?_⟩, by omega, by omega⟩
    rcases List.mem_or_eq_of_mem_set ht with z | z
    ·have := hs t z; omega
    ·rw [z, ByteArray.size_append]; omega
   | false => exact ⟨x5, a1, s1, Ev.step (fun k => y9.l0.eq_2 ..) (z8 (by omega) (y5 c (evC e1 (z8 (by simp) (Ev.now _))))), ⟨by omega, fun t ht => by have := hs t ht; omega⟩, by omega, by omega⟩
  ·exact ⟨x5, a, s, Ev.step (fun k => y9.l0.eq_2 ..) (z8 (by omega) (z8 c (Ev.now _))), ⟨by omega, fun t ht => by have := hs t ht; omega⟩, by omega, by omega⟩
 | succ d ih =>
  intro x5 a s h hs h0 h1
  obtain ⟨x', a1, s1, hx', ha, hb, hE⟩ := q8g hl (n : Int) m hm x5 (by omega) m ⟨#[]⟩ a s (by show 0 + m = m; omega) h0 (by omega)
  obtain ⟨r, a', s', hr, hsm, h1', h2'⟩ := ih (x5 ++ [x']) a1 s1 (by simp; omega) (fun t ht => by
   rcases List.mem_append.1 ht with z | z
   ·exact hs t z
   ·rw [List.mem_singleton.1 z]; omega) (by omega) (by omega)
  exact ⟨r, a', s', Ev.step (fun k => y9.l0.eq_2 ..) (y5 (by omega) (hE _ hr)), hsm, by omega, by omega⟩
theorem q0x {l : List Int} (hl : bytes l) {a : Int} (s : Int) (h0 : 0 ≤ a) (h1 : a ≤ 100000) : ∃ r a' s', Ev (fun k => y9.f k l a s) (r, a', s') ∧ U6 r ∧ a ≤ a' ∧ a' ≤ a + 1000 := by
 unfold y9.f
 obtain ⟨v1, a1, s1, e1, hv1, h1a⟩ := Z6 hl s h0 (by omega) (m := 5) (by omega)
 obtain ⟨v2, a2, s2, e2, hv2, h2a⟩ := Z6 hl s1 (show 0 ≤ a1 by omega) (by omega) (m := 5) (by omega)
 obtain ⟨f, a3, s3, e3, h3a⟩ := I6 hl s2 (show 0 ≤ a2 by omega) (by omega) (m := 16) (by omega)
 have b1 := hv1.2 (by omega)
 have b2 := hv2.2 (by omega)
 simp only [e1, Option.bind_some, e2, e3]
 have four : ∀ v : Int, v ∈ [0, 1, 11, 12] → 0 ≤ v ∧ v ≤ 12 := by
  intro v hv
  simp at hv
  omega
 have j1 : ∀ (n m a s : Int), 0 ≤ n → n ≤ 12 → 0 ≤ m → m ≤ 12 → 0 ≤ a → a ≤ 200000 → ∃ r a' s', Ev (fun k => y9.j1 k n m l a s) (r, a', s') ∧ U6 r ∧ a ≤ a' ∧ a' ≤ a + 900 := by
  intro n m a s n0 n1 m0 m1 h0 h1
  obtain ⟨r, a', s', hE, hs, ha, hb⟩ := q8c hl n.toNat m.toNat (by omega) (by omega) n.toNat [] a s (by simp) (by simp) h0 (by omega)
  rw [Int.toNat_of_nonneg n0, Int.toNat_of_nonneg m0] at hE
  exact ⟨r, a', s', Ev.step (fun k => y9.j1.eq_2 ..) hE, hs, ha, by omega⟩
 have j0 : ∀ (n m a s : Int), 0 ≤ n → n ≤ 12 → 0 ≤ m → m ≤ 12 → 0 ≤ a → a ≤ 150000 → ∃ r a' s', Ev (fun k => y9.j0 k n m l a s) (r, a', s') ∧ U6 r ∧ a ≤ a' ∧ a' ≤ a + 950 := by
  intro n m a s n0 n1 m0 m1 h0 h1
  obtain ⟨f, a1, s1, e1, h1a⟩ := I6 hl s h0 (by omega) (m := 16) (by omega)
  cases f with
  | true =>
   obtain ⟨v, a2, s2, e2, hv, h2a⟩ := R5 hl s1 (show 0 ≤ a1 by omega) (by omega) (q := [0, 1, 11, 12]) (by simp)
   have := four v hv
   obtain ⟨r, a', s', hE, hs, ha, hb⟩ := j1 n v a2 s2 n0 n1 (by omega) (by omega) (by omega) (by omega)
   exact ⟨r, a', s', Ev.step (fun k => y9.j0.eq_2 ..) (evC e1 (y5 rfl (evC e2 hE))), hs, by omega, by omega⟩
  | false =>
   obtain ⟨r, a', s', hE, hs, ha, hb⟩ := j1 n m a1 s1 n0 n1 m0 m1 (by omega) (by omega)
   exact ⟨r, a', s', Ev.step (fun k => y9.j0.eq_2 ..) (evC e1 (z8 (by simp) hE)), hs, by omega, by omega⟩
 rw [Q5 (x := 1 + v1) (by omega) (by omega), Q5 (x := 1 + v2) (by omega) (by omega)]
 cases f with
 | true =>
  obtain ⟨v, a4, s4, e4, hv, h4a⟩ := R5 hl s3 (show 0 ≤ a3 by omega) (by omega) (q := [0, 1, 11, 12]) (by simp)
  have := four v hv
  obtain ⟨r, a', s', hE, hs, ha, hb⟩ := j0 v (1 + v2) a4 s4 (by omega) (by omega) (by omega) (by omega) (by omega) (by omega)
  exact ⟨r, a', s', y5 rfl (evC e4 hE), hs, by omega, by omega⟩
 | false =>
  obtain ⟨r, a', s', hE, hs, ha, hb⟩ := j0 (1 + v1) (1 + v2) a3 s3 (by omega) (by omega) (by omega) (by omega) (by omega) (by omega)
  exact ⟨r, a', s', z8 (by simp) hE, hs, by omega, by omega⟩
theorem q2y {n m : Nat} {l : List ByteArray} (h : Shp n m l) : U6 l := by
 have hn := h.n2; have hm := h.m2; have hl := h.ln
 exact ⟨by omega, fun s hs => by have := h.rw_ s hs; omega⟩
theorem q5u {l : List Int} (hl : bytes l) {n m : Nat} {b : List ByteArray} (h : Shp n m b) {a : Int} (s : Int) (h0 : 0 ≤ a) (h1 : a ≤ 800000000) : ∃ (r c : Nat) (a1 s1 a2 s2 : Int), j5.f l a s (b.length : Int) = some ((r : Int), a1, s1) ∧ j5.f l a1 s1 ((rdOf ByteArray.empty b 0).size : Int) = some ((c : Int), a2, s2) ∧ r < n ∧ c < m ∧ a ≤ a2 ∧ a2 ≤ a + 4 ∧ 0 < (b.length : Int) := by
 have hn := h.n2; have hm := h.m2; have hbl := h.ln
 obtain ⟨v1, a1, s1, e1, hv1, h1a⟩ := Z6 hl s h0 (by omega) (m := (b.length : Int)) (by omega)
 obtain ⟨v2, a2, s2, e2, hv2, h2a⟩ := Z6 hl s1 (show 0 ≤ a1 by omega) (by omega) (m := (m : Int)) (by omega)
 have b1 := hv1.2 (by omega)
 have b2 := hv2.2 (by omega)
 refine ⟨v1.toNat, v2.toNat, a1, s1, a2, s2, by rw [Int.toNat_of_nonneg hv1.1]; exact e1, by rw [Int.toNat_of_nonneg hv2.1, q5j h]; exact e2, by omega, by omega, by omega, by omega, by omega⟩
theorem q3q {v : ByteArray} (h : v.size = 1) : ∃ b, v = mkb [b] := by
 rw [← Z8] at h
 match hb : bl v with
 | [b] => exact ⟨b, by rw [← I4 v, hb]⟩
 | [] => rw [hb] at h; simp at h
 | a :: b :: t => rw [hb] at h; simp at h
theorem q7u {l : List Int} (hl : bytes l) {n m : Nat} (x5 : Int) (hx : x5 ≤ 100) : ∀ (d : Nat) (i : Int) (b : List ByteArray) (a s : Int), Shp n m b → 0 ≤ i → (i < x5 → i + (d : Int) = x5) → (d = 0 → ¬ i < x5) → i ≤ 100 → 0 ≤ a → a + 4 * (d : Int) ≤ 700000000 →
  ∃ r a' s', Ev (fun k => d9.l0 k b x5 i l a s) (r, a', s') ∧ Shp n m r := by
 intro d
 induction d with
 | zero =>
  intro i b a s h hi0 _ hd hi h0 h1
  obtain ⟨v, a1, s1, e1, _, h1a⟩ := Z6 hl s h0 (by omega) (m := 6) (by omega)
  by_cases c0 : v = 0
  ·subst c0
   obtain ⟨r, c, a2, s2, a3, s3, e2, e3, hr, hc, h3a, h3b, hp⟩ := q5u hl h s1 (show 0 ≤ a1 by omega) (by omega)
   obtain ⟨w, a4, s4, e4, hw, h4a⟩ := q3l hl s3 (show 0 ≤ a3 by omega) (by omega) (q := [⟨#[46]⟩, ⟨#[111]⟩]) (by simp)
   obtain ⟨y, hy⟩ := q3q (v := w) (by simp at hw; rcases hw with z | z <;> subst z <;> rfl)
   subst hy
   refine ⟨G6 b r c y, a4, s4, Ev.step (fun k => d9.l0.eq_2 ..) (z8 (hd rfl) (evC e1 (y5 rfl (evC e2 (y5 hp (evC e3 (evC e4 (evC (I8 h hr hc y) (Ev.now _))))))))), U9 h hr c y⟩
  ·by_cases c1 : v = 1
   ·subst c1
    obtain ⟨f, a2, s2, e2, h2a⟩ := I6 hl s1 (show 0 ≤ a1 by omega) (by omega) (m := 4) (by omega)
    cases f with
    | true =>
     obtain ⟨r, c, a3, s3, a4, s4, e3, e4, hr, hc, h4a, h4b, hp⟩ := q5u hl h s2 (show 0 ≤ a2 by omega) (by omega)
     obtain ⟨w, a5, s5, e5, hw, h5a⟩ := q3l hl s4 (show 0 ≤ a4 by omega) (by omega) (q := [⟨#[120]⟩, ⟨#[32]⟩]) (by simp)
     obtain ⟨y, hy⟩ := q3q (v := w) (by simp at hw; rcases hw with z | z <;> subst z <;> rfl)
     subst hy
     exact ⟨G6 b r c y, a5, s5, Ev.step (fun k => d9.l0.eq_2 ..) (z8 (hd rfl) (evC e1 (z8 (by simp) (y5 rfl (evC e2 (y5 rfl (evC e3 (y5 hp (evC e4 (evC e5 (evC (I8 h hr hc y) (Ev.now _)))))))))))), U9 h hr c y⟩
    | false => exact ⟨b, a2, s2, Ev.step (fun k => d9.l0.eq_2 ..) (z8 (hd rfl) (evC e1 (z8 (by simp) (y5 rfl (evC e2 (z8 (by simp) (Ev.now _))))))), h⟩
   ·exact ⟨b, a1, s1, Ev.step (fun k => d9.l0.eq_2 ..) (z8 (hd rfl) (evC e1 (z8 c0 (z8 c1 (Ev.now _))))), h⟩
 | succ d ih =>
  intro i b a s h hi0 hi hd hi1 h0 h1
  by_cases c : i < x5
  ·have := hi c
   obtain ⟨r, cc, a2, s2, a3, s3, e2, e3, hr, hc, h3a, h3b, hp⟩ := q5u hl h s h0 (by omega)
   obtain ⟨q, a', s', hE, hq⟩ := ih (i + 1) (G6 b r cc 63) a3 s3 (U9 h hr cc 63) (by omega) (by omega) (by omega) (by omega) (by omega) (by omega)
   refine ⟨q, a', s', Ev.step (fun k => d9.l0.eq_2 ..) (y5 c (evC e2 (y5 hp (evC e3 (evC (I8 h hr hc 63) ?_))))), hq⟩
   dsimp only
   rw [Q5 (x := i + 1) (by omega) (by omega)]
   exact hE
  ·obtain ⟨q, a', s', hE, hq⟩ := ih i b a s h hi0 (fun z => absurd z c) (fun _ => c) hi1 h0 (by omega)
   exact ⟨q, a', s', hE, hq⟩
theorem q6e {r : List ByteArray} (h : U6 r) : Ev (fun k => Q6.f k r) (encR r) := q5w (by have := h.1; omega) (fun s hs => by have := h.2 s hs; omega)
theorem q7n {r : List ByteArray} (h : q09 r = true) : Shp (r.length + 1) (sz0 r + 1) (encR r).1 := by
 unfold encR; rw [if_pos h]; exact q7i (q6y h)
theorem q7m {l : List Int} (hl : bytes l) {a : Int} (s : Int) (h0 : 0 ≤ a) (h1 : a ≤ 50000) : ∃ r a' s', Ev (fun k => d9.f k l a s) (r, a', s') ∧ U6 r := by
 unfold d9.f
 obtain ⟨r1, a1, s1, e1, hs1, h1a, h1b⟩ := q0x hl s h0 (by omega)
 by_cases g : q09 r1 = true
 ·obtain ⟨v1, a2, s2, e2, hv1, h2a⟩ := Z6 hl s1 (show 0 ≤ a1 by omega) (by omega) (m := 20) (by omega)
  have b1 := hv1.2 (by omega)
  obtain ⟨v2, a3, s3, e3, hv2, h3a⟩ := R5 hl s2 (show 0 ≤ a2 by omega) (by omega) (q := [0, 1, 2, 3, 4, 6, v1]) (by simp)
  have b2 : 0 ≤ v2 ∧ v2 ≤ 20 := by
   simp at hv2
   omega
  obtain ⟨r, a', s', hE, hs⟩ := q7u hl v2 (by omega) v2.toNat 0 _ a3 s3 (q7n g) (by omega) (by omega) (by omega) (by omega) (by omega) (by omega)
  refine ⟨r, a', s', Ev.bind e1 (Ev.bind (q6e hs1) (y5 ?_ (evC e2 (evC e3 hE)))), q2y hs⟩
  unfold encR; rw [if_pos g]
 ·obtain ⟨r, a', s', hE, hs, _⟩ := q0x hl s1 (show 0 ≤ a1 by omega) (by omega)
  refine ⟨r, a', s', Ev.bind e1 (Ev.bind (q6e hs1) (z8 ?_ (Ev.bind hE (Ev.now _)))), hs⟩
  unfold encR; rw [if_neg g]; simp
def hole (x : S87) : Prop := 0 ≤ x.f0 ∧ x.f0 ≤ 19 ∧ 0 ≤ x.f1 ∧ x.f1 < x.f2 ∧ x.f2 ≤ 2000
instance (x : S87) : Decidable (hole x) := by unfold hole; exact inferInstance
def hbef (a b : S87) : Prop := a.f1 < b.f1 ∨ (a.f1 = b.f1 ∧ a.f0 < b.f0)
instance (a b : S87) : Decidable (hbef a b) := by unfold hbef; exact inferInstance
def hfree (x y : S87) : Bool := !decide (y.f0 = x.f0 ∧ y.f2 ≥ x.f1)
def q1e (pre : List S87) (x : S87) : Bool := decide (hole x) && (decide (pre = [] ∨ hbef (pre.getD (pre.length - 1) z87) x) && pre.all (hfree x))
def R4 : List S87 → List S87 → Bool
 | _, [] => true
 | pre, x :: suf => q1e pre x && R4 (pre ++ [x]) suf
def R3 (l : List S87) : Bool := R4 [] l && decide (l.length ≤ 60)
theorem q61 (x : S87) : P7.f x.f0 x.f1 x.f2 = some (decide (hole x)) := by
 unfold P7.f; simp only [q0j, Option.bind_some, decide_eq_true_eq]
 split
 ·split
  ·rw [Q5 (by omega) (by omega)]; exact q5r (by unfold hole; omega)
  ·exact q3i (by unfold hole; omega)
 ·exact q3i (by unfold hole; omega)
theorem q1s (a b : S87) : D7.f a.f0 a.f1 a.f2 b.f0 b.f1 b.f2 = some (decide (hbef a b)) := by
 unfold D7.f
 split
 ·exact q97 (by unfold hbef; omega)
 ·split
  ·exact q5r (by unfold hbef; omega)
  ·exact q3i (by unfold hbef; omega)
theorem q5b {x y : S87} (h : ¬ (y.f0 = x.f0 ∧ y.f2 ≥ x.f1)) : hfree x y = true := by unfold hfree; rw [decide_eq_false h]; rfl
theorem q88 {x y : S87} (h : y.f0 = x.f0 ∧ y.f2 ≥ x.f1) : hfree x y = false := by unfold hfree; rw [decide_eq_true h]; rfl
theorem q6c (l : List S87) (i : Int) (x : S87) (l' : List S87) (n : Int) (q : Bool) (hq : Ev (fun k => o9.l0 k l l' n (wrap64 (i + 1))) q) (p : List S87) (hl : p.length ≤ 1048576) :
  ∀ (suf pre : List S87), p = pre ++ suf → Ev (fun k => o9.l1 k l l' n i p (p.length : Int) (pre.length : Int) x.f0 x.f1 x.f2) (suf.all (hfree x) && q) := by
 intro suf
 induction suf with
 | nil =>
  intro pre h
  refine Ev.step (fun k => o9.l1.eq_2 ..) ?_
  simp only [P5 h, if_false]
  exact K9 hq (by simp)
 | cons y suf ih =>
  intro pre h
  obtain ⟨h1, h2, h3, h4, h5⟩ := H9 h (by omega) z87
  refine Ev.step (fun k => o9.l1.eq_2 ..) ?_
  simp only [h1, h2, h3, q8, h4, if_true]
  refine J7 (fun c => J7 (fun c' => J2 (q8y (q88 ⟨c.symm, c'⟩))) (fun c' => K9 (ih _ h5) (q53 (q5b (fun r => c' r.2))))) (fun c => K9 (ih _ h5) (q53 (q5b (fun r => c r.1.symm))))
theorem q6p (l : List S87) (hl : l.length ≤ 1048576) : ∀ (suf pre : List S87), l = pre ++ suf → Ev (fun k => o9.l0 k l l (l.length : Int) (pre.length : Int)) (R4 pre suf && decide (l.length ≤ 60)) := by
 intro suf
 induction suf with
 | nil =>
  intro pre h
  refine Ev.step (fun k => o9.l0.eq_2 ..) ?_
  simp only [P5 h, if_false]
  exact J2 (by rw [R4, Bool.true_and]; exact q2j (by omega))
 | cons x suf ih =>
  intro pre h
  obtain ⟨h1, h2, h3, h4, h5⟩ := H9 h (by omega) z87
  have hpl : pre.length ≤ 1048576 := by omega
  have hj : ∀ b : Bool, b = !decide (pre = [] ∨ hbef (pre.getD (pre.length - 1) z87) x) → hole x → Ev (fun k => o9.j1 k l (pre.length : Int) l (l.length : Int) (pre.length : Int) b x.f0 x.f1 x.f2) (R4 pre (x :: suf) && decide (l.length ≤ 60)) := by
   intro b hb hx
   refine Ev.step (fun k => o9.j1.eq_2 ..) ?_
   by_cases c : pre = [] ∨ hbef (pre.getD (pre.length - 1) z87) x
   ·rw [decide_eq_true c] at hb; subst hb
    refine z8 (by simp) (y5 h2 (y5 (by omega) ?_))
    simp only [Option.bind_some]
    have e : l.take (pre.length : Int).toNat = pre := by rw [h]; simp
    rw [e]
    refine K9 (q6c l (pre.length : Int) x l (l.length : Int) _ (by rw [h3]; exact ih _ h5) pre (by omega) pre [] rfl) ?_
    simp only [R4, q1e, decide_eq_true hx, decide_eq_true c, Bool.true_and, Bool.and_assoc]
   ·rw [decide_eq_false c] at hb; subst hb
    refine y5 rfl (J2 ?_)
    simp only [R4, q1e, decide_eq_false c, Bool.false_and, Bool.and_false]
  refine Ev.step (fun k => o9.l0.eq_2 ..) ?_
  simp only [h1, h2, q8, h4, if_true, q61, Option.bind_some, decide_eq_true_eq]
  refine J7 (fun hx => ?_) (fun hx => Ev.step (fun k => o9.j1.eq_2 ..) (y5 rfl (J2 (by simp only [R4, q1e, decide_eq_false hx, Bool.false_and]))))
  by_cases c : 0 < pre.length
  ·rw [Q5 (x := (pre.length : Int) - 1) (by omega) (by omega)]
   refine y5 (by omega) (y5 (by omega) (y5 (by omega) ?_))
   have e : l.getD ((pre.length : Int) - 1).toNat z87 = pre.getD (pre.length - 1) z87 := by
    rw [show ((pre.length : Int) - 1).toNat = pre.length - 1 by omega, h, List.getD_eq_getElem?_getD, List.getD_eq_getElem?_getD, List.getElem?_append_left (by omega)]
   rw [e, q1s]
   simp only [Option.bind_some]
   refine hj _ ?_ hx
   congr 1
   refine decide_eq_decide.mpr ⟨fun r => .inr r, fun r => r.resolve_left (fun z => by rw [z] at c; simp at c)⟩
  ·refine z8 (by omega) (hj _ ?_ hx)
   have : pre = [] := List.eq_nil_of_length_eq_zero (by omega)
   rw [decide_eq_true (Or.inl this)]; rfl
theorem q6b {l : List S87} (hl : l.length ≤ 1048576) : Ev (fun k => o9.f k l) (R3 l) := q6p l hl l [] rfl
def put : List Int → Int → List Int
 | [], n => [n]
 | a :: l, n => if a < n then a :: put l n else if a = n then a :: l else n :: a :: l
theorem q2r : ∀ (l : List Int) (n : Int), (put l n).length ≤ l.length + 1
 | [], n => by simp [put]
 | a :: l, n => by
  have := q2r l n
  simp only [put]; split
  ·simp; omega
  ·split <;> simp
theorem q7w (l : List Int) (n : Int) (hl : l.length ≤ 1048576) : ∀ (suf pre : List Int), l = pre ++ suf → Ev (fun k => K6.l0 k l n (pre.length : Int)) (pre ++ put suf n) := by
 intro suf
 induction suf with
 | nil =>
  intro pre h
  have hp : pre.length ≤ 1048576 := by rw [h] at hl; simpa using hl
  have hL : l.length = pre.length := by rw [h]; simp
  have e1 : l.take (pre.length : Int).toNat = pre := by rw [h]; simp
  have e2 : l.drop (pre.length : Int).toNat = [] := by rw [h]; simp
  refine Ev.step (fun k => K6.l0.eq_2 ..) ?_
  simp only [P5 h, if_false, Option.bind_some, e1, e2]
  repeat' first | (refine y5 (by first | omega | (simp; omega)) ?_)
  exact J2 (by simp [put])
 | cons x suf ih =>
  intro pre h
  obtain ⟨h1, h2, h3, h4, h5⟩ := H9 h (by omega) 0
  have hp : pre.length + (suf.length + 1) ≤ 1048576 := by rw [h] at hl; simpa using hl
  have hL : l.length = pre.length + (suf.length + 1) := by rw [h]; simp
  have e1 : l.take (pre.length : Int).toNat = pre := by rw [h]; simp
  have e2 : l.drop (pre.length : Int).toNat = x :: suf := by rw [h]; simp
  refine Ev.step (fun k => K6.l0.eq_2 ..) ?_
  simp only [h1, h2, h3, rd, h4, if_true, Option.bind_some, e1, e2]
  refine J7 (fun c => K9 (ih _ h5) (by simp [put, c])) (fun c => J7 (fun c' => J2 (by rw [h]; simp [put, c'])) (fun c' => ?_))
  repeat' first | (refine y5 (by first | omega | (simp; omega)) ?_)
  exact J2 (by simp [put, c, c'])
theorem q7k {l : List Int} (hl : l.length ≤ 1048576) (n : Int) : Ev (fun k => K6.f k l n) (put l n) := by
 unfold K6.f; exact q7w l n hl l [] rfl
theorem q0r : ∀ {suf pre : List S87}, R4 pre suf = true → ∀ x, x ∈ suf → hole x
 | [], _, _, x, hx => by simp at hx
 | y :: suf, pre, h, x, hx => by
  simp only [R4, q1e, Bool.and_eq_true, decide_eq_true_eq] at h
  rcases List.mem_cons.1 hx with r | r
  ·subst r; exact h.1.1
  ·exact q0r h.2 x r
theorem q2m {l : List S87} (h : R3 l = true) : ∀ x, x ∈ l → hole x := by
 simp only [R3, Bool.and_eq_true] at h; exact q0r h.1
theorem q3e {l : List S87} (h : R3 l = true) : l.length ≤ 60 := by
 simp only [R3, Bool.and_eq_true, decide_eq_true_eq] at h; exact h.2
def q02 (s : Int) (x : S87) : Prop := x.f1 ≤ s ∧ s < x.f2
instance (s : Int) (x : S87) : Decidable (q02 s x) := by unfold q02; exact inferInstance
def opn (s : Int) : List Int → List S87 → List Int
 | acc, [] => acc
 | acc, x :: l => opn s (if q02 s x then put acc x.f0 else acc) l
theorem q2n (s : Int) : ∀ (l : List S87) (acc : List Int), (opn s acc l).length ≤ acc.length + l.length
 | [], acc => by simp [opn]
 | x :: l, acc => by
  simp only [opn, List.length_cons]
  by_cases c : q02 s x
  ·rw [if_pos c]
   have := q2n s l (put acc x.f0)
   have := q2r acc x.f0
   omega
  ·rw [if_neg c]
   have := q2n s l acc
   omega
theorem q6a (s : Int) (l : List S87) (hl : l.length ≤ 1000) (hh : ∀ x, x ∈ l → hole x) : ∀ (suf pre : List S87) (acc : List Int), l = pre ++ suf → acc.length ≤ pre.length →
  Ev (fun k => X7.l0 k s acc l (l.length : Int) (pre.length : Int)) (opn s acc suf) := by
 intro suf
 induction suf with
 | nil =>
  intro pre acc h ha
  refine Ev.step (fun k => X7.l0.eq_2 ..) ?_
  simp only [P5 h, if_false]
  exact J2 (by simp [opn])
 | cons x suf ih =>
  intro pre acc h ha
  obtain ⟨h1, h2, h3, h4, h5⟩ := H9 h (by omega) z87
  have hx := hh x (by rw [h]; simp)
  unfold hole at hx
  have hpl : pre.length ≤ 1000 := by omega
  refine Ev.step (fun k => X7.l0.eq_2 ..) ?_
  simp only [h1, h2, h3, q8, h4, if_true, q0j, Option.bind_some, decide_eq_true_eq]
  rw [Q5 (x := x.f2 - 1) (by omega) (by omega)]
  simp only [opn]
  have hput := q2r acc x.f0
  refine J7 (fun c => Ev.bind (q7k (by omega) x.f0) ?_) (fun c => ?_)
  ·rw [if_pos (show q02 s x by unfold q02; omega)]
   exact ih _ _ h5 (by simp; omega)
  ·rw [if_neg (show ¬ q02 s x by unfold q02; omega)]
   exact ih _ _ h5 (by simp; omega)
def F8 (x : S87) (out : List S87) : Nat → Nat
 | 0 => 0
 | k + 1 => if hbef x (out.getD k z87) then F8 x out k else k + 1
def q0q (x : S87) (out : List S87) : List S87 := out.take (F8 x out out.length) ++ x :: out.drop (F8 x out out.length)
def srt : List S87 → List S87 → List S87
 | out, [] => out
 | out, x :: l => srt (q0q x out) l
theorem q6d (x : S87) (out : List S87) : (q0q x out).Perm (x :: out) := by
 unfold q0q
 refine List.perm_middle.trans ?_
 rw [List.take_append_drop]
theorem q7s (x : S87) (out : List S87) : (q0q x out).length = out.length + 1 := by rw [(q6d x out).length_eq]; rfl
/-- the sheet of holes, if they are one -/
def I5 (l : List S87) : List S87 × Bool := if R3 (srt [] l) = true then (srt [] l, true) else ([], false)
theorem q8b {l : List Int} (hl : bytes l) {a : Int} (s : Int) (h0 : 0 ≤ a) (h1 : a ≤ 800000000) : ∃ t f u a' s', M7.f l a s = some (t, f, u, a', s') ∧ hole ⟨t, f, u⟩ ∧ a ≤ a' ∧ a' ≤ a + 12 := by
 unfold M7.f
 obtain ⟨v1, a1, s1, e1, hv1, h1a⟩ := Z6 hl s h0 (by omega) (m := 40) (by omega)
 obtain ⟨v2, a2, s2, e2, hv2, h2a⟩ := Z6 hl s1 (show 0 ≤ a1 by omega) (by omega) (m := 60) (by omega)
 obtain ⟨v3, a3, s3, e3, hv3, h3a⟩ := R5 hl s2 (show 0 ≤ a2 by omega) (by omega) (q := [0, 2, 5, v1, v2, 1990]) (by simp)
 obtain ⟨v4, a4, s4, e4, hv4, h4a⟩ := Z6 hl s3 (show 0 ≤ a3 by omega) (by omega) (m := 20) (by omega)
 obtain ⟨v5, a5, s5, e5, hv5, h5a⟩ := R5 hl s4 (show 0 ≤ a4 by omega) (by omega) (q := [0, 1, 2, 3, 5, v4]) (by simp)
 obtain ⟨v6, a6, s6, e6, hv6, h6a⟩ := R5 hl s5 (show 0 ≤ a5 by omega) (by omega) (q := [1, 2, 3, 4, 10]) (by simp)
 have b1 := hv1.2 (by omega)
 have b2 := hv2.2 (by omega)
 have b4 := hv4.2 (by omega)
 simp at hv3 hv5 hv6
 simp only [e1, Option.bind_some, e2, e3, e4, e5, e6]
 refine ⟨v5, v3, wrap64 (v3 + v6), a6, s6, rfl, ?_, by omega, by omega⟩
 rw [Q5 (by omega) (by omega)]
 unfold hole
 dsimp only
 omega
theorem q4s (x0 : List S87) (x : S87) (l : List S87) (n i : Int) {out : List S87} (ho : out.length ≤ 1000) {q : List S87 × Bool} (hq : Ev (fun k => p8.l0 k x0 (q0q x out) l n (wrap64 (i + 1))) q) : ∀ (j : Nat), j ≤ out.length → F8 x out j = F8 x out out.length →
  Ev (fun k => p8.l1 k x0 out (j : Int) l n i x.f0 x.f1 x.f2) q := by
 have fin : ∀ (j : Nat), j ≤ out.length → j = F8 x out out.length → ∀ (y : List S87), y = q0q x out → Ev (fun k => p8.l0 k x0 y l n (wrap64 (i + 1))) q := fun j _ _ y hy => by rw [hy]; exact hq
 have cat : ∀ (j : Nat), j = F8 x out out.length → (([] ++ out.take (j : Int).toNat) ++ [(⟨x.f0, x.f1, x.f2⟩ : S87)]) ++ out.drop (j : Int).toNat = q0q x out := by
  intro j e
  unfold q0q
  rw [← e, Int.toNat_natCast, List.nil_append, List.append_assoc]; rfl
 intro j
 induction j with
 | zero =>
  intro hj e
  simp only [F8] at e
  refine Ev.step (fun k => p8.l1.eq_2 ..) (z8 (by omega) ?_)
  simp only [Option.bind_some]
  refine y5 (by omega) (y5 (by omega) (y5 (by simp) (y5 (by simp) (y5 (by simp; omega) ?_))))
  have := cat 0 e
  rw [this]; exact hq
 | succ j ih =>
  intro hj e
  have e1 : wrap64 (((j + 1 : Nat) : Int) - 1) = (j : Int) := by rw [Q5 (by omega) (by omega)]; omega
  refine Ev.step (fun k => p8.l1.eq_2 ..) (y5 (by omega) ?_)
  rw [e1]
  refine y5 (by omega) (y5 (by omega) ?_)
  have hb := q1s x (q8 out (j : Int))
  refine evC hb ?_
  have hr : q8 out (j : Int) = out.getD j z87 := rfl
  rw [hr]
  refine J7 (fun c => ?_) (fun c => ?_)
  ·have c' := of_decide_eq_true c
   simp only [F8, if_pos c'] at e
   exact ih (by omega) e
  ·have c' : ¬ hbef x (out.getD j z87) := fun w => c (decide_eq_true w)
   simp only [F8, if_neg c'] at e
   simp only [Option.bind_some]
   refine y5 (by omega) (y5 (by omega) (y5 (by simp; omega) (y5 (by simp; omega) (y5 (by simp; omega) ?_))))
   have := cat (j + 1) e
   rw [this]; exact hq
theorem q4w {l : List S87} (hl : l.length ≤ 1000) : Ev (fun k => p8.f k l) (I5 l) := by
 unfold p8.f I5
 have go : ∀ (suf pre out : List S87), l = pre ++ suf → out.length = pre.length → Ev (fun k => p8.l0 k l out l (l.length : Int) (pre.length : Int)) (if R3 (srt out suf) = true then (srt out suf, true) else ([], false)) := by
  intro suf
  induction suf with
  | nil =>
   intro pre out h ho
   have : pre.length ≤ 1000 := by rw [h] at hl; simp at hl; omega
   refine Ev.step (fun k => p8.l0.eq_2 ..) (z8 (P5 h) (Ev.bind (q6b (l := out) (by omega)) ?_))
   simp only [srt]
   exact E8 (fun _ => Ev.now _) (fun _ => Ev.now _)
  | cons x suf ih =>
   intro pre out h ho
   obtain ⟨h1, h2, h3, h4, h5⟩ := H9 h (by omega) z87
   have hpl : pre.length ≤ 1000 := by omega
   have next := ih (pre ++ [x]) (q0q x out) h5 (by rw [q7s]; simp; omega)
   simp only [srt]
   refine Ev.step (fun k => p8.l0.eq_2 ..) (y5 h1 (y5 h2 (y5 h1 ?_)))
   have hx : q8 l (pre.length : Int) = x := h4
   rw [hx]
   exact q4s l x l (l.length : Int) (pre.length : Int) (by omega) (by rw [h3]; exact next) out.length (Nat.le_refl _) rfl
 exact go l [] [] rfl rfl
theorem q71 {l : List S87} (hl : l.length ≤ 900) (t f u : Int) : Ev (fun k => X8.f k l t f u) (I5 (l ++ [⟨t, f, u⟩])) := by
 unfold X8.f
 simp only [Option.bind_some]
 refine y5 (by simp; omega) (y5 (by simp; omega) ?_)
 rw [List.nil_append]
 exact Ev.bind (q4w (l := l ++ [⟨t, f, u⟩]) (by simp; omega)) (Ev.now _)
def shB (r : List S87) : Prop := r.length ≤ 60 ∧ ∀ x, x ∈ r → hole x
theorem q6g {l : List S87} (h : (I5 l).2 = true) : R3 (I5 l).1 = true := by
 unfold I5 at h ⊢
 split
 ·assumption
 ·rename_i c; rw [if_neg c] at h; simp at h
theorem q7l {l : List S87} (h : R3 l = true) : shB l := ⟨q3e h, q2m h⟩
theorem q7f {l : List Int} (hl : bytes l) : ∀ (d : Nat) (x3 : List S87) (a s : Int), x3.length + d = 60 → (∀ x, x ∈ x3 → hole x) → 0 ≤ a → a + 4 * (d : Int) ≤ 700000000 →
  ∃ r a' s', Ev (fun k => l9.l0 k x3 l a s) (r, a', s') ∧ shB r ∧ a ≤ a' ∧ a' ≤ a + 4 * (d : Int) := by
 intro d
 induction d with
 | zero =>
  intro x3 a s h hh h0 h1
  exact ⟨x3, a, s, Ev.step (fun k => l9.l0.eq_2 ..) (z8 (by omega) (Ev.now _)), ⟨by omega, hh⟩, by omega, by omega⟩
 | succ d ih =>
  intro x3 a s h hh h0 h1
  obtain ⟨v, a1, s1, e1, hv, h1a⟩ := Z6 hl s h0 (by omega) (m := 5) (by omega)
  have b1 := hv.2 (by omega)
  have w1 : wrap64 ((x3.length : Int) / 5) = (x3.length : Int) / 5 := Q5 (by omega) (by omega)
  have w2 : wrap64 (6 * ((x3.length : Int) / 5)) = 6 * ((x3.length : Int) / 5) := Q5 (by omega) (by omega)
  have w3 : wrap64 (6 * ((x3.length : Int) / 5) + 1) = 6 * ((x3.length : Int) / 5) + 1 := Q5 (by omega) (by omega)
  have w4 : wrap64 (6 * ((x3.length : Int) / 5) + 1 + v) = 6 * ((x3.length : Int) / 5) + 1 + v := Q5 (by omega) (by omega)
  obtain ⟨r, a', s', hE, hr, ha, hb⟩ := ih (x3 ++ [⟨3 * ((x3.length : Int) % 5), 6 * ((x3.length : Int) / 5), 6 * ((x3.length : Int) / 5) + 1 + v⟩]) a1 s1 (by simp; omega) (fun x hx => by
   rcases List.mem_append.1 hx with z | z
   ·exact hh x z
   ·rw [List.mem_singleton.1 z]; unfold hole; dsimp only; omega) (by omega) (by omega)
  refine ⟨r, a', s', Ev.step (fun k => l9.l0.eq_2 ..) (y5 (by omega) (evC e1 (y5 (by omega) ?_))), hr, by omega, by omega⟩
  rw [w1, w2, w3]
  dsimp only
  rw [w4]
  exact hE
theorem q7h {l : List Int} (hl : bytes l) (n : Int) : ∀ (d : Nat) (i : Int) (x3 : List S87) (a s : Int), i + (d : Int) = 60 → shB x3 → 0 ≤ a → a + 12 * (d : Int) ≤ 700000000 →
  ∃ r a' s', Ev (fun k => l9.l1 k x3 n i l a s) (r, a', s') ∧ shB r ∧ a ≤ a' ∧ a' ≤ a + 12 * (d : Int) := by
 intro d
 induction d with
 | zero =>
  intro i x3 a s h hh h0 h1
  have stop : Ev (fun k => l9.j2 k x3 n i false l a s) (x3, a, s) := Ev.step (fun k => l9.j2.eq_2 ..) (z8 (by simp) (Ev.now _))
  refine ⟨x3, a, s, Ev.step (fun k => l9.l1.eq_2 ..) (J7 (fun _ => ?_) (fun _ => stop)), hh, by omega, by omega⟩
  rw [decide_eq_false (show ¬ i < 60 by omega)]; exact stop
 | succ d ih =>
  intro i x3 a s h hh h0 h1
  have stop : Ev (fun k => l9.j2 k x3 n i false l a s) (x3, a, s) := Ev.step (fun k => l9.j2.eq_2 ..) (z8 (by simp) (Ev.now _))
  by_cases c : (x3.length : Int) < n
  ·obtain ⟨t, f, u, a1, s1, e1, ht, h1a⟩ := q8b hl s h0 (by omega)
   have hw := q71 (l := x3) (by have := hh.1; omega) t f u
   have e2 : wrap64 (i + 1) = i + 1 := Q5 (by omega) (by omega)
   by_cases g : (I5 (x3 ++ [⟨t, f, u⟩])).2 = true
   ·obtain ⟨r, a', s', hE, hr, ha, hb⟩ := ih (i + 1) (I5 (x3 ++ [⟨t, f, u⟩])).1 a1 s1 (by omega) (q7l (q6g g)) (by omega) (by omega)
    refine ⟨r, a', s', Ev.step (fun k => l9.l1.eq_2 ..) (y5 c ?_), hr, by omega, by omega⟩
    rw [decide_eq_true (show i < 60 by omega)]
    refine Ev.step (fun k => l9.j2.eq_2 ..) (y5 rfl (evC e1 (Ev.bind hw (y5 g ?_))))
    rw [e2]; exact hE
   ·obtain ⟨r, a', s', hE, hr, ha, hb⟩ := ih (i + 1) x3 a1 s1 (by omega) hh (by omega) (by omega)
    refine ⟨r, a', s', Ev.step (fun k => l9.l1.eq_2 ..) (y5 c ?_), hr, by omega, by omega⟩
    rw [decide_eq_true (show i < 60 by omega)]
    refine Ev.step (fun k => l9.j2.eq_2 ..) (y5 rfl (evC e1 (Ev.bind hw (z8 g ?_))))
    rw [e2]; exact hE
  ·exact ⟨x3, a, s, Ev.step (fun k => l9.l1.eq_2 ..) (z8 c stop), hh, by omega, by omega⟩
theorem q7z {l : List Int} (hl : bytes l) {a : Int} (s : Int) (h0 : 0 ≤ a) (h1 : a ≤ 600000000) : ∃ r a' s', Ev (fun k => l9.f k l a s) (r, a', s') ∧ shB r ∧ a ≤ a' ∧ a' ≤ a + 1000 := by
 unfold l9.f
 obtain ⟨f, a1, s1, e1, h1a⟩ := I6 hl s h0 (by omega) (m := 24) (by omega)
 cases f with
 | true =>
  obtain ⟨r, a', s', hE, hr, ha, hb⟩ := q7f hl 60 [] a1 s1 rfl (by simp) (by omega) (by omega)
  exact ⟨r, a', s', evC e1 (y5 rfl hE), hr, by omega, by omega⟩
 | false =>
  obtain ⟨v, a2, s2, e2, hv, h2a⟩ := Z6 hl s1 (show 0 ≤ a1 by omega) (by omega) (m := 9) (by omega)
  obtain ⟨r, a', s', hE, hr, ha, hb⟩ := q7h hl v 60 0 [] a2 s2 (by omega) ⟨by simp, by simp⟩ (by omega) (by omega)
  exact ⟨r, a', s', evC e1 (z8 (by simp) (evC e2 hE)), hr, by omega, by omega⟩
def icR (l : List ByteArray) : Bool × Bool := if good l = true then (q1n l.length (sz0 l) l, true) else (false, false)
theorem q8t {n m : Nat} {l : List ByteArray} (h : Shp n m l) {a b : Nat} (ha : a < n) (hb : b < m) : bt (rdOf ByteArray.empty l (a : Int)) (b : Int) = ((ch l a b).toNat : Int) := q0f (l.getD a ByteArray.empty) b (by rw [G8 h ha]; exact hb)
theorem q6t {l : List ByteArray} (hl : l.length ≤ 1048576) (hb : ∀ s, s ∈ l → s.size ≤ 1048576) : Ev (fun k => R6.f k l) (icR l) := by
 unfold R6.f icR
 refine Ev.bind (N9 hl hb) (E8 (fun g => ?_) (fun _ => Ev.now _))
 exact Ev.bind (q68 (O1 g)) (Ev.now _)
theorem q03 {l : List ByteArray} (hl : l.length ≤ 1048576) : Ev (fun k => V6.f k l l) true := by
 unfold V6.f
 refine y5 rfl ?_
 have go : ∀ (suf pre : List ByteArray), l = pre ++ suf → Ev (fun k => V6.l0 k l l (l.length : Int) (pre.length : Int)) true := by
  intro suf
  induction suf with
  | nil => intro pre hp; exact Ev.step (fun k => V6.l0.eq_2 ..) (z8 (P5 hp) (Ev.now _))
  | cons s suf ih =>
   intro pre hp
   obtain ⟨h1, h2, h3, h4, h5⟩ := H9 hp (by omega) ByteArray.empty
   refine Ev.step (fun k => V6.l0.eq_2 ..) (y5 h1 (y5 h2 (y5 h1 (y5 h1 (y5 rfl ?_)))))
   rw [h3]
   exact ih _ h5
 exact go l [] rfl
theorem q2d {n m : Nat} {l : List ByteArray} (h : Shp n m l) : l.length = n ∧ sz0 l = m := by
 refine ⟨h.ln, ?_⟩
 have := G8 h (r := 0) (by have := h.n2; omega)
 rw [Z8] at this
 exact this
theorem q8p {n m : Nat} {l : List ByteArray} (h : Shp n m l) (hf : full l) (hp : ∀ i, i < n + m → par l i = 0) : icR l = (true, true) := by
 obtain ⟨e1, e2⟩ := q2d h
 unfold icR
 rw [if_pos (q8l h hf), e1, e2, (q1f h).2 ⟨hp, q7j hf⟩]
def F3 (l : List ByteArray) : Bool := decide (1 ≤ l.length ∧ l.length ≤ 60) && (decide (1 ≤ sz0 l ∧ sz0 l ≤ 20) && l.all (rowOk (sz0 l)))
theorem U1 {l : List ByteArray} : F3 l = true ↔ (1 ≤ l.length ∧ l.length ≤ 60) ∧ (1 ≤ sz0 l ∧ sz0 l ≤ 20) ∧ l.all (rowOk (sz0 l)) = true := by simp [F3]
theorem q72 (l : List ByteArray) (s : ByteArray) (hs : s.size ≤ 1048576) (l' : List ByteArray) (n i : Int) (q : Bool) (hq : Ev (fun k => V3.l0 k l l' n (wrap64 (i + 1))) q) : ∀ (suf pre : List UInt8), bl s = pre ++ suf →
  Ev (fun k => V3.l1 k l s (pre.length : Int) l' n i) (suf.all chr && q) := by
 intro suf
 have hsz := Z8 s
 induction suf with
 | nil =>
  intro pre h
  have : pre.length = s.size := by rw [← hsz, h]; simp
  exact Ev.step (fun k => V3.l1.eq_2 ..) (z8 (by omega) (K9 hq (by simp)))
 | cons b suf ih =>
  intro pre h
  have hl : pre.length + (suf.length + 1) = s.size := by rw [← hsz, h]; simp
  have hb := O3 h
  have ih' := ih (pre ++ [b]) (by rw [h]; simp)
  have e : wrap64 ((pre.length : Int) + 1) = ((pre ++ [b]).length : Int) := by rw [Q5 (by omega) (by omega)]; simp
  have hc := q52 b
  have yes : chr b = true → Ev (fun k => V3.l1 k l s ((pre ++ [b]).length : Int) l' n i) ((b :: suf).all chr && q) := fun z => by rw [List.all_cons, z, Bool.true_and]; exact ih'
  refine Ev.step (fun k => V3.l1.eq_2 ..) (y5 (by omega) (y5 (by omega) ?_))
  rw [hb, e]
  refine J7 (fun c => yes (hc.2 (.inl c))) (fun c => J7 (fun c1 => yes (hc.2 (.inr (.inl c1)))) (fun c1 => J7 (fun c2 => yes (hc.2 (.inr (.inr c2)))) (fun c2 => J2 ?_)))
  have : chr b = false := Bool.eq_false_iff.2 (fun z => by have := hc.1 z; omega)
  rw [List.all_cons, this]; rfl
theorem I7 {l : List ByteArray} (hl : l.length ≤ 1048576) (hb : ∀ s, s ∈ l → s.size ≤ 1048576) : Ev (fun k => V3.f k l) (F3 l) := by
 unfold V3.f
 have go : ∀ (suf pre : List ByteArray), l = pre ++ suf → Ev (fun k => V3.l0 k l l (l.length : Int) (pre.length : Int)) (suf.all (rowOk (sz0 l)) && (decide (1 ≤ l.length ∧ l.length ≤ 60) && decide (1 ≤ sz0 l ∧ sz0 l ≤ 20))) := by
  intro suf
  induction suf with
  | nil =>
   intro pre h
   refine Ev.step (fun k => V3.l0.eq_2 ..) (z8 (P5 h) ?_)
   simp only [q0j, Option.bind_some, decide_eq_true_eq, List.all_nil, Bool.true_and]
   refine J7 (fun c => y5 (by omega) (J2 ?_)) (fun c => J2 ?_)
   ·rw [decide_eq_true (show 1 ≤ l.length ∧ l.length ≤ 60 by omega), Bool.true_and, at0]
    exact q2j (by unfold sz0; omega)
   ·rw [decide_eq_false (show ¬ (1 ≤ l.length ∧ l.length ≤ 60) by omega), Bool.false_and]
  | cons s suf ih =>
   intro pre h
   obtain ⟨h1, h2, h3, h4, h5⟩ := H9 h (by omega) ByteArray.empty
   refine Ev.step (fun k => V3.l0.eq_2 ..) ?_
   simp only [h1, h2, rdOf, h4, if_true]
   refine y5 (by omega) (J7 (fun c => ?_) (fun c => J2 ?_))
   ·have := q72 l s (hb s (by rw [h]; simp)) l (l.length : Int) (pre.length : Int) _ (by rw [h3]; exact ih _ h5) (bl s) [] rfl
    refine K9 this ?_
    have e : rowOk (sz0 l) s = (bl s).all chr := by
     unfold rowOk; rw [decide_eq_true (show s.size = sz0 l by unfold sz0; have c' : (s.size : Int) = ((l.getD 0 ByteArray.empty).size : Int) := c; omega), Bool.true_and]
    rw [List.all_cons, e, Bool.and_assoc]
   ·have e : rowOk (sz0 l) s = false := by
     unfold rowOk; rw [decide_eq_false (show ¬ s.size = sz0 l by unfold sz0; have c' : ¬ (s.size : Int) = ((l.getD 0 ByteArray.empty).size : Int) := c; omega), Bool.false_and]
    rw [List.all_cons, e]; rfl
 refine K9 (go l [] rfl) ?_
 unfold F3
 rw [Bool.and_comm, Bool.and_assoc]
theorem q69 {l : List ByteArray} (hl : l.length ≤ 1048576) (hb : ∀ s, s ∈ l → s.size ≤ 1048576) : Ev (fun k => H6.f k l) (F3 l) := by
 unfold H6.f o5.f
 have go : ∀ (suf pre : List ByteArray), l = pre ++ suf → Ev (fun k => o5.l0 k l ⟨#[46, 111, 63]⟩ l (l.length : Int) (pre.length : Int)) (suf.all (rowOk (sz0 l))) := by
  intro suf
  induction suf with
  | nil =>
   intro pre h
   exact Ev.step (fun k => o5.l0.eq_2 ..) (z8 (P5 h) (Ev.now _))
  | cons s suf ih =>
   intro pre h
   obtain ⟨h1, h2, h3, h4, h5⟩ := H9 h (by omega) ByteArray.empty
   refine Ev.step (fun k => o5.l0.eq_2 ..) ?_
   simp only [h1, h2, rdOf, h4, if_true]
   refine y5 (by omega) (J7 (fun c => ?_) (fun c => J2 ?_))
   ·have := q58 l s (hb s (by rw [h]; simp)) l (l.length : Int) (pre.length : Int) _ (by rw [h3]; exact ih _ h5) (bl s) [] rfl
    refine K9 this ?_
    have e : rowOk (sz0 l) s = (bl s).all chr := by
     unfold rowOk; rw [decide_eq_true (show s.size = sz0 l by unfold sz0; have c' : (s.size : Int) = ((l.getD 0 ByteArray.empty).size : Int) := c; omega), Bool.true_and]
    rw [List.all_cons, e]
   ·have e : rowOk (sz0 l) s = false := by
     unfold rowOk; rw [decide_eq_false (show ¬ s.size = sz0 l by unfold sz0; have c' : ¬ (s.size : Int) = ((l.getD 0 ByteArray.empty).size : Int) := c; omega), Bool.false_and]
    rw [List.all_cons, e]; rfl
 have bad : ∀ {z : Bool}, z = true → F3 l = false → Ev (fun k => o5.j0 k l ⟨#[46, 111, 63]⟩ z) (F3 l) := fun hz h =>
  Ev.step (fun k => o5.j0.eq_2 ..) (y5 hz (J2 h.symm))
 have nog : ¬ ((1 ≤ l.length ∧ l.length ≤ 60) ∧ (1 ≤ sz0 l ∧ sz0 l ≤ 20)) → F3 l = false := fun h => Bool.eq_false_iff.2 (fun z => h ⟨(U1.1 z).1, (U1.1 z).2.1⟩)
 refine Ev.bind (a := F3 l) (J7 (fun c => bad rfl (nog (by omega))) (fun c => J7 (fun c1 => bad rfl (nog (by omega))) (fun c1 => y5 (by omega) ?_))) (Ev.now _)
 rw [at0]
 refine J7 (fun c2 => bad rfl (nog (by unfold sz0; omega))) (fun c2 => ?_)
 by_cases c3 : ((l.getD 0 ByteArray.empty).size : Int) > 20
 ·exact bad (decide_eq_true c3) (nog (by unfold sz0; omega))
 ·refine Ev.step (fun k => o5.j0.eq_2 ..) (z8 (by simpa using c3) (K9 (go l [] rfl) ?_))
  unfold F3
  rw [decide_eq_true (show 1 ≤ l.length ∧ l.length ≤ 60 by omega), decide_eq_true (show 1 ≤ sz0 l ∧ sz0 l ≤ 20 by unfold sz0; omega), Bool.true_and, Bool.true_and]
theorem q5f {l : List ByteArray} (h : F3 l = true) : ∀ s, s ∈ l → s.size = sz0 l ∧ (bl s).all chr = true := fun s hs => by
 have := List.all_eq_true.1 (U1.1 h).2.2 s hs
 simpa [rowOk] using this
def S9 (l : List ByteArray) (c e : Int) : Bool := F3 l && decide ((0 ≤ c ∧ c < (sz0 l : Int)) ∧ (2 ≤ e ∧ e ≤ 10))
theorem F4 {l : List ByteArray} {c e : Int} : S9 l c e = true ↔ F3 l = true ∧ (0 ≤ c ∧ c < (sz0 l : Int)) ∧ (2 ≤ e ∧ e ≤ 10) := by unfold S9; rw [Bool.and_eq_true, decide_eq_true_eq]
theorem q36 {l : List ByteArray} (hl : l.length ≤ 1048576) (hb : ∀ s, s ∈ l → s.size ≤ 1048576) (c e : Int) : Ev (fun k => D5.f k l c e) (S9 l c e) := by
 unfold D5.f S9
 refine Ev.bind (q69 hl hb) (J7 (fun g => ?_) (fun g => J2 (by rw [Bool.eq_false_iff.2 g, Bool.false_and])))
 have g0 := U1.1 g
 rw [g, Bool.true_and, at0]
 have hz : ((l.getD 0 ByteArray.empty).size : Int) = (sz0 l : Int) := rfl
 rw [hz]
 exact J7 (fun c0 => y5 (by omega) (J7 (fun c1 => J7 (fun c2 => J2 (q2j (by omega))) (fun c2 => J2 (q5p (by omega)))) (fun c1 => J2 (q5p (by omega))))) (fun c0 => J2 (q5p (by omega)))
theorem q3a {l : List ByteArray} (hl : l.length ≤ 1048576) (hb : ∀ s, s ∈ l → s.size ≤ 1048576) (c e : Int) : Ev (fun k => D9.f k l c e) (S9 l c e) := by
 unfold D9.f S9
 refine Ev.bind (I7 hl hb) (J7 (fun g => ?_) (fun g => J2 (by rw [Bool.eq_false_iff.2 g, Bool.false_and])))
 have g0 := U1.1 g
 have hz : ((rdOf ByteArray.empty l 0).size : Int) = (sz0 l : Int) := rfl
 rw [g, Bool.true_and, hz, Q5 (x := (sz0 l : Int) - 1) (by omega) (by omega)]
 simp only [q0j, Option.bind_some, decide_eq_true_eq]
 exact y5 (by omega) (J7 (fun c0 => J2 (q2j (by omega))) (fun c0 => J2 (q5p (by omega))))
def L6 (c : Nat) (e f : Int) (s : ByteArray) (r : Nat) : Bool := ((bl s).getD c 0 == 111 && !decide ((r : Int) % e = f)) || ((bl s).getD c 0 == 46 && decide ((r : Int) % e = f))
def D6 (c : Nat) (e f : Int) : List ByteArray → Nat → Int
 | [], _ => 0
 | s :: l, r => (if L6 c e f s r = true then 1 else 0) + D6 c e f l (r + 1)
theorem q55 (c : Nat) (e f : Int) : ∀ (l : List ByteArray) (r : Nat), 0 ≤ D6 c e f l r ∧ D6 c e f l r ≤ (l.length : Int)
 | [], _ => by simp [D6]
 | s :: l, r => by
  have := q55 c e f l (r + 1)
  simp only [D6, List.length_cons]
  split <;> omega
theorem btc {s : ByteArray} {c : Nat} (h : c < s.size) : bt s (c : Int) = (((bl s).getD c 0).toNat : Int) := q0f s c (by rw [Z8]; exact h)
theorem u46 (b : UInt8) : ((b.toNat : Int) = 46) ↔ b = 46 := R7 b 46 (by omega)
theorem q91 (b : UInt8) : ((b.toNat : Int) = 111) ↔ b = 111 := R7 b 111 (by omega)
theorem u63 (b : UInt8) : ((b.toNat : Int) = 63) ↔ b = 63 := R7 b 63 (by omega)
theorem q4u {l : List ByteArray} {c : Nat} (hl : l.length ≤ 60) (hr : ∀ s, s ∈ l → c < s.size) {e f : Int} (he : 2 ≤ e) : ∀ (suf pre : List ByteArray) (n : Int), l = pre ++ suf → 0 ≤ n → n ≤ (pre.length : Int) →
  Ev (fun k => Q4.l0 k (c : Int) e f n l (l.length : Int) (pre.length : Int)) (n + D6 c e f suf pre.length) := by
 intro suf
 induction suf with
 | nil =>
  intro pre n h _ _
  exact Ev.step (fun k => Q4.l0.eq_2 ..) (z8 (P5 h) (J2 (by simp [D6])))
 | cons s suf ih =>
  intro pre n h h0 hn
  obtain ⟨h1, h2, h3, h4, h5⟩ := H9 h (by omega) ByteArray.empty
  have hs := hr s (by rw [h]; simp)
  have hb := btc hs
  have hpl : pre.length ≤ 60 := by rw [h] at hl; simp at hl; omega
  have h4' : rdOf ByteArray.empty l (pre.length : Int) = s := h4
  refine Ev.step (fun k => Q4.l0.eq_2 ..) ?_
  rw [h3, h4', hb, Int.tmod_eq_emod_of_nonneg (by omega), Q5 (x := n + 1) (by omega) (by omega)]
  have yes : L6 c e f s pre.length = true → Ev (fun k => Q4.l0 k (c : Int) e f (n + 1) l (l.length : Int) ((pre ++ [s]).length : Int)) (n + D6 c e f (s :: suf) pre.length) := fun z => K9 (ih (pre ++ [s]) (n + 1) h5 (by omega) (by simp; omega)) (by simp [D6, z]; omega)
  have no : L6 c e f s pre.length = false → Ev (fun k => Q4.l0 k (c : Int) e f n l (l.length : Int) ((pre ++ [s]).length : Int)) (n + D6 c e f (s :: suf) pre.length) := fun z => K9 (ih (pre ++ [s]) n h5 h0 (by simp; omega)) (by simp [D6, z])
  have u1 := q91 ((bl s).getD c 0)
  have u2 := u46 ((bl s).getD c 0)
  refine y5 h1 (y5 h2 (y5 h1 (z8 (by omega) (y5 (by omega) (y5 (by omega) (J7 (fun c1 => ?_) (fun c1 => ?_)))))))
  ·have z1 := u1.1 c1
   refine J7 (fun c2 => z8 (by rw [z1]; decide) (no ?_)) (fun c2 => yes ?_)
   ·unfold L6; rw [z1, decide_eq_true c2]; decide
   ·unfold L6; rw [z1, decide_eq_false c2]; rfl
  ·have z1 : ¬ (bl s).getD c 0 = 111 := fun q => c1 (u1.2 q)
   have e1 : ((bl s).getD c 0 == 111) = false := by simpa using z1
   refine J7 (fun c2 => J7 (fun c3 => yes ?_) (fun c3 => no ?_)) (fun c2 => no ?_)
   ·unfold L6; rw [u2.1 c2, decide_eq_true c3]; decide
   ·unfold L6; rw [e1, decide_eq_false c3]; simp
   ·have e2 : ((bl s).getD c 0 == 46) = false := by simpa using fun q => c2 (u2.2 q)
    unfold L6; rw [e1, e2]; rfl
theorem q7o {r e f : Int} (hr : 0 ≤ r) (h0 : 0 ≤ f) (h1 : f < e) : (r ≥ f ∧ (r - f) % e = 0) ↔ r % e = f := by
 constructor
 ·rintro ⟨a, b⟩
  have := Int.emod_emod_of_dvd r (Int.dvd_refl e)
  have h2 : (r - f) % e = (r % e - f % e) % e := Int.sub_emod ..
  have h3 : f % e = f := Int.emod_eq_of_lt h0 h1
  have h4 : r = (r - f) + f := by omega
  rw [h4, Int.add_emod, b, h3, Int.zero_add, h3]
 ·intro h
  have h5 := Int.emod_add_mul_ediv r e
  have h6 : 0 ≤ r / e := Int.ediv_nonneg hr (by omega)
  have h7 : 0 ≤ e * (r / e) := Int.mul_nonneg (by omega) h6
  refine ⟨by omega, ?_⟩
  have : r - f = e * (r / e) := by omega
  rw [this, Int.mul_emod_right]
theorem q4j {l : List ByteArray} {c : Nat} (hl : l.length ≤ 60) (hr : ∀ s, s ∈ l → c < s.size ∧ (bl s).all chr = true) {e f : Int} (he : 2 ≤ e) (h0f : 0 ≤ f) (hfe : f < e) (hex : e ≤ 100) : ∀ (suf pre : List ByteArray) (n : Int), l = pre ++ suf → 0 ≤ n → n ≤ (pre.length : Int) →
  Ev (fun k => o8.l0 k (c : Int) e f n l (l.length : Int) (pre.length : Int)) (n + D6 c e f suf pre.length) := by
 intro suf
 induction suf with
 | nil =>
  intro pre n h _ _
  exact Ev.step (fun k => o8.l0.eq_2 ..) (z8 (P5 h) (J2 (by simp [D6])))
 | cons s suf ih =>
  intro pre n h h0 hn
  obtain ⟨h1, h2, h3, h4, h5⟩ := H9 h (by omega) ByteArray.empty
  obtain ⟨hs, hch⟩ := hr s (by rw [h]; simp)
  have hb := btc hs
  have hpl : pre.length ≤ 60 := by rw [h] at hl; simp at hl; omega
  have h4' : rdOf ByteArray.empty l (pre.length : Int) = s := h4
  have hin : (bl s).getD c 0 ∈ bl s := by rw [getD_in 0 (by rw [Z8]; exact hs)]; exact List.getElem_mem _
  have hc := List.all_eq_true.1 hch _ hin
  unfold chr at hc
  rw [decide_eq_true_eq] at hc
  have yes : L6 c e f s pre.length = true → Ev (fun k => o8.l0 k (c : Int) e f (n + 1) l (l.length : Int) ((pre ++ [s]).length : Int)) (n + D6 c e f (s :: suf) pre.length) := fun z => K9 (ih (pre ++ [s]) (n + 1) h5 (by omega) (by simp; omega)) (by simp [D6, z]; omega)
  have no : L6 c e f s pre.length = false → Ev (fun k => o8.l0 k (c : Int) e f n l (l.length : Int) ((pre ++ [s]).length : Int)) (n + D6 c e f (s :: suf) pre.length) := fun z => K9 (ih (pre ++ [s]) n h5 h0 (by simp; omega)) (by simp [D6, z])
  have u1 := q91 ((bl s).getD c 0)
  have u2 := u46 ((bl s).getD c 0)
  have u3 := u63 ((bl s).getD c 0)
  have hj : ∀ z : Bool, z = decide ((pre.length : Int) % e = f) → Ev (fun k => o8.j1 k (c : Int) e f n s 46 l (l.length : Int) (pre.length : Int) z) (n + D6 c e f (s :: suf) pre.length) := by
   intro z hz
   refine Ev.step (fun k => o8.j1.eq_2 ..) ?_
   rw [h3, hb, Q5 (x := n + 1) (by omega) (by omega)]
   have zz : L6 c e f s pre.length = (((bl s).getD c 0 == 111 && !z) || ((bl s).getD c 0 == 46 && z)) := by unfold L6; rw [hz]
   refine J7 (fun q => ?_) (fun q => ?_)
   ·subst q
    refine y5 (by omega) (y5 (by omega) (J7 (fun c1 => no ?_) (fun c1 => J7 (fun c2 => no ?_) (fun c2 => yes ?_))))
    ·rw [zz, u3.1 c1]; decide
    ·rw [zz, u1.1 c2]; decide
    ·have : (bl s).getD c 0 = 46 := hc.resolve_right (fun w => w.elim (fun w => c2 (u1.2 w)) (fun w => c1 (u3.2 w)))
     rw [zz, this]; decide
   ·have q' : z = false := Bool.eq_false_iff.2 q
    subst q'
    refine y5 (by omega) (y5 (by omega) (J7 (fun c1 => no ?_) (fun c1 => J7 (fun c2 => no ?_) (fun c2 => yes ?_))))
    ·rw [zz, u3.1 c1]; decide
    ·rw [zz, u2.1 c2]; decide
    ·have : (bl s).getD c 0 = 111 := (hc.resolve_left (fun w => c2 (u2.2 w))).resolve_right (fun w => c1 (u3.2 w))
     rw [zz, this]; decide
  have fh := q7o (r := (pre.length : Int)) (by omega) h0f hfe
  refine Ev.step (fun k => o8.l0.eq_2 ..) (y5 h1 (y5 h2 (y5 h1 ?_)))
  rw [h4']
  refine J7 (fun c1 => z8 (by omega) (hj _ ?_)) (fun c1 => hj false ?_)
  ·rw [Q5 (by omega) (by omega), Int.tmod_eq_emod_of_nonneg (by omega), Bool.eq_iff_iff, beq_iff_eq, decide_eq_true_eq, ← fh]
   exact ⟨fun w => ⟨c1, w⟩, fun w => w.2⟩
  ·exact (decide_eq_false (fun w => c1 (fh.2 w).1)).symm
theorem q0s {l : List ByteArray} {c e : Int} (h : S9 l c e = true) (f : Int) : Ev (fun k => Q4.f k l c e f) (D6 c.toNat e f l 0) := by
 obtain ⟨g, hc, he⟩ := F4.1 h
 have g0 := U1.1 g
 unfold Q4.f
 have := q4u (l := l) (c := c.toNat) (by omega) (fun s hs => by have := (q5f g s hs).1; omega) (f := f) he.1 l [] 0 rfl (by omega) (by simp)
 rw [show ((c.toNat : Nat) : Int) = c by omega] at this
 exact K9 this (by simp)
theorem q0w {l : List ByteArray} {c e : Int} (h : S9 l c e = true) {f : Int} (h0 : 0 ≤ f) (h1 : f < e) : Ev (fun k => o8.f k l c e f) (D6 c.toNat e f l 0) := by
 obtain ⟨g, hc, he⟩ := F4.1 h
 have g0 := U1.1 g
 unfold o8.f
 have := q4j (l := l) (c := c.toNat) (by omega) (fun s hs => by have := q5f g s hs; exact ⟨by omega, this.2⟩) (f := f) he.1 h0 h1 (by omega) l [] 0 rfl (by omega) (by simp)
 rw [show ((c.toNat : Nat) : Int) = c by omega] at this
 exact K9 this (by simp)
def feR (l : List ByteArray) (c e f : Int) : Int × Bool := if S9 l c e = true then (if 0 ≤ f ∧ f < e then (D6 c.toNat e f l 0, true) else (0, false)) else (0, false)
theorem q2h {l : List ByteArray} (hl : l.length ≤ 1048576) (hb : ∀ s, s ∈ l → s.size ≤ 1048576) {c e f : Int} (hbig : -1000000 ≤ e ∧ e ≤ 1000000) : Ev (fun k => Y5.f k l c e f) (feR l c e f) := by
 unfold Y5.f feR
 refine Ev.bind (q3a hl hb c e) (E8 (fun h => ?_) (fun _ => Ev.now _))
 rw [Q5 (x := e - 1) (by omega) (by omega)]
 simp only [q0j, Option.bind_some, decide_eq_true_eq]
 refine J7 (fun q => ?_) (fun q => J2 (by rw [if_neg (by omega)]))
 rw [if_pos (by omega)]
 exact Ev.bind (q0s h f) (Ev.now _)
theorem q2f {l : List ByteArray} (hl : l.length ≤ 1048576) (hb : ∀ s, s ∈ l → s.size ≤ 1048576) {c e f : Int} : Ev (fun k => Y4.f k l c e f) (feR l c e f) := by
 unfold Y4.f feR
 refine Ev.bind (q36 hl hb c e) (E8 (fun h => ?_) (fun _ => Ev.now _))
 refine J7 (fun q => J2 (by rw [if_neg (by omega)])) (fun q => J7 (fun q1 => J2 (by rw [if_neg (by omega)])) (fun q1 => ?_))
 rw [if_pos (by omega)]
 exact Ev.bind (q0w h (by omega) (by omega)) (Ev.now _)
def bst (F : Int → Int) : Nat → Int × Int
 | 0 => (0, F 0)
 | i + 1 => if F ((i : Int) + 1) < (bst F i).2 then ((i : Int) + 1, F ((i : Int) + 1)) else bst F i
theorem q4b (F : Int → Int) : ∀ (i : Nat), (0 ≤ (bst F i).1 ∧ (bst F i).1 ≤ (i : Int)) ∧ (bst F i).2 = F (bst F i).1 ∧ ∀ j : Int, 0 ≤ j → j ≤ (i : Int) → (bst F i).2 ≤ F j ∧ (j < (bst F i).1 → (bst F i).2 < F j)
 | 0 => by
  refine ⟨by simp [bst], rfl, fun j h0 h1 => ?_⟩
  have : j = 0 := by omega
  subst this
  simp [bst]
 | i + 1 => by
  obtain ⟨h1, h2, h3⟩ := q4b F i
  simp only [bst]
  by_cases c : F ((i : Int) + 1) < (bst F i).2
  ·rw [if_pos c]
   refine ⟨by dsimp only; omega, rfl, fun j h0 h4 => ?_⟩
   dsimp only
   by_cases e : j = (i : Int) + 1
   ·rw [e]; omega
   ·have := h3 j h0 (by omega); omega
  ·rw [if_neg c]
   refine ⟨by omega, h2, fun j h0 h4 => ?_⟩
   by_cases e : j = (i : Int) + 1
   ·rw [e]; omega
   ·exact h3 j h0 (by omega)
def bfR (l : List ByteArray) (c e : Int) : Int × Int × Bool := if S9 l c e = true then ((bst (fun f => D6 c.toNat e f l 0) (e.toNat - 1)).1, (bst (fun f => D6 c.toNat e f l 0) (e.toNat - 1)).2, true) else (0, 0, false)
theorem q8z (l : List ByteArray) (c : Nat) (e : Int) (i : Nat) : 0 ≤ (bst (fun f => D6 c e f l 0) i).2 := by
 have := (q4b (fun f => D6 c e f l 0) i).2.1
 rw [this]; exact (q55 c e _ l 0).1
theorem q6w {l : List ByteArray} (hl : l.length ≤ 1048576) (hb : ∀ s, s ∈ l → s.size ≤ 1048576) (c e : Int) : Ev (fun k => J8.f k l c e) (bfR l c e) := by
 unfold J8.f bfR
 refine Ev.bind (q3a hl hb c e) (E8 (fun h => ?_) (fun _ => Ev.now _))
 obtain ⟨g, hc, he⟩ := F4.1 h
 have go : ∀ (d i : Nat), i + 1 + d = e.toNat → Ev (fun k => J8.l0 k l c e (bst (fun f => D6 c.toNat e f l 0) i).1 (bst (fun f => D6 c.toNat e f l 0) i).2 ((i : Int) + 1)) ((bst (fun f => D6 c.toNat e f l 0) (e.toNat - 1)).1, (bst (fun f => D6 c.toNat e f l 0) (e.toNat - 1)).2, true) := by
  intro d
  induction d with
  | zero =>
   intro i hi
   refine Ev.step (fun k => J8.l0.eq_2 ..) (z8 (by omega) (J2 ?_))
   rw [show e.toNat - 1 = i by omega]
  | succ d ih =>
   intro i hi
   have hbd := q8z l c.toNat e i
   have e1 : wrap64 ((i : Int) + 1 + 1) = ((i + 1 : Nat) : Int) + 1 := by rw [Q5 (by omega) (by omega)]; omega
   have next := ih (i + 1) (by omega)
   refine Ev.step (fun k => J8.l0.eq_2 ..) (y5 (by omega) (Ev.bind (q0s h ((i : Int) + 1)) (z8 (by omega) ?_)))
   rw [e1]
   refine J7 (fun q => ?_) (fun q => ?_)
   ·simp only [bst, if_pos q] at next; exact next
   ·simp only [bst, if_neg q] at next; exact next
 refine Ev.step (fun k => J8.l0.eq_2 ..) (y5 (by omega) (Ev.bind (q0s h 0) (y5 (by omega) ?_)))
 have := go (e.toNat - 1) 0 (by omega)
 rw [show wrap64 (0 + 1) = 1 by unfold wrap64; omega]
 exact this
theorem q6n {l : List ByteArray} (hl : l.length ≤ 1048576) (hb : ∀ s, s ∈ l → s.size ≤ 1048576) (c e : Int) : Ev (fun k => Y0.f k l c e) (bfR l c e) := by
 unfold Y0.f bfR
 refine Ev.bind (q36 hl hb c e) (E8 (fun h => ?_) (fun _ => Ev.now _))
 obtain ⟨g, hc, he⟩ := F4.1 h
 have go : ∀ (d i : Nat), i + 1 + d = e.toNat → Ev (fun k => Y0.l0 k l c e (bst (fun f => D6 c.toNat e f l 0) i).1 (bst (fun f => D6 c.toNat e f l 0) i).2 ((i : Int) + 1)) ((bst (fun f => D6 c.toNat e f l 0) (e.toNat - 1)).1, (bst (fun f => D6 c.toNat e f l 0) (e.toNat - 1)).2, true) := by
  intro d
  induction d with
  | zero =>
   intro i hi
   refine Ev.step (fun k => Y0.l0.eq_2 ..) (z8 (by omega) (J2 ?_))
   rw [show e.toNat - 1 = i by omega]
  | succ d ih =>
   intro i hi
   have e1 : wrap64 ((i : Int) + 1 + 1) = ((i + 1 : Nat) : Int) + 1 := by rw [Q5 (by omega) (by omega)]; omega
   have next := ih (i + 1) (by omega)
   refine Ev.step (fun k => Y0.l0.eq_2 ..) (y5 (by omega) (Ev.bind (q0w h (by omega) (by omega)) ?_))
   rw [e1]
   refine J7 (fun q => ?_) (fun q => ?_)
   ·simp only [bst, if_pos q] at next; exact next
   ·simp only [bst, if_neg q] at next; exact next
 exact Ev.bind (q0w h (by omega) (by omega)) (go (e.toNat - 1) 0 (by omega))
theorem q8j (l : List Int) (x : Int) (hl : l.length ≤ 1048576) : ∀ (suf pre : List Int), l = pre ++ suf → Ev (fun k => K3.l0 k x l (l.length : Int) (pre.length : Int)) (decide (x ∈ suf)) := by
 intro suf
 induction suf with
 | nil =>
  intro pre h
  exact Ev.step (fun k => K3.l0.eq_2 ..) (z8 (P5 h) (J2 (by simp)))
 | cons y suf ih =>
  intro pre h
  obtain ⟨h1, h2, h3, h4, h5⟩ := H9 h (by omega) 0
  refine Ev.step (fun k => K3.l0.eq_2 ..) (y5 h1 (y5 h2 (y5 h1 ?_)))
  rw [show rd l (pre.length : Int) = y from h4, h3]
  refine J7 (fun c => J2 ?_) (fun c => K9 (ih _ h5) ?_)
  ·rw [decide_eq_true]; simp [c]
  ·refine decide_eq_decide.mpr ?_
   simp only [List.mem_cons]
   exact ⟨.inr, fun z => z.resolve_left (fun e => c e.symm)⟩
theorem q8q {l : List Int} (hl : l.length ≤ 1048576) (x : Int) : Ev (fun k => K3.f k l x) (decide (x ∈ l)) := by
 unfold K3.f; exact q8j l x hl l [] rfl
def I1 (n w : Int) (r : List ByteArray) : Prop := (r.length : Int) = n ∧ ∀ s, s ∈ r → (s.size : Int) = w
theorem q6h {l : List S87} (hl : l.length ≤ 1000) (hh : ∀ x, x ∈ l → hole x) (w n : Int) (h0 : 0 ≤ w) (hw : w ≤ 1000) (hn : n ≤ 900) : ∀ (d : Nat) (out : List ByteArray), (out.length : Int) + (d : Int) = n → (∀ s, s ∈ out → (s.size : Int) = w) →
  ∃ r, Ev (fun k => Q9.l0 k l w n out (out.length : Int)) r ∧ I1 n w r := by
 intro d
 induction d with
 | zero =>
  intro out hd hs
  exact ⟨out, Ev.step (fun k => Q9.l0.eq_2 ..) (z8 (by omega) (Ev.now _)), by omega, hs⟩
 | succ d ih =>
  intro out hd hs
  have ho := q6a (out.length : Int) l hl hh l [] [] rfl (by simp)
  have hlen := q2n (out.length : Int) l []
  simp at hlen
  -- what the row is, is told by its length alone
  have key : ∃ s' : ByteArray, (s'.size : Int) = w ∧ ∀ q, Ev (fun k => Q9.l0 k l w n (out ++ [s']) (wrap64 ((out.length : Int) + 1))) q → Ev (fun k => Q9.l1 k l w n out (out.length : Int) (opn (out.length : Int) [] l) ⟨#[]⟩ 0) q := by
   have go : ∀ (d c : Nat) (s : ByteArray), (c : Int) + (d : Int) = w → s.size = c → ∃ s' : ByteArray, (s'.size : Int) = w ∧ ∀ q, Ev (fun k => Q9.l0 k l w n (out ++ [s']) (wrap64 ((out.length : Int) + 1))) q → Ev (fun k => Q9.l1 k l w n out (out.length : Int) (opn (out.length : Int) [] l) s (c : Int)) q := by
    intro d
    induction d with
    | zero =>
     intro c s hc hs'
     exact ⟨s, by omega, fun q hq => Ev.step (fun k => Q9.l1.eq_2 ..) (z8 (by omega) (y5 (by omega) hq))⟩
    | succ d ihd =>
     intro c s hc hs'
     have e1 : wrap64 ((c : Int) + 1) = ((c + 1 : Nat) : Int) := by rw [Q5 (by omega) (by omega)]; omega
     have hev := q8q (l := opn (out.length : Int) [] l) (by omega) (c : Int)
     by_cases g : decide ((c : Int) ∈ opn (out.length : Int) [] l) = true
     ·obtain ⟨s', hs1, hE⟩ := ihd (c + 1) (s ++ ⟨#[111]⟩) (by omega) (by rw [ByteArray.size_append, hs']; rfl)
      refine ⟨s', hs1, fun q hq => Ev.step (fun k => Q9.l1.eq_2 ..) (y5 (by omega) (Ev.bind hev (y5 g (y5 (by omega) ?_))))⟩
      rw [e1]; exact hE q hq
     ·obtain ⟨s', hs1, hE⟩ := ihd (c + 1) (s ++ ⟨#[46]⟩) (by omega) (by rw [ByteArray.size_append, hs']; rfl)
      refine ⟨s', hs1, fun q hq => Ev.step (fun k => Q9.l1.eq_2 ..) (y5 (by omega) (Ev.bind hev (z8 g (y5 (by omega) ?_))))⟩
      rw [e1]; exact hE q hq
   exact go w.toNat 0 ⟨#[]⟩ (by omega) rfl
  obtain ⟨s', hs1, hE⟩ := key
  obtain ⟨r, hr, hb⟩ := ih (out ++ [s']) (by simp; omega) (fun s hs2 => by
   rcases List.mem_append.1 hs2 with z | z
   ·exact hs s z
   ·rw [List.mem_singleton.1 z]; exact hs1)
  refine ⟨r, Ev.step (fun k => Q9.l0.eq_2 ..) (y5 (by omega) (Ev.bind (show Ev (fun k => X7.f k l (out.length : Int)) (opn (out.length : Int) [] l) from ho) (hE r ?_))), hb⟩
  rw [show wrap64 ((out.length : Int) + 1) = ((out ++ [s']).length : Int) by rw [Q5 (by omega) (by omega)]; simp]
  exact hr
theorem O8 {l : List S87} (hl : l.length ≤ 1000) (hh : ∀ x, x ∈ l → hole x) {w n : Int} (h0 : 0 ≤ w) (hw : w ≤ 1000) (hn0 : 0 ≤ n) (hn : n ≤ 900) : ∃ r, Ev (fun k => Q9.f k l w n) r ∧ I1 n w r := by
 unfold Q9.f
 exact q6h hl hh w n h0 hw hn n.toNat [] (by simp; omega) (by simp)
theorem q8a (b : Int) : (strOfNums ([b] : List Int)).size = 1 := by simp [strOfNums, ByteArray.size]
theorem q6x {l : List Int} (hl : bytes l) (x2 : ByteArray) (h2 : 1 ≤ x2.size ∧ x2.size ≤ 1000) : ∀ (d : Nat) (x1 : ByteArray) (a s : Int), x1.size + d ≤ 1000 → 0 ≤ a → a + 6 * (d : Int) ≤ 700000000 →
  ∃ v a' s', Ev (fun k => r9.l0 k x1 x2 (d : Int) l a s) (v, a', s') ∧ v.size ≤ x1.size + d ∧ a ≤ a' ∧ a' ≤ a + 6 * (d : Int) := by
 intro d
 induction d with
 | zero =>
  intro x1 a s hs h0 h1
  have stop : Ev (fun k => r9.j1 k x1 x2 ((0 : Nat) : Int) false l a s) (x1, a, s) := Ev.step (fun k => r9.j1.eq_2 ..) (z8 (by simp) (Ev.now _))
  exact ⟨x1, a, s, Ev.step (fun k => r9.l0.eq_2 ..) (z8 (by omega) stop), by omega, by omega, by omega⟩
 | succ d ih =>
  intro x1 a s hs h0 h1
  have stop : Ev (fun k => r9.j1 k x1 x2 ((d + 1 : Nat) : Int) false l a s) (x1, a, s) := Ev.step (fun k => r9.j1.eq_2 ..) (z8 (by simp) (Ev.now _))
  by_cases c : (x1.size : Int) > 0
  ·obtain ⟨p, a1, s1, e1, hp, h1a⟩ := Z6 hl s h0 (by omega) (m := (x1.size : Int)) (by omega)
   obtain ⟨b, a2, s2, e2, hb, h2a⟩ := Z6 hl s1 (show 0 ≤ a1 by omega) (by omega) (m := (x2.size : Int)) (by omega)
   obtain ⟨v, a3, s3, e3, hv, h3a⟩ := Z6 hl s2 (show 0 ≤ a2 by omega) (by omega) (m := 3) (by omega)
   have b1 := hp.2 (by omega)
   have b2 := hb.2 (by omega)
   have ew : wrap64 (((d + 1 : Nat) : Int) - 1) = (d : Int) := by rw [Q5 (by omega) (by omega)]; omega
   have ep : wrap64 (p + 1) = p + 1 := Q5 (by omega) (by omega)
   have so := q8a (bt x2 b)
   have z1 : (x1.extract 0 p.toNat).size = p.toNat := by rw [ByteArray.size_extract]; omega
   have z2 : (x1.extract p.toNat x1.size).size = x1.size - p.toNat := by rw [ByteArray.size_extract]; omega
   have z3 : (x1.extract (p + 1).toNat x1.size).size = x1.size - (p + 1).toNat := by rw [ByteArray.size_extract]; omega
   have hx : ∃ y : ByteArray, y.size ≤ x1.size + 1 ∧ ∀ q, Ev (fun k => r9.l0 k y x2 (d : Int) l a3 s3) q → Ev (fun k => r9.j1 k x1 x2 ((d + 1 : Nat) : Int) true l a s) q := by
    by_cases v0 : v = 0
    ·refine ⟨((x1.extract 0 p.toNat) ++ (strOfNums [bt x2 b])) ++ (x1.extract p.toNat x1.size), by rw [ByteArray.size_append, ByteArray.size_append]; omega, fun q hq => ?_⟩
     refine Ev.step (fun k => r9.j1.eq_2 ..) (y5 rfl (evC e1 (evC e2 (y5 hb.1 (y5 b2 ?_)))))
     simp only [Option.bind_some]
     refine evC e3 (y5 v0 (y5 hp.1 (y5 (by first | omega | (dsimp only; omega)) (y5 (by omega) (y5 (by rw [ByteArray.size_append]; omega) ?_)))))
     rw [ew]; exact hq
    ·by_cases v1 : v = 1
     ·refine ⟨((x1.extract 0 p.toNat) ++ (strOfNums [bt x2 b])) ++ (x1.extract (p + 1).toNat x1.size), by rw [ByteArray.size_append, ByteArray.size_append]; omega, fun q hq => ?_⟩
      refine Ev.step (fun k => r9.j1.eq_2 ..) (y5 rfl (evC e1 (evC e2 (y5 hb.1 (y5 b2 ?_)))))
      simp only [Option.bind_some]
      rw [ep, ew]
      exact evC e3 (z8 v0 (y5 v1 (y5 hp.1 (y5 (by first | omega | (dsimp only; omega)) (y5 (by omega) (y5 (by omega) (y5 (by omega) (y5 (by rw [ByteArray.size_append]; omega) hq))))))))
     ·refine ⟨(x1.extract 0 p.toNat) ++ (x1.extract (p + 1).toNat x1.size), by rw [ByteArray.size_append]; omega, fun q hq => ?_⟩
      refine Ev.step (fun k => r9.j1.eq_2 ..) (y5 rfl (evC e1 (evC e2 (y5 hb.1 (y5 b2 ?_)))))
      simp only [Option.bind_some]
      rw [ep, ew]
      exact evC e3 (z8 v0 (z8 v1 (y5 hp.1 (y5 (by first | omega | (dsimp only; omega)) (y5 (by omega) (y5 (by omega) (y5 (by omega) hq)))))))
   obtain ⟨y, hy, hE⟩ := hx
   obtain ⟨r, a', s', hr, hsz, ha, hb'⟩ := ih y a3 s3 (by omega) (by omega) (by omega)
   refine ⟨r, a', s', Ev.step (fun k => r9.l0.eq_2 ..) (y5 (by omega) ?_), by omega, by omega, by omega⟩
   rw [decide_eq_true c]; exact hE _ hr
  ·refine ⟨x1, a, s, Ev.step (fun k => r9.l0.eq_2 ..) (y5 (by omega) ?_), by omega, by omega, by omega⟩
   rw [decide_eq_false c]; exact stop
theorem q39 {l : List Int} (hl : bytes l) {x1 x2 : ByteArray} (h1 : x1.size ≤ 900) (h2 : 1 ≤ x2.size ∧ x2.size ≤ 1000) {a : Int} (s : Int) (h0 : 0 ≤ a) (ha : a ≤ 600000000) : ∃ v a' s', Ev (fun k => r9.f k l a s x1 x2) (v, a', s') ∧ v.size ≤ x1.size + 2 ∧ a ≤ a' ∧ a' ≤ a + 20 := by
 unfold r9.f
 obtain ⟨v, a1, s1, e1, hv, h1a⟩ := Z6 hl s h0 (by omega) (m := 2) (by omega)
 have b1 := hv.2 (by omega)
 obtain ⟨r, a', s', hr, hsz, ha', hb'⟩ := q6x hl x2 h2 (1 + v).toNat x1 a1 s1 (by omega) (by omega) (by omega)
 refine ⟨r, a', s', evC e1 ?_, by omega, by omega, by omega⟩
 rw [Q5 (by omega) (by omega)]
 rw [show (((1 + v).toNat : Nat) : Int) = 1 + v by omega] at hr
 exact hr
def scB (r : List ByteArray) : Prop := r.length ≤ 61 ∧ ∀ s, s ∈ r → s.size ≤ 30
theorem q1x {n w : Int} {r : List ByteArray} (h : I1 n w r) (i : Nat) {v : ByteArray} (hv : (v.size : Int) = w) : I1 n w (r.set i v) := by
 refine ⟨by rw [List.length_set]; exact h.1, fun s hs => ?_⟩
 rcases List.mem_or_eq_of_mem_set hs with z | z
 ·exact h.2 s z
 ·rw [z]; exact hv
theorem q2c {n w : Int} {r : List ByteArray} (h : I1 n w r) {i : Int} (h0 : 0 ≤ i) (h1 : i < n) : ((rdOf ByteArray.empty r i).size : Int) = w := by
 have := h.1
 refine h.2 _ ?_
 show r.getD i.toNat ByteArray.empty ∈ r
 rw [getD_in _ (by omega)]; exact List.getElem_mem _
theorem q8e {l : List Int} (hl : bytes l) {w n : Int} (hw : 1 ≤ w ∧ w ≤ 20) (hn : 1 ≤ n ∧ n ≤ 60) : ∀ (d : Nat) (x5 : List ByteArray) (a s : Int), I1 n w x5 → 0 ≤ a → a + 40 * (d : Int) ≤ 500000000 →
  ∃ r a' s', Ev (fun k => Q0.l0 k w n x5 (d : Int) l a s) (r, a', s') ∧ scB r ∧ a ≤ a' ∧ a' ≤ a + 40 * (d : Int) + 50 := by
 have mk3sz : 1 ≤ (⟨#[46, 111, 63]⟩ : ByteArray).size ∧ (⟨#[46, 111, 63]⟩ : ByteArray).size ≤ 1000 := by decide
 have mk4sz : 1 ≤ (⟨#[120, 79, 32]⟩ : ByteArray).size ∧ (⟨#[120, 79, 32]⟩ : ByteArray).size ≤ 1000 := by decide
 intro d
 induction d with
 | zero =>
  intro x5 a s hx h0 h1
  have hlen := hx.1
  have scb : scB x5 := ⟨by omega, fun t ht => by have := hx.2 t ht; omega⟩
  obtain ⟨v, a1, s1, e1, hv, h1a⟩ := Z6 hl s h0 (by omega) (m := 30) (by omega)
  by_cases v0 : v = 0
  ·obtain ⟨p, a2, s2, e2, hp, h2a⟩ := Z6 hl s1 (show 0 ≤ a1 by omega) (by omega) (m := n) (by omega)
   have b2 := hp.2 (by omega)
   have hr := q2c hx hp.1 b2
   refine ⟨_, a2, s2, Ev.step (fun k => Q0.l0.eq_2 ..) (z8 (by omega) (evC e1 (y5 v0 (evC e2 (y5 hp.1 (y5 (by first | omega | (dsimp only; omega)) (y5 (by first | omega | (dsimp only; omega)) (Ev.now _)))))))), ⟨by simp; omega, fun t ht => ?_⟩, by omega, by omega⟩
   rcases List.mem_or_eq_of_mem_set ht with z | z
   ·have := hx.2 t z; omega
   ·rw [z, ByteArray.size_append]
    have : (⟨#[46]⟩ : ByteArray).size = 1 := rfl
    dsimp only
    omega
  ·by_cases v1 : v = 1
   ·have hr := q2c hx (i := 0) (by omega) (by omega)
    obtain ⟨y, a2, s2, hy, hysz, h2a⟩ := q39 hl (x1 := rdOf ByteArray.empty x5 0) (x2 := ⟨#[120, 79, 32]⟩) (by omega) mk4sz s1 (show 0 ≤ a1 by omega) (by omega)
    refine ⟨_, a2, s2, Ev.step (fun k => Q0.l0.eq_2 ..) (z8 (by omega) (evC e1 (z8 v0 (y5 v1 (y5 (by omega) (Ev.bind hy (Ev.now _))))))), ⟨by simp; omega, fun t ht => ?_⟩, by omega, by omega⟩
    rcases List.mem_or_eq_of_mem_set ht with z | z
    ·have := hx.2 t z; omega
    ·rw [z]; dsimp only; omega
   ·by_cases v2 : v = 2
    ·exact ⟨[], a1, s1, Ev.step (fun k => Q0.l0.eq_2 ..) (z8 (by omega) (evC e1 (z8 v0 (z8 v1 (y5 v2 (Ev.now _)))))), ⟨by simp, by simp⟩, by omega, by omega⟩
    ·by_cases v3 : v = 3
     ·obtain ⟨p, a2, s2, e2, hp, h2a⟩ := Z6 hl s1 (show 0 ≤ a1 by omega) (by omega) (m := 2) (by omega)
      have b2 := hp.2 (by omega)
      obtain ⟨r, hr, hb⟩ := O8 (l := []) (by simp) (by simp) (w := 3) (n := 60 + p) (by omega) (by omega) (by omega) (by omega)
      have hb1 := hb.1
      refine ⟨r, a2, s2, Ev.step (fun k => Q0.l0.eq_2 ..) (z8 (by omega) (evC e1 (z8 v0 (z8 v1 (z8 v2 (y5 v3 (evC e2 ?_))))))), ⟨by omega, fun t ht => by have := hb.2 t ht; omega⟩, by omega, by omega⟩
      rw [Q5 (by first | omega | (dsimp only; omega)) (by first | omega | (dsimp only; omega))]
      exact Ev.bind hr (Ev.now _)
     ·by_cases v4 : v = 4
      ·obtain ⟨p, a2, s2, e2, hp, h2a⟩ := Z6 hl s1 (show 0 ≤ a1 by omega) (by omega) (m := 2) (by omega)
       have b2 := hp.2 (by omega)
       obtain ⟨r, hr, hb⟩ := O8 (l := []) (by simp) (by simp) (w := 20 + p) (n := 2) (by omega) (by omega) (by omega) (by omega)
       have hb1 := hb.1
       refine ⟨r, a2, s2, Ev.step (fun k => Q0.l0.eq_2 ..) (z8 (by omega) (evC e1 (z8 v0 (z8 v1 (z8 v2 (z8 v3 (y5 v4 (evC e2 ?_)))))))), ⟨by omega, fun t ht => by have := hb.2 t ht; omega⟩, by omega, by omega⟩
       rw [Q5 (by first | omega | (dsimp only; omega)) (by first | omega | (dsimp only; omega))]
       exact Ev.bind hr (Ev.now _)
      ·exact ⟨x5, a1, s1, Ev.step (fun k => Q0.l0.eq_2 ..) (z8 (by omega) (evC e1 (z8 v0 (z8 v1 (z8 v2 (z8 v3 (z8 v4 (Ev.now _)))))))), scb, by omega, by omega⟩
 | succ d ih =>
  intro x5 a s hx h0 h1
  have hlen := hx.1
  obtain ⟨p, a1, s1, e1, hp, h1a⟩ := Z6 hl s h0 (by omega) (m := n) (by omega)
  have b1 := hp.2 (by omega)
  have hr := q2c hx hp.1 b1
  obtain ⟨y, a2, s2, hy, hysz, h2a⟩ := q39 hl (x1 := rdOf ByteArray.empty x5 p) (x2 := ⟨#[46, 111, 63]⟩) (by omega) mk3sz s1 (show 0 ≤ a1 by omega) (by omega)
  have ew : wrap64 (((d + 1 : Nat) : Int) - 1) = (d : Int) := by rw [Q5 (by omega) (by omega)]; omega
  have hyr : rdOf ByteArray.empty (x5.set p.toNat y) p = y := by
   show (x5.set p.toNat y).getD p.toNat ByteArray.empty = y
   rw [getD_in _ (by rw [List.length_set]; omega)]; simp
  by_cases g : (y.size : Int) = w
  ·obtain ⟨r, a', s', hE, hsc, ha, hb⟩ := ih (x5.set p.toNat y) a2 s2 (q1x hx _ g) (by omega) (by omega)
   refine ⟨r, a', s', Ev.step (fun k => Q0.l0.eq_2 ..) (y5 (by omega) (evC e1 (y5 hp.1 (y5 (by first | omega | (dsimp only; omega)) (Ev.bind hy ?_))))), hsc, by omega, by omega⟩
   simp only [Option.bind_some]
   rw [hyr, ew]
   exact y5 g hE
  ·obtain ⟨t, ht, hb1⟩ := O8 (l := []) (by simp) (by simp) (w := w) (n := 1) (by omega) (by omega) (by omega) (by omega)
   have ht0 := q2c hb1 (i := 0) (by omega) (by omega)
   have htl := hb1.1
   obtain ⟨r, a', s', hE, hsc, ha, hb⟩ := ih ((x5.set p.toNat y).set p.toNat (rdOf ByteArray.empty t 0)) a2 s2 (by
    rw [List.set_set]; exact q1x hx _ ht0) (by omega) (by omega)
   refine ⟨r, a', s', Ev.step (fun k => Q0.l0.eq_2 ..) (y5 (by omega) (evC e1 (y5 hp.1 (y5 (by first | omega | (dsimp only; omega)) (Ev.bind hy ?_))))), hsc, by omega, by omega⟩
   simp only [Option.bind_some]
   rw [hyr, ew]
   exact z8 g (Ev.bind ht (y5 (by omega) hE))
theorem q87 {l : List Int} (hl : bytes l) {a : Int} (s : Int) (h0 : 0 ≤ a) (h1 : a ≤ 400000000) : ∃ r a' s', Ev (fun k => Q0.f k l a s) (r, a', s') ∧ scB r ∧ a ≤ a' ∧ a' ≤ a + 2000 := by
 unfold Q0.f
 obtain ⟨v1, a1, s1, e1, hv1, h1a⟩ := Z6 hl s h0 (by omega) (m := 8) (by omega)
 obtain ⟨v2, a2, s2, e2, hv2, h2a⟩ := Z6 hl s1 (show 0 ≤ a1 by omega) (by omega) (m := 10) (by omega)
 obtain ⟨f, a3, s3, e3, h3a⟩ := I6 hl s2 (show 0 ≤ a2 by omega) (by omega) (m := 20) (by omega)
 have b1 := hv1.2 (by omega)
 have b2 := hv2.2 (by omega)
 have j0 : ∀ (w n : Int), (1 ≤ w ∧ w ≤ 20) → (1 ≤ n ∧ n ≤ 60) → ∃ r a' s', Ev (fun k => Q0.j0 k w n l a3 s3) (r, a', s') ∧ scB r ∧ a3 ≤ a' ∧ a' ≤ a3 + 1500 := by
  intro w n hw hn
  obtain ⟨sh, a4, s4, h4, hsh, h4a⟩ := q7z hl s3 (show 0 ≤ a3 by omega) (by omega)
  obtain ⟨t, ht, htb⟩ := O8 (l := sh) (by have := hsh.1; omega) hsh.2 (w := w) (n := n) (by omega) (by omega) (by omega) (by omega)
  obtain ⟨v5, a5, s5, e5, hv5, h5a⟩ := Z6 hl s4 (show 0 ≤ a4 by omega) (by omega) (m := 4) (by omega)
  have b5 := hv5.2 (by omega)
  obtain ⟨r, a', s', hE, hsc, ha, hb⟩ := q8e hl hw hn v5.toNat t a5 s5 htb (by omega) (by omega)
  rw [show ((v5.toNat : Nat) : Int) = v5 by omega] at hE
  exact ⟨r, a', s', Ev.step (fun k => Q0.j0.eq_2 ..) (Ev.bind h4 (Ev.bind ht (evC e5 hE))), hsc, by omega, by omega⟩
 cases f with
 | true =>
  obtain ⟨r, a', s', hE, hsc, ha, hb⟩ := j0 20 60 (by omega) (by omega)
  exact ⟨r, a', s', evC e1 (evC e2 (evC e3 (y5 rfl hE))), hsc, by omega, by omega⟩
 | false =>
  obtain ⟨r, a', s', hE, hsc, ha, hb⟩ := j0 (1 + v1) (1 + v2) (by omega) (by omega)
  refine ⟨r, a', s', evC e1 (evC e2 (evC e3 (z8 (by simp) ?_))), hsc, by omega, by omega⟩
  rw [Q5 (by first | omega | (dsimp only; omega)) (by first | omega | (dsimp only; omega)), Q5 (by first | omega | (dsimp only; omega)) (by first | omega | (dsimp only; omega))]
  exact hE
theorem q4h {l : List Int} (hl : bytes l) (x5 : List ByteArray) (w : Int) (hx : I1 (x5.length : Int) w x5) (hl5 : 1 ≤ x5.length ∧ x5.length ≤ 60) (x6 x7 : Int) {a : Int} (s : Int) (h0 : 0 ≤ a) (h1 : a ≤ 800000000) : ∃ c a' s', (if (0 : Int) < (x5.length : Int) then ((o6.f l a s ([(-1), ((rdOf ByteArray.empty x5 0).size : Int)] : List Int)).bind fun bt657 => ((o6.f l bt657.2.1 bt657.2.2 ([x7, x7, x7, bt657.1] : List Int)).bind fun bt663 => (some (x5, bt663.1, x6, bt663.2.1, bt663.2.2)))) else none) = some (x5, c, x6, a', s') ∧ a ≤ a' ∧ a' ≤ a + 4 := by
 obtain ⟨v, a1, s1, e1, hv, h1a⟩ := R5 hl s h0 (by omega) (q := [(-1), ((rdOf ByteArray.empty x5 0).size : Int)]) (by simp)
 obtain ⟨c, a2, s2, e2, hc, h2a⟩ := R5 hl s1 (show 0 ≤ a1 by omega) (by omega) (q := [x7, x7, x7, v]) (by simp)
 refine ⟨c, a2, s2, ?_, by omega, by omega⟩
 rw [if_pos (by omega), e1]
 simp only [Option.bind_some]
 rw [e2]
 rfl
theorem q93 {l : List Int} (hl : bytes l) (x6 x7 x8 w : Int) (h6 : 1 < x6 ∧ x6 ≤ 100) (hw : 0 ≤ x7 ∧ x7 < w) (hw2 : w ≤ 30) (n : Nat) (hn : 1 ≤ n ∧ n ≤ 60) : ∀ (d i : Nat) (x5 : List ByteArray) (a s : Int), i + d = n → I1 (n : Int) w x5 → 0 ≤ a → a + 4 * (d : Int) ≤ 600000000 →
  ∃ r c a' s', Ev (fun k => l8.l0 k x5 x6 x7 x8 (n : Int) (i : Int) l a s) (r, c, x6, a', s') ∧ I1 (n : Int) w r ∧ a ≤ a' ∧ a' ≤ a + 4 * (d : Int) + 4 := by
 intro d
 induction d with
 | zero =>
  intro i x5 a s h hx h0 h1
  have hlen := hx.1
  obtain ⟨c, a', s', e, ha, hb⟩ := q4h hl x5 w (by rw [hlen]; exact hx) (by omega) x6 x7 s h0 (by omega)
  refine ⟨x5, c, a', s', Ev.step (fun k => l8.l0.eq_2 ..) (z8 (by omega) (q94 e)), hx, by omega, by omega⟩
 | succ d ih =>
  intro i x5 a s h hx h0 h1
  have hlen := hx.1
  have e1 : wrap64 ((i : Int) + 1) = ((i + 1 : Nat) : Int) := by rw [Q5 (by omega) (by omega)]; omega
  have ew : wrap64 (x7 + 1) = x7 + 1 := Q5 (by omega) (by omega)
  obtain ⟨f, a1, s1, ef, h1a⟩ := I6 hl s h0 (by omega) (m := 8) (by omega)
  have hr := q2c hx (i := (i : Int)) (by omega) (by omega)
  have z1 : ((rdOf ByteArray.empty x5 (i : Int)).extract 0 x7.toNat).size = x7.toNat := by rw [ByteArray.size_extract]; omega
  have z3 : ((rdOf ByteArray.empty x5 (i : Int)).extract (x7 + 1).toNat (rdOf ByteArray.empty x5 (i : Int)).size).size = (rdOf ByteArray.empty x5 (i : Int)).size - (x7 + 1).toNat := by rw [ByteArray.size_extract]; omega
  have zm1 : ∀ b : UInt8, (⟨#[b]⟩ : ByteArray).size = 1 := fun _ => rfl
  have sz : ∀ b : UInt8, (((((rdOf ByteArray.empty x5 (i : Int)).extract 0 x7.toNat) ++ (⟨#[b]⟩ : ByteArray)) ++ ((rdOf ByteArray.empty x5 (i : Int)).extract (x7 + 1).toNat (rdOf ByteArray.empty x5 (i : Int)).size)).size : Int) = w := by
   intro b
   have := zm1 b
   rw [ByteArray.size_append, ByteArray.size_append]; omega
  have same := ih (i + 1) x5 a1 s1 (by omega) hx (by omega) (by omega)
  have other := fun b : UInt8 => ih (i + 1) (x5.set i ((((rdOf ByteArray.empty x5 (i : Int)).extract 0 x7.toNat) ++ (⟨#[b]⟩ : ByteArray)) ++ ((rdOf ByteArray.empty x5 (i : Int)).extract (x7 + 1).toNat (rdOf ByteArray.empty x5 (i : Int)).size))) a1 s1 (by omega) (q1x hx _ (sz b)) (by omega) (by omega)
  by_cases g : Int.tmod (i : Int) x6 = x8
  ·cases f with
   | true =>
    obtain ⟨r, c, a', s', hE, hb, ha, hb'⟩ := same
    refine ⟨r, c, a', s', Ev.step (fun k => l8.l0.eq_2 ..) (y5 (by omega) (y5 (by omega) (y5 (by omega) (z8 (by omega) (y5 g (evC ef (y5 rfl ?_))))))), hb, by omega, by omega⟩
    rw [e1]; exact hE
   | false =>
    obtain ⟨r, c, a', s', hE, hb, ha, hb'⟩ := other 111
    have h111 := zm1 111
    refine ⟨r, c, a', s', Ev.step (fun k => l8.l0.eq_2 ..) (y5 (by omega) (y5 (by omega) (y5 (by omega) (z8 (by omega) (y5 g (evC ef (z8 (by simp) (y5 hw.1 (y5 (by omega) (y5 (by omega) ?_)))))))))), hb, by omega, by omega⟩
    rw [e1, ew]
    exact y5 (by omega) (y5 (by omega) (y5 (by rw [ByteArray.size_append]; omega) hE))
  ·cases f with
   | true =>
    obtain ⟨r, c, a', s', hE, hb, ha, hb'⟩ := same
    refine ⟨r, c, a', s', Ev.step (fun k => l8.l0.eq_2 ..) (y5 (by omega) (y5 (by omega) (y5 (by omega) (z8 (by omega) (z8 g (evC ef (y5 rfl ?_))))))), hb, by omega, by omega⟩
    rw [e1]; exact hE
   | false =>
    obtain ⟨r, c, a', s', hE, hb, ha, hb'⟩ := other 46
    have h46 := zm1 46
    refine ⟨r, c, a', s', Ev.step (fun k => l8.l0.eq_2 ..) (y5 (by omega) (y5 (by omega) (y5 (by omega) (z8 (by omega) (z8 g (evC ef (z8 (by simp) (y5 hw.1 (y5 (by omega) (y5 (by omega) ?_)))))))))), hb, by omega, by omega⟩
    rw [e1, ew]
    exact y5 (by omega) (y5 (by omega) (y5 (by rw [ByteArray.size_append]; omega) hE))
theorem q6o {l : List Int} (hl : bytes l) {a : Int} (s : Int) (h0 : 0 ≤ a) (h1 : a ≤ 300000000) : ∃ r c e a' s', Ev (fun k => l8.f k l a s) (r, c, e, a', s') ∧ scB r ∧ (1 ≤ e ∧ e ≤ 11) ∧ a ≤ a' ∧ a' ≤ a + 5000 := by
 unfold l8.f
 obtain ⟨x, a1, s1, hx, hxb, h1a⟩ := q87 hl s h0 (by omega)
 obtain ⟨v2, a2, s2, e2, hv2, h2a⟩ := R5 hl s1 (show 0 ≤ a1 by omega) (by omega) (q := [1, 11]) (by simp)
 obtain ⟨e, a3, s3, e3, he, h3a⟩ := R5 hl s2 (show 0 ≤ a2 by omega) (by omega) (q := [2, 3, 4, 10, v2]) (by simp)
 simp at hv2 he
 have hxl : x.length ≤ 1048576 := by have := hxb.1; omega
 have hxs : ∀ t, t ∈ x → t.size ≤ 1048576 := fun t ht => by have := hxb.2 t ht; omega
 by_cases g : F3 x = true
 ·have g0 := U1.1 g
  have rows : I1 (x.length : Int) (sz0 x : Int) x := ⟨rfl, fun t ht => by rw [(q5f g t ht).1]⟩
  have hz : ((rdOf ByteArray.empty x 0).size : Int) = (sz0 x : Int) := rfl
  obtain ⟨c, a4, s4, e4, hc, h4a⟩ := Z6 hl s3 (show 0 ≤ a3 by omega) (by omega) (m := (sz0 x : Int)) (by omega)
  have bc := hc.2 (by omega)
  have j0f : ∀ (a s : Int), 0 ≤ a → a ≤ 500000000 → ∃ r q a' s', Ev (fun k => l8.j0 k x e c false l a s) (r, q, e, a', s') ∧ scB r ∧ a ≤ a' ∧ a' ≤ a + 300 := by
   intro a s h0 h1
   obtain ⟨q, a', s', et, ha, hb⟩ := q4h hl x _ rows (by omega) e c s h0 (by omega)
   exact ⟨x, q, a', s', Ev.step (fun k => l8.j0.eq_2 ..) (z8 (by simp) (q94 et)), hxb, by omega, by omega⟩
  by_cases ge : e > 1
  ·obtain ⟨f, a5, s5, e5, h5a⟩ := I6 hl s4 (show 0 ≤ a4 by omega) (by omega) (m := 2) (by omega)
   cases f with
   | true =>
    obtain ⟨p, a6, s6, e6, hp, h6a⟩ := Z6 hl s5 (show 0 ≤ a5 by omega) (by omega) (m := e) (by omega)
    obtain ⟨r, q, a', s', hE, hb, ha, hb'⟩ := q93 hl e c p (sz0 x : Int) (by omega) ⟨hc.1, bc⟩ (by omega) x.length (by omega) x.length 0 x a6 s6 (by omega) rows (by omega) (by omega)
    have hbl := hb.1
    refine ⟨r, q, e, a', s', Ev.bind hx (evC e2 (evC e3 (Ev.bind (I7 hxl hxs) (y5 g (y5 (by first | omega | (dsimp only; omega)) ?_))))), ⟨by omega, fun t ht => by have := hb.2 t ht; omega⟩, by omega, by omega, by omega⟩
    rw [hz]
    exact evC e4 (y5 ge (evC e5 (Ev.step (fun k => l8.j0.eq_2 ..) (y5 rfl (evC e6 hE)))))
   | false =>
    obtain ⟨r, q, a', s', hE, hb, ha, hb'⟩ := j0f a5 s5 (by omega) (by omega)
    refine ⟨r, q, e, a', s', Ev.bind hx (evC e2 (evC e3 (Ev.bind (I7 hxl hxs) (y5 g (y5 (by first | omega | (dsimp only; omega)) ?_))))), hb, by omega, by omega, by omega⟩
    rw [hz]
    exact evC e4 (y5 ge (evC e5 hE))
  ·obtain ⟨r, q, a', s', hE, hb, ha, hb'⟩ := j0f a4 s4 (by omega) (by omega)
   refine ⟨r, q, e, a', s', Ev.bind hx (evC e2 (evC e3 (Ev.bind (I7 hxl hxs) (y5 g (y5 (by first | omega | (dsimp only; omega)) ?_))))), hb, by omega, by omega, by omega⟩
   rw [hz]
   exact evC e4 (z8 ge hE)
 ·exact ⟨x, 0, e, a3, s3, Ev.bind hx (evC e2 (evC e3 (Ev.bind (I7 hxl hxs) (z8 g (Ev.now _))))), hxb, by omega, by omega, by omega⟩
theorem q4q {l : List Int} (hl : bytes l) : ∃ r c e, Ev (fun k => K5.f k l) (r, c, e) ∧ scB r ∧ (1 ≤ e ∧ e ≤ 11) := by
 unfold K5.f
 obtain ⟨r, c, e, a', s', hE, hb, he, _⟩ := q6o hl 0 (a := 0) (by omega) (by omega)
 exact ⟨r, c, e, Ev.bind hE (Ev.now _), hb, he⟩
theorem q4r {l : List Int} (hl : bytes l) : ∃ r c e f, Ev (fun k => X6.f k l) (r, c, e, f) ∧ scB r ∧ (1 ≤ e ∧ e ≤ 11) := by
 unfold X6.f
 obtain ⟨r, c, e, a1, s1, hE, hb, he, h1a⟩ := q6o hl 0 (a := 0) (by omega) (by omega)
 obtain ⟨v2, a2, s2, e2, hv2, h2a⟩ := Z6 hl s1 (show 0 ≤ a1 by omega) (by omega) (m := 16) (by omega)
 have b2 := hv2.2 (by omega)
 have t2 : Int.tdiv v2 15 = v2 / 15 := Int.tdiv_eq_ediv_of_nonneg hv2.1
 have w2 : wrap64 (e + wrap64 (Int.tdiv v2 15)) ≤ 65000 := by rw [t2, Q5 (x := v2 / 15) (by omega) (by omega), Q5 (by omega) (by omega)]; omega
 obtain ⟨v3, a3, s3, e3, hv3, h3a⟩ := Z6 hl s2 (show 0 ≤ a2 by omega) (by omega) w2
 obtain ⟨v4, a4, s4, e4, hv4, h4a⟩ := Z6 hl s3 (show 0 ≤ a3 by omega) (by omega) (m := 24) (by omega)
 exact ⟨r, c, e, wrap64 (v3 - wrap64 (Int.tdiv v4 23)), Ev.bind hE (evC e2 (evC e3 (evC e4 (Ev.now _)))), hb, he⟩
theorem q3g {l : List Int} (hl : bytes l) : ∃ r, Ev (fun k => X0.f k l) r ∧ U6 r := by
 unfold X0.f N7.f
 obtain ⟨r, a', s', hE, hs⟩ := q7m hl 0 (a := 0) (by omega) (by omega)
 exact ⟨r, Ev.bind (Ev.bind hE (Ev.now _)) (Ev.now _), hs⟩
theorem M6 {P : Nat → Bool} (a : Nat) : ∀ (n : Nat), a < n → P a = true → (List.range n).countP (fun t => P t && !(t == a)) + 1 = (List.range n).countP P
 | 0, h, _ => by omega
 | n + 1, h, hP => by
  rw [List.range_succ, List.countP_append, List.countP_append, List.countP_singleton, List.countP_singleton]
  by_cases e : n = a
  ·subst e
   have : (List.range n).countP (fun t => P t && !(t == n)) = (List.range n).countP P := List.countP_congr (fun t ht => by
    have : t < n := List.mem_range.1 ht
    have : (t == n) = false := by rw [beq_eq_false_iff_ne]; omega
    simp [this])
   rw [this, hP]; simp
  ·have ih := M6 (P := P) a n (by omega) hP
   have : (n == a) = false := by rw [beq_eq_false_iff_ne]; exact e
   rw [this]
   simp only [Bool.not_false, Bool.and_true]
   omega
def X9 (p : Nat → Int) (a b : Int) (i : Nat) : Int := if p i = a then b else p i
def M0 (q : Nat → Int) (a b : Int) (i : Nat) : Int := if q i = a ∨ q i = b then min a b else q i
def q1d (n : Nat) (p : Nat → Int) : Nat := (List.range n).countP fun (t : Nat) => (List.range n).any fun i => decide (p i = (t : Int))
def O5 (n : Nat) (q : Nat → Int) : Nat := (List.range n).countP fun (i : Nat) => decide (q i = (i : Int))
structure Cls (n : Nat) (p q : Nat → Int) : Prop where
 pb : ∀ i, i < n → 0 ≤ p i ∧ p i < n
 qb : ∀ i, i < n → 0 ≤ q i ∧ q i < n
 qq : ∀ i, i < n → q (q i).toNat = q i
 same : ∀ i j, i < n → j < n → (p i = p j ↔ q i = q j)
 cnt : q1d n p = O5 n q
theorem q00 {n : Nat} {p : Nat → Int} (hp : ∀ i, i < n → 0 ≤ p i ∧ p i < n) {u v : Nat} (hu : u < n) (hv : v < n) (hne : p u ≠ p v) : q1d n (X9 p (p u) (p v)) + 1 = q1d n p := by
 unfold q1d
 have hb := hp u hu
 have key := M6 (P := fun (t : Nat) => (List.range n).any fun i => decide (p i = (t : Int))) (p u).toNat n (by omega) (by
  rw [List.any_eq_true]
  exact ⟨u, List.mem_range.2 hu, decide_eq_true (by omega)⟩)
 rw [← key]
 congr 1
 refine List.countP_congr (fun t ht => ?_)
 simp only [List.any_eq_true, List.mem_range, decide_eq_true_eq, Bool.and_eq_true, Bool.not_eq_true', beq_eq_false_iff_ne]
 unfold X9
 constructor
 ·rintro ⟨i, hi, e⟩
  by_cases c : p i = p u
  ·rw [if_pos c] at e
   exact ⟨⟨v, hv, e⟩, by omega⟩
  ·rw [if_neg c] at e
   exact ⟨⟨i, hi, e⟩, by intro z; apply c; omega⟩
 ·rintro ⟨⟨i, hi, e⟩, hz⟩
  exact ⟨i, hi, by rw [if_neg (by omega)]; exact e⟩
theorem q6u {n : Nat} {q : Nat → Int} (hq : ∀ i, i < n → 0 ≤ q i ∧ q i < n) (hqq : ∀ i, i < n → q (q i).toNat = q i) {u v : Nat} (hu : u < n) (hv : v < n) (hne : q u ≠ q v) : O5 n (M0 q (q u) (q v)) + 1 = O5 n q := by
 unfold O5
 have hbu := hq u hu
 have hbv := hq v hv
 have hqu := hqq u hu
 have hqv := hqq v hv
 have hm : q (max (q u) (q v)).toNat = max (q u) (q v) := by
  rcases Int.lt_or_le (q u) (q v) with z | z
  ·rw [show max (q u) (q v) = q v by omega]; exact hqv
  ·rw [show max (q u) (q v) = q u by omega]; exact hqu
 have hm' : q (min (q u) (q v)).toNat = min (q u) (q v) := by
  rcases Int.lt_or_le (q u) (q v) with z | z
  ·rw [show min (q u) (q v) = q u by omega]; exact hqu
  ·rw [show min (q u) (q v) = q v by omega]; exact hqv
 have key := M6 (P := fun (i : Nat) => decide (q i = (i : Int))) (max (q u) (q v)).toNat n (by omega) (decide_eq_true (by omega))
 rw [← key]
 congr 1
 refine List.countP_congr (fun i hi => ?_)
 rw [decide_eq_true_iff, Bool.and_eq_true, decide_eq_true_iff, Bool.not_eq_true', beq_eq_false_iff_ne]
 unfold M0
 constructor
 ·intro e
  by_cases c : q i = q u ∨ q i = q v
  ·rw [if_pos c] at e
   have : i = (min (q u) (q v)).toNat := by omega
   subst this
   exact ⟨by omega, by omega⟩
  ·rw [if_neg c] at e
   exact ⟨e, by omega⟩
 ·rintro ⟨e, hz⟩
  by_cases c : q i = q u ∨ q i = q v
  ·rw [if_pos c]; omega
  ·rw [if_neg c]; exact e
theorem q79 {n : Nat} {p q : Nat → Int} (h : Cls n p q) {u v : Nat} (hu : u < n) (hv : v < n) : Cls n (X9 p (p u) (p v)) (M0 q (q u) (q v)) := by
 have hpu := h.pb u hu
 have hpv := h.pb v hv
 have hqu := h.qb u hu
 have hqv := h.qb v hv
 refine ⟨fun i hi => ?_, fun i hi => ?_, fun i hi => ?_, fun i j hi hj => ?_, ?_⟩
 ·have := h.pb i hi
  unfold X9; split <;> omega
 ·have := h.qb i hi
  unfold M0; split <;> omega
 ·have hqi := h.qb i hi
  have e1 := h.qq i hi
  have e2 := h.qq u hu
  have e3 := h.qq v hv
  unfold M0
  by_cases c : q i = q u ∨ q i = q v
  ·rw [if_pos c]
   rcases Int.lt_or_le (q u) (q v) with z | z
   ·rw [show min (q u) (q v) = q u by omega, e2, if_pos (.inl rfl)]
   ·rw [show min (q u) (q v) = q v by omega, e3, if_pos (.inr rfl)]
  ·rw [if_neg c, e1, if_neg c]
 ·have a1 := h.same i u hi hu
  have a2 := h.same i v hi hv
  have b1 := h.same j u hj hu
  have b2 := h.same j v hj hv
  have c0 := h.same i j hi hj
  have d0 := h.same u v hu hv
  unfold X9 M0
  by_cases ci : q i = q u ∨ q i = q v
  ·by_cases cj : q j = q u ∨ q j = q v
   ·rw [if_pos ci, if_pos cj]
    have : ∀ x, (x = i ∨ x = j) → (if p x = p u then p v else p x) = p v := by
     intro x hx
     split
     ·rfl
     ·rcases hx with rfl | rfl
      ·rcases ci with z | z
       ·exact absurd (a1.2 z) (by assumption)
       ·exact a2.2 z
      ·rcases cj with z | z
       ·exact absurd (b1.2 z) (by assumption)
       ·exact b2.2 z
    rw [this i (.inl rfl), this j (.inr rfl)]
    exact ⟨fun _ => rfl, fun _ => rfl⟩
   ·rw [if_pos ci, if_neg cj, if_neg (fun z => cj (.inl (b1.1 z)))]
    constructor
    ·intro e
     exfalso
     split at e
     ·exact cj (.inr (b2.1 e.symm))
     ·rcases ci with z | z
      ·exact absurd (a1.2 z) (by assumption)
      ·exact cj (.inr (b2.1 (e.symm.trans (a2.2 z))))
    ·intro e
     exfalso
     rcases Int.lt_or_le (q u) (q v) with z | z
     ·rw [show min (q u) (q v) = q u by omega] at e; exact cj (.inl e.symm)
     ·rw [show min (q u) (q v) = q v by omega] at e; exact cj (.inr e.symm)
  ·by_cases cj : q j = q u ∨ q j = q v
   ·rw [if_neg ci, if_pos cj, if_neg (fun z => ci (.inl (a1.1 z)))]
    constructor
    ·intro e
     exfalso
     split at e
     ·exact ci (.inr (a2.1 e))
     ·rcases cj with z | z
      ·exact absurd (b1.2 z) (by assumption)
      ·exact ci (.inr (a2.1 (e.trans (b2.2 z))))
    ·intro e
     exfalso
     rcases Int.lt_or_le (q u) (q v) with z | z
     ·rw [show min (q u) (q v) = q u by omega] at e; exact ci (.inl e)
     ·rw [show min (q u) (q v) = q v by omega] at e; exact ci (.inr e)
   ·rw [if_neg ci, if_neg cj, if_neg (fun z => ci (.inl (a1.1 z))), if_neg (fun z => cj (.inl (b1.1 z)))]
    exact c0
 ·by_cases e : p u = p v
  ·have e' := (h.same u v hu hv).1 e
   have hp : X9 p (p u) (p v) = p := by
    funext i; unfold X9; split
    ·rename_i z; rw [z, e]
    ·rfl
   have hq : M0 q (q u) (q v) = q := by
    funext i; unfold M0; split
    ·rename_i z; omega
    ·rfl
   rw [hp, hq]; exact h.cnt
  ·have e' : q u ≠ q v := fun z => e ((h.same u v hu hv).2 z)
   have h1 := q00 h.pb hu hv e
   have h2 := q6u h.qb h.qq hu hv e'
   have := h.cnt
   omega
theorem q92 (n : Nat) : Cls n (fun i => (i : Int)) (fun i => (i : Int)) := by
 refine ⟨fun i hi => by omega, fun i hi => by omega, fun i hi => by simp, fun i j _ _ => Iff.rfl, ?_⟩
 unfold q1d O5
 refine List.countP_congr (fun t ht => ?_)
 simp only [List.any_eq_true, List.mem_range, decide_eq_true_eq]
 exact ⟨fun _ => trivial, fun _ => ⟨t, List.mem_range.1 ht, rfl⟩⟩
def Z9 (p h : Nat → Int) (t : Int) : Nat → Int
 | 0 => 0
 | n + 1 => Z9 p h t n + (if p n = t then h n else 0)
theorem q0v {n : Nat} {p q : Nat → Int} (h : Nat → Int) (hs : ∀ i j, i < n → j < n → (p i = p j ↔ q i = q j)) {z : Nat} (hz : z < n) : ∀ m, m ≤ n → Z9 p h (p z) m = Z9 q h (q z) m
 | 0, _ => rfl
 | m + 1, hm => by
  simp only [Z9]
  rw [q0v h hs hz m (by omega)]
  congr 1
  by_cases c : p m = p z
  ·rw [if_pos c, if_pos ((hs m z (by omega) hz).1 c)]
  ·rw [if_neg c, if_neg (fun k => c ((hs m z (by omega) hz).2 k))]
def V9 {α : Type} (n : Nat) (f : Nat → α) : List α := (List.range n).map f
theorem X5 {α : Type} (n : Nat) (f : Nat → α) : (V9 n f).length = n := by simp [V9]
theorem q0l {α : Type} {n i : Nat} (f : Nat → α) (z : α) (h : i < n) : (V9 n f).getD i z = f i := by
 rw [getD_in z (by rw [X5]; exact h)]; simp [V9]
theorem F7 {α : Type} {n i : Nat} (f : Nat → α) (v : α) : (V9 n f).set i v = V9 n fun j => if j = i then v else f j := by
 apply List.ext_getElem
 ·simp [V9]
 ·intro j h1 h2
  rw [List.getElem_set]
  simp only [V9, List.getElem_map, List.getElem_range]
  by_cases c : i = j
  ·rw [if_pos c, if_pos c.symm]
  ·rw [if_neg c, if_neg (fun z => c z.symm)]
theorem G5 {α : Type} {n : Nat} {f g : Nat → α} (h : ∀ j, j < n → f j = g j) : V9 n f = V9 n g := by
 unfold V9
 exact List.map_congr_left (fun j hj => h j (List.mem_range.1 hj))
theorem q0o {α : Type} (n : Nat) (z : α) : List.replicate n z = V9 n fun _ => z := by
 apply List.ext_getElem
 ·simp [V9]
 ·intro j h1 h2; simp [V9]
def H7 (l : List ByteArray) (n r c d : Nat) : List (Nat × Nat) := ((List.range' c d).filter fun c => decide (ch l r c = 63)).map fun c => (r, n + c)
def G7 (l : List ByteArray) (n m r d : Nat) : List (Nat × Nat) := (List.range' r d).flatMap fun r => H7 l n r 0 m
def M3 : List (Nat × Nat) → (Nat → Int) → (Nat → Int)
 | [], p => p
 | (u, v) :: L, p => M3 L (X9 p (p u) (p v))
def U4 : List (Nat × Nat) → (Nat → Int) → (Nat → Int)
 | [], q => q
 | (u, v) :: L, q => U4 L (M0 q (q u) (q v))
theorem q06 : ∀ (A B : List (Nat × Nat)) (p : Nat → Int), M3 (A ++ B) p = M3 B (M3 A p)
 | [], _, _ => rfl
 | (u, v) :: A, B, p => by simp only [List.cons_append, M3]; exact q06 A B _
theorem q2u : ∀ (A B : List (Nat × Nat)) (p : Nat → Int), U4 (A ++ B) p = U4 B (U4 A p)
 | [], _, _ => rfl
 | (u, v) :: A, B, p => by simp only [List.cons_append, U4]; exact q2u A B _
theorem q3u {N : Nat} : ∀ (L : List (Nat × Nat)) {p q : Nat → Int}, (∀ z, z ∈ L → z.1 < N ∧ z.2 < N) → Cls N p q → Cls N (M3 L p) (U4 L q)
 | [], _, _, _, h => h
 | (u, v) :: L, p, q, hz, h => by
  have := hz (u, v) (by simp)
  exact q3u L (fun z hm => hz z (by simp [hm])) (q79 h this.1 this.2)
theorem q8o {l : List ByteArray} {n m r c d : Nat} (hr : r < n) (hc : c + d ≤ m) : ∀ z, z ∈ H7 l n r c d → z.1 < n + m ∧ z.2 < n + m := by
 intro z hz
 obtain ⟨x, hx, rfl⟩ := List.mem_map.1 hz
 have := List.mem_range'_1.1 (List.mem_filter.1 hx).1
 dsimp only; omega
theorem q57 {l : List ByteArray} {n m : Nat} : ∀ z, z ∈ G7 l n m 0 n → z.1 < n + m ∧ z.2 < n + m := by
 intro z hz
 obtain ⟨r, hr, hz⟩ := List.mem_flatMap.1 hz
 have := List.mem_range'_1.1 hr
 exact q8o (by omega) (by omega) z hz
theorem q7d {n m : Nat} {l : List ByteArray} (h : Shp n m l) {r : Nat} (hr : r < n) : (H7 l n r 0 m).length = cnt (l.getD r ByteArray.empty) := by
 unfold H7 cnt
 have hrow := G8 h hr
 rw [List.length_map, ← List.countP_eq_length_filter, ← List.range_eq_range']
 have e : bl (l.getD r ByteArray.empty) = (List.range m).map fun c => ch l r c := by
  apply List.ext_getElem
  ·rw [hrow]; simp
  ·intro c h1 h2
   simp only [List.getElem_map, List.getElem_range]
   exact (getD_in 0 h1).symm
 rw [e, List.count, List.countP_map]
 exact List.countP_congr (fun c _ => by simp)
theorem q3t {n m : Nat} {l : List ByteArray} (h : Shp n m l) : ∀ (d r : Nat), r + d = n → (G7 l n m r d).length = ers (l.drop r)
 | 0, r, hd => by
  rw [List.drop_of_length_le (by rw [h.ln]; omega)]; rfl
 | d + 1, r, hd => by
  have hr : r < l.length := by rw [h.ln]; omega
  have ih := q3t h d (r + 1) (by omega)
  rw [List.drop_eq_getElem_cons hr]
  simp only [ers]
  rw [← ih]
  unfold G7
  rw [List.range'_succ, List.flatMap_cons, List.length_append, q7d h (by omega), getD_in _ hr]
theorem q7p (a b : Int) : G9.f a b = some (min a b) := by
 unfold G9.f
 split
 ·congr 1; omega
 ·congr 1; omega
theorem q9p (l : List ByteArray) (N : Nat) (hN : N ≤ 24) (p : Nat → Int) (a b : Int) (x3 x6 x7 x40 x41 x48 x49 : Int) {q : Int} (hq : Ev (fun k => y7.l2 k l x3 (V9 N (X9 p a b)) x6 x7 x40 x41 x48 (wrap64 (x49 + 1))) q) : ∀ (d i : Nat), i + d = N →
  Ev (fun k => y7.l3 k l x3 (V9 N fun j => if j < i then X9 p a b j else p j) x6 x7 a b x40 x41 x48 x49 (N : Int) (i : Int)) q := by
 intro d
 induction d with
 | zero =>
  intro i hd
  refine Ev.step (fun k => y7.l3.eq_2 ..) (z8 (by omega) ?_)
  have e : (V9 N fun j => if j < i then X9 p a b j else p j) = V9 N (X9 p a b) := G5 (fun j hj => if_pos (by omega))
  rw [e]; exact hq
 | succ d ih =>
  intro i hd
  have e1 : wrap64 ((i : Int) + 1) = ((i + 1 : Nat) : Int) := by rw [Q5 (by omega) (by omega)]; omega
  have er : rd (V9 N fun j => if j < i then X9 p a b j else p j) (i : Int) = p i := by
   show (V9 N _).getD i 0 = _
   rw [q0l _ 0 (by omega)]; exact if_neg (by omega)
  refine Ev.step (fun k => y7.l3.eq_2 ..) (y5 (by omega) (y5 (by omega) (y5 (by rw [X5]; omega) ?_)))
  rw [er, e1]
  refine J7 (fun c => ?_) (fun c => ?_)
  ·have e : (V9 N fun j => if j < i then X9 p a b j else p j).set (i : Int).toNat b = V9 N fun j => if j < i + 1 then X9 p a b j else p j := by
    rw [Int.toNat_natCast, F7]
    refine G5 (fun j hj => ?_)
    by_cases z : j = i
    ·subst z; rw [if_pos rfl, if_pos (by omega)]; unfold X9; rw [if_pos c]
    ·rw [if_neg z]
     by_cases y : j < i
     ·rw [if_pos y, if_pos (by omega)]
     ·rw [if_neg y, if_neg (by omega)]
   rw [e]; exact ih (i + 1) (by omega)
  ·have e : (V9 N fun j => if j < i then X9 p a b j else p j) = V9 N fun j => if j < i + 1 then X9 p a b j else p j := by
    refine G5 (fun j hj => ?_)
    by_cases z : j = i
    ·subst z; rw [if_neg (by omega), if_pos (by omega)]; unfold X9; rw [if_neg c]
    ·by_cases y : j < i
     ·rw [if_pos y, if_pos (by omega)]
     ·rw [if_neg y, if_neg (by omega)]
   rw [e]; exact ih (i + 1) (by omega)
theorem U7 {N i : Nat} (p : Nat → Int) (h : i < N) : rd (V9 N p) (i : Int) = p i := q0l p 0 h
theorem q9n {n m : Nat} {l : List ByteArray} (h : Shp n m l) {r : Nat} (hr : r < n) (x3 : Int) {q : Int} : ∀ (d c : Nat) (p : Nat → Int) (bits : Int), c + d = m → -1000000 ≤ bits → bits + (d : Int) ≤ 1000000 →
  Ev (fun k => y7.l1 k l x3 (V9 (n + m) (M3 (H7 l n r c d) p)) (bits + ((H7 l n r c d).length : Int)) (n : Int) (wrap64 ((r : Int) + 1))) q →
  Ev (fun k => y7.l2 k l x3 (V9 (n + m) p) bits (r : Int) (n : Int) (r : Int) (m : Int) (c : Int)) q := by
 have hn := h.n2; have hm := h.m2; have hl := h.ln
 intro d
 induction d with
 | zero =>
  intro c p bits hd h0 h1 hq
  exact Ev.step (fun k => y7.l2.eq_2 ..) (z8 (by omega) (by simpa [H7, M3] using hq))
 | succ d ih =>
  intro c p bits hd h0 h1 hq
  have hcm : c < m := by omega
  have k1 : (c : Int) < (m : Int) := by omega
  have k2 : (0 : Int) ≤ (r : Int) := by omega
  have k3 : (r : Int) < (l.length : Int) := by omega
  have k4 : (0 : Int) ≤ (c : Int) := by omega
  have e1 : wrap64 ((c : Int) + 1) = ((c + 1 : Nat) : Int) := by rw [Q5 (by omega) (by omega)]; omega
  have e2 : wrap64 ((l.length : Int) + (c : Int)) = ((n + c : Nat) : Int) := by rw [Q5 (by omega) (by omega)]; omega
  have hsz : (rdOf ByteArray.empty l (r : Int)).size = m := by rw [← G8 h hr, Z8]; rfl
  have hb : bt (rdOf ByteArray.empty l (r : Int)) (c : Int) = ((ch l r c).toNat : Int) := q0f (l.getD r ByteArray.empty) c (by rw [G8 h hr]; exact hcm)
  have hu := R7 (ch l r c) 63 (by omega)
  refine Ev.step (fun k => y7.l2.eq_2 ..) ?_
  rw [hb, e1, e2, hsz]
  simp only [if_pos k1, if_pos k2, if_pos k3, if_pos k4]
  clear hsz hb e1
  refine J7 (fun cc => ?_) (fun cc => ?_)
  ·have hx : ch l r c = 63 := hu.1 cc
   have e3 : H7 l n r c (d + 1) = (r, n + c) :: H7 l n r (c + 1) d := by unfold H7; rw [List.range'_succ, List.filter_cons_of_pos (by simpa using hx)]; rfl
   rw [e3] at hq
   simp only [M3, List.length_cons] at hq
   refine y5 (by rw [X5]; omega) ?_
   refine y5 (by omega) ?_
   refine y5 (by rw [X5]; omega) ?_
   rw [U7 p (by omega), U7 p (by omega), X5, Q5 (x := bits + 1) (by omega) (by omega)]
   have := q9p l (n + m) (by omega) p (p r) (p (n + c)) x3 (bits + 1) (r : Int) (n : Int) (r : Int) (m : Int) (c : Int) (q := q) (by
    have e1 : wrap64 ((c : Int) + 1) = ((c + 1 : Nat) : Int) := by rw [Q5 (by omega) (by omega)]; omega
    rw [e1]
    refine ih (c + 1) _ (bits + 1) (by omega) (by omega) (by omega) ?_
    refine K9 ?_ rfl
    have e4 : bits + 1 + ((H7 l n r (c + 1) d).length : Int) = bits + (((H7 l n r (c + 1) d).length + 1 : Nat) : Int) := by omega
    rw [e4]; exact hq) (n + m) 0 (by omega)
   have e5 : (V9 (n + m) fun j => if j < 0 then X9 p (p r) (p (n + c)) j else p j) = V9 (n + m) p := G5 (fun j _ => if_neg (by omega))
   rw [e5] at this
   exact this
  ·have hx : ch l r c ≠ 63 := fun z => cc (hu.2 z)
   have e3 : H7 l n r c (d + 1) = H7 l n r (c + 1) d := by unfold H7; rw [List.range'_succ, List.filter_cons_of_neg (by simpa using hx)]
   rw [e3] at hq
   exact ih (c + 1) p bits (by omega) h0 (by omega) hq
theorem q5c (l : List ByteArray) (n r c d : Nat) : (H7 l n r c d).length ≤ d := by
 unfold H7
 rw [List.length_map]
 have := List.length_filter_le (fun c => decide (ch l r c = 63)) (List.range' c d)
 rw [List.length_range'] at this; exact this
theorem q9e {n m : Nat} {l : List ByteArray} (h : Shp n m l) {q : Int} : ∀ (d r : Nat) (p : Nat → Int) (bits : Int), r + d = n → -1000 ≤ bits → bits ≤ 12 * (r : Int) →
  Ev (fun k => y7.l4 k l ((n + m : Nat) : Int) (V9 (n + m) (M3 (G7 l n m r d) p)) (bits + ((G7 l n m r d).length : Int)) (V9 (n + m) fun _ => (0 : Int)) (V9 (n + m) fun _ => false) ((n + m : Nat) : Int) 0) q →
  Ev (fun k => y7.l1 k l ((n + m : Nat) : Int) (V9 (n + m) p) bits (n : Int) (r : Int)) q := by
 have hn := h.n2; have hm := h.m2; have hl := h.ln
 intro d
 induction d with
 | zero =>
  intro r p bits hd h0 h1 hq
  refine Ev.step (fun k => y7.l1.eq_2 ..) (z8 (by omega) (y5 (by omega) (y5 (by omega) (y5 (by omega) ?_))))
  rw [Int.toNat_natCast, q0o, q0o]
  simpa [G7, M3] using hq
 | succ d ih =>
  intro r p bits hd h0 h1 hq
  have hr : r < n := by omega
  have hrow := G8 h hr
  have hsz : (rdOf ByteArray.empty l (r : Int)).size = m := by rw [← hrow, Z8]; rfl
  have e1 : wrap64 ((r : Int) + 1) = ((r + 1 : Nat) : Int) := by rw [Q5 (by omega) (by omega)]; omega
  have e3 : G7 l n m r (d + 1) = H7 l n r 0 m ++ G7 l n m (r + 1) d := by unfold G7; rw [List.range'_succ, List.flatMap_cons]
  rw [e3, q06, List.length_append] at hq
  refine Ev.step (fun k => y7.l1.eq_2 ..) (y5 (by omega) (y5 (by omega) (y5 (by omega) ?_)))
  rw [hsz]
  have hle := q5c l n r 0 m
  refine q9n h hr _ m 0 p bits (by omega) (by omega) (by omega) ?_
  rw [e1]
  refine ih (r + 1) _ _ (by omega) (by omega) (by omega) ?_
  have e4 : bits + ((H7 l n r 0 m).length : Int) + ((G7 l n m (r + 1) d).length : Int) = bits + (((H7 l n r 0 m).length + (G7 l n m (r + 1) d).length : Nat) : Int) := by omega
  rw [e4]; exact hq
def hO (l : List ByteArray) (i : Nat) : Int := (cO l i : Int)
theorem q0i (p : Nat → Int) (l : List ByteArray) (hl : ∀ i, cO l i ≤ 12) (t : Int) : ∀ n, 0 ≤ Z9 p (hO l) t n ∧ Z9 p (hO l) t n ≤ 12 * (n : Int)
 | 0 => by simp [Z9]
 | n + 1 => by
  have h1 := q0i p l hl t n
  have h2 := hl n
  have h3 : hO l n = (cO l n : Int) := rfl
  simp only [Z9]
  split <;> omega
theorem q1j {n m : Nat} {l : List ByteArray} (h : Shp n m l) (i : Nat) : cO l i ≤ 12 := Nat.le_trans List.count_le_length (O0 h i)
def there (p : Nat → Int) (i : Nat) (t : Nat) : Bool := (List.range i).any fun j => decide (p j = (t : Int))
theorem q5x (p : Nat → Int) (i t : Nat) : there p (i + 1) t = (there p i t || decide (p i = (t : Int))) := by unfold there; rw [List.range_succ, List.any_append]; simp
def U2 (l : List ByteArray) (p : Nat → Int) (N t : Nat) : Bool := decide (Z9 p (hO l) (t : Int) N % 2 = 1)
theorem q9h {n m : Nat} {l : List ByteArray} (h : Shp n m l) (p : Nat → Int) : ∀ (d t : Nat) (bits : Int), t + d = n + m → -1000 ≤ bits → bits ≤ 1000 + (t : Int) →
  Ev (fun k => y7.l5 k bits (V9 (n + m) fun t => Z9 p (hO l) (t : Int) (n + m)) (V9 (n + m) (there p (n + m))) ((n + m : Nat) : Int) (t : Int)) (if (List.range' t d).any (fun t => there p (n + m) t && U2 l p (n + m) t) = true then -1 else bits + ((List.range' t d).countP (there p (n + m)) : Int)) := by
 have hn := h.n2; have hm := h.m2
 intro d
 induction d with
 | zero =>
  intro t bits hd _ _
  exact Ev.step (fun k => y7.l5.eq_2 ..) (z8 (by omega) (J2 (by simp)))
 | succ d ih =>
  intro t bits hd h0 h1
  have e1 : wrap64 ((t : Int) + 1) = ((t + 1 : Nat) : Int) := by rw [Q5 (by omega) (by omega)]; omega
  have et : rdOf false (V9 (n + m) (there p (n + m))) (t : Int) = there p (n + m) t := q0l _ _ (by omega)
  have eo : rd (V9 (n + m) fun t => Z9 p (hO l) (t : Int) (n + m)) (t : Int) = Z9 p (hO l) (t : Int) (n + m) := U7 _ (by omega)
  have hb := q0i p l (q1j h) (t : Int) (n + m)
  refine Ev.step (fun k => y7.l5.eq_2 ..) (y5 (by omega) (y5 (by omega) (y5 (by rw [X5]; omega) ?_)))
  rw [et, eo, e1, List.range'_succ, List.any_cons, List.countP_cons]
  refine J7 (fun c => y5 (by rw [X5]; omega) (J7 (fun c2 => ?_) (fun c2 => J2 ?_))) (fun c => ?_)
  ·have ho : U2 l p (n + m) t = false := decide_eq_false (by rw [Int.tmod_eq_emod_of_nonneg hb.1] at c2; omega)
   rw [Q5 (by omega) (by omega)]
   refine K9 (ih (t + 1) (bits + 1) (by omega) (by omega) (by omega)) ?_
   rw [c, ho]
   simp only [Bool.and_false, Bool.false_or, if_true]
   congr 1; omega
  ·have ho : U2 l p (n + m) t = true := decide_eq_true (by rw [Int.tmod_eq_emod_of_nonneg hb.1] at c2; show Z9 p (hO l) (t : Int) (n + m) % 2 = 1; have : ¬ Z9 p (hO l) (t : Int) (n + m) % 2 = 0 := c2; omega)
   rw [c, ho]; rfl
  ·refine K9 (ih (t + 1) bits (by omega) h0 (by omega)) ?_
   rw [Bool.eq_false_iff.2 c, Bool.false_and, Bool.false_or]
   simp
theorem q9o {n m : Nat} {l : List ByteArray} (h : Shp n m l) (p : Nat → Int) (hp : ∀ i, i < n + m → 0 ≤ p i ∧ p i < ((n + m : Nat) : Int)) (bits : Int) (hb0 : -1000 ≤ bits) (hb1 : bits ≤ 1000) : ∀ (d i : Nat), i + d = n + m →
  Ev (fun k => y7.l4 k l ((n + m : Nat) : Int) (V9 (n + m) p) bits (V9 (n + m) fun t => Z9 p (hO l) (t : Int) i) (V9 (n + m) (there p i)) ((n + m : Nat) : Int) (i : Int)) (if (List.range' 0 (n + m)).any (fun t => there p (n + m) t && U2 l p (n + m) t) = true then -1 else bits + ((List.range' 0 (n + m)).countP (there p (n + m)) : Int)) := by
 have hn := h.n2; have hm := h.m2
 intro d
 induction d with
 | zero =>
  intro i hd
  have : i = n + m := by omega
  subst this
  exact Ev.step (fun k => y7.l4.eq_2 ..) (z8 (by omega) (q9h h p (n + m) 0 bits (by omega) hb0 (by omega)))
 | succ d ih =>
  intro i hd
  have hi : i < n + m := by omega
  have hpi := hp i hi
  obtain ⟨t, ht⟩ : ∃ t : Nat, p i = (t : Int) := ⟨(p i).toNat, by omega⟩
  have htl : t < n + m := by omega
  have e1 : wrap64 ((i : Int) + 1) = ((i + 1 : Nat) : Int) := by rw [Q5 (by omega) (by omega)]; omega
  have hb := q0i p l (q1j h) (t : Int) i
  have hc := q1j h i
  refine Ev.step (fun k => y7.l4.eq_2 ..) (y5 (by omega) (Ev.bind (I9 h hi) (y5 (by omega) (y5 (by rw [X5]; omega) ?_))))
  dsimp only
  rw [U7 p hi, ht]
  refine y5 (by omega) (y5 (by rw [X5]; omega) (y5 (by rw [X5]; omega) ?_))
  rw [U7 _ htl, Int.toNat_natCast, F7, F7, e1]
  have ew : wrap64 (Z9 p (hO l) (t : Int) i + ((cO l i : Nat) : Int)) = Z9 p (hO l) (t : Int) i + (cO l i : Int) := Q5 (by have : 0 ≤ Z9 p (hO l) (t : Int) i := hb.1; omega) (by have : Z9 p (hO l) (t : Int) i ≤ 12 * (i : Int) := hb.2; omega)
  rw [ew]
  have ea : (V9 (n + m) fun j => if j = t then Z9 p (hO l) (t : Int) i + (cO l i : Int) else Z9 p (hO l) (j : Int) i) = V9 (n + m) fun t => Z9 p (hO l) (t : Int) (i + 1) := by
   refine G5 (fun j _ => ?_)
   simp only [Z9]
   by_cases z : j = t
   ·subst z; rw [if_pos rfl, if_pos ht]; rfl
   ·rw [if_neg z, if_neg (by rw [ht]; omega)]; omega
  have eb : (V9 (n + m) fun j => if j = t then true else there p i j) = V9 (n + m) (there p (i + 1)) := by
   refine G5 (fun j _ => ?_)
   rw [q5x]
   by_cases z : j = t
   ·subst z; rw [if_pos rfl, decide_eq_true ht]; simp
   ·rw [if_neg z, decide_eq_false (by rw [ht]; omega)]; simp
  rw [ea, eb]
  exact ih (i + 1) (by omega)
def lab (l : List ByteArray) (n m : Nat) : Nat → Int := M3 (G7 l n m 0 n) (fun i => (i : Int))
def grp (l : List ByteArray) (n m : Nat) : Nat → Int := U4 (G7 l n m 0 n) (fun i => (i : Int))
theorem C9 (l : List ByteArray) (n m : Nat) : Cls (n + m) (lab l n m) (grp l n m) := q3u _ q57 (q92 (n + m))
theorem q2i {n m : Nat} {l : List ByteArray} (hm : m ≤ 12) : ∀ (d r : Nat), (G7 l n m r d).length ≤ 12 * d
 | 0, _ => by simp [G7]
 | d + 1, r => by
  have h1 := q2i (n := n) (l := l) hm d (r + 1)
  have h2 := q5c l n r 0 m
  have e3 : G7 l n m r (d + 1) = H7 l n r 0 m ++ G7 l n m (r + 1) d := by unfold G7; rw [List.range'_succ, List.flatMap_cons]
  rw [e3, List.length_append]; omega
theorem q96 {n m : Nat} {l : List ByteArray} (h : Shp n m l) {q : Int} (hq : Ev (fun k => y7.l1 k l ((n + m : Nat) : Int) (V9 (n + m) fun i => (i : Int)) (-((n + m : Nat) : Int)) (n : Int) 0) q) : ∀ (d i : Nat), i + d = n + m →
  Ev (fun k => y7.l0 k l ((n + m : Nat) : Int) (V9 (n + m) fun j => if j < i then (j : Int) else 0) ((n + m : Nat) : Int) (i : Int)) q := by
 have hn := h.n2; have hm := h.m2; have hl := h.ln
 intro d
 induction d with
 | zero =>
  intro i hd
  refine Ev.step (fun k => y7.l0.eq_2 ..) (z8 (by omega) ?_)
  rw [Q5 (by omega) (by omega), hl]
  have e : (V9 (n + m) fun j => if j < i then (j : Int) else 0) = V9 (n + m) fun i => (i : Int) := G5 (fun j hj => if_pos (by omega))
  rw [e]; exact hq
 | succ d ih =>
  intro i hd
  have e1 : wrap64 ((i : Int) + 1) = ((i + 1 : Nat) : Int) := by rw [Q5 (by omega) (by omega)]; omega
  refine Ev.step (fun k => y7.l0.eq_2 ..) (y5 (by omega) (y5 (by omega) (y5 (by rw [X5]; omega) ?_)))
  rw [Int.toNat_natCast, F7, e1]
  have e : (V9 (n + m) fun j => if j = i then (i : Int) else if j < i then (j : Int) else 0) = V9 (n + m) fun j => if j < i + 1 then (j : Int) else 0 := by
   refine G5 (fun j _ => ?_)
   by_cases z : j = i
   ·subst z; rw [if_pos rfl, if_pos (by omega)]
   ·rw [if_neg z]
    by_cases y : j < i
    ·rw [if_pos y, if_pos (by omega)]
    ·rw [if_neg y, if_neg (by omega)]
  rw [e]; exact ih (i + 1) (by omega)
def K4 (n m : Nat) (l : List ByteArray) : Int := if (List.range (n + m)).any (fun t => U2 l (grp l n m) (n + m) t) = true then -1 else (ers l : Int) - ((n + m : Nat) : Int) + (O5 (n + m) (grp l n m) : Int)
theorem q38 (p h : Nat → Int) (t : Int) : ∀ n, (∀ i, i < n → p i ≠ t) → Z9 p h t n = 0
 | 0, _ => rfl
 | n + 1, hz => by
  simp only [Z9]
  rw [q38 p h t n (fun i hi => hz i (by omega)), if_neg (hz n (by omega))]; rfl
theorem q48 (n m : Nat) (l : List ByteArray) : (List.range' 0 (n + m)).any (fun t => there (lab l n m) (n + m) t && U2 l (lab l n m) (n + m) t) = (List.range (n + m)).any (fun t => U2 l (grp l n m) (n + m) t) := by
 have hc := C9 l n m
 rw [← List.range_eq_range', Bool.eq_iff_iff]
 simp only [List.any_eq_true, List.mem_range, Bool.and_eq_true]
 constructor
 ·rintro ⟨t, ht, h1, h2⟩
  unfold there at h1
  simp only [List.any_eq_true, List.mem_range, decide_eq_true_eq] at h1
  obtain ⟨z, hz, e⟩ := h1
  have hq := hc.qb z hz
  refine ⟨(grp l n m z).toNat, by omega, decide_eq_true ?_⟩
  have h2' := of_decide_eq_true h2
  rw [← e, q0v (hO l) hc.same hz (n + m) (Nat.le_refl _)] at h2'
  rw [show (((grp l n m z).toNat : Nat) : Int) = grp l n m z by omega]
  exact h2'
 ·rintro ⟨t, ht, h2⟩
  have h2' := of_decide_eq_true h2
  by_cases c : ∃ z, z < n + m ∧ grp l n m z = (t : Int)
  ·obtain ⟨z, hz, e⟩ := c
   have hp := hc.pb z hz
   refine ⟨(lab l n m z).toNat, by omega, ?_, decide_eq_true ?_⟩
   ·unfold there
    simp only [List.any_eq_true, List.mem_range, decide_eq_true_eq]
    exact ⟨z, hz, by omega⟩
   ·rw [show (((lab l n m z).toNat : Nat) : Int) = lab l n m z by omega, q0v (hO l) hc.same hz (n + m) (Nat.le_refl _), e]
    exact h2'
  ·rw [q38 _ _ _ _ (fun i hi z => c ⟨i, hi, z⟩)] at h2'
   exact absurd h2' (by decide)
theorem q1l {n m : Nat} {l : List ByteArray} (h : Shp n m l) : (G7 l n m 0 n).length = ers l := by
 have := q3t h n 0 (by omega)
 rw [List.drop_zero] at this; exact this
theorem q0a {n m : Nat} {l : List ByteArray} (h : Shp n m l) : Ev (fun k => y7.f k l) (K4 n m l) := by
 have hn := h.n2; have hm := h.m2; have hl := h.ln
 have hc := C9 l n m
 unfold y7.f
 refine y5 (by omega) ?_
 rw [q0n h]
 refine y5 (by omega) (y5 (by omega) ?_)
 simp only [Option.bind_some]
 rw [Int.toNat_natCast, List.length_replicate]
 have key := q96 h (q := K4 n m l) (by
  refine q9e h n 0 (fun i => (i : Int)) (-((n + m : Nat) : Int)) (by omega) (by omega) (by omega) ?_
  have hle := q2i (n := n) (l := l) hm.2 n 0
  have := q9o h (lab l n m) hc.pb (-((n + m : Nat) : Int) + ((G7 l n m 0 n).length : Int)) (by omega) (by omega) (n + m) 0 (by omega)
  refine K9 ?_ (show (if (List.range' 0 (n + m)).any (fun t => there (lab l n m) (n + m) t && U2 l (lab l n m) (n + m) t) = true then -1 else -((n + m : Nat) : Int) + ((G7 l n m 0 n).length : Int) + ((List.range' 0 (n + m)).countP (there (lab l n m) (n + m)) : Int)) = K4 n m l from ?_)
  ·exact this
  ·rw [q48]
   unfold K4
   rw [← hc.cnt, q1l h, ← List.range_eq_range']
   have : (List.range (n + m)).countP (there (lab l n m) (n + m)) = q1d (n + m) (lab l n m) := rfl
   rw [this]
   split
   ·rfl
   ·omega) (n + m) 0 (by omega)
 rw [q0o]
 have e : (V9 (n + m) fun j => if j < 0 then (j : Int) else 0) = V9 (n + m) fun _ => (0 : Int) := G5 (fun j _ => if_neg (by omega))
 rw [e] at key
 exact key
theorem q9j (l : List ByteArray) (N : Nat) (hN : N ≤ 24) (p : Nat → Int) (a b : Int) (x5 : Int) (x6 : ByteArray) (x7 : Int) (x22 : List ByteArray) (x23 x24 : Int) {q : List Int} (hq : Ev (fun k => l6.l2 k l (V9 N (M0 p a b)) x5 x6 (wrap64 (x7 + 1)) x22 x23 x24) q) : ∀ (d i : Nat), i + d = N →
  Ev (fun k => l6.l3 k l (V9 N fun j => if j < i then M0 p a b j else p j) x5 x6 x7 a b x22 x23 x24 (N : Int) (i : Int)) q := by
 intro d
 induction d with
 | zero =>
  intro i hd
  refine Ev.step (fun k => l6.l3.eq_2 ..) (z8 (by omega) ?_)
  have e : (V9 N fun j => if j < i then M0 p a b j else p j) = V9 N (M0 p a b) := G5 (fun j hj => if_pos (by omega))
  rw [e]; exact hq
 | succ d ih =>
  intro i hd
  have e1 : wrap64 ((i : Int) + 1) = ((i + 1 : Nat) : Int) := by rw [Q5 (by omega) (by omega)]; omega
  have er : rd (V9 N fun j => if j < i then M0 p a b j else p j) (i : Int) = p i := by
   show (V9 N _).getD i 0 = _
   rw [q0l _ 0 (by omega)]; exact if_neg (by omega)
  have es : (p i = a ∨ p i = b) → (V9 N fun j => if j < i then M0 p a b j else p j).set (i : Int).toNat (min a b) = V9 N fun j => if j < i + 1 then M0 p a b j else p j := by
   intro c
   rw [Int.toNat_natCast, F7]
   refine G5 (fun j hj => ?_)
   by_cases z : j = i
   ·subst z; rw [if_pos rfl, if_pos (by omega)]; unfold M0; rw [if_pos c]
   ·rw [if_neg z]
    by_cases y : j < i
    ·rw [if_pos y, if_pos (by omega)]
    ·rw [if_neg y, if_neg (by omega)]
  refine Ev.step (fun k => l6.l3.eq_2 ..) (y5 (by omega) (y5 (by omega) (y5 (by rw [X5]; omega) ?_)))
  rw [er, e1, q7p]
  simp only [Option.bind_some]
  refine J7 (fun c => ?_) (fun c => J7 (fun c2 => ?_) (fun c2 => ?_))
  ·rw [es (.inl c)]; exact ih (i + 1) (by omega)
  ·rw [es (.inr c2)]; exact ih (i + 1) (by omega)
  ·have e : (V9 N fun j => if j < i then M0 p a b j else p j) = V9 N fun j => if j < i + 1 then M0 p a b j else p j := by
    refine G5 (fun j hj => ?_)
    by_cases z : j = i
    ·subst z; rw [if_neg (by omega), if_pos (by omega)]; unfold M0; rw [if_neg (fun y => y.elim c c2)]
    ·by_cases y : j < i
     ·rw [if_pos y, if_pos (by omega)]
     ·rw [if_neg y, if_neg (by omega)]
   rw [e]; exact ih (i + 1) (by omega)
theorem q9k {n m : Nat} {l : List ByteArray} (h : Shp n m l) {r : Nat} (hr : r < n) {q : List Int} : ∀ (d c : Nat) (p : Nat → Int), c + d = m →
  Ev (fun k => l6.l1 k l (V9 (n + m) (U4 (H7 l n r c d) p)) l (n : Int) (wrap64 ((r : Int) + 1))) q →
  Ev (fun k => l6.l2 k l (V9 (n + m) p) (r : Int) (rdOf ByteArray.empty l (r : Int)) (c : Int) l (n : Int) (r : Int)) q := by
 have hn := h.n2; have hm := h.m2; have hl := h.ln
 have hrow := G8 h hr
 have hsz : (rdOf ByteArray.empty l (r : Int)).size = m := by rw [← hrow, Z8]; rfl
 intro d
 induction d with
 | zero =>
  intro c p hd hq
  exact Ev.step (fun k => l6.l2.eq_2 ..) (z8 (by omega) (by simpa [H7, U4] using hq))
 | succ d ih =>
  intro c p hd hq
  have e1 : wrap64 ((c : Int) + 1) = ((c + 1 : Nat) : Int) := by rw [Q5 (by omega) (by omega)]; omega
  have e2 : wrap64 ((l.length : Int) + (c : Int)) = ((n + c : Nat) : Int) := by rw [Q5 (by omega) (by omega)]; omega
  have hb : bt (rdOf ByteArray.empty l (r : Int)) (c : Int) = ((ch l r c).toNat : Int) := q0f (l.getD r ByteArray.empty) c (by omega)
  have hu := R7 (ch l r c) 63 (by omega)
  refine Ev.step (fun k => l6.l2.eq_2 ..) (y5 (by omega) (y5 (by omega) ?_))
  rw [hb, e1, e2]
  refine J7 (fun cc => ?_) (fun cc => ?_)
  ·have hx : ch l r c = 63 := hu.1 cc
   have e3 : H7 l n r c (d + 1) = (r, n + c) :: H7 l n r (c + 1) d := by unfold H7; rw [List.range'_succ, List.filter_cons_of_pos (by simpa using hx)]; rfl
   rw [e3] at hq
   simp only [U4] at hq
   refine y5 (by omega) (y5 (by rw [X5]; omega) (y5 (by omega) (y5 (by rw [X5]; omega) ?_)))
   rw [U7 p (by omega), U7 p (by omega), X5]
   have := q9j l (n + m) (by omega) p (p r) (p (n + c)) (r : Int) (rdOf ByteArray.empty l (r : Int)) (c : Int) l (n : Int) (r : Int) (q := q) (by
    rw [e1]
    exact ih (c + 1) _ (by omega) hq) (n + m) 0 (by omega)
   have e5 : (V9 (n + m) fun j => if j < 0 then M0 p (p r) (p (n + c)) j else p j) = V9 (n + m) p := G5 (fun j _ => if_neg (by omega))
   rw [e5] at this
   exact this
  ·have hx : ch l r c ≠ 63 := fun z => cc (hu.2 z)
   have e3 : H7 l n r c (d + 1) = H7 l n r (c + 1) d := by unfold H7; rw [List.range'_succ, List.filter_cons_of_neg (by simpa using hx)]
   rw [e3] at hq
   exact ih (c + 1) p (by omega) hq
theorem q99 {n m : Nat} {l : List ByteArray} (h : Shp n m l) : ∀ (d r : Nat) (p : Nat → Int), r + d = n →
  Ev (fun k => l6.l1 k l (V9 (n + m) p) l (n : Int) (r : Int)) (V9 (n + m) (U4 (G7 l n m r d) p)) := by
 have hn := h.n2; have hm := h.m2; have hl := h.ln
 intro d
 induction d with
 | zero =>
  intro r p hd
  exact Ev.step (fun k => l6.l1.eq_2 ..) (z8 (by omega) (Ev.now _))
 | succ d ih =>
  intro r p hd
  have hr : r < n := by omega
  have e1 : wrap64 ((r : Int) + 1) = ((r + 1 : Nat) : Int) := by rw [Q5 (by omega) (by omega)]; omega
  have e3 : G7 l n m r (d + 1) = H7 l n r 0 m ++ G7 l n m (r + 1) d := by unfold G7; rw [List.range'_succ, List.flatMap_cons]
  rw [e3, q2u]
  refine Ev.step (fun k => l6.l1.eq_2 ..) (y5 (by omega) (y5 (by omega) (y5 (by omega) ?_)))
  refine q9k h hr m 0 p (by omega) ?_
  rw [e1]
  exact ih (r + 1) _ (by omega)
theorem q6j {α : Type} (n : Nat) (f : Nat → α) : V9 (n + 1) f = V9 n f ++ [f n] := by unfold V9; rw [List.range_succ]; simp
theorem q6f {n m : Nat} {l : List ByteArray} (h : Shp n m l) : Ev (fun k => l6.f k l) (V9 (n + m) (grp l n m)) := by
 have hn := h.n2; have hm := h.m2; have hl := h.ln
 unfold l6.f
 have go : ∀ (d i : Nat), i + d = n + m → Ev (fun k => l6.l0 k l (V9 i fun i => (i : Int)) (i : Int)) (V9 (n + m) (grp l n m)) := by
  intro d
  induction d with
  | zero =>
   intro i hd
   have : i = n + m := by omega
   subst this
   refine Ev.step (fun k => l6.l0.eq_2 ..) ?_
   rw [L9 h]
   simp only [Option.bind_some]
   refine z8 (by omega) ?_
   rw [hl]
   exact q99 h n 0 (fun i => (i : Int)) (by omega)
  | succ d ih =>
   intro i hd
   have e1 : wrap64 ((i : Int) + 1) = ((i + 1 : Nat) : Int) := by rw [Q5 (by omega) (by omega)]; omega
   refine Ev.step (fun k => l6.l0.eq_2 ..) ?_
   rw [L9 h]
   simp only [Option.bind_some]
   refine y5 (by omega) (y5 (by rw [X5]; omega) ?_)
   have := ih (i + 1) (by omega)
   rw [q6j] at this
   rw [e1]
   exact this
 exact go (n + m) 0 (by omega)
theorem q9a {n m : Nat} {l : List ByteArray} (h : Shp n m l) (g : List Int) (hg : g.length = n + m) (p : Nat → Int) (cn : Nat) (hcn : cn ≤ 24) : ∀ (d t : Nat), t + d = n + m →
  Ev (fun k => Q3.l1 k l g (cn : Int) (V9 (n + m) fun t => Z9 p (hO l) (t : Int) (n + m)) ((n + m : Nat) : Int) (t : Int)) (if (List.range' t d).any (fun t => U2 l p (n + m) t) = true then -1 else (ers l : Int) - ((n + m : Nat) : Int) + (cn : Int)) := by
 have hn := h.n2; have hm := h.m2
 have hle := q2i (n := n) (l := l) hm.2 n 0
 have hea := q1l h
 intro d
 induction d with
 | zero =>
  intro t hd
  refine Ev.step (fun k => Q3.l1.eq_2 ..) (z8 (by omega) (Ev.bind (q4v h) (J2 ?_)))
  rw [hg, Q5 (x := (ers l : Int) - _) (by omega) (by omega), Q5 (by omega) (by omega)]
  simp
 | succ d ih =>
  intro t hd
  have e1 : wrap64 ((t : Int) + 1) = ((t + 1 : Nat) : Int) := by rw [Q5 (by omega) (by omega)]; omega
  have eo : rd (V9 (n + m) fun t => Z9 p (hO l) (t : Int) (n + m)) (t : Int) = Z9 p (hO l) (t : Int) (n + m) := U7 _ (by omega)
  have hb := q0i p l (q1j h) (t : Int) (n + m)
  refine Ev.step (fun k => Q3.l1.eq_2 ..) (y5 (by omega) (y5 (by omega) (y5 (by rw [X5]; omega) ?_)))
  rw [eo, e1, List.range'_succ, List.any_cons]
  refine J7 (fun c2 => ?_) (fun c2 => J2 ?_)
  ·have ho : U2 l p (n + m) t = false := decide_eq_false (by rw [Int.tmod_eq_emod_of_nonneg hb.1] at c2; omega)
   rw [ho, Bool.false_or]
   exact ih (t + 1) (by omega)
  ·have ho : U2 l p (n + m) t = true := decide_eq_true (by rw [Int.tmod_eq_emod_of_nonneg hb.1] at c2; show Z9 p (hO l) (t : Int) (n + m) % 2 = 1; have : ¬ Z9 p (hO l) (t : Int) (n + m) % 2 = 0 := c2; omega)
   rw [ho]; rfl
theorem q9l {n m : Nat} {l : List ByteArray} (h : Shp n m l) (p : Nat → Int) (hp : ∀ i, i < n + m → 0 ≤ p i ∧ p i < ((n + m : Nat) : Int)) : ∀ (d i : Nat), i + d = n + m →
  Ev (fun k => Q3.l0 k l (V9 (n + m) p) (V9 (n + m) fun t => Z9 p (hO l) (t : Int) i) (((List.range i).countP fun i => decide (p i = (i : Int)) : Nat) : Int) (V9 (n + m) p) ((n + m : Nat) : Int) (i : Int)) (if (List.range (n + m)).any (fun t => U2 l p (n + m) t) = true then -1 else (ers l : Int) - ((n + m : Nat) : Int) + (O5 (n + m) p : Int)) := by
 have hn := h.n2; have hm := h.m2
 intro d
 induction d with
 | zero =>
  intro i hd
  have : i = n + m := by omega
  subst this
  refine Ev.step (fun k => Q3.l0.eq_2 ..) (z8 (by omega) ?_)
  rw [X5]
  have hf : (List.range (n + m)).countP (fun i => decide (p i = (i : Int))) ≤ 24 := by have := List.countP_le_length (p := fun (i : Nat) => decide (p i = (i : Int))) (l := List.range (n + m)); rw [List.length_range] at this; omega
  have := q9a h (V9 (n + m) p) (X5 _ _) p _ hf (n + m) 0 (by omega)
  rw [← List.range_eq_range'] at this
  exact this
 | succ d ih =>
  intro i hd
  have hi : i < n + m := by omega
  have hpi := hp i hi
  obtain ⟨t, ht⟩ : ∃ t : Nat, p i = (t : Int) := ⟨(p i).toNat, by omega⟩
  have htl : t < n + m := by omega
  have e1 : wrap64 ((i : Int) + 1) = ((i + 1 : Nat) : Int) := by rw [Q5 (by omega) (by omega)]; omega
  have hb := q0i p l (q1j h) (t : Int) i
  have hc := q1j h i
  have hf : (List.range i).countP (fun i => decide (p i = (i : Int))) ≤ i := by have := List.countP_le_length (p := fun (i : Nat) => decide (p i = (i : Int))) (l := List.range i); rw [List.length_range] at this; exact this
  refine Ev.step (fun k => Q3.l0.eq_2 ..) (y5 (by omega) (y5 (by omega) (y5 (by rw [X5]; omega) ?_)))
  rw [U7 p hi, ht]
  refine y5 (by omega) (y5 (by rw [X5]; omega) (Ev.bind (q35 h hi) (Ev.bind (O4 (lnL l i) (by have := O0 h i; omega) 111 (by omega)) ?_)))
  simp only [Option.bind_some]
  rw [show (List.count (UInt8.ofNat 111) (lnL l i)) = cO l i from rfl, U7 _ htl, Int.toNat_natCast, F7, e1]
  have ew : wrap64 (Z9 p (hO l) (t : Int) i + ((cO l i : Nat) : Int)) = Z9 p (hO l) (t : Int) i + (cO l i : Int) := Q5 (by have : 0 ≤ Z9 p (hO l) (t : Int) i := hb.1; omega) (by have : Z9 p (hO l) (t : Int) i ≤ 12 * (i : Int) := hb.2; omega)
  rw [ew]
  have ea : (V9 (n + m) fun j => if j = t then Z9 p (hO l) (t : Int) i + (cO l i : Int) else Z9 p (hO l) (j : Int) i) = V9 (n + m) fun t => Z9 p (hO l) (t : Int) (i + 1) := by
   refine G5 (fun j _ => ?_)
   simp only [Z9]
   by_cases z : j = t
   ·subst z; rw [if_pos rfl, if_pos ht]; rfl
   ·rw [if_neg z, if_neg (by rw [ht]; omega)]; omega
  rw [ea]
  have ih' := ih (i + 1) (by omega)
  rw [List.range_succ, List.countP_append, List.countP_singleton] at ih'
  refine J7 (fun c => ?_) (fun c => ?_)
  ·rw [decide_eq_true (show p i = (i : Int) by omega)] at ih'
   rw [Q5 (by omega) (by omega)]
   refine K9 ?_ rfl
   have : (((List.range i).countP (fun i => decide (p i = (i : Int))) : Nat) : Int) + 1 = (((List.range i).countP (fun i => decide (p i = (i : Int))) + (if true = true then 1 else 0) : Nat) : Int) := by rw [if_pos rfl]; omega
   rw [this]; exact ih'
  ·rw [decide_eq_false (show ¬ p i = (i : Int) by omega)] at ih'
   simpa using ih'
theorem F9 {n m : Nat} {l : List ByteArray} (h : Shp n m l) : Ev (fun k => Q3.f k l) (K4 n m l) := by
 have hn := h.n2; have hm := h.m2
 have hc := C9 l n m
 unfold Q3.f
 refine Ev.bind (q6f h) (y5 (by omega) (y5 (by rw [X5]; omega) ?_))
 rw [X5, Int.toNat_natCast, q0o]
 have := q9l h (grp l n m) hc.qb (n + m) 0 (by omega)
 simpa [Z9, K4] using this
theorem q1p {n : Nat} {f : Nat → Bool} (h : (List.range n).countP f = 1) {a b : Nat} (ha : a < n) (hb : b < n) (fa : f a = true) (fb : f b = true) : a = b := by
 have k := M6 (P := f) a n ha fa
 have z : (List.range n).countP (fun t => f t && !(t == a)) = 0 := by omega
 have := List.countP_eq_zero.1 z b (List.mem_range.2 hb)
 rw [fb] at this
 simpa using (fun q : ¬ b = a => this (by simp [q])) |> fun q => (Classical.byContradiction (fun w : ¬ a = b => q (fun e => w e.symm)))
theorem q0g {n m : Nat} {l : List ByteArray} (h : Shp n m l) {i : Nat} (hi : i < n) : cQ l i = (List.range m).countP fun c => decide (ch l i c = 63) := by
 unfold cQ
 rw [q2p h hi, List.count, List.countP_map]
 exact List.countP_congr (fun c _ => by simp)
theorem q0e {n m : Nat} {l : List ByteArray} (h : Shp n m l) (j : Nat) : cQ l (n + j) = (List.range n).countP fun r => decide (ch l r j = 63) := by
 unfold cQ
 rw [q2l h, List.count, List.countP_map]
 exact List.countP_congr (fun c _ => by simp)
theorem q2k {n m : Nat} {l : List ByteArray} (h : Shp n m l) {i : Nat} (hi : i < n + m) (hc : cQ l i = 1) : ∃ r c, r < n ∧ c < m ∧ ch l r c = 63 ∧ M9 l i = G6 l r c (evB (cO l i)) ∧ (i = r ∨ i = n + c) := by
 have hx := q4a h hi hc
 have hm : (63 : UInt8) ∈ lnL l i := List.count_pos_iff.1 (by unfold cQ at hc; omega)
 have hlt := List.idxOf_lt_length_iff.2 hm
 have hg : (lnL l i)[(lnL l i).idxOf 63]'hlt = 63 := List.getElem_idxOf hlt
 have hg' : (lnL l i).getD ((lnL l i).idxOf 63) 0 = 63 := by rw [getD_in 0 hlt]; exact hg
 unfold M9
 rw [h.ln]
 by_cases c : i < n
 ·rw [if_pos c] at hx
  refine ⟨i, (lnL l i).idxOf 63, c, hx, ?_, by rw [if_pos c], .inl rfl⟩
  generalize (lnL l i).idxOf 63 = at_ at hg' hx
  rw [q2p h c, getD_in 0 (by simp; exact hx)] at hg'
  simpa using hg'
 ·rw [if_neg c] at hx
  refine ⟨(lnL l i).idxOf 63, i - n, hx, by omega, ?_, by rw [if_neg c], .inr (by omega)⟩
  generalize (lnL l i).idxOf 63 = at_ at hg' hx
  have e : i = n + (i - n) := by omega
  rw [e, q2l h, getD_in 0 (by simp; exact hx)] at hg'
  simpa using hg'
theorem q7b {n m : Nat} {l : List ByteArray} (h : Shp n m l) {i r c : Nat} (hr : r < n) (hc : c < m) (he : ch l r c = 63) (hi : i = r ∨ i = n + c) (hq : cQ l i = 1) {x y : Nat} (hx : x < n) (hy : y < m) (hxy : ch l x y = 63) (hz : x = i ∨ n + y = i) : x = r ∧ y = c := by
 rcases hi with e | e
 ·subst e
  rw [q0g h hr] at hq
  have ex : x = i := by omega
  subst ex
  exact ⟨rfl, q1p hq hy hc (by simpa using hxy) (by simpa using he)⟩
 ·subst e
  rw [q0e h] at hq
  have ey : y = c := by omega
  subst ey
  exact ⟨q1p hq hx hr (by simpa using hxy) (by simpa using he), rfl⟩
def places (n m : Nat) : List (Nat × Nat) := (List.range' 0 n).flatMap fun r => (List.range' 0 m).map fun c => (r, c)
def isQ (l : List ByteArray) (z : Nat × Nat) : Bool := decide (ch l z.1 z.2 = 63)
theorem q1k (l : List ByteArray) (n m : Nat) : G7 l n m 0 n = ((places n m).filter (isQ l)).map fun z => (z.1, n + z.2) := by
 unfold G7 places H7
 rw [List.filter_flatMap, List.map_flatMap]
 congr 1
 funext r
 rw [List.filter_map, List.map_map]
 rfl
theorem E9 {n m : Nat} {z : Nat × Nat} : z ∈ places n m ↔ z.1 < n ∧ z.2 < m := by
 unfold places
 simp only [List.mem_flatMap, List.mem_map, List.mem_range'_1]
 constructor
 ·rintro ⟨r, h1, c, h2, rfl⟩; dsimp only; omega
 ·rintro ⟨h1, h2⟩; exact ⟨z.1, by omega, z.2, by omega, rfl⟩
theorem q4i (n m : Nat) : (places n m).Nodup := by
 unfold places
 refine List.pairwise_flatMap.2 ⟨fun r _ => ?_, ?_⟩
 ·refine List.pairwise_map.2 ((List.nodup_range' (s := 0) (n := m)).imp (fun h e => h ?_))
  exact congrArg Prod.snd e
 ·refine (List.nodup_range' (s := 0) (n := n)).imp (fun h x hx y hy e => h ?_)
  obtain ⟨c, _, rfl⟩ := List.mem_map.1 hx
  obtain ⟨d, _, rfl⟩ := List.mem_map.1 hy
  exact congrArg Prod.fst e
theorem q44 {α : Type} [DecidableEq α] {X : List α} (nd : X.Nodup) {x : α} (hx : x ∈ X) {P P' : α → Bool} (h1 : P x = true) (h' : ∀ z, z ∈ X → P' z = (P z && !decide (z = x))) : ∃ A B, X.filter P = A ++ x :: B ∧ X.filter P' = A ++ B := by
 obtain ⟨X1, X2, rfl⟩ := List.append_of_mem hx
 obtain ⟨n1, n2, n3⟩ := List.nodup_append.1 nd
 obtain ⟨n4, n5⟩ := List.nodup_cons.1 n2
 have e1 : X1.filter P' = X1.filter P := List.filter_congr (fun z hz => by
  have : ¬ z = x := fun e => n3 z hz x (by simp) e
  rw [h' z (by simp [hz]), decide_eq_false this]; simp)
 have e2 : X2.filter P' = X2.filter P := List.filter_congr (fun z hz => by
  have : ¬ z = x := fun e => n4 (e ▸ hz)
  rw [h' z (by simp [hz]), decide_eq_false this]; simp)
 have e3 : P' x = false := by rw [h' x (by simp)]; simp
 refine ⟨X1.filter P, X2.filter P, ?_, ?_⟩
 ·rw [List.filter_append, List.filter_cons_of_pos h1]
 ·rw [List.filter_append, List.filter_cons_of_neg (by rw [e3]; simp), e1, e2]
theorem q5v {n m : Nat} {l : List ByteArray} (h : Shp n m l) {i r c : Nat} (hr : r < n) (hc : c < m) (he : ch l r c = 63) (hi : i = r ∨ i = n + c) (hq : cQ l i = 1) {v : UInt8} (hv : v ≠ 63) :
  ∃ A B, G7 l n m 0 n = A ++ (r, n + c) :: B ∧ G7 (G6 l r c v) n m 0 n = A ++ B ∧ ∀ z, z ∈ A ∨ z ∈ B → (z.1 < n ∧ n ≤ z.2 ∧ z.2 < n + m) ∧ z.1 ≠ i ∧ z.2 ≠ i := by
 have key : ∀ z, z ∈ places n m → isQ (G6 l r c v) z = (isQ l z && !decide (z = (r, c))) := by
  intro z hz
  have hz' := E9.1 hz
  unfold isQ
  rw [C8 h hr hc v hz'.1 hz'.2]
  by_cases e : z.1 = r ∧ z.2 = c
  ·have : z = (r, c) := Prod.ext e.1 e.2
   rw [if_pos e, decide_eq_true this, decide_eq_false hv]; simp
  ·have : ¬ z = (r, c) := fun w => e (by rw [w]; exact ⟨rfl, rfl⟩)
   rw [if_neg e, decide_eq_false this]; simp
 obtain ⟨A, B, e1, e2⟩ := q44 (q4i n m) (x := (r, c)) (E9.2 ⟨hr, hc⟩) (P := isQ l) (by unfold isQ; exact decide_eq_true he) key
 refine ⟨A.map fun z => (z.1, n + z.2), B.map fun z => (z.1, n + z.2), ?_, ?_, ?_⟩
 ·rw [q1k, e1, List.map_append, List.map_cons]
 ·rw [q1k, e2, List.map_append]
 ·have all : ∀ z, z ∈ A ++ B → z.1 < n ∧ z.2 < m ∧ z.1 ≠ i ∧ n + z.2 ≠ i := by
   intro z hz
   rw [← e2] at hz
   obtain ⟨h1, h2⟩ := List.mem_filter.1 hz
   rw [key z h1, Bool.and_eq_true] at h2
   have hp := E9.1 h1
   have q63 : ch l z.1 z.2 = 63 := of_decide_eq_true h2.1
   have ne : ¬ z = (r, c) := by simpa using h2.2
   have no : ¬ (z.1 = i ∨ n + z.2 = i) := fun w => by
    obtain ⟨a1, a2⟩ := q7b h hr hc he hi hq hp.1 hp.2 q63 w
    exact ne (Prod.ext a1 a2)
   exact ⟨hp.1, hp.2, fun w => no (.inl w), fun w => no (.inr w)⟩
  intro z hz
  have : ∃ y, y ∈ A ++ B ∧ z = (y.1, n + y.2) := by
   rcases hz with q | q
   ·obtain ⟨y, hy, rfl⟩ := List.mem_map.1 q; exact ⟨y, by simp [hy], rfl⟩
   ·obtain ⟨y, hy, rfl⟩ := List.mem_map.1 q; exact ⟨y, by simp [hy], rfl⟩
  obtain ⟨y, hy, rfl⟩ := this
  have := all y hy
  dsimp only; omega
def Rng (N : Nat) (p : Nat → Int) : Prop := ∀ i, i < N → 0 ≤ p i ∧ p i < N
theorem O9 {N : Nat} {p : Nat → Int} (h : Rng N p) {a b : Nat} (ha : a < N) (hb : b < N) : Rng N (X9 p (p a) (p b)) := fun i hi => by
 have := h i hi; have := h b hb
 unfold X9; split <;> omega
theorem q4c {N : Nat} : ∀ (L : List (Nat × Nat)) {p : Nat → Int}, (∀ z, z ∈ L → z.1 < N ∧ z.2 < N) → Rng N p → Rng N (M3 L p)
 | [], _, _, h => h
 | (u, v) :: L, p, hz, h => by
  have := hz (u, v) (by simp)
  exact q4c L (fun z hm => hz z (by simp [hm])) (O9 h this.1 this.2)
theorem q25 {N u : Nat} : ∀ (L : List (Nat × Nat)) {p : Nat → Int}, (∀ z, z ∈ L → (z.1 < N ∧ z.2 < N) ∧ z.1 ≠ u ∧ z.2 ≠ u) → (∀ j, j < N → j ≠ u → p j ≠ p u) → ∀ j, j < N → j ≠ u → M3 L p j ≠ M3 L p u
 | [], _, _, h => h
 | (a, b) :: L, p, hz, h => by
  have hab := hz (a, b) (by simp)
  refine q25 L (fun z hm => hz z (by simp [hm])) (fun j hj hne => ?_)
  have ha := h a hab.1.1 hab.2.1
  have hb := h b hab.1.2 hab.2.2
  have hj' := h j hj hne
  unfold X9
  rw [if_neg (c := p u = p a) (fun w => ha w.symm)]
  split
  ·exact hb
  ·exact hj'
structure Sim (N u v : Nat) (p q : Nat → Int) : Prop where
 pr : Rng N p
 qr : Rng N q
 same : ∀ i j, i < N → j < N → i ≠ u → j ≠ u → (p i = p j ↔ q i = q j)
 join : p u = p v
 iso : ∀ j, j < N → j ≠ u → q j ≠ q u
 cnt : q1d N p + 1 = q1d N q
theorem q3v {p : Nat → Int} {a b : Int} (h : a = b) : X9 p a b = p := by
 funext i; unfold X9; split
 ·rename_i z; rw [z, h]
 ·rfl
theorem q7c {N u v : Nat} {p q : Nat → Int} (S : Sim N u v p q) {a b : Nat} (ha : a < N) (hb : b < N) (na : a ≠ u) (nb : b ≠ u) : Sim N u v (X9 p (p a) (p b)) (X9 q (q a) (q b)) := by
 refine ⟨O9 S.pr ha hb, O9 S.qr ha hb, fun i j hi hj ni nj => ?_, ?_, fun j hj nj => ?_, ?_⟩
 ·have a1 := S.same i a hi ha ni na
  have a2 := S.same i b hi hb ni nb
  have b1 := S.same j a hj ha nj na
  have b2 := S.same j b hj hb nj nb
  have c0 := S.same i j hi hj ni nj
  unfold X9
  by_cases ci : p i = p a
  ·rw [if_pos ci, if_pos (a1.1 ci)]
   by_cases cj : p j = p a
   ·rw [if_pos cj, if_pos (b1.1 cj)]; exact ⟨fun _ => rfl, fun _ => rfl⟩
   ·rw [if_neg cj, if_neg (fun w => cj (b1.2 w))]
    exact ⟨fun e => (b2.1 e.symm).symm, fun e => (b2.2 e.symm).symm⟩
  ·rw [if_neg ci, if_neg (fun w => ci (a1.2 w))]
   by_cases cj : p j = p a
   ·rw [if_pos cj, if_pos (b1.1 cj)]; exact a2
   ·rw [if_neg cj, if_neg (fun w => cj (b1.2 w))]; exact c0
 ·unfold X9; rw [S.join]
 ·have h1 := S.iso a ha na
  have h2 := S.iso b hb nb
  have h3 := S.iso j hj nj
  unfold X9
  rw [if_neg (c := q u = q a) (fun w => h1 w.symm)]
  split
  ·exact h2
  ·exact h3
 ·have hs := S.same a b ha hb na nb
  by_cases e : p a = p b
  ·rw [q3v e, q3v (hs.1 e)]; exact S.cnt
  ·have h1 := q00 S.pr ha hb e
   have h2 := q00 S.qr ha hb (fun w => e (hs.2 w))
   have := S.cnt
   omega
theorem q4g {N u v : Nat} : ∀ (L : List (Nat × Nat)) {p q : Nat → Int}, (∀ z, z ∈ L → (z.1 < N ∧ z.2 < N) ∧ z.1 ≠ u ∧ z.2 ≠ u) → Sim N u v p q → Sim N u v (M3 L p) (M3 L q)
 | [], _, _, _, h => h
 | (a, b) :: L, p, q, hz, h => by
  have := hz (a, b) (by simp)
  exact q4g L (fun z hm => hz z (by simp [hm])) (q7c h this.1.1 this.1.2 this.2.1 this.2.2)
theorem q80 {N u v a b : Nat} {p : Nat → Int} (hr : Rng N p) (hu : u < N) (hv : v < N) (hi : ∀ j, j < N → j ≠ u → p j ≠ p u) (huv : v ≠ u) (hab : (a = u ∧ b = v) ∨ (a = v ∧ b = u)) : Sim N u v (X9 p (p a) (p b)) p := by
 have hvu := hi v hv huv
 have ha : a < N := by rcases hab with w | w <;> omega
 have hb : b < N := by rcases hab with w | w <;> omega
 have hne : p a ≠ p b := by
  rcases hab with ⟨rfl, rfl⟩ | ⟨rfl, rfl⟩
  ·exact fun w => hvu w.symm
  ·exact hvu
 refine ⟨O9 hr ha hb, hr, fun i j h1 h2 ni nj => ?_, ?_, hi, q00 hr ha hb hne⟩
 ·have i1 := hi i h1 ni
  have j1 := hi j h2 nj
  rcases hab with ⟨rfl, rfl⟩ | ⟨rfl, rfl⟩
  ·unfold X9; rw [if_neg i1, if_neg j1]
  ·unfold X9
   by_cases ci : p i = p a
   ·by_cases cj : p j = p a
    ·rw [if_pos ci, if_pos cj]; exact ⟨fun _ => ci.trans cj.symm, fun _ => rfl⟩
    ·rw [if_pos ci, if_neg cj]; exact ⟨fun w => absurd w.symm j1, fun w => absurd (w.symm.trans ci) cj⟩
   ·by_cases cj : p j = p a
    ·rw [if_neg ci, if_pos cj]; exact ⟨fun w => absurd w i1, fun w => absurd (w.trans cj) ci⟩
    ·rw [if_neg ci, if_neg cj]
 ·rcases hab with ⟨rfl, rfl⟩ | ⟨rfl, rfl⟩
  ·unfold X9; rw [if_pos rfl, if_neg hvu]
  ·unfold X9; rw [if_neg (fun w => hvu w.symm), if_pos rfl]
theorem q7e {v m : Nat} (x : Int) (h : v ≠ m) : (if v < m + 1 then x else 0) = if v < m then x else 0 := by
 by_cases q : v < m
 ·rw [if_pos q, if_pos (by omega)]
 ·rw [if_neg q, if_neg (by omega)]
theorem q3w {N u v : Nat} {p q : Nat → Int} (S : Sim N u v p q) (_hu : u < N) (hv : v < N) (huv : v ≠ u) {h h' : Nat → Int} {x : Int} (eo : ∀ j, j < N → j ≠ u → j ≠ v → h' j = h j) (ev : h' v = h v + x) {z : Nat} (hz : z < N) (nz : z ≠ u) : ∀ m, m ≤ N →
  Z9 p h (p z) m + (if p v = p z then (if v < m then x else 0) else 0) = Z9 q h' (q z) m + (if p v = p z then (if u < m then h u else 0) else 0)
 | 0, _ => by simp [Z9]
 | m + 1, hm => by
  have ih := q3w S _hu hv huv eo ev hz nz m (by omega)
  simp only [Z9]
  by_cases e1 : m = u
  ·subst e1
   rw [if_neg (c := q m = q z) (fun w => S.iso z hz nz w.symm)]
   have e2 := q7e x (show v ≠ m by omega)
   rw [S.join, e2]
   by_cases c : p v = p z
   ·simp only [if_pos c] at ih ⊢
    rw [if_neg (c := m < m) (by omega)] at ih
    rw [if_pos (c := m < m + 1) (by omega)]
    omega
   ·simp only [if_neg c] at ih ⊢; omega
  ·have hs := S.same m z (by omega) hz e1 nz
   have e2 := q7e (h u) (show u ≠ m by omega)
   rw [e2]
   by_cases e3 : m = v
   ·subst e3
    by_cases c : p m = p z
    ·simp only [if_pos c, if_pos (hs.1 c)] at ih ⊢
     rw [if_neg (c := m < m) (by omega)] at ih
     rw [if_pos (c := m < m + 1) (by omega), ev]
     omega
    ·simp only [if_neg c, if_neg (fun w => c (hs.2 w))] at ih ⊢; omega
   ·have e4 := q7e x (show v ≠ m by omega)
    rw [e4, eo m (by omega) e1 e3]
    by_cases c : p m = p z
    ·simp only [if_pos c, if_pos (hs.1 c)] at ih ⊢; omega
    ·simp only [if_neg c, if_neg (fun w => c (hs.2 w))] at ih ⊢; omega
theorem q0t {N u : Nat} {q : Nat → Int} (iso : ∀ j, j < N → j ≠ u → q j ≠ q u) (h : Nat → Int) : ∀ m, m ≤ N → Z9 q h (q u) m = if u < m then h u else 0
 | 0, _ => by simp [Z9]
 | m + 1, hm => by
  have ih := q0t iso h m (by omega)
  simp only [Z9]
  rw [ih]
  by_cases e : m = u
  ·subst e; rw [if_neg (by omega), if_pos rfl, if_pos (by omega)]; omega
  ·rw [if_neg (c := q m = q u) (iso m (by omega) e)]
   by_cases c : u < m
   ·rw [if_pos c, if_pos (by omega)]; omega
   ·rw [if_neg c, if_neg (by omega)]; omega
def q0u (N : Nat) (p h : Nat → Int) : Prop := ∃ z, z < N ∧ Z9 p h (p z) N % 2 = 1
theorem q5t {N u v : Nat} {p q : Nat → Int} (S : Sim N u v p q) (hu : u < N) (hv : v < N) (huv : v ≠ u) {h h' : Nat → Int} {x : Int} (eo : ∀ j, j < N → j ≠ u → j ≠ v → h' j = h j) (ev : h' v = h v + x) (eu : h' u = h u + x) (he : (h u + x) % 2 = 0) : q0u N p h ↔ q0u N q h' := by
 have key : ∀ z, z < N → z ≠ u → (Z9 p h (p z) N % 2 = 1 ↔ Z9 q h' (q z) N % 2 = 1) := by
  intro z hz nz
  have := q3w S hu hv huv eo ev hz nz N (Nat.le_refl _)
  by_cases c : p v = p z
  ·simp only [if_pos c, if_pos hu, if_pos hv] at this; omega
  ·simp only [if_neg c] at this; omega
 constructor
 ·rintro ⟨z, hz, e⟩
  by_cases c : z = u
  ·rw [c, S.join] at e
   exact ⟨v, hv, (key v hv huv).1 e⟩
  ·exact ⟨z, hz, (key z hz c).1 e⟩
 ·rintro ⟨z, hz, e⟩
  by_cases c : z = u
  ·rw [c, q0t S.iso h' N (Nat.le_refl _), if_pos hu, eu] at e; omega
  ·exact ⟨z, hz, (key z hz c).2 e⟩
theorem q0h (n m : Nat) (l : List ByteArray) : (List.range (n + m)).any (fun t => U2 l (grp l n m) (n + m) t) = true ↔ q0u (n + m) (lab l n m) (hO l) := by
 rw [← q48, ← List.range_eq_range', List.any_eq_true]
 have hc := C9 l n m
 unfold q0u there U2
 simp only [List.mem_range, Bool.and_eq_true, List.any_eq_true, decide_eq_true_eq]
 constructor
 ·rintro ⟨t, ht, ⟨z, hz, e⟩, ho⟩
  exact ⟨z, hz, by rw [e]; exact ho⟩
 ·rintro ⟨z, hz, e⟩
  have := hc.pb z hz
  exact ⟨(lab l n m z).toNat, by omega, ⟨z, hz, by omega⟩, by rw [show (((lab l n m z).toNat : Nat) : Int) = lab l n m z by omega]; exact e⟩
theorem q95 {n m : Nat} {l : List ByteArray} (h : Shp n m l) {r c : Nat} (hr : r < n) (hc : c < m) (he : ch l r c = 63) (v : UInt8) {i : Nat} (hi : i < n + m) : cO (G6 l r c v) i = cO l i + if (i = r ∨ i = n + c) ∧ v = 111 then 1 else 0 := by
 have hs := U9 h hr c v
 have n63 : decide (ch l r c = 111) = false := by rw [he]; rfl
 by_cases ci : i < n
 ·rw [q73 hs ci, q73 h ci]
  by_cases e : i = r
  ·subst e
   have := q2b (n := m) (fun y => decide (ch (G6 l i c v) i y = 111)) (fun y => decide (ch l i y = 111)) hc (fun y hy hne => by
    show decide (ch (G6 l i c v) i y = 111) = decide (ch l i y = 111)
    rw [C8 h hr hc v ci hy, if_neg (fun w => hne w.2)])
   simp only [C8 h hr hc v ci hc, n63] at this
   by_cases q : v = 111
   ·rw [if_pos ⟨.inl rfl, q⟩]
    simp [q] at this ⊢; omega
   ·rw [if_neg (fun w => q w.2)]
    simp [q] at this ⊢; omega
  ·rw [if_neg (by omega)]
   exact List.countP_congr (fun y hy => by
    have := List.mem_range.1 hy
    rw [C8 h hr hc v ci this, if_neg (fun w => e w.1)])
 ·have ei : i = n + (i - n) := by omega
  have hj : i - n < m := by omega
  generalize i - n = j at ei hj
  subst ei
  rw [q65 hs, q65 h]
  by_cases e : j = c
  ·subst e
   have := q2b (n := n) (fun x => decide (ch (G6 l r j v) x j = 111)) (fun x => decide (ch l x j = 111)) hr (fun x hx hne => by
    show decide (ch (G6 l r j v) x j = 111) = decide (ch l x j = 111)
    rw [C8 h hr hc v hx hj, if_neg (fun w => hne w.1)])
   simp only [C8 h hr hc v hr hj, n63] at this
   by_cases q : v = 111
   ·rw [if_pos ⟨.inr rfl, q⟩]
    simp [q] at this ⊢; omega
   ·rw [if_neg (fun w => q w.2)]
    simp [q] at this ⊢; omega
  ·rw [if_neg (by omega)]
   exact List.countP_congr (fun x hx => by
    have := List.mem_range.1 hx
    rw [C8 h hr hc v this hj, if_neg (fun w => e w.2)])
theorem q8v (N : Nat) : Rng N (fun i => (i : Int)) := fun i hi => by dsimp only; omega
theorem q62 {n m : Nat} {l : List ByteArray} (h : Shp n m l) {i : Nat} (hi : i < n + m) (hq : cQ l i = 1) : K4 n m (M9 l i) = K4 n m l := by
 obtain ⟨r, c, hr, hc, he, ef, hic⟩ := q2k h hi hq
 have he1 := q3y h hi hq
 obtain ⟨A, B, e1, e2, hz⟩ := q5v h hr hc he hic hq (v := evB (cO l i)) (q40 _)
 have hN : ∀ z, z ∈ A ∨ z ∈ B → (z.1 < n + m ∧ z.2 < n + m) ∧ z.1 ≠ i ∧ z.2 ≠ i := fun z w => by have := hz z w; omega
 -- the other line
 have hv : ∃ v, v < n + m ∧ v ≠ i ∧ ((r = i ∧ n + c = v) ∨ (r = v ∧ n + c = i)) := by
  rcases hic with w | w
  ·exact ⟨n + c, by omega, by omega, .inl ⟨w.symm, rfl⟩⟩
  ·exact ⟨r, by omega, by omega, .inr ⟨rfl, w.symm⟩⟩
 obtain ⟨v, hv1, hv2, hab⟩ := hv
 have S0 := q80 (N := n + m) (p := M3 A (fun i => (i : Int))) (q4c A (fun z w => (hN z (.inl w)).1) (q8v _)) hi hv1 (q25 A (fun z w => hN z (.inl w)) (fun j _ hne w => hne (by omega))) hv2 hab
 have S1 := q4g B (fun z w => hN z (.inr w)) S0
 have el : lab l n m = M3 B (X9 (M3 A fun i => (i : Int)) (M3 A (fun i => (i : Int)) r) (M3 A (fun i => (i : Int)) (n + c))) := by unfold lab; rw [e1, q06]; rfl
 have er : lab (M9 l i) n m = M3 B (M3 A fun i => (i : Int)) := by unfold lab; rw [ef, e2, q06]
 rw [← el, ← er] at S1
 have hO' : ∀ j, j < n + m → hO (M9 l i) j = hO l j + if (j = i ∨ j = v) ∧ evB (cO l i) = 111 then 1 else 0 := by
  intro j hj
  unfold hO
  rw [ef, q95 h hr hc he _ hj]
  have : ((j = r ∨ j = n + c) ∧ evB (cO l i) = 111) ↔ ((j = i ∨ j = v) ∧ evB (cO l i) = 111) := by
   rcases hab with ⟨a1, a2⟩ | ⟨a1, a2⟩
   ·rw [a1, a2]
   ·rw [a1, a2]; exact ⟨fun w => ⟨w.1.symm, w.2⟩, fun w => ⟨w.1.symm, w.2⟩⟩
  by_cases q : (j = i ∨ j = v) ∧ evB (cO l i) = 111
  ·rw [if_pos q, if_pos (this.2 q)]; omega
  ·rw [if_neg q, if_neg (fun w => q (this.1 w))]; omega
 have par := q8i (cO l i)
 have ho := q5t S1 hi hv1 hv2 (h := hO l) (h' := hO (M9 l i)) (x := if evB (cO l i) = 111 then 1 else 0) (fun j hj n1 n2 => by rw [hO' j hj, if_neg (by omega)]; omega)
  (by rw [hO' v hv1]; by_cases q : evB (cO l i) = 111 <;> simp [q]) (by rw [hO' i hi]; by_cases q : evB (cO l i) = 111 <;> simp [q])
  (by unfold hO; by_cases q : evB (cO l i) = 111 <;> simp [q] at par ⊢ <;> omega)
 have c1 := (C9 l n m).cnt
 have c2 := (C9 (M9 l i) n m).cnt
 have c3 := S1.cnt
 unfold K4
 by_cases a : (List.range (n + m)).any (fun t => U2 l (grp l n m) (n + m) t) = true
 ·rw [if_pos a, if_pos ((q0h n m (M9 l i)).2 (ho.1 ((q0h n m l).1 a)))]
 ·rw [if_neg a, if_neg (fun w => a ((q0h n m l).2 (ho.2 ((q0h n m (M9 l i)).1 w))))]
  omega
theorem q1v {n m : Nat} {l : List ByteArray} (h : Shp n m l) {l' : List ByteArray} : ∀ (d i : Nat), i + d = n + m → X4 l i d = some l' → K4 n m l' = K4 n m l ∧ (∀ x y, x < n → y < m → ch l x y ≠ 63 → ch l' x y = ch l x y)
 | 0, i, _, hp => by simp [X4] at hp
 | d + 1, i, hd, hp => by
  simp only [X4] at hp
  split at hp
  ·rename_i c
   obtain rfl := Option.some.inj hp
   refine ⟨q62 h (by omega) c, fun x y hx hy hne => ?_⟩
   obtain ⟨r, q, hr, hq, he, ef, _⟩ := q2k h (by omega) c
   rw [ef, C8 h hr hq _ hx hy, if_neg (fun w => hne (by rw [w.1, w.2]; exact he))]
  ·exact q1v h d (i + 1) (by omega) hp
theorem q1o {l : List ByteArray} : ∀ (d i : Nat), X4 l i d = none → ∀ j, i ≤ j → j < i + d → cQ l j ≠ 1
 | 0, i, _, j, _, _ => by omega
 | d + 1, i, hp, j, h1, h2 => by
  simp only [X4] at hp
  split at hp
  ·cases hp
  ·rename_i c
   by_cases e : j = i
   ·rw [e]; exact c
   ·exact q1o d (i + 1) hp j (by omega) (by omega)
theorem q4d {n m n' m' : Nat} {l : List ByteArray} (h : Shp n m l) (h' : Shp n' m' l) : n = n' ∧ m = m' := by
 have e : n = n' := h.ln.symm.trans h'.ln
 refine ⟨e, ?_⟩
 have h0 := h.n2
 have hl := h.ln
 have hm := h.rw_ (l[0]'(by omega)) (List.getElem_mem _)
 have hm' := h'.rw_ (l[0]'(by omega)) (List.getElem_mem _)
 omega
/-- what is peeled -/
structure q6i (n m : Nat) (l r : List ByteArray) : Prop where
 shp : Shp n m r
 bits : K4 n m r = K4 n m l
 keep : ∀ x y, x < n → y < m → ch l x y ≠ 63 → ch r x y = ch l x y
 two : ∀ i, i < n + m → cQ r i ≠ 1
 less : ers r ≤ ers l
 stop : U0 r r
theorem q6q {l r : List ByteArray} (hp : U0 l r) : ∀ {n m : Nat}, Shp n m l → q6i n m l r := by
 induction hp with
 | stop h' hp =>
  intro n m h
  obtain ⟨rfl, rfl⟩ := q4d h h'
  exact ⟨h, rfl, fun _ _ _ _ _ => rfl, fun i hi => q1o _ 0 hp i (by omega) (by omega), Nat.le_refl _, U0.stop h' hp⟩
 | next h' hp hr ih =>
  intro n m h
  obtain ⟨rfl, rfl⟩ := q4d h h'
  obtain ⟨h1, h2⟩ := q0b h _ 0 (by omega) hp
  obtain ⟨b1, b2⟩ := q1v h _ 0 (by omega) hp
  have I := ih h1
  refine ⟨I.shp, I.bits.trans b1, fun x y hx hy hne => ?_, I.two, by have := I.less; omega, I.stop⟩
  have e := b2 x y hx hy hne
  rw [I.keep x y hx hy (by rw [e]; exact hne), e]
theorem q4f (f : Nat → Nat → Bool) (m : Nat) : ∀ n, M4 (fun j => (List.range n).countP fun r => f r j) m = M4 (fun r => (List.range m).countP fun j => f r j) n
 | 0 => by simp [M4]; exact q2v m
 | n + 1 => by
  have e : (fun j => (List.range (n + 1)).countP fun r => f r j) = fun j => (fun j => (List.range n).countP fun r => f r j) j + (if f n j = true then 1 else 0) := by
   funext j
   rw [List.range_succ, List.countP_append, List.countP_singleton]
  rw [e, q45, q4f f m n]
  simp only [M4]
  congr 1
  clear e
  induction m with
  | zero => rfl
  | succ m ih =>
   simp only [M4]
   rw [ih, List.range_succ, List.countP_append, List.countP_singleton]
theorem q0p (f : Nat → Nat) (n : Nat) : ∀ m, M4 f (n + m) = M4 f n + M4 (fun j => f (n + j)) m
 | 0 => rfl
 | m + 1 => by
  rw [← Nat.add_assoc]
  simp only [M4]
  rw [q0p f n m]; omega
theorem L8 {f g : Nat → Nat} : ∀ {n : Nat}, (∀ i, i < n → f i = g i) → M4 f n = M4 g n
 | 0, _ => rfl
 | n + 1, h => by simp only [M4]; rw [L8 (fun i hi => h i (by omega)), h n (by omega)]
theorem q3p {n m : Nat} {l : List ByteArray} (h : Shp n m l) : M4 (cQ l) n = ers l := by
 have key : ∀ (b : List ByteArray), M4 (fun i => cnt (b.getD i ByteArray.empty)) b.length = ers b := by
  intro b
  induction b with
  | nil => rfl
  | cons s b ih =>
   rw [List.length_cons, Nat.add_comm, q0p _ 1 b.length]
   have : (fun j => cnt ((s :: b).getD (1 + j) ByteArray.empty)) = fun i => cnt (b.getD i ByteArray.empty) := by funext j; rw [Nat.add_comm]; rfl
   simp only [this, ih, M4, ers]
   simp
 rw [← key l, h.ln]
 exact L8 (fun i hi => q4e h hi)
theorem q6v {n m : Nat} {l : List ByteArray} (h : Shp n m l) : M4 (cQ l) (n + m) = 2 * ers l := by
 rw [q0p, q3p h]
 have e1 : M4 (fun j => cQ l (n + j)) m = M4 (fun j => (List.range n).countP fun r => decide (ch l r j = 63)) m := L8 (fun j _ => q0e h j)
 have e2 : M4 (cQ l) n = M4 (fun r => (List.range m).countP fun j => decide (ch l r j = 63)) n := L8 (fun r hr => q0g h hr)
 have := q3p h
 rw [e1, q4f (fun r j => decide (ch l r j = 63)), ← e2]; omega
theorem q2o {f : Nat → Nat} : ∀ {N : Nat}, (∀ i, i < N → f i ≠ 1) → 2 * N ≤ M4 f N + 2 * (List.range N).countP fun i => decide (f i = 0)
 | 0, _ => by simp [M4]
 | N + 1, h => by
  have ih := q2o (f := f) (N := N) (fun i hi => h i (by omega))
  have := h N (by omega)
  rw [List.range_succ, List.countP_append, List.countP_singleton]
  simp only [M4]
  by_cases c : f N = 0
  ·simp [c] at ih ⊢; omega
  ·simp [c] at ih ⊢; omega
theorem q5d {u : Nat} : ∀ (L : List (Nat × Nat)) {q : Nat → Int} {N : Nat}, (∀ z, z ∈ L → (z.1 < N ∧ z.2 < N) ∧ z.1 ≠ u ∧ z.2 ≠ u) → (∀ j, j < N → j ≠ u → q j ≠ q u) → U4 L q u = q u
 | [], _, _, _, _ => rfl
 | (a, b) :: L, q, N, hz, h => by
  have hab := hz (a, b) (by simp)
  have ha := h a hab.1.1 hab.2.1
  have hb := h b hab.1.2 hab.2.2
  have e : M0 q (q a) (q b) u = q u := by
   unfold M0
   rw [if_neg (fun w => w.elim (fun w => ha w.symm) (fun w => hb w.symm))]
  simp only [U4]
  refine (q5d (u := u) L (N := N) (fun z hm => hz z (by simp [hm])) (fun j hj hne => ?_)).trans e
  rw [e]
  have hj' := h j hj hne
  unfold M0
  split
  ·rcases Int.lt_or_le (q a) (q b) with z | z
   ·rw [show min (q a) (q b) = q a by omega]; exact ha
   ·rw [show min (q a) (q b) = q b by omega]; exact hb
  ·exact hj'
theorem q1w {n m : Nat} {l : List ByteArray} (h : Shp n m l) {u : Nat} (hu : u < n + m) (h0 : cQ l u = 0) : ∀ z, z ∈ G7 l n m 0 n → (z.1 < n + m ∧ z.2 < n + m) ∧ z.1 ≠ u ∧ z.2 ≠ u := by
 intro z hz
 refine ⟨q57 z hz, ?_⟩
 rw [q1k] at hz
 obtain ⟨y, hy, rfl⟩ := List.mem_map.1 hz
 obtain ⟨h1, h2⟩ := List.mem_filter.1 hy
 have hp := E9.1 h1
 have h2' : ch l y.1 y.2 = 63 := of_decide_eq_true h2
 constructor
 ·intro e
  dsimp only at e
  subst e
  rw [q0g h hp.1] at h0
  exact List.countP_eq_zero.1 h0 y.2 (List.mem_range.2 hp.2) (by simpa using h2')
 ·intro e
  dsimp only at e
  subst e
  rw [q0e h] at h0
  exact List.countP_eq_zero.1 h0 y.1 (List.mem_range.2 hp.1) (by simpa using h2')
theorem q66 {n m : Nat} {l : List ByteArray} (h : Shp n m l) {u : Nat} (hu : u < n + m) (h0 : cQ l u = 0) : grp l n m u = (u : Int) := by
 unfold grp
 exact q5d _ (q1w h hu h0) (fun j _ hne w => hne (by omega))
theorem q4o {n m : Nat} {l : List ByteArray} (h : Shp n m l) {u : Nat} (hu : u < n + m) (h0 : cQ l u = 0) {j : Nat} (hj : j < n + m) (hne : j ≠ u) : grp l n m j ≠ grp l n m u := by
 have hp := q25 (G7 l n m 0 n) (p := fun i => (i : Int)) (q1w h hu h0) (fun j _ hne w => hne (by omega)) j hj hne
 exact fun w => hp (((C9 l n m).same j u hj hu).2 w)
theorem q3c {P Q : Nat → Bool} : ∀ (n : Nat), (∀ i, i < n → P i = true → Q i = true) → (List.range n).countP P ≤ (List.range n).countP Q
 | 0, _ => by simp
 | n + 1, h => by
  have ih := q3c (P := P) (Q := Q) n (fun i hi => h i (by omega))
  have hn := h n (by omega)
  rw [List.range_succ, List.countP_append, List.countP_append, List.countP_singleton, List.countP_singleton]
  by_cases c : P n = true
  ·rw [if_pos c, if_pos (hn c)]; omega
  ·rw [if_neg c]; omega
theorem q7x {n m : Nat} {l : List ByteArray} (h : Shp n m l) (h2 : ∀ i, i < n + m → cQ l i ≠ 1) (he : ers l ≠ 0) : K4 n m l = -1 ∨ 1 ≤ K4 n m l := by
 have hne : ¬ ∀ i, i < n + m → cQ l i = 0 := fun w => he ((q1y h).2 w)
 have ⟨u, hu, hu0⟩ : ∃ u, u < n + m ∧ cQ l u ≠ 0 := Classical.byContradiction fun w => hne fun i hi => Classical.byContradiction fun z => w ⟨i, hi, z⟩
 have hc := C9 l n m
 have hb := hc.qb u hu
 have hqq := hc.qq u hu
 have ht : (grp l n m u).toNat < n + m := by omega
 have hfix : grp l n m (grp l n m u).toNat = (((grp l n m u).toNat : Nat) : Int) := by rw [hqq]; omega
 have hnz : cQ l (grp l n m u).toNat ≠ 0 := by
  intro w
  by_cases e : u = (grp l n m u).toNat
  ·exact hu0 (by rw [e]; exact w)
  ·exact q4o h ht w hu e hqq.symm
 generalize (grp l n m u).toNat = t at ht hfix hnz
 have k1 := M6 (P := fun (i : Nat) => decide (grp l n m i = (i : Int))) t (n + m) ht (decide_eq_true hfix)
 have k2 : (List.range (n + m)).countP (fun i => decide (cQ l i = 0)) ≤ (List.range (n + m)).countP (fun (i : Nat) => decide (grp l n m i = (i : Int)) && !(i == t)) := q3c _ (fun i hi q => by
  have q' : cQ l i = 0 := of_decide_eq_true q
  have e1 := q66 h hi q'
  have e2 : ¬ i = t := fun w => hnz (w ▸ q')
  simp [e1, e2])
 have k3 := q2o h2
 rw [q6v h] at k3
 unfold K4 O5
 split
 ·exact .inl rfl
 ·right; omega
theorem q5k : ∀ {l : List ByteArray} {n m : Nat}, G7 l n m 0 n = [] → grp l n m = fun (i : Nat) => (i : Int) := by
 intro l n m h
 unfold grp; rw [h]; rfl
theorem q5o : ∀ {l : List ByteArray} {n m : Nat}, G7 l n m 0 n = [] → lab l n m = fun (i : Nat) => (i : Int) := by
 intro l n m h
 unfold lab; rw [h]; rfl
theorem q86 (N : Nat) : O5 N (fun i => (i : Int)) = N := by
 unfold O5
 simp
theorem q3b {n m : Nat} {l : List ByteArray} (h : Shp n m l) (he : ers l = 0) : (K4 n m l = -1 ∨ K4 n m l = 0) ∧ (K4 n m l = 0 → q1n n m l = true) := by
 have ha : G7 l n m 0 n = [] := List.eq_nil_of_length_eq_zero (by rw [q1l h]; exact he)
 have hf : O5 (n + m) (grp l n m) = n + m := by rw [q5k ha]; exact q86 _
 have key : (List.range (n + m)).any (fun t => U2 l (grp l n m) (n + m) t) = true ↔ ∃ i, i < n + m ∧ cO l i % 2 = 1 := by
  rw [q0h, q5o ha]
  unfold q0u
  have : ∀ z, z < n + m → Z9 (fun i => (i : Int)) (hO l) (z : Int) (n + m) = hO l z := fun z hz => by
   have := q0t (N := n + m) (u := z) (q := fun i => (i : Int)) (fun j _ hne w => hne (by omega)) (hO l) (n + m) (Nat.le_refl _)
   rw [if_pos hz] at this; exact this
  constructor
  ·rintro ⟨z, hz, e⟩
   rw [this z hz] at e
   exact ⟨z, hz, by unfold hO at e; omega⟩
  ·rintro ⟨z, hz, e⟩
   exact ⟨z, hz, by rw [this z hz]; unfold hO; omega⟩
 unfold K4
 rw [hf, he]
 by_cases c : (List.range (n + m)).any (fun t => U2 l (grp l n m) (n + m) t) = true
 ·rw [if_pos c]; exact ⟨.inl rfl, fun w => by omega⟩
 ·rw [if_neg c]
  refine ⟨.inr (by omega), fun _ => (q1f h).2 ⟨fun i hi => ?_, he⟩⟩
  unfold par
  have : ¬ cO l i % 2 = 1 := fun w => c (key.2 ⟨i, hi, w⟩)
  omega
theorem q4n {n m : Nat} {l : List ByteArray} (h : Shp n m l) (h2 : ∀ i, i < n + m → cQ l i ≠ 1) (he : ers l ≠ 0) : 4 ≤ ers l := by
 have hne : ¬ ∀ i, i < n + m → cQ l i = 0 := fun w => he ((q1y h).2 w)
 have two : ∀ {N : Nat} {f : Nat → Bool} {a : Nat}, a < N → f a = true → (List.range N).countP f ≠ 1 → ∃ b, b < N ∧ b ≠ a ∧ f b = true := by
  intro N f a ha fa hn
  have k := M6 (P := f) a N ha fa
  have z : (List.range N).countP (fun t => f t && !(t == a)) ≠ 0 := by omega
  obtain ⟨b, hb, fb⟩ := List.countP_pos_iff.1 (Nat.pos_of_ne_zero z)
  rw [Bool.and_eq_true] at fb
  exact ⟨b, List.mem_range.1 hb, by simpa using fb.2, fb.1⟩
 have rowN : ∀ {x y : Nat}, x < n → y < m → ch l x y = 63 → ∃ y', y' < m ∧ y' ≠ y ∧ ch l x y' = 63 := by
  intro x y hx hy e
  have q := h2 x (by omega)
  rw [q0g h hx] at q
  obtain ⟨b, h1, h2, h3⟩ := two (f := fun c => decide (ch l x c = 63)) hy (by simpa using e) q
  exact ⟨b, h1, h2, by simpa using h3⟩
 have colN : ∀ {x y : Nat}, x < n → y < m → ch l x y = 63 → ∃ x', x' < n ∧ x' ≠ x ∧ ch l x' y = 63 := by
  intro x y hx hy e
  have q := h2 (n + y) (by omega)
  rw [q0e h] at q
  obtain ⟨b, h1, h2, h3⟩ := two (f := fun c => decide (ch l c y = 63)) hx (by simpa using e) q
  exact ⟨b, h1, h2, by simpa using h3⟩
 have pos : ∃ x y, x < n ∧ y < m ∧ ch l x y = 63 := by
  have ⟨z, hz⟩ := List.exists_mem_of_length_pos (l := G7 l n m 0 n) (by rw [q1l h]; omega)
  rw [q1k] at hz
  obtain ⟨y, hy, _⟩ := List.mem_map.1 hz
  obtain ⟨h1, h2⟩ := List.mem_filter.1 hy
  have hp := E9.1 h1
  exact ⟨y.1, y.2, hp.1, hp.2, of_decide_eq_true h2⟩
 obtain ⟨x, y, hx, hy, e⟩ := pos
 obtain ⟨y', hy', ny, e'⟩ := rowN hx hy e
 obtain ⟨x1, hx1, nx1, e1⟩ := colN hx hy e
 have nz : ∀ {a b : Nat}, a < n → b < m → ch l a b = 63 → cQ l a ≠ 0 ∧ cQ l (n + b) ≠ 0 := by
  intro a b ha hb q
  refine ⟨fun w => ?_, fun w => ?_⟩
  ·rw [q0g h ha] at w
   exact List.countP_eq_zero.1 w b (List.mem_range.2 hb) (by simpa using q)
  ·rw [q0e h] at w
   exact List.countP_eq_zero.1 w a (List.mem_range.2 ha) (by simpa using q)
 have q1 := nz hx hy e
 have q2 := nz hx hy' e'
 have q3 := nz hx1 hy e1
 have k3 := q2o h2
 rw [q6v h] at k3
 have k1 := M6 (P := fun i => !decide (cQ l i = 0)) x (n + m) (by omega) (by simpa using q1.1)
 have k2 := M6 (P := fun i => !decide (cQ l i = 0) && !(i == x)) x1 (n + m) (by omega) (by simpa using ⟨q3.1, nx1⟩)
 have k4 := M6 (P := fun i => (!decide (cQ l i = 0) && !(i == x)) && !(i == x1)) (n + y) (n + m) (by omega) (by simp; exact ⟨⟨q1.2, by omega⟩, by omega⟩)
 have k5 := M6 (P := fun i => ((!decide (cQ l i = 0) && !(i == x)) && !(i == x1)) && !(i == n + y)) (n + y') (n + m) (by omega) (by simp; exact ⟨⟨⟨q2.2, by omega⟩, by omega⟩, by omega⟩)
 have k6 : (List.range (n + m)).countP (fun i => decide (cQ l i = 0)) + (List.range (n + m)).countP (fun i => !decide (cQ l i = 0)) = n + m := by
  have := List.length_eq_countP_add_countP (l := List.range (n + m)) (fun i => decide (cQ l i = 0))
  rw [List.length_range] at this
  have e : (List.range (n + m)).countP (fun i => !decide (cQ l i = 0)) = (List.range (n + m)).countP (fun i => decide ¬decide (cQ l i = 0) = true) := List.countP_congr (fun i _ => by simp)
  omega
 omega
theorem q4k {l r : List ByteArray} (hp : U0 l r) : good l = true → good r = true := by
 induction hp with
 | stop h' hp => exact fun g => g
 | next h' hp hr ih =>
  rename_i n m l0 l1 r0
  intro g
  refine ih ?_
  have key : ∀ (d i : Nat), i + d = n + m → X4 l0 i d = some l1 → good l1 = true := by
   intro d
   induction d with
   | zero => intro i _ hp; simp [X4] at hp
   | succ d ihd =>
    intro i hd hp
    simp only [X4] at hp
    split at hp
    ·rename_i c
     obtain rfl := Option.some.inj hp
     obtain ⟨a, b, ha, hb, _, ef, _⟩ := q2k h' (by omega) c
     rw [ef]
     have hs := U9 h' ha b (evB (cO l0 i))
     obtain ⟨z1, z2⟩ := q2d hs
     obtain ⟨y1, y2⟩ := q2d h'
     have hn := hs.n2; have hm := hs.m2
     have g0 := U8.1 g
     refine U8.2 ⟨by omega, by omega, List.all_eq_true.2 fun s hs' => ?_⟩
     rcases List.mem_or_eq_of_mem_set hs' with w | w
     ·have := List.all_eq_true.1 g0.2.2 s w
      rw [y2] at this; rw [z2]; exact this
     ·have hrow := G8 h' ha
      unfold rowOk
      rw [z2, w, Bool.and_eq_true, decide_eq_true_eq]
      refine ⟨by rw [N8, List.length_set, hrow], ?_⟩
      rw [R8]
      refine List.all_eq_true.2 fun q hq => ?_
      rcases List.mem_or_eq_of_mem_set hq with u | u
      ·have hin : l0.getD a ByteArray.empty ∈ l0 := by rw [getD_in _ (by omega)]; exact List.getElem_mem _
       have := List.all_eq_true.1 g0.2.2 _ hin
       unfold rowOk at this
       rw [Bool.and_eq_true] at this
       exact List.all_eq_true.1 this.2 q u
      ·rw [u]; unfold evB chr; split <;> decide
    ·exact ihd (i + 1) (by omega) hp
  exact key _ 0 (by omega) hp
def dbR (n m : Nat) (l : List ByteArray) : Int × Bool := if K4 n m l < 0 then (0, false) else (K4 n m l, true)
theorem q1b {l : List ByteArray} (hl : l.length ≤ 1048576) (hb : ∀ s, s ∈ l → s.size ≤ 1048576) (g : good l = true) : Ev (fun k => Y3.f k l) (dbR l.length (sz0 l) l) := by
 unfold Y3.f dbR
 have h := O1 g
 exact Ev.bind (R9 hl hb) (y5 g (Ev.bind (F9 h) (E8 (fun _ => Ev.now _) (fun _ => Ev.bind (F9 h) (Ev.now _)))))
theorem q0y {l : List ByteArray} (hl : l.length ≤ 1048576) (hb : ∀ s, s ∈ l → s.size ≤ 1048576) (g : good l = true) : Ev (fun k => Y6.f k l) (dbR l.length (sz0 l) l) := by
 unfold Y6.f dbR
 have h := O1 g
 exact Ev.bind (N9 hl hb) (y5 g (Ev.bind (q0a h) (E8 (fun _ => Ev.now _) (fun _ => Ev.now _))))
theorem q21 {l : List ByteArray} (h : U6 l) : l.length ≤ 1048576 ∧ ∀ s, s ∈ l → s.size ≤ 1048576 := ⟨by have := h.1; omega, fun s hs => by have := h.2 s hs; omega⟩
section
variable {D r : List ByteArray} {n m : Nat} (h : Shp n m D) (P : q6i n m D r) (gr : good r = true)
include h P gr
theorem q5m : r.length ≤ 1048576 ∧ ∀ s, s ∈ r → s.size ≤ 1048576 := q21 (q2y P.shp)
theorem q89 : dbR r.length (sz0 r) r = dbR n m D := by
 obtain ⟨e1, e2⟩ := q2d P.shp
 unfold dbR; rw [e1, e2, P.bits]
theorem q4x (hb : ¬ K4 n m D < 0) : (K4 n m D = 0 ↔ ers r = 0) := by
 rw [← P.bits] at hb ⊢
 constructor
 ·intro z
  refine Classical.byContradiction fun w => ?_
  rcases q7x P.shp P.two w with q | q <;> omega
 ·intro z
  rcases (q3b P.shp z).1 with q | q <;> omega
theorem q8m (hb : K4 n m D = 0) : icR r = (true, true) := by
 have he : ers r = 0 := (q4x h P gr (by omega)).1 hb
 have cd := (q3b P.shp he).2 (by rw [P.bits]; exact hb)
 have hp := (q1f P.shp).1 cd
 exact q8p P.shp (q75 gr he) hp.1
theorem q9b (ok : Bool) (d : List ByteArray) (hok : ok = decide (K4 n m D = 0)) (hd : ok = true → d = r) : Ev (fun k => laws_FnErasures.j6 k d ok d r) true := by
 refine Ev.step (fun k => laws_FnErasures.j6.eq_2 ..) (J7 (fun c => ?_) (fun _ => Ev.now _))
 have hb : K4 n m D = 0 := of_decide_eq_true (hok ▸ c)
 have hdr := hd c
 subst hdr
 obtain ⟨s1, s2⟩ := q5m h P gr
 have hi := q6t s1 s2
 rw [q8m h P gr hb] at hi
 exact Ev.bind hi (y5 rfl (y5 rfl (Ev.bind (q03 s1) (Ev.now _))))
theorem q9r (ok : Bool) (d : List ByteArray) (hok : ok = decide (K4 n m D = 0)) (hd : ok = true → d = r) : ∀ (e i : Nat), i + e = n → Ev (fun k => laws_FnErasures.l1 k D d ok d (dbR n m D).2 (dbR n m D).1 r r (ers r : Int) r (n : Int) (i : Int)) true := by
 have hn := h.n2; have hm := h.m2; have hl := h.ln; have hrl := P.shp.ln
 obtain ⟨s1, s2⟩ := q5m h P gr
 intro e
 induction e with
 | zero =>
  intro i hi
  have j6 := q9b h P gr ok d hok hd
  refine Ev.step (fun k => laws_FnErasures.l1.eq_2 ..) (z8 (by omega) ?_)
  have d1 := q0y s1 s2 gr
  have d2 := q1b s1 s2 gr
  rw [q89 h P gr] at d1 d2
  by_cases c : K4 n m D < 0
  ·have e1 : dbR n m D = (0, false) := by unfold dbR; rw [if_pos c]
   rw [e1]; exact z8 (by simp) j6
  ·have e1 : dbR n m D = (K4 n m D, true) := by unfold dbR; rw [if_neg c]
   rw [e1] at d1 d2 ⊢
   have z := q4x h P gr c
   refine y5 rfl (Ev.bind d1 (Ev.bind d2 (y5 rfl (y5 rfl (y5 rfl (y5 rfl (z8 ?_ j6)))))))
   have : (K4 n m D == 0) = ((ers r : Int) == 0) := by
    rw [Bool.eq_iff_iff, beq_iff_eq, beq_iff_eq, z]; omega
   rw [this]; simp
 | succ e ih =>
  intro i hi
  have e1 : wrap64 ((i : Int) + 1) = ((i + 1 : Nat) : Int) := by rw [Q5 (by omega) (by omega)]; omega
  have next := ih (i + 1) (by omega)
  have hi1 : i < n := by omega
  have hrow : (rdOf ByteArray.empty r (i : Int)).size = m := by rw [← G8 P.shp (show i < n by omega), Z8]; rfl
  have hrowD : (rdOf ByteArray.empty D (i : Int)).size = m := by rw [← G8 h (show i < n by omega), Z8]; rfl
  refine Ev.step (fun k => laws_FnErasures.l1.eq_2 ..) (y5 (by omega) (y5 (by omega) (y5 (by omega) ?_)))
  have go : ∀ (f j : Nat), j + f = m → Ev (fun k => laws_FnErasures.l2 k D d ok d (dbR n m D).2 (dbR n m D).1 r r (ers r : Int) (i : Int) (rdOf ByteArray.empty r (i : Int)) (j : Int) r (n : Int) (i : Int)) true := by
   intro f
   induction f with
   | zero =>
    intro j hj
    refine Ev.step (fun k => laws_FnErasures.l2.eq_2 ..) (z8 (by omega) ?_)
    rw [e1]; exact next
   | succ f ihf =>
    intro j hj
    have e2 : wrap64 ((j : Int) + 1) = ((j + 1 : Nat) : Int) := by rw [Q5 (by omega) (by omega)]; omega
    have k1 : (j : Int) < ((rdOf ByteArray.empty r (i : Int)).size : Int) := by rw [hrow]; omega
    have k2 : (0 : Int) ≤ (i : Int) := Int.natCast_nonneg i
    have k3 : (i : Int) < (D.length : Int) := by rw [hl]; exact Int.ofNat_lt.2 hi1
    have k4 : (0 : Int) ≤ (j : Int) := Int.natCast_nonneg j
    have k5 : (j : Int) < ((rdOf ByteArray.empty D (i : Int)).size : Int) := by rw [hrowD]; omega
    refine Ev.step (fun k => laws_FnErasures.l2.eq_2 ..) (y5 k1 (y5 k2 (y5 k3 (y5 k4 (y5 k5 ?_)))))
    rw [q8t h (show i < n by omega) (show j < m by omega), q8t P.shp (show i < n by omega) (show j < m by omega), e2]
    refine J7 (fun _ => ihf (j + 1) (by omega)) (fun c => y5 ?_ (ihf (j + 1) (by omega)))
    have hne : ch D i j ≠ 63 := fun w => c ((u63 _).2 w)
    rw [P.keep i j (by omega) (by omega) hne]
  exact go m 0 (by omega)
theorem q85 (ok : Bool) (d : List ByteArray) (hok : ok = decide (K4 n m D = 0)) (hd : ok = true → d = r) : Ev (fun k => laws_FnErasures.j2 k D d ok d (dbR n m D).2 (dbR n m D).1 r true r (ers D : Int)) true := by
 obtain ⟨s1, s2⟩ := q5m h P gr
 have hrl := P.shp.ln
 have l1 := q9r h P gr ok d hok hd n 0 (by omega)
 have j3 : ∀ b : Bool, b = false → Ev (fun k => laws_FnErasures.j3 k D d ok d (dbR n m D).2 (dbR n m D).1 r r (ers r : Int) b) true := by
  intro b hb
  subst hb
  refine Ev.step (fun k => laws_FnErasures.j3.eq_2 ..) (z8 (by simp) ?_)
  rw [hrl]; exact l1
 have ce : U3 r = ((ers r : Int), true) := by unfold U3; rw [if_pos gr]
 have c1 := q2w s1 s2
 have c2 := q2t s1 s2
 rw [ce] at c1 c2
 have pl : Ev (fun k => Y8.f k r) (r, true) := by
  unfold Y8.f
  exact Ev.bind (N9 s1 s2) (y5 gr (Ev.bind (q0d s1 P.stop) (Ev.now _)))
 have less := P.less
 refine Ev.step (fun k => laws_FnErasures.j2.eq_2 ..) (y5 rfl (Ev.bind c1 (Ev.bind c2 (Ev.bind pl (y5 rfl (y5 rfl (y5 rfl (z8 (by dsimp only; omega) (y5 rfl (Ev.bind (q03 s1) (y5 rfl (J7 (fun c => j3 _ ?_) (fun _ => j3 _ rfl)))))))))))))
 refine decide_eq_false fun w => ?_
 have w' : (ers r : Int) > 0 := w
 have := q4n P.shp P.two (by omega)
 omega
end
theorem q7y {D : List ByteArray} (hs : U6 D) : ∃ (dc : List ByteArray × Bool) (db : Int × Bool) (pl : List ByteArray × Bool), Ev (fun k => Z0.f k D) dc ∧ Ev (fun k => Z5.f k D) dc ∧ Ev (fun k => Y6.f k D) db ∧ Ev (fun k => Y3.f k D) db ∧
  Ev (fun k => Y8.f k D) pl ∧ Ev (fun k => K8.f k D) pl ∧ (dc.1.length ≤ 12 ∧ pl.1.length ≤ 12) ∧ (U3 D).2 = pl.2 ∧ (db.2 = true → dc.2 = (db.1 == 0)) ∧ (¬ db.2 = true → dc.2 = false) ∧
  Ev (fun k => laws_FnErasures.j2 k D dc.1 dc.2 dc.1 db.2 db.1 pl.1 pl.2 pl.1 (U3 D).1) true := by
 obtain ⟨hl, hb⟩ := q21 hs
 by_cases g : good D = true
 ·have h := O1 g
  obtain ⟨r, hr, hsr⟩ := q2x (ers D) h rfl
  have P := q6q hr h
  have gr := q4k hr g
  have hn := hsr.ln; have hn2 := hsr.n2
  have ce : U3 D = ((ers D : Int), true) := by unfold U3; rw [if_pos g]
  have p1 : Ev (fun k => Y8.f k D) (r, true) := by
   unfold Y8.f
   exact Ev.bind (N9 hl hb) (y5 g (Ev.bind (q0d hl hr) (Ev.now _)))
  have p2 : Ev (fun k => K8.f k D) (r, true) := by
   unfold K8.f
   exact Ev.bind (R9 hl hb) (y5 g (Ev.bind (q1u hl hr) (Ev.now _)))
  by_cases z : K4 D.length (sz0 D) D = 0
  ·have d1 : Ev (fun k => Z0.f k D) (r, true) := by
    unfold Z0.f
    exact Ev.bind (N9 hl hb) (y5 g (Ev.bind (q0a h) (y5 z (Ev.bind (q0d hl hr) (Ev.now _)))))
   have d2 : Ev (fun k => Z5.f k D) (r, true) := by
    unfold Z5.f
    exact Ev.bind (R9 hl hb) (y5 g (Ev.bind (F9 h) (y5 z (Ev.bind (q1u hl hr) (Ev.now _)))))
   have eb : dbR D.length (sz0 D) D = (K4 D.length (sz0 D) D, true) := by unfold dbR; rw [if_neg (by omega)]
   refine ⟨(r, true), dbR D.length (sz0 D) D, (r, true), d1, d2, q0y hl hb g, q1b hl hb g, p1, p2, ⟨by dsimp only; omega, by dsimp only; omega⟩, by rw [ce], fun _ => ?_, fun w => absurd (by rw [eb]) w, ?_⟩
   ·rw [eb]; simp [z]
   ·rw [ce]; exact q85 h P gr true r (decide_eq_true z).symm (fun _ => rfl)
  ·have d1 : Ev (fun k => Z0.f k D) ([], false) := by
    unfold Z0.f
    exact Ev.bind (N9 hl hb) (y5 g (Ev.bind (q0a h) (z8 z (Ev.now _))))
   have d2 : Ev (fun k => Z5.f k D) ([], false) := by
    unfold Z5.f
    exact Ev.bind (R9 hl hb) (y5 g (Ev.bind (F9 h) (z8 z (Ev.now _))))
   refine ⟨([], false), dbR D.length (sz0 D) D, (r, true), d1, d2, q0y hl hb g, q1b hl hb g, p1, p2, ⟨by simp, by dsimp only; omega⟩, by rw [ce], fun w => ?_, fun _ => rfl, ?_⟩
   ·unfold dbR at w ⊢
    split at w
    ·simp at w
    ·rename_i c; rw [if_neg c]; simpa using z
   ·rw [ce]; exact q85 h P gr false [] (decide_eq_false z).symm (fun w => by simp at w)
 ·have ce : U3 D = (0, false) := by unfold U3; rw [if_neg g]
  have no : ∀ {α : Type} {f : Nat → Option α} {a : α}, Ev (fun _ => some a) a := fun {_ _ a} => Ev.now a
  clear no
  refine ⟨([], false), (0, false), ([], false), ?_, ?_, ?_, ?_, ?_, ?_, ⟨by simp, by simp⟩, by rw [ce], fun w => by simp at w, fun _ => rfl, ?_⟩
  ·unfold Z0.f; exact Ev.bind (N9 hl hb) (z8 g (Ev.now _))
  ·unfold Z5.f; exact Ev.bind (R9 hl hb) (z8 g (Ev.now _))
  ·unfold Y6.f; exact Ev.bind (N9 hl hb) (z8 g (Ev.now _))
  ·unfold Y3.f; exact Ev.bind (R9 hl hb) (z8 g (Ev.now _))
  ·unfold Y8.f; exact Ev.bind (N9 hl hb) (z8 g (Ev.now _))
  ·unfold K8.f; exact Ev.bind (R9 hl hb) (z8 g (Ev.now _))
  ·exact Ev.step (fun k => laws_FnErasures.j2.eq_2 ..) (z8 (by simp) (Ev.now _))
theorem q9m {D d d' p p' : List ByteArray} {ok one three : Bool} {bits er : Int} (hj : Ev (fun k => laws_FnErasures.j2 k D d ok d' one bits p three p' er) true) {A : List ByteArray} (hl : A.length ≤ 1048576) (hb : ∀ s, s ∈ A → s.size ≤ 1048576) {c e : Int} (h : S9 A c e = true) (he : e ≤ 10) {x28 x29 : Int} {F : Int → Int}
  (hF : ∀ j, feR A c e j = if 0 ≤ j ∧ j < e then (F j, true) else (0, false)) (h28 : x29 = F x28) (hbest : ∀ j, 0 ≤ j → j < e → x29 ≤ F j ∧ (j < x28 → x29 < F j)) : ∀ (z i : Nat), (i : Int) + (z : Int) = e →
  Ev (fun k => laws_FnErasures.l0 k D d ok d' one bits p three p' er A c e x28 x29 (i : Int)) true := by
 intro z
 induction z with
 | zero =>
  intro i hi
  exact Ev.step (fun k => laws_FnErasures.l0.eq_2 ..) (z8 (by omega) hj)
 | succ z ih =>
  intro i hi
  have next := ih (i + 1) (by omega)
  have e1 : wrap64 ((i : Int) + 1) = ((i + 1 : Nat) : Int) := by rw [Q5 (by omega) (by omega)]; omega
  have i0 : (0 : Int) ≤ (i : Int) := Int.natCast_nonneg i
  have ie : (i : Int) < e := by omega
  have fe : feR A c e (i : Int) = (F (i : Int), true) := by rw [hF, if_pos ⟨i0, ie⟩]
  have f1 := q2f hl hb (c := c) (e := e) (f := (i : Int))
  have f2 := q2h hl hb (c := c) (e := e) (f := (i : Int)) ⟨by omega, by omega⟩
  rw [fe] at f1 f2
  obtain ⟨k1, k2⟩ := hbest (i : Int) i0 ie
  have n1 : ¬ F (i : Int) < x29 := by omega
  refine Ev.step (fun k => laws_FnErasures.l0.eq_2 ..) (y5 ie (Ev.bind f1 (Ev.bind f2 (y5 rfl (y5 rfl (y5 rfl (z8 n1 ?_)))))))
  rw [e1]
  refine J7 (fun c1 => z8 (fun w => ?_) (J7 (fun _ => next) (fun _ => next))) (fun c1 => z8 (fun w => ?_) next)
  ·have c1' : F (i : Int) = x29 := c1
   have := k2 w
   omega
  ·have c1' : ¬ F (i : Int) = x29 := c1
   rw [w] at c1'; exact c1' h28.symm
theorem FnErasures (l0 l1 : List Int) (w0 : Opn.Lst Opn.Byte l0) (w1 : Opn.Lst Opn.Byte l1) : ∃ k, laws_FnErasures.f k l0 l1 = some true := by
 refine Ev.rounds (g := fun k => laws_FnErasures.f k l0 l1) ?_
 unfold laws_FnErasures.f
 refine J7 (fun _ => Ev.now _) (fun _ => ?_)
 obtain ⟨D, hD, hs⟩ := q3g (l := l0) w0.2
 obtain ⟨dc, db, pl, d1, d2, b1, b2, p1, p2, ⟨q1, q2⟩, hce, hok, hno, hj⟩ := q7y hs
 obtain ⟨hl, hb⟩ := q21 hs
 obtain ⟨A, c, e, hA, sA, he⟩ := q4q (l := l1) w1.2
 obtain ⟨B, c2, e2, f2, hB, sB, he2⟩ := q4r (l := l1) w1.2
 have al : A.length ≤ 1048576 := by have := sA.1; omega
 have ab : ∀ s, s ∈ A → s.size ≤ 1048576 := fun s h => by have := sA.2 s h; omega
 have bl' : B.length ≤ 1048576 := by have := sB.1; omega
 have bb : ∀ s, s ∈ B → s.size ≤ 1048576 := fun s h => by have := sB.2 s h; omega
 have j0 : ∀ z : Bool, z = false → Ev (fun k => laws_FnErasures.j0 k D dc.1 dc.2 dc.1 db.2 db.1 pl.1 pl.2 pl.1 (U3 D).1 A c e (bfR A c e).2.2 (bfR A c e).1 (bfR A c e).2.1 z) true := by
  intro z hz
  subst hz
  refine Ev.step (fun k => laws_FnErasures.j0.eq_2 ..) (z8 (by simp) ?_)
  by_cases h : S9 A c e = true
  ·have eb : bfR A c e = ((bst (fun f => D6 c.toNat e f A 0) (e.toNat - 1)).1, (bst (fun f => D6 c.toNat e f A 0) (e.toNat - 1)).2, true) := by unfold bfR; rw [if_pos h]
   rw [eb]
   obtain ⟨g, hc, he'⟩ := F4.1 h
   have hbk := q4b (fun f => D6 c.toNat e f A 0) (e.toNat - 1)
   have hF : ∀ j, feR A c e j = if 0 ≤ j ∧ j < e then (D6 c.toNat e j A 0, true) else (0, false) := fun j => by unfold feR; rw [if_pos h]
   have he1 : ((e.toNat - 1 : Nat) : Int) = e - 1 := by clear hbk eb hF; omega
   have he2 : ((0 : Nat) : Int) + ((e.toNat : Nat) : Int) = e := by clear hbk eb hF; omega
   rw [he1] at hbk
   generalize bst (fun f => D6 c.toNat e f A 0) (e.toNat - 1) = M at hbk ⊢
   obtain ⟨b1, b2, b3⟩ := hbk
   exact y5 rfl (q9m hj al ab h he'.2 hF b2 (fun j j0 j1 => b3 j j0 (by omega)) e.toNat 0 he2)
  ·have eb : bfR A c e = (0, 0, false) := by unfold bfR; rw [if_neg h]
   rw [eb]
   exact z8 (by simp) hj
 refine Ev.bind hD (Ev.bind d1 (Ev.bind d2 (Ev.bind b1 (Ev.bind b2 (Ev.bind p1 (Ev.bind p2 (Ev.bind (q2w hl hb) (Ev.bind (q2t hl hb) (Ev.bind hA (Ev.bind (q6n al ab c e) (Ev.bind (q6w al ab c e) (Ev.bind hB (Ev.bind (q2f bl' bb) (Ev.bind (q2h (c := c2) (e := e2) (f := f2) bl' bb ⟨by omega, by omega⟩) ?_))))))))))))))
 refine z8 (by simp) (Ev.bind (q03 (l := dc.1) (by omega)) (y5 rfl (z8 (by simp) (y5 rfl (z8 (by simp) (Ev.bind (q03 (l := pl.1) (by omega)) (y5 rfl (z8 (by simp) (y5 rfl (z8 (by simp) (y5 rfl (y5 rfl (z8 (by simp) (y5 rfl (z8 (by rw [hce]; simp) (J7 (fun w => j0 _ ?_) (fun w => j0 _ ?_)))))))))))))))))
 ·rw [hok w]; simp
 ·rw [hno w]; rfl
end Go.Proofs.Ytjdkdbeenggfaaa.Pure
