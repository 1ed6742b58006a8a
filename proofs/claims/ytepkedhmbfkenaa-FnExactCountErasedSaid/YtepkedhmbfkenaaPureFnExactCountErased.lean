/- The program's CountErased returns what the reference's returns, for all arguments.: the plain part: what the program computes and what the reference computes agree, for all arguments. No conditions beyond the arguments' own kinds. -/
import Derived.Test.YtepkedhmbfkenaaPCex0
import Derived.Test.YtepkedhmbfkenaaPCex1
import Derived.Test.YtepkedhmbfkenaaPCex2
import Derived.Test.YtepkedhmbfkenaaPCex3
import Derived.Test.YtepkedhmbfkenaaOpn
namespace Go.Proofs.Ytepkedhmbfkenaa.Pure
open Go.RowKit Go.Proofs.Ytepkedhmbfkenaa.PCe Go.Proofs.YtepkedhmbfkenaaW.PrintWords Go.Proofs.YtepkedhmbfkenaaW.PrintLast Go.Proofs.YtepkedhmbfkenaaW.PrintMore
-- ** base
theorem wrapi {x : Int} (h0 : -9223372036854775808 ≤ x) (h1 : x ≤ 9223372036854775807) : wrap64 x = x := by unfold wrap64; omega
theorem evPos {α : Type} {c : Prop} [Decidable c] {g f : Nat → Option α} {r : α} (h : c) (e : Ev g r) : Ev (fun k => if c then g k else f k) r := by
  simp only [if_pos h]; exact e
theorem evNeg {α : Type} {c : Prop} [Decidable c] {g f : Nat → Option α} {r : α} (h : ¬ c) (e : Ev f r) : Ev (fun k => if c then g k else f k) r := by
  simp only [if_neg h]; exact e
theorem evNow {α : Type} {r q : α} (h : r = q) : Ev (fun _ => some r) q := by subst h; exact Ev.now r
theorem evEq {α : Type} {g : Nat → Option α} {r q : α} (h : Ev g r) (e : r = q) : Ev g q := e ▸ h
theorem evIte {α : Type} {c : Prop} [Decidable c] {g f : Nat → Option α} {r q : α} (h : c → Ev g r) (h' : ¬ c → Ev f q) : Ev (fun k => if c then g k else f k) (if c then r else q) := by
  by_cases hc : c
  · simp only [if_pos hc]; exact h hc
  · simp only [if_neg hc]; exact h' hc
theorem evBy {α : Type} {c : Prop} [Decidable c] {g f : Nat → Option α} {r : α} (h : c → Ev g r) (h' : ¬ c → Ev f r) : Ev (fun k => if c then g k else f k) r := by
  by_cases hc : c
  · simp only [if_pos hc]; exact h hc
  · simp only [if_neg hc]; exact h' hc
theorem someF {p : Prop} [Decidable p] (h : ¬ p) : some false = some (decide p) := by rw [decide_eq_false h]
theorem someD {p q : Prop} [Decidable p] [Decidable q] (h : p ↔ q) : some (decide p) = some (decide q) := by rw [decide_eq_decide.mpr h]
theorem decD {p q : Prop} [Decidable p] [Decidable q] (h : p ↔ q) : decide p = decide q := decide_eq_decide.mpr h
theorem rgEnd {α : Type} {l pre : List α} (h : l = pre ++ []) : ¬ ((pre.length : Int) < (l.length : Int)) := by subst h; simp
theorem rgHead {α : Type} {l pre suf : List α} {x : α} (h : l = pre ++ x :: suf) (hl : l.length ≤ 4611686018427387904) (z : α) :
    (pre.length : Int) < (l.length : Int) ∧ (0 : Int) ≤ (pre.length : Int) ∧ wrap64 ((pre.length : Int) + 1) = ((pre ++ [x]).length : Int) ∧ l.getD (pre.length : Int).toNat z = x ∧ l = (pre ++ [x]) ++ suf := by
  subst h
  simp at hl
  refine ⟨by simp; omega, by omega, ?_, by simp, by simp⟩
  rw [wrapi (by omega) (by omega)]; simp
theorem in_eq (a b c : Int) : spec_l1In.f a b c = some (decide (b ≤ a ∧ a ≤ c)) := by
  unfold spec_l1In.f
  split
  · exact someD (by omega)
  · exact someF (by omega)
-- ** lists
theorem setAt {α : Type} (A B : List α) (z v : α) (n : Nat) (h : n = A.length) : (A ++ z :: B).set n v = A ++ v :: B := by subst h; simp
-- ** FnExactCountErased
def bl (s : ByteArray) : List UInt8 := s.data.toList
theorem bl_len (s : ByteArray) : (bl s).length = s.size := by unfold bl ByteArray.size; exact Array.length_toList
theorem bt_mid {s : ByteArray} {pre suf : List UInt8} {b : UInt8} (h : bl s = pre ++ b :: suf) : bt s (pre.length : Int) = (b.toNat : Int) := by
  have hl : pre.length < s.size := by rw [← bl_len, h]; simp
  unfold bt
  rw [dif_pos (by simpa using hl)]
  have : s[pre.length]'hl = b := by
    show s.data[pre.length]'_ = b
    rw [← Array.getElem_toList]
    have e : s.data.toList = pre ++ b :: suf := h
    simp [e]
  simp only [Int.toNat_natCast, this]
def chr (b : UInt8) : Bool := decide (b = 46 ∨ b = 111 ∨ b = 63)
def rowOk (n : Nat) (s : ByteArray) : Bool := decide (s.size = n) && (bl s).all chr
def sz0 (l : List ByteArray) : Nat := (l.getD 0 ByteArray.empty).size
def good (l : List ByteArray) : Bool := decide (2 ≤ l.length ∧ l.length ≤ 12) && (decide (2 ≤ sz0 l ∧ sz0 l ≤ 12) && l.all (rowOk (sz0 l)))
theorem good_iff {l : List ByteArray} : good l = true ↔ (2 ≤ l.length ∧ l.length ≤ 12) ∧ (2 ≤ sz0 l ∧ sz0 l ≤ 12) ∧ l.all (rowOk (sz0 l)) = true := by simp [good]
theorem bt0 : bt (⟨#[46, 111, 63]⟩ : ByteArray) 0 = 46 := by decide
theorem bt1 : bt (⟨#[46, 111, 63]⟩ : ByteArray) 1 = 111 := by decide
theorem bt2 : bt (⟨#[46, 111, 63]⟩ : ByteArray) 2 = 63 := by decide
theorem sz3 : ((⟨#[46, 111, 63]⟩ : ByteArray).size : Int) = 3 := by decide
theorem u8_eq (b : UInt8) (n : Nat) (hn : n < 256) : ((b.toNat : Int) = (n : Int)) ↔ b = UInt8.ofNat n := by
  constructor
  · intro h
    have : b.toNat = n := by omega
    apply UInt8.toNat_inj.1
    rw [this, UInt8.toNat_ofNat']; omega
  · intro h; subst h; rw [UInt8.toNat_ofNat']; omega
theorem chr_iff (b : UInt8) : chr b = true ↔ ((b.toNat : Int) = 46 ∨ (b.toNat : Int) = 111 ∨ (b.toNat : Int) = 63) := by
  unfold chr
  rw [decide_eq_true_eq, show ((46 : Int) = ((46 : Nat) : Int)) from rfl, show ((111 : Int) = ((111 : Nat) : Int)) from rfl, show ((63 : Int) = ((63 : Nat) : Int)) from rfl, u8_eq b 46 (by omega), u8_eq b 111 (by omega), u8_eq b 63 (by omega)]
  rfl
theorem shape_l1 (l : List ByteArray) (s : ByteArray) (hs : s.size ≤ 1048576) (l' : List ByteArray) (n i : Int) (q : Bool) (hq : Ev (fun k => spec_deShape.l0 k l 2 12 ⟨#[46, 111, 63]⟩ l' n (wrap64 (i + 1))) q) : ∀ (suf pre : List UInt8), bl s = pre ++ suf →
    Ev (fun k => spec_deShape.l1 k l 2 12 ⟨#[46, 111, 63]⟩ s (pre.length : Int) l' n i) (suf.all chr && q) := by
  intro suf
  have hsz := bl_len s
  induction suf with
  | nil =>
    intro pre h
    have : pre.length = s.size := by rw [← hsz, h]; simp
    exact Ev.step (fun k => spec_deShape.l1.eq_2 ..) (evNeg (by omega) (evEq hq (by simp)))
  | cons b suf ih =>
    intro pre h
    have hl : pre.length + (suf.length + 1) = s.size := by rw [← hsz, h]; simp
    have hb := bt_mid h
    have ih' := ih (pre ++ [b]) (by rw [h]; simp)
    have e : wrap64 ((pre.length : Int) + 1) = ((pre ++ [b]).length : Int) := by rw [wrapi (by omega) (by omega)]; simp
    have hc := chr_iff b
    refine Ev.step (fun k => spec_deShape.l1.eq_2 ..) (evPos (by omega) ?_)
    have fin : ∀ (f : Bool), f = chr b → Ev (fun k => spec_deShape.l2 k l 2 12 ⟨#[46, 111, 63]⟩ s (pre.length : Int) f 3 l' n i) ((b :: suf).all chr && q) := by
      intro f hf
      refine Ev.step (fun k => spec_deShape.l2.eq_2 ..) (evNeg (by rw [sz3]; omega) ?_)
      rw [List.all_cons, ← hf]
      cases f with
      | true => exact evPos rfl (by rw [e]; simpa using ih')
      | false => exact evNeg (by simp) (evNow (by simp))
    have s2 : ∀ (f : Bool), (f = true ↔ ((b.toNat : Int) = 46 ∨ (b.toNat : Int) = 111)) → Ev (fun k => spec_deShape.l2 k l 2 12 ⟨#[46, 111, 63]⟩ s (pre.length : Int) f 2 l' n i) ((b :: suf).all chr && q) := by
      intro f hf
      refine Ev.step (fun k => spec_deShape.l2.eq_2 ..) ?_
      rw [show wrap64 (2 + 1) = 3 by unfold wrap64; omega]
      refine (evPos (by rw [sz3]; omega) (evBy (fun c => fin true ?_) (fun c => evPos (by omega) (evPos (by omega) (evPos (by omega) ?_)))))
      · exact (hc.2 (by have := hf.1 c; omega)).symm
      · rw [hb, bt2]
        refine fin _ ?_
        rw [Bool.eq_iff_iff, hc, beq_iff_eq]
        have : ¬ ((b.toNat : Int) = 46 ∨ (b.toNat : Int) = 111) := fun z => c (hf.2 z)
        omega
    have s1 : ∀ (f : Bool), (f = true ↔ (b.toNat : Int) = 46) → Ev (fun k => spec_deShape.l2 k l 2 12 ⟨#[46, 111, 63]⟩ s (pre.length : Int) f 1 l' n i) ((b :: suf).all chr && q) := by
      intro f hf
      refine Ev.step (fun k => spec_deShape.l2.eq_2 ..) ?_
      rw [show wrap64 (1 + 1) = 2 by unfold wrap64; omega]
      refine (evPos (by rw [sz3]; omega) (evBy (fun c => s2 true ?_) (fun c => evPos (by omega) (evPos (by omega) (evPos (by omega) ?_)))))
      · simp only [true_iff]; exact .inl (hf.1 c)
      · rw [hb, bt1]
        refine s2 _ ?_
        rw [beq_iff_eq]
        have : ¬ (b.toNat : Int) = 46 := fun z => c (hf.2 z)
        omega
    refine Ev.step (fun k => spec_deShape.l2.eq_2 ..) ?_
    rw [show wrap64 (0 + 1) = 1 by unfold wrap64; omega]
    refine (evPos (by rw [sz3]; omega) (evNeg (by simp) (evPos (by omega) (evPos (by omega) (evPos (by omega) ?_)))))
    rw [hb, bt0]
    exact s1 _ (by rw [beq_iff_eq])
theorem at0 {l : List ByteArray} : rdOf ByteArray.empty l 0 = l.getD 0 ByteArray.empty := rfl
theorem deGood_ev {l : List ByteArray} (hl : l.length ≤ 1048576) (hb : ∀ s, s ∈ l → s.size ≤ 1048576) : Ev (fun k => spec_deGood.f k l) (good l) := by
  unfold spec_deGood.f spec_deShape.f
  have go : ∀ (suf pre : List ByteArray), l = pre ++ suf → Ev (fun k => spec_deShape.l0 k l 2 12 ⟨#[46, 111, 63]⟩ l (l.length : Int) (pre.length : Int)) (suf.all (rowOk (sz0 l)) && (decide (2 ≤ l.length ∧ l.length ≤ 12) && decide (2 ≤ sz0 l ∧ sz0 l ≤ 12))) := by
    intro suf
    induction suf with
    | nil =>
      intro pre h
      refine Ev.step (fun k => spec_deShape.l0.eq_2 ..) (evNeg (rgEnd h) ?_)
      simp only [in_eq, Option.bind_some, decide_eq_true_eq, List.all_nil, Bool.true_and]
      refine evBy (fun c => evPos (by omega) (evNow ?_)) (fun c => evNow ?_)
      · rw [decide_eq_true (show 2 ≤ l.length ∧ l.length ≤ 12 by omega), Bool.true_and, at0]
        exact decD (by unfold sz0; omega)
      · rw [decide_eq_false (show ¬ (2 ≤ l.length ∧ l.length ≤ 12) by omega), Bool.false_and]
    | cons s suf ih =>
      intro pre h
      obtain ⟨h1, h2, h3, h4, h5⟩ := rgHead h (by omega) ByteArray.empty
      refine Ev.step (fun k => spec_deShape.l0.eq_2 ..) ?_
      simp only [h1, h2, rdOf, h4, if_true]
      refine evPos (by omega) (evBy (fun c => ?_) (fun c => evNow ?_))
      · have := shape_l1 l s (hb s (by rw [h]; simp)) l (l.length : Int) (pre.length : Int) _ (by rw [h3]; exact ih _ h5) (bl s) [] rfl
        refine evEq this ?_
        have e : rowOk (sz0 l) s = (bl s).all chr := by
          unfold rowOk; rw [decide_eq_true (show s.size = sz0 l by unfold sz0; have c' : (s.size : Int) = ((l.getD 0 ByteArray.empty).size : Int) := c; omega), Bool.true_and]
        rw [List.all_cons, e, Bool.and_assoc]
      · have e : rowOk (sz0 l) s = false := by
          unfold rowOk; rw [decide_eq_false (show ¬ s.size = sz0 l by unfold sz0; have c' : ¬ (s.size : Int) = ((l.getD 0 ByteArray.empty).size : Int) := c; omega), Bool.false_and]
        rw [List.all_cons, e]; rfl
  refine Ev.bind (go l [] rfl) (evNow ?_)
  unfold good
  rw [Bool.and_comm, Bool.and_assoc]
theorem index_iff (b : UInt8) : ¬ Go.Lib.indexByte (⟨#[46, 111, 63]⟩ : ByteArray).data.toList b < 0 ↔ chr b = true := by
  show ¬ Go.Lib.indexByte [46, 111, 63] b < 0 ↔ chr b = true
  unfold chr
  simp only [Go.Lib.indexByte]
  by_cases c1 : b = 46
  · subst c1; decide
  · by_cases c2 : b = 111
    · subst c2; decide
    · by_cases c3 : b = 63
      · subst c3; decide
      · simp [c1, c2, c3, Ne.symm c1, Ne.symm c2, Ne.symm c3]
theorem grid_l1 (l : List ByteArray) (s : ByteArray) (hs : s.size ≤ 1048576) (l' : List ByteArray) (n i : Int) (q : Bool) (hq : Ev (fun k => impl_isGridOf.l0 k l ⟨#[46, 111, 63]⟩ l' n (wrap64 (i + 1))) q) : ∀ (suf pre : List UInt8), bl s = pre ++ suf →
    Ev (fun k => impl_isGridOf.l1 k l ⟨#[46, 111, 63]⟩ s (pre.length : Int) l' n i) (suf.all chr && q) := by
  intro suf
  have hsz := bl_len s
  induction suf with
  | nil =>
    intro pre h
    have : pre.length = s.size := by rw [← hsz, h]; simp
    exact Ev.step (fun k => impl_isGridOf.l1.eq_2 ..) (evNeg (by omega) (evEq hq (by simp)))
  | cons b suf ih =>
    intro pre h
    have hl : pre.length + (suf.length + 1) = s.size := by rw [← hsz, h]; simp
    have hb := bt_mid h
    have ih' := ih (pre ++ [b]) (by rw [h]; simp)
    have e : wrap64 ((pre.length : Int) + 1) = ((pre ++ [b]).length : Int) := by rw [wrapi (by omega) (by omega)]; simp
    refine Ev.step (fun k => impl_isGridOf.l1.eq_2 ..) (evPos (by omega) (evPos (by omega) ?_))
    rw [hb, e]
    simp only [strings_IndexByte.f, Option.bind_some]
    rw [show ((b.toNat : Int).toNat.toUInt8) = b by simp]
    have hi := index_iff b
    refine evBy (fun c => evNow ?_) (fun c => evEq ih' ?_)
    · have : chr b = false := Bool.eq_false_iff.2 (fun z => hi.2 z c)
      rw [List.all_cons, this]; rfl
    · rw [List.all_cons, hi.1 c, Bool.true_and]
theorem isBlock_ev {l : List ByteArray} (hl : l.length ≤ 1048576) (hb : ∀ s, s ∈ l → s.size ≤ 1048576) : Ev (fun k => impl_IsBlock.f k l) (good l) := by
  unfold impl_IsBlock.f impl_isGridOf.f
  have go : ∀ (suf pre : List ByteArray), l = pre ++ suf → Ev (fun k => impl_isGridOf.l0 k l ⟨#[46, 111, 63]⟩ l (l.length : Int) (pre.length : Int)) (suf.all (rowOk (sz0 l))) := by
    intro suf
    induction suf with
    | nil =>
      intro pre h
      exact Ev.step (fun k => impl_isGridOf.l0.eq_2 ..) (evNeg (rgEnd h) (Ev.now _))
    | cons s suf ih =>
      intro pre h
      obtain ⟨h1, h2, h3, h4, h5⟩ := rgHead h (by omega) ByteArray.empty
      refine Ev.step (fun k => impl_isGridOf.l0.eq_2 ..) ?_
      simp only [h1, h2, rdOf, h4, if_true]
      refine evPos (by omega) (evBy (fun c => ?_) (fun c => evNow ?_))
      · have := grid_l1 l s (hb s (by rw [h]; simp)) l (l.length : Int) (pre.length : Int) _ (by rw [h3]; exact ih _ h5) (bl s) [] rfl
        refine evEq this ?_
        have e : rowOk (sz0 l) s = (bl s).all chr := by
          unfold rowOk; rw [decide_eq_true (show s.size = sz0 l by unfold sz0; have c' : (s.size : Int) = ((l.getD 0 ByteArray.empty).size : Int) := c; omega), Bool.true_and]
        rw [List.all_cons, e]
      · have e : rowOk (sz0 l) s = false := by
          unfold rowOk; rw [decide_eq_false (show ¬ s.size = sz0 l by unfold sz0; have c' : ¬ (s.size : Int) = ((l.getD 0 ByteArray.empty).size : Int) := c; omega), Bool.false_and]
        rw [List.all_cons, e]; rfl
  have bad : ∀ {z : Bool}, z = true → good l = false → Ev (fun k => impl_isGridOf.j0 k l ⟨#[46, 111, 63]⟩ z) (good l) := fun hz h =>
    Ev.step (fun k => impl_isGridOf.j0.eq_2 ..) (evPos hz (evNow h.symm))
  have nog : ¬ ((2 ≤ l.length ∧ l.length ≤ 12) ∧ (2 ≤ sz0 l ∧ sz0 l ≤ 12)) → good l = false := fun h => Bool.eq_false_iff.2 (fun z => h ⟨(good_iff.1 z).1, (good_iff.1 z).2.1⟩)
  refine Ev.bind (a := good l) (evBy (fun c => bad rfl (nog (by omega))) (fun c => evBy (fun c1 => bad rfl (nog (by omega))) (fun c1 => evPos (by omega) ?_))) (Ev.now _)
  rw [at0]
  refine evBy (fun c2 => bad rfl (nog (by unfold sz0; omega))) (fun c2 => ?_)
  by_cases c3 : ((l.getD 0 ByteArray.empty).size : Int) > 12
  · exact bad (decide_eq_true c3) (nog (by unfold sz0; omega))
  · refine Ev.step (fun k => impl_isGridOf.j0.eq_2 ..) (evNeg (by simpa using c3) (evEq (go l [] rfl) ?_))
    unfold good
    rw [decide_eq_true (show 2 ≤ l.length ∧ l.length ≤ 12 by omega), decide_eq_true (show 2 ≤ sz0 l ∧ sz0 l ≤ 12 by unfold sz0; omega), Bool.true_and, Bool.true_and]
def cnt (s : ByteArray) : Nat := (bl s).count 63
theorem cnt_le (s : ByteArray) : cnt s ≤ s.size := by unfold cnt; rw [← bl_len]; exact List.count_le_length
def ers : List ByteArray → Nat
  | [] => 0
  | s :: l => cnt s + ers l
theorem deCount_ev {s : ByteArray} (hs : s.size ≤ 1048576) : Ev (fun k => spec_deCount.f k s 63) ((cnt s : Nat) : Int) := by
  unfold spec_deCount.f
  have hsz := bl_len s
  have go : ∀ (suf pre : List UInt8) (a : Nat), bl s = pre ++ suf → a ≤ pre.length → Ev (fun k => spec_deCount.l0 k s 63 (a : Int) (pre.length : Int)) ((a + suf.count 63 : Nat) : Int) := by
    intro suf
    induction suf with
    | nil =>
      intro pre a h _
      have : pre.length = s.size := by rw [← hsz, h]; simp
      exact Ev.step (fun k => spec_deCount.l0.eq_2 ..) (evNeg (by omega) (evNow (by simp)))
    | cons b suf ih =>
      intro pre a h ha
      have hl : pre.length + (suf.length + 1) = s.size := by rw [← hsz, h]; simp
      have hb := bt_mid h
      have e : wrap64 ((pre.length : Int) + 1) = ((pre ++ [b]).length : Int) := by rw [wrapi (by omega) (by omega)]; simp
      refine Ev.step (fun k => spec_deCount.l0.eq_2 ..) (evPos (by omega) (evPos (by omega) ?_))
      rw [hb, e, wrapi (x := (a : Int) + 1) (by omega) (by omega)]
      have hu := u8_eq b 63 (by omega)
      refine evBy (fun c => ?_) (fun c => ?_)
      · have c' : b = 63 := hu.1 c
        refine evEq (ih (pre ++ [b]) (a + 1) (by rw [h]; simp) (by simp; omega)) ?_
        rw [c', List.count_cons_self]; omega
      · have c' : ¬ b = 63 := fun z => c (hu.2 z)
        refine evEq (ih (pre ++ [b]) a (by rw [h]; simp) (by simp; omega)) ?_
        rw [List.count_cons_of_ne (by simpa using c')]
  have := go (bl s) [] 0 rfl (by simp)
  simpa [cnt] using this
theorem deErased_l0 (l : List ByteArray) (hl : l.length ≤ 1048576) (hb : ∀ s, s ∈ l → s.size ≤ 1048576) : ∀ (suf pre : List ByteArray) (a : Nat), l = pre ++ suf → a ≤ 1048576 * pre.length → Ev (fun k => spec_deErased.l0 k (a : Int) l (l.length : Int) (pre.length : Int)) ((a + ers suf : Nat) : Int) := by
  intro suf
  induction suf with
  | nil =>
    intro pre a h _
    exact Ev.step (fun k => spec_deErased.l0.eq_2 ..) (evNeg (rgEnd h) (evNow (by simp [ers])))
  | cons s suf ih =>
    intro pre a h ha
    obtain ⟨h1, h2, h3, h4, h5⟩ := rgHead h (by omega) ByteArray.empty
    have hs := hb s (by rw [h]; simp)
    have hc := cnt_le s
    have hp : pre.length ≤ 1048576 := by rw [h] at hl; simp at hl; omega
    refine Ev.step (fun k => spec_deErased.l0.eq_2 ..) ?_
    simp only [h1, h2, h3, rdOf, h4, if_true]
    refine Ev.bind (deCount_ev hs) ?_
    rw [wrapi (x := (a : Int) + (cnt s : Nat)) (by omega) (by omega), show (a : Int) + (cnt s : Nat) = ((a + cnt s : Nat) : Int) by omega]
    exact evEq (ih _ (a + cnt s) h5 (by simp; omega)) (by simp only [ers]; omega)
theorem countChar_l0 (l : List ByteArray) (hl : l.length ≤ 1048576) (hb : ∀ s, s ∈ l → s.size ≤ 1048576) : ∀ (suf pre : List ByteArray) (a : Nat), l = pre ++ suf → a ≤ 1048576 * pre.length → Ev (fun k => impl_countChar.l0 k ⟨#[63]⟩ (a : Int) l (l.length : Int) (pre.length : Int)) ((a + ers suf : Nat) : Int) := by
  intro suf
  induction suf with
  | nil =>
    intro pre a h _
    exact Ev.step (fun k => impl_countChar.l0.eq_2 ..) (evNeg (rgEnd h) (evNow (by simp [ers])))
  | cons s suf ih =>
    intro pre a h ha
    obtain ⟨h1, h2, h3, h4, h5⟩ := rgHead h (by omega) ByteArray.empty
    have hs := hb s (by rw [h]; simp)
    have hc := cnt_le s
    have hp : pre.length ≤ 1048576 := by rw [h] at hl; simp at hl; omega
    have e : strings_Count.f s ⟨#[63]⟩ = some ((cnt s : Nat) : Int) := by
      unfold strings_Count.f; rw [if_pos (by rfl)]; rfl
    refine Ev.step (fun k => impl_countChar.l0.eq_2 ..) ?_
    simp only [h1, h2, h3, rdOf, h4, if_true, e, Option.bind_some]
    rw [wrapi (x := (a : Int) + (cnt s : Nat)) (by omega) (by omega), show (a : Int) + (cnt s : Nat) = ((a + cnt s : Nat) : Int) by omega]
    exact evEq (ih _ (a + cnt s) h5 (by simp; omega)) (by simp only [ers]; omega)
def ceRes (l : List ByteArray) : Int × Bool := if good l = true then (((ers l : Nat) : Int), true) else (0, false)
theorem specCe_ev {l : List ByteArray} (hl : l.length ≤ 1048576) (hb : ∀ s, s ∈ l → s.size ≤ 1048576) : Ev (fun k => spec_CountErased.f k l) (ceRes l) := by
  unfold spec_CountErased.f spec_deErased.f ceRes
  refine Ev.bind (deGood_ev hl hb) (evIte (fun _ => ?_) (fun _ => Ev.now _))
  refine Ev.bind (deErased_l0 l hl hb l [] 0 rfl (by simp)) (evNow (by simp))
theorem implCe_ev {l : List ByteArray} (hl : l.length ≤ 1048576) (hb : ∀ s, s ∈ l → s.size ≤ 1048576) : Ev (fun k => impl_CountErased.f k l) (ceRes l) := by
  unfold impl_CountErased.f impl_countChar.f ceRes
  refine Ev.bind (isBlock_ev hl hb) (evIte (fun _ => ?_) (fun _ => Ev.now _))
  refine Ev.bind (countChar_l0 l hl hb l [] 0 rfl (by simp)) (evNow (by simp))
theorem toStr_l0 (l : List ByteArray) (hl : l.length ≤ 1048576) : ∀ (suf pre : List ByteArray), l = pre ++ suf →
    Ev (fun k => laws_toStringS.l0 k l (pre ++ List.replicate suf.length (⟨#[]⟩ : ByteArray)) (pre.length : Int)) l := by
  intro suf
  induction suf with
  | nil =>
    intro pre h
    exact Ev.step (fun k => laws_toStringS.l0.eq_2 ..) (evNeg (rgEnd h) (evNow (by subst h; simp)))
  | cons x suf ih =>
    intro pre h
    obtain ⟨h1, h2, h3, h4, h5⟩ := rgHead h (by omega) ByteArray.empty
    refine Ev.step (fun k => laws_toStringS.l0.eq_2 ..) ?_
    simp only [h1, h2, h3, rdOf, h4, if_true]
    refine evPos (by simp; omega) ?_
    have e : (pre ++ List.replicate (x :: suf).length (⟨#[]⟩ : ByteArray)).set (pre.length : Int).toNat x = (pre ++ [x]) ++ List.replicate suf.length (⟨#[]⟩ : ByteArray) := by
      rw [List.length_cons, List.replicate_succ, setAt _ _ _ _ _ (by simp)]
      simp
    rw [e]
    exact ih _ h5
theorem toStr_ev {l : List ByteArray} (hl : l.length ≤ 1048576) : Ev (fun k => laws_toStringS.f k l) l := by
  unfold laws_toStringS.f
  refine evPos (by omega) (evPos (by omega) ?_)
  have := toStr_l0 l hl l [] rfl
  simpa using this
theorem eqStr_l0 (l : List ByteArray) (hl : l.length ≤ 1048576) : ∀ (suf pre : List ByteArray), l = pre ++ suf → Ev (fun k => laws_eqStringS.l0 k l l (pre.length : Int)) true := by
  intro suf
  induction suf with
  | nil =>
    intro pre h
    exact Ev.step (fun k => laws_eqStringS.l0.eq_2 ..) (evNeg (rgEnd h) (Ev.now _))
  | cons x suf ih =>
    intro pre h
    obtain ⟨h1, h2, h3, h4, h5⟩ := rgHead h (by omega) ByteArray.empty
    refine Ev.step (fun k => laws_eqStringS.l0.eq_2 ..) ?_
    simp only [h1, h2, h3, if_true]
    exact ih _ h5
theorem eqStr_ev {l : List ByteArray} (hl : l.length ≤ 1048576) : Ev (fun k => laws_eqStringS.f k l l) true := by
  unfold laws_eqStringS.f
  exact evPos rfl (eqStr_l0 l hl l [] rfl)
theorem szStr_l0 (l : List ByteArray) (hl : l.length ≤ 1048576) (hw : ∀ s, s ∈ l → s.size ≤ 9223372036854775807) : ∀ (suf pre : List ByteArray) (left : Int), l = pre ++ suf → 0 ≤ left → left ≤ 1048576 →
    ∃ r, Ev (fun k => laws_szStringS.l0 k l left (pre.length : Int)) r ∧ (0 ≤ r → ∀ s, s ∈ suf → s.size ≤ 1048576) := by
  intro suf
  induction suf with
  | nil =>
    intro pre left h _ _
    exact ⟨left, Ev.step (fun k => laws_szStringS.l0.eq_2 ..) (evNeg (rgEnd h) (Ev.now _)), fun _ s hs => by simp at hs⟩
  | cons x suf ih =>
    intro pre left h h0 hb
    obtain ⟨h1, h2, h3, h4, h5⟩ := rgHead h (by omega) ByteArray.empty
    have hx := hw x (by rw [h]; simp)
    by_cases c : left - (x.size : Int) < 0
    · refine ⟨-1, Ev.step (fun k => laws_szStringS.l0.eq_2 ..) ?_, fun z => by omega⟩
      simp only [h1, h2, h3, rdOf, h4, if_true]
      rw [wrapi (x := left - (x.size : Int)) (by omega) (by omega)]
      exact evPos c (Ev.now _)
    · obtain ⟨r, hr, hr'⟩ := ih (pre ++ [x]) (left - (x.size : Int)) h5 (by omega) (by omega)
      refine ⟨r, Ev.step (fun k => laws_szStringS.l0.eq_2 ..) ?_, fun z s hs => ?_⟩
      · simp only [h1, h2, h3, rdOf, h4, if_true]
        rw [wrapi (x := left - (x.size : Int)) (by omega) (by omega)]
        exact evNeg c hr
      · rcases List.mem_cons.1 hs with rfl | q
        · omega
        · exact hr' z s q
theorem FnExactCountErased (l0 : List ByteArray) (w0 : Opn.Lst Opn.Str l0) : ∃ k, laws_FnExactCountErased.f k l0 = some true := by
  refine Ev.rounds (g := fun k => laws_FnExactCountErased.f k l0) ?_
  unfold laws_FnExactCountErased.f laws_szStringS.f
  have hw := w0.1
  by_cases c : (1048576 : Int) - (l0.length : Int) < 0
  · refine Ev.bind (a := (-1 : Int)) ?_ (evPos (by omega) (Ev.now _))
    rw [wrapi (x := (1048576 : Int) - (l0.length : Int)) (by omega) (by omega)]
    exact evPos c (Ev.now _)
  · obtain ⟨r, hr, hb⟩ := szStr_l0 l0 (by omega) (fun s hs => w0.2 s hs) l0 [] ((1048576 : Int) - (l0.length : Int)) rfl (by omega) (by omega)
    refine Ev.bind (a := r) ?_ (evBy (fun _ => Ev.now _) (fun c1 => ?_))
    · rw [wrapi (x := (1048576 : Int) - (l0.length : Int)) (by omega) (by omega)]
      exact evNeg c hr
    · have hb' := hb (by omega)
      have hl : l0.length ≤ 1048576 := by omega
      refine Ev.bind (toStr_ev hl) (Ev.bind (specCe_ev hl hb') (Ev.bind (toStr_ev hl) (Ev.bind (implCe_ev hl hb') (evPos rfl ?_))))
      simp only [bne_self_eq_false]
      exact Ev.step (fun k => laws_FnExactCountErased.j0.eq_2 ..) (evNeg (by simp) (Ev.bind (toStr_ev hl) (Ev.bind (eqStr_ev hl) (evPos rfl (Ev.now _)))))
end Go.Proofs.Ytepkedhmbfkenaa.Pure
