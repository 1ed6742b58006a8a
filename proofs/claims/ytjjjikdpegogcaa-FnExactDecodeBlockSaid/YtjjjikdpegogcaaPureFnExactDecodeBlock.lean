/- The program's DecodeBlock returns what the reference's returns, for all arguments.: the plain part: what the program computes and what the reference computes agree, for all arguments. No conditions beyond the arguments' own kinds. -/
import Derived.Test.YtjjjikdpegogcaaPBdx0
import Derived.Test.YtjjjikdpegogcaaPBdx1
import Derived.Test.YtjjjikdpegogcaaPBdx2
import Derived.Test.YtjjjikdpegogcaaPBdx3
import Derived.Test.YtjjjikdpegogcaaPBdx4
import Derived.Test.YtjjjikdpegogcaaPBdx5
import Derived.Test.YtjjjikdpegogcaaPBdx6
import Derived.Test.YtjjjikdpegogcaaPBdx7
import Derived.Test.YtjjjikdpegogcaaPBdx8
import Derived.Test.YtjjjikdpegogcaaPBdx9
import Derived.Test.YtjjjikdpegogcaaPBdx10
import Derived.Test.YtjjjikdpegogcaaPBdx11
import Derived.Test.YtjjjikdpegogcaaOpn
namespace Go.Proofs.Ytjjjikdpegogcaa.Pure
open Go.RowKit Go.Proofs.Ytjjjikdpegogcaa.PBd Go.Proofs.YtjjjikdpegogcaaW.PrintWords Go.Proofs.YtjjjikdpegogcaaW.PrintLast Go.Proofs.YtjjjikdpegogcaaW.PrintMore
-- ** base
theorem wrapi {x : Int} (h0 : -9223372036854775808 ≤ x) (h1 : x ≤ 9223372036854775807) : wrap64 x = x := by unfold wrap64; omega
theorem evPos {α : Type} {c : Prop} [Decidable c] {g f : Nat → Option α} {r : α} (h : c) (e : Ev g r) : Ev (fun k => if c then g k else f k) r := by
  simp only [if_pos h]; exact e
theorem evNeg {α : Type} {c : Prop} [Decidable c] {g f : Nat → Option α} {r : α} (h : ¬ c) (e : Ev f r) : Ev (fun k => if c then g k else f k) r := by
  simp only [if_neg h]; exact e
theorem evNow {α : Type} {r q : α} (h : r = q) : Ev (fun _ => some r) q := by subst h; exact Ev.now r
theorem evEq {α : Type} {g : Nat → Option α} {r q : α} (h : Ev g r) (e : r = q) : Ev g q := e ▸ h
theorem evBy {α : Type} {c : Prop} [Decidable c] {g f : Nat → Option α} {r : α} (h : c → Ev g r) (h' : ¬ c → Ev f r) : Ev (fun k => if c then g k else f k) r := by
  by_cases hc : c
  · simp only [if_pos hc]; exact h hc
  · simp only [if_neg hc]; exact h' hc
theorem someF {p : Prop} [Decidable p] (h : ¬ p) : some false = some (decide p) := by rw [decide_eq_false h]
theorem someD {p q : Prop} [Decidable p] [Decidable q] (h : p ↔ q) : some (decide p) = some (decide q) := by rw [decide_eq_decide.mpr h]
theorem decD {p q : Prop} [Decidable p] [Decidable q] (h : p ↔ q) : decide p = decide q := decide_eq_decide.mpr h
theorem rgEnd {α : Type} {l pre : List α} (h : l = pre ++ []) : ¬ ((pre.length : Int) < (l.length : Int)) := by subst h; simp
theorem rgHead {α : Type} {l pre suf : List α} {x : α} (h : l = pre ++ x :: suf) (hl : l.length ≤ 4611686018427387904) (z : α) :
    (pre.length : Int) < (l.length : Int) ∧ (0 : Int) ≤ (pre.length : Int) ∧ wrap64 ((pre.length : Int) + 1) = ((pre ++ [x]).length : Int) ∧ l.getD (pre.length : Int).toNat z = x ∧ l = (pre ++ [x]) ++ suf := by
  subst h
  simp at hl
  refine ⟨by simp; omega, by omega, ?_, by simp, by simp⟩
  rw [wrapi (by omega) (by omega)]; simp
theorem in_eq (a b c : Int) : spec_l1In.f a b c = some (decide (b ≤ a ∧ a ≤ c)) := by
  unfold spec_l1In.f
  split
  · exact someD (by omega)
  · exact someF (by omega)
-- ** lists
theorem setAt {α : Type} (A B : List α) (z v : α) (n : Nat) (h : n = A.length) : (A ++ z :: B).set n v = A ++ v :: B := by subst h; simp
-- ** FnExactCountErased
def bl (s : ByteArray) : List UInt8 := s.data.toList
theorem bl_len (s : ByteArray) : (bl s).length = s.size := by unfold bl ByteArray.size; exact Array.length_toList
theorem bt_mid {s : ByteArray} {pre suf : List UInt8} {b : UInt8} (h : bl s = pre ++ b :: suf) : bt s (pre.length : Int) = (b.toNat : Int) := by
  have hl : pre.length < s.size := by rw [← bl_len, h]; simp
  unfold bt
  rw [dif_pos (by simpa using hl)]
  have : s[pre.length]'hl = b := by
    show s.data[pre.length]'_ = b
    rw [← Array.getElem_toList]
    have e : s.data.toList = pre ++ b :: suf := h
    simp [e]
  simp only [Int.toNat_natCast, this]
def chr (b : UInt8) : Bool := decide (b = 46 ∨ b = 111 ∨ b = 63)
def rowOk (n : Nat) (s : ByteArray) : Bool := decide (s.size = n) && (bl s).all chr
def sz0 (l : List ByteArray) : Nat := (l.getD 0 ByteArray.empty).size
def good (l : List ByteArray) : Bool := decide (2 ≤ l.length ∧ l.length ≤ 12) && (decide (2 ≤ sz0 l ∧ sz0 l ≤ 12) && l.all (rowOk (sz0 l)))
theorem good_iff {l : List ByteArray} : good l = true ↔ (2 ≤ l.length ∧ l.length ≤ 12) ∧ (2 ≤ sz0 l ∧ sz0 l ≤ 12) ∧ l.all (rowOk (sz0 l)) = true := by simp [good]
theorem bt0 : bt (⟨#[46, 111, 63]⟩ : ByteArray) 0 = 46 := by decide
theorem bt1 : bt (⟨#[46, 111, 63]⟩ : ByteArray) 1 = 111 := by decide
theorem bt2 : bt (⟨#[46, 111, 63]⟩ : ByteArray) 2 = 63 := by decide
theorem sz3 : ((⟨#[46, 111, 63]⟩ : ByteArray).size : Int) = 3 := by decide
theorem u8_eq (b : UInt8) (n : Nat) (hn : n < 256) : ((b.toNat : Int) = (n : Int)) ↔ b = UInt8.ofNat n := by
  constructor
  · intro h
    have : b.toNat = n := by omega
    apply UInt8.toNat_inj.1
    rw [this, UInt8.toNat_ofNat']; omega
  · intro h; subst h; rw [UInt8.toNat_ofNat']; omega
theorem chr_iff (b : UInt8) : chr b = true ↔ ((b.toNat : Int) = 46 ∨ (b.toNat : Int) = 111 ∨ (b.toNat : Int) = 63) := by
  unfold chr
  rw [decide_eq_true_eq, show ((46 : Int) = ((46 : Nat) : Int)) from rfl, show ((111 : Int) = ((111 : Nat) : Int)) from rfl, show ((63 : Int) = ((63 : Nat) : Int)) from rfl, u8_eq b 46 (by omega), u8_eq b 111 (by omega), u8_eq b 63 (by omega)]
  rfl
theorem shape_l1 (l : List ByteArray) (s : ByteArray) (hs : s.size ≤ 1048576) (l' : List ByteArray) (n i : Int) (q : Bool) (hq : Ev (fun k => spec_deShape.l0 k l 2 12 ⟨#[46, 111, 63]⟩ l' n (wrap64 (i + 1))) q) : ∀ (suf pre : List UInt8), bl s = pre ++ suf →
    Ev (fun k => spec_deShape.l1 k l 2 12 ⟨#[46, 111, 63]⟩ s (pre.length : Int) l' n i) (suf.all chr && q) := by
  intro suf
  have hsz := bl_len s
  induction suf with
  | nil =>
    intro pre h
    have : pre.length = s.size := by rw [← hsz, h]; simp
    exact Ev.step (fun k => spec_deShape.l1.eq_2 ..) (evNeg (by omega) (evEq hq (by simp)))
  | cons b suf ih =>
    intro pre h
    have hl : pre.length + (suf.length + 1) = s.size := by rw [← hsz, h]; simp
    have hb := bt_mid h
    have ih' := ih (pre ++ [b]) (by rw [h]; simp)
    have e : wrap64 ((pre.length : Int) + 1) = ((pre ++ [b]).length : Int) := by rw [wrapi (by omega) (by omega)]; simp
    have hc := chr_iff b
    refine Ev.step (fun k => spec_deShape.l1.eq_2 ..) (evPos (by omega) ?_)
    have fin : ∀ (f : Bool), f = chr b → Ev (fun k => spec_deShape.l2 k l 2 12 ⟨#[46, 111, 63]⟩ s (pre.length : Int) f 3 l' n i) ((b :: suf).all chr && q) := by
      intro f hf
      refine Ev.step (fun k => spec_deShape.l2.eq_2 ..) (evNeg (by rw [sz3]; omega) ?_)
      rw [List.all_cons, ← hf]
      cases f with
      | true => exact evPos rfl (by rw [e]; simpa using ih')
      | false => exact evNeg (by simp) (evNow (by simp))
    have s2 : ∀ (f : Bool), (f = true ↔ ((b.toNat : Int) = 46 ∨ (b.toNat : Int) = 111)) → Ev (fun k => spec_deShape.l2 k l 2 12 ⟨#[46, 111, 63]⟩ s (pre.length : Int) f 2 l' n i) ((b :: suf).all chr && q) := by
      intro f hf
      refine Ev.step (fun k => spec_deShape.l2.eq_2 ..) ?_
      rw [show wrap64 (2 + 1) = 3 by unfold wrap64; omega]
      refine (evPos (by rw [sz3]; omega) (evBy (fun c => fin true ?_) (fun c => evPos (by omega) (evPos (by omega) (evPos (by omega) ?_)))))
      · exact (hc.2 (by have := hf.1 c; omega)).symm
      · rw [hb, bt2]
        refine fin _ ?_
        rw [Bool.eq_iff_iff, hc, beq_iff_eq]
        have : ¬ ((b.toNat : Int) = 46 ∨ (b.toNat : Int) = 111) := fun z => c (hf.2 z)
        omega
    have s1 : ∀ (f : Bool), (f = true ↔ (b.toNat : Int) = 46) → Ev (fun k => spec_deShape.l2 k l 2 12 ⟨#[46, 111, 63]⟩ s (pre.length : Int) f 1 l' n i) ((b :: suf).all chr && q) := by
      intro f hf
      refine Ev.step (fun k => spec_deShape.l2.eq_2 ..) ?_
      rw [show wrap64 (1 + 1) = 2 by unfold wrap64; omega]
      refine (evPos (by rw [sz3]; omega) (evBy (fun c => s2 true ?_) (fun c => evPos (by omega) (evPos (by omega) (evPos (by omega) ?_)))))
      · simp only [true_iff]; exact .inl (hf.1 c)
      · rw [hb, bt1]
        refine s2 _ ?_
        rw [beq_iff_eq]
        have : ¬ (b.toNat : Int) = 46 := fun z => c (hf.2 z)
        omega
    refine Ev.step (fun k => spec_deShape.l2.eq_2 ..) ?_
    rw [show wrap64 (0 + 1) = 1 by unfold wrap64; omega]
    refine (evPos (by rw [sz3]; omega) (evNeg (by simp) (evPos (by omega) (evPos (by omega) (evPos (by omega) ?_)))))
    rw [hb, bt0]
    exact s1 _ (by rw [beq_iff_eq])
theorem at0 {l : List ByteArray} : rdOf ByteArray.empty l 0 = l.getD 0 ByteArray.empty := rfl
theorem deGood_ev {l : List ByteArray} (hl : l.length ≤ 1048576) (hb : ∀ s, s ∈ l → s.size ≤ 1048576) : Ev (fun k => spec_deGood.f k l) (good l) := by
  unfold spec_deGood.f spec_deShape.f
  have go : ∀ (suf pre : List ByteArray), l = pre ++ suf → Ev (fun k => spec_deShape.l0 k l 2 12 ⟨#[46, 111, 63]⟩ l (l.length : Int) (pre.length : Int)) (suf.all (rowOk (sz0 l)) && (decide (2 ≤ l.length ∧ l.length ≤ 12) && decide (2 ≤ sz0 l ∧ sz0 l ≤ 12))) := by
    intro suf
    induction suf with
    | nil =>
      intro pre h
      refine Ev.step (fun k => spec_deShape.l0.eq_2 ..) (evNeg (rgEnd h) ?_)
      simp only [in_eq, Option.bind_some, decide_eq_true_eq, List.all_nil, Bool.true_and]
      refine evBy (fun c => evPos (by omega) (evNow ?_)) (fun c => evNow ?_)
      · rw [decide_eq_true (show 2 ≤ l.length ∧ l.length ≤ 12 by omega), Bool.true_and, at0]
        exact decD (by unfold sz0; omega)
      · rw [decide_eq_false (show ¬ (2 ≤ l.length ∧ l.length ≤ 12) by omega), Bool.false_and]
    | cons s suf ih =>
      intro pre h
      obtain ⟨h1, h2, h3, h4, h5⟩ := rgHead h (by omega) ByteArray.empty
      refine Ev.step (fun k => spec_deShape.l0.eq_2 ..) ?_
      simp only [h1, h2, rdOf, h4, if_true]
      refine evPos (by omega) (evBy (fun c => ?_) (fun c => evNow ?_))
      · have := shape_l1 l s (hb s (by rw [h]; simp)) l (l.length : Int) (pre.length : Int) _ (by rw [h3]; exact ih _ h5) (bl s) [] rfl
        refine evEq this ?_
        have e : rowOk (sz0 l) s = (bl s).all chr := by
          unfold rowOk; rw [decide_eq_true (show s.size = sz0 l by unfold sz0; have c' : (s.size : Int) = ((l.getD 0 ByteArray.empty).size : Int) := c; omega), Bool.true_and]
        rw [List.all_cons, e, Bool.and_assoc]
      · have e : rowOk (sz0 l) s = false := by
          unfold rowOk; rw [decide_eq_false (show ¬ s.size = sz0 l by unfold sz0; have c' : ¬ (s.size : Int) = ((l.getD 0 ByteArray.empty).size : Int) := c; omega), Bool.false_and]
        rw [List.all_cons, e]; rfl
  refine Ev.bind (go l [] rfl) (evNow ?_)
  unfold good
  rw [Bool.and_comm, Bool.and_assoc]
theorem index_iff (b : UInt8) : ¬ Go.Lib.indexByte (⟨#[46, 111, 63]⟩ : ByteArray).data.toList b < 0 ↔ chr b = true := by
  show ¬ Go.Lib.indexByte [46, 111, 63] b < 0 ↔ chr b = true
  unfold chr
  simp only [Go.Lib.indexByte]
  by_cases c1 : b = 46
  · subst c1; decide
  · by_cases c2 : b = 111
    · subst c2; decide
    · by_cases c3 : b = 63
      · subst c3; decide
      · simp [c1, c2, c3, Ne.symm c1, Ne.symm c2, Ne.symm c3]
theorem grid_l1 (l : List ByteArray) (s : ByteArray) (hs : s.size ≤ 1048576) (l' : List ByteArray) (n i : Int) (q : Bool) (hq : Ev (fun k => impl_isGridOf.l0 k l ⟨#[46, 111, 63]⟩ l' n (wrap64 (i + 1))) q) : ∀ (suf pre : List UInt8), bl s = pre ++ suf →
    Ev (fun k => impl_isGridOf.l1 k l ⟨#[46, 111, 63]⟩ s (pre.length : Int) l' n i) (suf.all chr && q) := by
  intro suf
  have hsz := bl_len s
  induction suf with
  | nil =>
    intro pre h
    have : pre.length = s.size := by rw [← hsz, h]; simp
    exact Ev.step (fun k => impl_isGridOf.l1.eq_2 ..) (evNeg (by omega) (evEq hq (by simp)))
  | cons b suf ih =>
    intro pre h
    have hl : pre.length + (suf.length + 1) = s.size := by rw [← hsz, h]; simp
    have hb := bt_mid h
    have ih' := ih (pre ++ [b]) (by rw [h]; simp)
    have e : wrap64 ((pre.length : Int) + 1) = ((pre ++ [b]).length : Int) := by rw [wrapi (by omega) (by omega)]; simp
    refine Ev.step (fun k => impl_isGridOf.l1.eq_2 ..) (evPos (by omega) (evPos (by omega) ?_))
    rw [hb, e]
    simp only [strings_IndexByte.f, Option.bind_some]
    rw [show ((b.toNat : Int).toNat.toUInt8) = b by simp]
    have hi := index_iff b
    refine evBy (fun c => evNow ?_) (fun c => evEq ih' ?_)
    · have : chr b = false := Bool.eq_false_iff.2 (fun z => hi.2 z c)
      rw [List.all_cons, this]; rfl
    · rw [List.all_cons, hi.1 c, Bool.true_and]
theorem isBlock_ev {l : List ByteArray} (hl : l.length ≤ 1048576) (hb : ∀ s, s ∈ l → s.size ≤ 1048576) : Ev (fun k => impl_IsBlock.f k l) (good l) := by
  unfold impl_IsBlock.f impl_isGridOf.f
  have go : ∀ (suf pre : List ByteArray), l = pre ++ suf → Ev (fun k => impl_isGridOf.l0 k l ⟨#[46, 111, 63]⟩ l (l.length : Int) (pre.length : Int)) (suf.all (rowOk (sz0 l))) := by
    intro suf
    induction suf with
    | nil =>
      intro pre h
      exact Ev.step (fun k => impl_isGridOf.l0.eq_2 ..) (evNeg (rgEnd h) (Ev.now _))
    | cons s suf ih =>
      intro pre h
      obtain ⟨h1, h2, h3, h4, h5⟩ := rgHead h (by omega) ByteArray.empty
      refine Ev.step (fun k => impl_isGridOf.l0.eq_2 ..) ?_
      simp only [h1, h2, rdOf, h4, if_true]
      refine evPos (by omega) (evBy (fun c => ?_) (fun c => evNow ?_))
      · have := grid_l1 l s (hb s (by rw [h]; simp)) l (l.length : Int) (pre.length : Int) _ (by rw [h3]; exact ih _ h5) (bl s) [] rfl
        refine evEq this ?_
        have e : rowOk (sz0 l) s = (bl s).all chr := by
          unfold rowOk; rw [decide_eq_true (show s.size = sz0 l by unfold sz0; have c' : (s.size : Int) = ((l.getD 0 ByteArray.empty).size : Int) := c; omega), Bool.true_and]
        rw [List.all_cons, e]
      · have e : rowOk (sz0 l) s = false := by
          unfold rowOk; rw [decide_eq_false (show ¬ s.size = sz0 l by unfold sz0; have c' : ¬ (s.size : Int) = ((l.getD 0 ByteArray.empty).size : Int) := c; omega), Bool.false_and]
        rw [List.all_cons, e]; rfl
  have bad : ∀ {z : Bool}, z = true → good l = false → Ev (fun k => impl_isGridOf.j0 k l ⟨#[46, 111, 63]⟩ z) (good l) := fun hz h =>
    Ev.step (fun k => impl_isGridOf.j0.eq_2 ..) (evPos hz (evNow h.symm))
  have nog : ¬ ((2 ≤ l.length ∧ l.length ≤ 12) ∧ (2 ≤ sz0 l ∧ sz0 l ≤ 12)) → good l = false := fun h => Bool.eq_false_iff.2 (fun z => h ⟨(good_iff.1 z).1, (good_iff.1 z).2.1⟩)
  refine Ev.bind (a := good l) (evBy (fun c => bad rfl (nog (by omega))) (fun c => evBy (fun c1 => bad rfl (nog (by omega))) (fun c1 => evPos (by omega) ?_))) (Ev.now _)
  rw [at0]
  refine evBy (fun c2 => bad rfl (nog (by unfold sz0; omega))) (fun c2 => ?_)
  by_cases c3 : ((l.getD 0 ByteArray.empty).size : Int) > 12
  · exact bad (decide_eq_true c3) (nog (by unfold sz0; omega))
  · refine Ev.step (fun k => impl_isGridOf.j0.eq_2 ..) (evNeg (by simpa using c3) (evEq (go l [] rfl) ?_))
    unfold good
    rw [decide_eq_true (show 2 ≤ l.length ∧ l.length ≤ 12 by omega), decide_eq_true (show 2 ≤ sz0 l ∧ sz0 l ≤ 12 by unfold sz0; omega), Bool.true_and, Bool.true_and]
def cnt (s : ByteArray) : Nat := (bl s).count 63
theorem cnt_le (s : ByteArray) : cnt s ≤ s.size := by unfold cnt; rw [← bl_len]; exact List.count_le_length
def ers : List ByteArray → Nat
  | [] => 0
  | s :: l => cnt s + ers l
theorem deCount_ev {s : ByteArray} (hs : s.size ≤ 1048576) : Ev (fun k => spec_deCount.f k s 63) ((cnt s : Nat) : Int) := by
  unfold spec_deCount.f
  have hsz := bl_len s
  have go : ∀ (suf pre : List UInt8) (a : Nat), bl s = pre ++ suf → a ≤ pre.length → Ev (fun k => spec_deCount.l0 k s 63 (a : Int) (pre.length : Int)) ((a + suf.count 63 : Nat) : Int) := by
    intro suf
    induction suf with
    | nil =>
      intro pre a h _
      have : pre.length = s.size := by rw [← hsz, h]; simp
      exact Ev.step (fun k => spec_deCount.l0.eq_2 ..) (evNeg (by omega) (evNow (by simp)))
    | cons b suf ih =>
      intro pre a h ha
      have hl : pre.length + (suf.length + 1) = s.size := by rw [← hsz, h]; simp
      have hb := bt_mid h
      have e : wrap64 ((pre.length : Int) + 1) = ((pre ++ [b]).length : Int) := by rw [wrapi (by omega) (by omega)]; simp
      refine Ev.step (fun k => spec_deCount.l0.eq_2 ..) (evPos (by omega) (evPos (by omega) ?_))
      rw [hb, e, wrapi (x := (a : Int) + 1) (by omega) (by omega)]
      have hu := u8_eq b 63 (by omega)
      refine evBy (fun c => ?_) (fun c => ?_)
      · have c' : b = 63 := hu.1 c
        refine evEq (ih (pre ++ [b]) (a + 1) (by rw [h]; simp) (by simp; omega)) ?_
        rw [c', List.count_cons_self]; omega
      · have c' : ¬ b = 63 := fun z => c (hu.2 z)
        refine evEq (ih (pre ++ [b]) a (by rw [h]; simp) (by simp; omega)) ?_
        rw [List.count_cons_of_ne (by simpa using c')]
  have := go (bl s) [] 0 rfl (by simp)
  simpa [cnt] using this
theorem deErased_l0 (l : List ByteArray) (hl : l.length ≤ 1048576) (hb : ∀ s, s ∈ l → s.size ≤ 1048576) : ∀ (suf pre : List ByteArray) (a : Nat), l = pre ++ suf → a ≤ 1048576 * pre.length → Ev (fun k => spec_deErased.l0 k (a : Int) l (l.length : Int) (pre.length : Int)) ((a + ers suf : Nat) : Int) := by
  intro suf
  induction suf with
  | nil =>
    intro pre a h _
    exact Ev.step (fun k => spec_deErased.l0.eq_2 ..) (evNeg (rgEnd h) (evNow (by simp [ers])))
  | cons s suf ih =>
    intro pre a h ha
    obtain ⟨h1, h2, h3, h4, h5⟩ := rgHead h (by omega) ByteArray.empty
    have hs := hb s (by rw [h]; simp)
    have hc := cnt_le s
    have hp : pre.length ≤ 1048576 := by rw [h] at hl; simp at hl; omega
    refine Ev.step (fun k => spec_deErased.l0.eq_2 ..) ?_
    simp only [h1, h2, h3, rdOf, h4, if_true]
    refine Ev.bind (deCount_ev hs) ?_
    rw [wrapi (x := (a : Int) + (cnt s : Nat)) (by omega) (by omega), show (a : Int) + (cnt s : Nat) = ((a + cnt s : Nat) : Int) by omega]
    exact evEq (ih _ (a + cnt s) h5 (by simp; omega)) (by simp only [ers]; omega)
theorem toStr_l0 (l : List ByteArray) (hl : l.length ≤ 1048576) : ∀ (suf pre : List ByteArray), l = pre ++ suf →
    Ev (fun k => laws_toStringS.l0 k l (pre ++ List.replicate suf.length (⟨#[]⟩ : ByteArray)) (pre.length : Int)) l := by
  intro suf
  induction suf with
  | nil =>
    intro pre h
    exact Ev.step (fun k => laws_toStringS.l0.eq_2 ..) (evNeg (rgEnd h) (evNow (by subst h; simp)))
  | cons x suf ih =>
    intro pre h
    obtain ⟨h1, h2, h3, h4, h5⟩ := rgHead h (by omega) ByteArray.empty
    refine Ev.step (fun k => laws_toStringS.l0.eq_2 ..) ?_
    simp only [h1, h2, h3, rdOf, h4, if_true]
    refine evPos (by simp; omega) ?_
    have e : (pre ++ List.replicate (x :: suf).length (⟨#[]⟩ : ByteArray)).set (pre.length : Int).toNat x = (pre ++ [x]) ++ List.replicate suf.length (⟨#[]⟩ : ByteArray) := by
      rw [List.length_cons, List.replicate_succ, setAt _ _ _ _ _ (by simp)]
      simp
    rw [e]
    exact ih _ h5
theorem toStr_ev {l : List ByteArray} (hl : l.length ≤ 1048576) : Ev (fun k => laws_toStringS.f k l) l := by
  unfold laws_toStringS.f
  refine evPos (by omega) (evPos (by omega) ?_)
  have := toStr_l0 l hl l [] rfl
  simpa using this
theorem eqStr_l0 (l : List ByteArray) (hl : l.length ≤ 1048576) : ∀ (suf pre : List ByteArray), l = pre ++ suf → Ev (fun k => laws_eqStringS.l0 k l l (pre.length : Int)) true := by
  intro suf
  induction suf with
  | nil =>
    intro pre h
    exact Ev.step (fun k => laws_eqStringS.l0.eq_2 ..) (evNeg (rgEnd h) (Ev.now _))
  | cons x suf ih =>
    intro pre h
    obtain ⟨h1, h2, h3, h4, h5⟩ := rgHead h (by omega) ByteArray.empty
    refine Ev.step (fun k => laws_eqStringS.l0.eq_2 ..) ?_
    simp only [h1, h2, h3, if_true]
    exact ih _ h5
theorem eqStr_ev {l : List ByteArray} (hl : l.length ≤ 1048576) : Ev (fun k => laws_eqStringS.f k l l) true := by
  unfold laws_eqStringS.f
  exact evPos rfl (eqStr_l0 l hl l [] rfl)
theorem szStr_l0 (l : List ByteArray) (hl : l.length ≤ 1048576) (hw : ∀ s, s ∈ l → s.size ≤ 9223372036854775807) : ∀ (suf pre : List ByteArray) (left : Int), l = pre ++ suf → 0 ≤ left → left ≤ 1048576 →
    ∃ r, Ev (fun k => laws_szStringS.l0 k l left (pre.length : Int)) r ∧ (0 ≤ r → ∀ s, s ∈ suf → s.size ≤ 1048576) := by
  intro suf
  induction suf with
  | nil =>
    intro pre left h _ _
    exact ⟨left, Ev.step (fun k => laws_szStringS.l0.eq_2 ..) (evNeg (rgEnd h) (Ev.now _)), fun _ s hs => by simp at hs⟩
  | cons x suf ih =>
    intro pre left h h0 hb
    obtain ⟨h1, h2, h3, h4, h5⟩ := rgHead h (by omega) ByteArray.empty
    have hx := hw x (by rw [h]; simp)
    by_cases c : left - (x.size : Int) < 0
    · refine ⟨-1, Ev.step (fun k => laws_szStringS.l0.eq_2 ..) ?_, fun z => by omega⟩
      simp only [h1, h2, h3, rdOf, h4, if_true]
      rw [wrapi (x := left - (x.size : Int)) (by omega) (by omega)]
      exact evPos c (Ev.now _)
    · obtain ⟨r, hr, hr'⟩ := ih (pre ++ [x]) (left - (x.size : Int)) h5 (by omega) (by omega)
      refine ⟨r, Ev.step (fun k => laws_szStringS.l0.eq_2 ..) ?_, fun z s hs => ?_⟩
      · simp only [h1, h2, h3, rdOf, h4, if_true]
        rw [wrapi (x := left - (x.size : Int)) (by omega) (by omega)]
        exact evNeg c hr
      · rcases List.mem_cons.1 hs with rfl | q
        · omega
        · exact hr' z s q
-- ** blocks
def mkb (b : List UInt8) : ByteArray := ⟨b.toArray⟩
theorem bl_mkb (b : List UInt8) : bl (mkb b) = b := by simp [bl, mkb]
theorem mkb_bl (s : ByteArray) : mkb (bl s) = s := by cases s; simp [bl, mkb]
theorem mkb_size (b : List UInt8) : (mkb b).size = b.length := by simp [mkb, ByteArray.size]
theorem bl_inj {s t : ByteArray} (h : bl s = bl t) : s = t := by rw [← mkb_bl s, ← mkb_bl t, h]
theorem bl_append (s t : ByteArray) : bl (s ++ t) = bl s ++ bl t := by simp [bl]
theorem bl_extract (s : ByteArray) (i j : Nat) : bl (s.extract i j) = ((bl s).drop i).take (j - i) := by simp [bl, List.extract]
theorem mkb_append (a b : List UInt8) : mkb a ++ mkb b = mkb (a ++ b) := bl_inj (by rw [bl_append, bl_mkb, bl_mkb, bl_mkb])
theorem bt_at_ (s : ByteArray) (i : Nat) (h : i < (bl s).length) : bt s (i : Int) = (((bl s).getD i 0).toNat : Int) := by
  have hl : i < s.size := by rw [← bl_len]; exact h
  unfold bt
  rw [dif_pos (by simpa using hl)]
  have e : s[(i : Int).toNat]'(by simpa using hl) = (bl s).getD i 0 := by
    show s.data[(i : Int).toNat]'_ = _
    rw [List.getD_eq_getElem?_getD, List.getElem?_eq_getElem h]
    simp [bl]
  rw [e]
-- a block: its rows have one length
structure Shp (n m : Nat) (l : List ByteArray) : Prop where
  n2 : 2 ≤ n ∧ n ≤ 12
  m2 : 2 ≤ m ∧ m ≤ 12
  ln : l.length = n
  rw_ : ∀ s, s ∈ l → s.size = m
theorem shpRow {n m : Nat} {l : List ByteArray} (h : Shp n m l) {r : Nat} (hr : r < n) : (bl (l.getD r ByteArray.empty)).length = m := by
  rw [bl_len]
  refine h.rw_ _ ?_
  rw [List.getD_eq_getElem?_getD, List.getElem?_eq_getElem (by rw [h.ln]; exact hr)]
  exact List.getElem_mem _
theorem shpSz {n m : Nat} {l : List ByteArray} (h : Shp n m l) : ((rdOf ByteArray.empty l 0).size : Int) = (m : Int) := by
  have := shpRow h (r := 0) (by have := h.n2; omega)
  rw [bl_len] at this
  show ((l.getD 0 ByteArray.empty).size : Int) = _
  omega
theorem good_shp {l : List ByteArray} (h : good l = true) : Shp l.length (sz0 l) l := by
  obtain ⟨h1, h2, h3⟩ := good_iff.1 h
  refine ⟨h1, h2, rfl, fun s hs => ?_⟩
  have := List.all_eq_true.1 h3 s hs
  unfold rowOk at this
  simp at this
  exact this.1
def ch (l : List ByteArray) (r c : Nat) : UInt8 := (bl (l.getD r ByteArray.empty)).getD c 0
def lnL (l : List ByteArray) (i : Nat) : List UInt8 := if i < l.length then bl (l.getD i ByteArray.empty) else l.map fun s => (bl s).getD (i - l.length) 0
def cO (l : List ByteArray) (i : Nat) : Nat := (lnL l i).count 111
def cQ (l : List ByteArray) (i : Nat) : Nat := (lnL l i).count 63
theorem lnL_len {n m : Nat} {l : List ByteArray} (h : Shp n m l) (i : Nat) : (lnL l i).length ≤ 12 := by
  unfold lnL
  split
  · rename_i c
    rw [shpRow h (by rw [← h.ln]; exact c)]; exact h.m2.2
  · simp; rw [h.ln]; exact h.n2.2
theorem lines_eq {n m : Nat} {l : List ByteArray} (h : Shp n m l) : wrap64 ((l.length : Int) + ((rdOf ByteArray.empty l 0).size : Int)) = ((n + m : Nat) : Int) := by
  rw [shpSz h, h.ln, wrapi (by have := h.n2; have := h.m2; omega) (by have := h.n2; have := h.m2; omega)]; omega
theorem deLines_eq {n m : Nat} {l : List ByteArray} (h : Shp n m l) : spec_deLines.f l = some ((n + m : Nat) : Int) := by
  unfold spec_deLines.f
  rw [if_pos (by rw [h.ln]; have := h.n2; omega), lines_eq h]
theorem deLine_ev {n m : Nat} {l : List ByteArray} (h : Shp n m l) {i : Nat} (hi : i < n + m) : Ev (fun k => spec_deLine.f k l (i : Int)) (mkb (lnL l i)) := by
  have hn := h.n2; have hm := h.m2; have hl := h.ln
  unfold spec_deLine.f
  by_cases c : i < n
  · refine evPos (by omega) (evPos (by omega) (evNow ?_))
    unfold lnL
    rw [if_pos (by omega), mkb_bl]
    rfl
  · refine evNeg (by omega) ?_
    have e1 : wrap64 ((i : Int) - (l.length : Int)) = ((i - n : Nat) : Int) := by rw [wrapi (by omega) (by omega)]; omega
    have e2 : wrap64 (((i - n : Nat) : Int) + 1) = ((i - n + 1 : Nat) : Int) := by rw [wrapi (by omega) (by omega)]; omega
    have go : ∀ (suf pre : List ByteArray), l = pre ++ suf → Ev (fun k => spec_deLine.l0 k l (i : Int) (mkb (pre.map fun s => (bl s).getD (i - n) 0)) l (l.length : Int) (pre.length : Int)) (mkb (l.map fun s => (bl s).getD (i - n) 0)) := by
      intro suf
      induction suf with
      | nil =>
        intro pre hp
        exact Ev.step (fun k => spec_deLine.l0.eq_2 ..) (evNeg (rgEnd hp) (evNow (by subst hp; simp)))
      | cons s suf ih =>
        intro pre hp
        obtain ⟨h1, h2, h3, h4, h5⟩ := rgHead hp (by omega) ByteArray.empty
        have hs := h.rw_ s (by rw [hp]; simp)
        have hb := bl_len s
        have hpl : pre.length ≤ 12 := by rw [hp] at hl; simp at hl; omega
        refine Ev.step (fun k => spec_deLine.l0.eq_2 ..) ?_
        simp only [h1, h2, h3, e1, e2, rdOf, h4, if_true]
        have e3 : bl (s.extract (((i - n : Nat) : Int)).toNat (((i - n + 1 : Nat) : Int)).toNat) = [(bl s).getD (i - n) 0] := by
          rw [bl_extract]
          have hx : i - n < (bl s).length := by omega
          rw [Int.toNat_natCast, Int.toNat_natCast, show i - n + 1 - (i - n) = 1 by omega, List.drop_eq_getElem_cons hx, List.take_succ_cons, List.take_zero, List.getD_eq_getElem?_getD, List.getElem?_eq_getElem hx]
          rfl
        have e4 : s.extract (((i - n : Nat) : Int)).toNat (((i - n + 1 : Nat) : Int)).toNat = mkb [(bl s).getD (i - n) 0] := by rw [← e3, mkb_bl]
        refine evPos (by omega) (evPos (by omega) (evPos (by omega) ?_))
        rw [e4]
        refine evPos (by rw [mkb_size, mkb_size]; simp; omega) ?_
        have := ih (pre ++ [s]) h5
        simp only [List.map_append, List.map_cons, List.map_nil] at this
        rw [mkb_append]
        exact this
    have := go l [] rfl
    unfold lnL
    rw [if_neg (by omega), hl]
    rw [hl] at this
    exact this
theorem blockLine_ev {n m : Nat} {l : List ByteArray} (h : Shp n m l) {i : Nat} (hi : i < n + m) : Ev (fun k => impl_blockLine.f k l (i : Int)) ((lnL l i).map fun b => (b.toNat : Int)) := by
  have hn := h.n2; have hm := h.m2; have hl := h.ln
  unfold impl_blockLine.f
  by_cases c : i < n
  · have hr := shpRow h c
    rw [bl_len] at hr
    refine evPos (by omega) (evPos (by omega) (evPos ?_ (evNow ?_)))
    · show (l.getD (i : Int).toNat ByteArray.empty).size ≤ _
      rw [Int.toNat_natCast]; omega
    · unfold lnL
      rw [if_pos (by omega)]
      rfl
  · refine evNeg (by omega) ?_
    have e1 : wrap64 ((i : Int) - (l.length : Int)) = ((i - n : Nat) : Int) := by rw [wrapi (by omega) (by omega)]; omega
    have go : ∀ (suf pre : List ByteArray), l = pre ++ suf → Ev (fun k => impl_blockLine.l0 k l (i : Int) (pre.map fun s => (((bl s).getD (i - n) 0).toNat : Int)) l (l.length : Int) (pre.length : Int)) (l.map fun s => (((bl s).getD (i - n) 0).toNat : Int)) := by
      intro suf
      induction suf with
      | nil =>
        intro pre hp
        exact Ev.step (fun k => impl_blockLine.l0.eq_2 ..) (evNeg (rgEnd hp) (evNow (by subst hp; simp)))
      | cons s suf ih =>
        intro pre hp
        obtain ⟨h1, h2, h3, h4, h5⟩ := rgHead hp (by omega) ByteArray.empty
        have hs := h.rw_ s (by rw [hp]; simp)
        have hb := bl_len s
        have hpl : pre.length ≤ 12 := by rw [hp] at hl; simp at hl; omega
        refine Ev.step (fun k => impl_blockLine.l0.eq_2 ..) ?_
        simp only [h1, h2, h3, e1, rdOf, h4, if_true]
        refine evPos (by omega) (evPos (by omega) (evPos (by simp; omega) ?_))
        rw [bt_at_ s (i - n) (by omega)]
        have := ih (pre ++ [s]) h5
        simp only [List.map_append, List.map_cons, List.map_nil] at this
        exact this
    have := go l [] rfl
    unfold lnL
    rw [if_neg (by omega), hl, List.map_map]
    rw [hl] at this
    exact this
theorem deCnt_ev (b : List UInt8) (hs : b.length ≤ 1048576) (c : Nat) (hc : c < 256) : Ev (fun k => spec_deCount.f k (mkb b) (c : Int)) ((b.count (UInt8.ofNat c) : Nat) : Int) := by
  unfold spec_deCount.f
  have hsz : (mkb b).size = b.length := mkb_size b
  have go : ∀ (suf pre : List UInt8) (a : Nat), b = pre ++ suf → a ≤ pre.length → Ev (fun k => spec_deCount.l0 k (mkb b) (c : Int) (a : Int) (pre.length : Int)) ((a + suf.count (UInt8.ofNat c) : Nat) : Int) := by
    intro suf
    induction suf with
    | nil =>
      intro pre a h _
      have : pre.length = (mkb b).size := by rw [hsz, h]; simp
      exact Ev.step (fun k => spec_deCount.l0.eq_2 ..) (evNeg (by omega) (evNow (by simp)))
    | cons x suf ih =>
      intro pre a h ha
      have hl : pre.length + (suf.length + 1) = (mkb b).size := by rw [hsz, h]; simp
      have hb := bt_mid (s := mkb b) (by rw [bl_mkb]; exact h)
      have e : wrap64 ((pre.length : Int) + 1) = ((pre ++ [x]).length : Int) := by rw [wrapi (by omega) (by omega)]; simp
      refine Ev.step (fun k => spec_deCount.l0.eq_2 ..) (evPos (by omega) (evPos (by omega) ?_))
      rw [hb, e, wrapi (x := (a : Int) + 1) (by omega) (by omega)]
      have hu := u8_eq x c hc
      refine evBy (fun q => ?_) (fun q => ?_)
      · have q' : x = UInt8.ofNat c := hu.1 q
        refine evEq (ih (pre ++ [x]) (a + 1) (by rw [h]; simp) (by simp; omega)) ?_
        rw [q', List.count_cons_self]; omega
      · have q' : ¬ x = UInt8.ofNat c := fun z => q (hu.2 z)
        refine evEq (ih (pre ++ [x]) a (by rw [h]; simp) (by simp; omega)) ?_
        rw [List.count_cons_of_ne (by simpa using q')]
  have := go b [] 0 rfl (by simp)
  simpa using this
theorem rdMap {b pre suf : List UInt8} {x : UInt8} (h : b = pre ++ x :: suf) : rd (b.map fun (b : UInt8) => (b.toNat : Int)) (pre.length : Int) = (x.toNat : Int) := by
  subst h; simp [rd]
theorem lineCounts_l0 (b : List UInt8) (hs : b.length ≤ 1048576) : ∀ (suf pre : List UInt8) (p q : Nat), b = pre ++ suf → p ≤ pre.length → q ≤ pre.length →
    Ev (fun k => impl_lineCounts.l0 k (p : Int) (q : Int) (b.map fun b => (b.toNat : Int)) ((b.map fun (b : UInt8) => (b.toNat : Int)).length : Int) (pre.length : Int)) (((p + suf.count 111 : Nat) : Int), ((q + suf.count 63 : Nat) : Int)) := by
  intro suf
  induction suf with
  | nil =>
    intro pre p q h _ _
    exact Ev.step (fun k => impl_lineCounts.l0.eq_2 ..) (evNeg (by subst h; simp) (evNow (by simp)))
  | cons x suf ih =>
    intro pre p q h hp hq
    have hl : pre.length + (suf.length + 1) = b.length := by rw [h]; simp
    have e : wrap64 ((pre.length : Int) + 1) = ((pre ++ [x]).length : Int) := by rw [wrapi (by omega) (by omega)]; simp
    have h5 : b = (pre ++ [x]) ++ suf := by rw [h]; simp
    refine Ev.step (fun k => impl_lineCounts.l0.eq_2 ..) (evPos (by simp; omega) (evPos (by omega) (evPos (by simp; omega) ?_)))
    rw [rdMap h, e, wrapi (x := (p : Int) + 1) (by omega) (by omega), wrapi (x := (q : Int) + 1) (by omega) (by omega)]
    have h1 := u8_eq x 111 (by omega)
    have h2 := u8_eq x 63 (by omega)
    refine evBy (fun c => ?_) (fun c => evBy (fun c' => ?_) (fun c' => ?_))
    · have z : x = 111 := h1.1 c
      refine evEq (ih (pre ++ [x]) (p + 1) q h5 (by simp; omega) (by simp; omega)) ?_
      rw [z, List.count_cons_self, List.count_cons_of_ne (by decide)]
      congr 1; omega
    · have z : x = 63 := h2.1 c'
      refine evEq (ih (pre ++ [x]) p (q + 1) h5 (by simp; omega) (by simp; omega)) ?_
      rw [z, List.count_cons_self, List.count_cons_of_ne (by decide)]
      congr 1; omega
    · have z1 : ¬ x = 111 := fun z => c (h1.2 z)
      have z2 : ¬ x = 63 := fun z => c' (h2.2 z)
      refine evEq (ih (pre ++ [x]) p q h5 (by simp; omega) (by simp; omega)) ?_
      rw [List.count_cons_of_ne (by simpa using z1), List.count_cons_of_ne (by simpa using z2)]
theorem lineCounts_ev {n m : Nat} {l : List ByteArray} (h : Shp n m l) {i : Nat} (hi : i < n + m) : Ev (fun k => impl_lineCounts.f k l (i : Int)) (((cO l i : Nat) : Int), ((cQ l i : Nat) : Int)) := by
  unfold impl_lineCounts.f
  refine Ev.bind (blockLine_ev h hi) ?_
  have := lineCounts_l0 (lnL l i) (by have := lnL_len h i; omega) (lnL l i) [] 0 0 rfl (by simp) (by simp)
  simpa [cO, cQ] using this
-- another character at a place
def setB (l : List ByteArray) (r c : Nat) (b : UInt8) : List ByteArray := l.set r (mkb ((bl (l.getD r ByteArray.empty)).set c b))
theorem setB_shp {n m : Nat} {l : List ByteArray} (h : Shp n m l) {r : Nat} (hr : r < n) (c : Nat) (b : UInt8) : Shp n m (setB l r c b) := by
  refine ⟨h.n2, h.m2, by simp [setB, h.ln], fun s hs => ?_⟩
  rcases List.mem_or_eq_of_mem_set hs with z | z
  · exact h.rw_ s z
  · rw [z, mkb_size, List.length_set, shpRow h hr]
theorem own_eq {l : List ByteArray} (hl : l.length ≤ 1048576) : spec_l1OwnS.f l = some l := by
  unfold spec_l1OwnS.f
  simp only [Option.bind_some]
  rw [if_pos (by simp; omega)]; simp
theorem deWith_eq {n m : Nat} {l : List ByteArray} (h : Shp n m l) {r c : Nat} (hr : r < n) (hc : c < m) (b : UInt8) : spec_deWith.f l (r : Int) (c : Int) (mkb [b]) = some (setB l r c b) := by
  have hn := h.n2; have hm := h.m2; have hl := h.ln
  have hrow := shpRow h hr
  have hsz : (rdOf ByteArray.empty l (r : Int)).size = m := by rw [← hrow, bl_len]; rfl
  have eb : bl (rdOf ByteArray.empty l (r : Int)) = bl (l.getD r ByteArray.empty) := rfl
  have e1 : wrap64 ((c : Int) + 1) = ((c + 1 : Nat) : Int) := by rw [wrapi (by omega) (by omega)]; omega
  unfold spec_deWith.f
  rw [own_eq (by omega)]
  simp only [Option.bind_some, e1]
  have sz : ∀ (i j : Nat), ((rdOf ByteArray.empty l (r : Int)).extract i j).size ≤ m := fun i j => by rw [← bl_len, bl_extract, eb, List.length_take, List.length_drop]; omega
  have s1 := sz 0 (c : Int).toNat
  have s2 := sz ((c + 1 : Nat) : Int).toNat (rdOf ByteArray.empty l (r : Int)).size
  have s3 : (((rdOf ByteArray.empty l (r : Int)).extract 0 (c : Int).toNat) ++ mkb [b]).size ≤ m + 1 := by rw [← bl_len, bl_append, List.length_append, bl_mkb, bl_len]; simp; omega
  rw [if_pos (by omega), if_pos (by omega), if_pos (by omega), if_pos (by omega), if_pos (by rw [mkb_size]; simp; omega), if_pos (by omega), if_pos (by omega), if_pos (by omega), if_pos (by omega)]
  congr 1
  unfold setB
  rw [Int.toNat_natCast]
  congr 1
  refine bl_inj ?_
  rw [bl_append, bl_append, bl_mkb, bl_mkb, bl_extract, bl_extract, eb, hsz, Int.toNat_natCast, Int.toNat_natCast, List.drop_zero, Nat.sub_zero]
  rw [List.set_eq_take_append_cons_drop, if_pos (by omega), List.append_assoc, List.singleton_append]
  congr 2
  exact List.take_of_length_le (by rw [List.length_drop]; omega)
-- ** peel
theorem getD_in {α : Type} {l : List α} {i : Nat} (z : α) (h : i < l.length) : l.getD i z = l[i] := by rw [List.getD_eq_getElem?_getD, List.getElem?_eq_getElem h]; rfl
theorem fn_eq {n m : Nat} {l : List ByteArray} (h : Shp n m l) (r c : Nat) (b : UInt8) {x y : Nat} (hx : x < n) (hy : y < m) : impl_withCharFn.f (x : Int) (y : Int) (r : Int) (c : Int) (b.toNat : Int) l = some (((if x = r ∧ y = c then b else ch l x y).toNat : Nat) : Int) := by
  have hn := h.n2; have hl := h.ln
  have hr := shpRow h hx
  have hsz : (rdOf ByteArray.empty l (x : Int)).size = m := by rw [← hr, bl_len]; rfl
  have e : bt (rdOf ByteArray.empty l (x : Int)) (y : Int) = ((ch l x y).toNat : Int) := bt_at_ (l.getD x ByteArray.empty) y (by omega)
  have rest : (if (0 : Int) ≤ (x : Int) then (if (x : Int) < (l.length : Int) then (if (0 : Int) ≤ (y : Int) then (if (y : Int) < ((rdOf ByteArray.empty l (x : Int)).size : Int) then (some (bt (rdOf ByteArray.empty l (x : Int)) (y : Int))) else none) else none) else none) else none) = some ((ch l x y).toNat : Int) := by
    rw [if_pos (by omega), if_pos (by omega), if_pos (by omega), if_pos (by omega), e]
  unfold impl_withCharFn.f
  by_cases c1 : x = r
  · rw [if_pos (by omega)]
    by_cases c2 : y = c
    · rw [if_pos (by omega), if_pos ⟨c1, c2⟩]
    · rw [if_neg (show ¬ ((y : Int) = (c : Int)) by omega), rest, if_neg (fun z => c2 z.2)]
  · rw [if_neg (show ¬ ((x : Int) = (r : Int)) by omega), rest, if_neg (fun z => c1 z.1)]
def rowW (l : List ByteArray) (m r c : Nat) (b : UInt8) (x : Nat) : List UInt8 := (List.range m).map fun y => if x = r ∧ y = c then b else ch l x y
theorem rowW_eq {n m : Nat} {l : List ByteArray} (h : Shp n m l) {r c : Nat} (b : UInt8) {x : Nat} (hx : x < n) : rowW l m r c b x = bl ((setB l r c b).getD x ByteArray.empty) := by
  have hr := shpRow h hx
  have hl := h.ln
  unfold setB
  apply List.ext_getElem
  · by_cases e : r = x
    · subst e; rw [List.getD_eq_getElem?_getD, List.getElem?_set_self (by omega)]; simp [rowW, bl_mkb]; exact hr.symm
    · rw [List.getD_eq_getElem?_getD, List.getElem?_set_ne e, ← List.getD_eq_getElem?_getD, hr]; simp [rowW]
  · intro y h1 h2
    have hy : y < m := by simpa [rowW] using h1
    have hc : ch l x y = (bl (l.getD x ByteArray.empty))[y]'(by omega) := getD_in 0 (by omega)
    by_cases e : r = x
    · subst e
      have e2 : (l.set r (mkb ((bl (l.getD r ByteArray.empty)).set c b))).getD r ByteArray.empty = mkb ((bl (l.getD r ByteArray.empty)).set c b) := by rw [List.getD_eq_getElem?_getD, List.getElem?_set_self (by omega)]; rfl
      simp only [e2, bl_mkb, List.getElem_set]
      simp only [rowW, List.getElem_map, List.getElem_range, hc, true_and]
      by_cases q : c = y
      · rw [if_pos q, if_pos q.symm]
      · rw [if_neg q, if_neg (fun z => q z.symm)]
    · have e2 : (l.set r (mkb ((bl (l.getD r ByteArray.empty)).set c b))).getD x ByteArray.empty = l.getD x ByteArray.empty := by rw [List.getD_eq_getElem?_getD, List.getElem?_set_ne e, ← List.getD_eq_getElem?_getD]
      simp only [e2]
      simp only [rowW, List.getElem_map, List.getElem_range, hc]
      rw [if_neg (fun z => e z.1.symm)]
theorem drawn_l1 {n m : Nat} {l : List ByteArray} (h : Shp n m l) (r c : Nat) (b : UInt8) (out : List ByteArray) (ho : out.length ≤ 12) {x : Nat} (hx : x < n) (q : List ByteArray) (hq : Ev (fun k => impl_drawn.l0 k (n : Int) (m : Int) (r : Int) (c : Int) (b.toNat : Int) l (out ++ [mkb (rowW l m r c b x)]) (wrap64 ((x : Int) + 1))) q) : ∀ (d y : Nat), y + d = m →
    Ev (fun k => impl_drawn.l1 k (n : Int) (m : Int) (r : Int) (c : Int) (b.toNat : Int) l out (x : Int) (((rowW l m r c b x).take y).map (fun b => (b.toNat : Int)) ++ List.replicate d 0) (m : Int) (y : Int)) q := by
  have hm := h.m2
  have hlen : (rowW l m r c b x).length = m := by simp [rowW]
  intro d
  induction d with
  | zero =>
    intro y hy
    have : y = m := by omega
    subst this
    refine Ev.step (fun k => impl_drawn.l1.eq_2 ..) (evNeg (by omega) (evPos (by omega) ?_))
    rw [List.take_of_length_le (by omega), List.replicate_zero, List.append_nil]
    have e : strOfNums ((rowW l y r c b x).map fun b => (b.toNat : Int)) = mkb (rowW l y r c b x) := (by
      unfold strOfNums mkb
      congr 2
      rw [List.map_map]
      conv => rhs; rw [← List.map_id (rowW l y r c b x)]
      refine List.map_congr_left (fun b _ => ?_)
      simp)
    rw [e]; exact hq
  | succ d ih =>
    intro y hy
    have hy' : y < m := by omega
    have e1 : wrap64 ((y : Int) + 1) = ((y + 1 : Nat) : Int) := by rw [wrapi (by omega) (by omega)]; omega
    refine Ev.step (fun k => impl_drawn.l1.eq_2 ..) (evPos (by omega) ?_)
    rw [fn_eq h r c b hx hy']
    simp only [Option.bind_some]
    refine evPos (by omega) (evPos (by simp; omega) ?_)
    have tk : (rowW l m r c b x).take (y + 1) = (rowW l m r c b x).take y ++ [if x = r ∧ y = c then b else ch l x y] := by
      rw [List.take_add_one, List.getElem?_eq_getElem (by omega)]
      simp [rowW]
    have st : (((rowW l m r c b x).take y).map (fun (b : UInt8) => (b.toNat : Int)) ++ List.replicate (d + 1) 0).set (y : Int).toNat (((if x = r ∧ y = c then b else ch l x y).toNat : Nat) : Int) = ((rowW l m r c b x).take (y + 1)).map (fun (b : UInt8) => (b.toNat : Int)) ++ List.replicate d 0 := by
      rw [List.replicate_succ, setAt _ _ _ _ _ (by simp; omega), tk]
      simp
    rw [st, e1]
    exact ih (y + 1) (by omega)
theorem drawn_l0 {n m : Nat} {l : List ByteArray} (h : Shp n m l) {r c : Nat} (b : UInt8) : ∀ (d x : Nat), x + d = n →
    Ev (fun k => impl_drawn.l0 k (n : Int) (m : Int) (r : Int) (c : Int) (b.toNat : Int) l ((setB l r c b).take x) (x : Int)) (setB l r c b) := by
  have hn := h.n2; have hm := h.m2
  have hlen : (setB l r c b).length = n := by simp [setB, h.ln]
  intro d
  induction d with
  | zero =>
    intro x hx
    refine Ev.step (fun k => impl_drawn.l0.eq_2 ..) (evNeg (by omega) (evNow ?_))
    exact List.take_of_length_le (by omega)
  | succ d ih =>
    intro x hx
    have e1 : wrap64 ((x : Int) + 1) = ((x + 1 : Nat) : Int) := by rw [wrapi (by omega) (by omega)]; omega
    refine Ev.step (fun k => impl_drawn.l0.eq_2 ..) (evPos (by omega) (evPos (by omega) (evPos (by omega) ?_)))
    simp only [Option.bind_some]
    have := drawn_l1 h r c b ((setB l r c b).take x) (by rw [List.length_take]; omega) (x := x) (by omega) (setB l r c b) (by
      have tk : (setB l r c b).take (x + 1) = (setB l r c b).take x ++ [mkb (rowW l m r c b x)] := by
        rw [List.take_add_one, List.getElem?_eq_getElem (by omega), rowW_eq h b (by omega), mkb_bl, getD_in _ (by omega)]; rfl
      rw [← tk, e1]; exact ih (x + 1) (by omega)) m 0 (by omega)
    simpa using this
theorem withChar_ev {n m : Nat} {l : List ByteArray} (h : Shp n m l) {r c : Nat} (b : UInt8) : Ev (fun k => impl_withChar.f k l (r : Int) (c : Int) (b.toNat : Int)) (setB l r c b) := by
  unfold impl_withChar.f impl_drawn.f
  refine evPos (by rw [h.ln]; have := h.n2; omega) ?_
  rw [shpSz h, h.ln]
  have := drawn_l0 h (r := r) (c := c) b n 0 (by omega)
  exact Ev.bind (by simpa using this) (Ev.now _)
-- filling the erased character of the first line that has one alone
def evB (n : Nat) : UInt8 := if n % 2 = 0 then 46 else 111
def fillB (l : List ByteArray) (i : Nat) : List ByteArray := if i < l.length then setB l i ((lnL l i).idxOf 63) (evB (cO l i)) else setB l ((lnL l i).idxOf 63) (i - l.length) (evB (cO l i))
def peelAt (l : List ByteArray) : Nat → Nat → Option (List ByteArray)
  | _, 0 => none
  | i, d + 1 => if cQ l i = 1 then some (fillB l i) else peelAt l (i + 1) d
theorem idx_lt {n m : Nat} {l : List ByteArray} (h : Shp n m l) {i : Nat} (_ : i < n + m) (hc : cQ l i = 1) : (lnL l i).idxOf 63 < (if i < n then m else n) := by
  have hm : (63 : UInt8) ∈ lnL l i := List.count_pos_iff.1 (by unfold cQ at hc; omega)
  have := List.idxOf_lt_length_iff.2 hm
  refine Nat.lt_of_lt_of_le this ?_
  unfold lnL
  rw [h.ln]
  split
  · rename_i c; rw [shpRow h c]; exact Nat.le_refl _
  · simp [h.ln]
theorem fill_shp {n m : Nat} {l : List ByteArray} (h : Shp n m l) {i : Nat} (hi : i < n + m) (hc : cQ l i = 1) : Shp n m (fillB l i) := by
  have := idx_lt h hi hc
  unfold fillB
  rw [h.ln]
  split
  · rename_i c; exact setB_shp h c _ _
  · rename_i c; rw [if_neg c] at this; exact setB_shp h this _ _
theorem ers_app : ∀ (a b : List ByteArray), ers (a ++ b) = ers a + ers b
  | [], b => by simp [ers]
  | s :: a, b => by simp [ers, ers_app a b]; omega
theorem count_set {b : List UInt8} {c : Nat} (hc : c < b.length) (h : b[c] = 63) {v : UInt8} (hv : v ≠ 63) : (b.set c v).count 63 + 1 = b.count 63 := by
  have e : b = b.take c ++ 63 :: b.drop (c + 1) := by rw [← h]; simp
  have : b.set c v = b.take c ++ v :: b.drop (c + 1) := by rw [List.set_eq_take_append_cons_drop, if_pos hc]
  rw [this]
  conv => rhs; rw [e]
  rw [List.count_append, List.count_append, List.count_cons_self, List.count_cons_of_ne hv]; omega
theorem ers_set {n m : Nat} {l : List ByteArray} (h : Shp n m l) {r c : Nat} (hr : r < n) (hc : c < m) (he : ch l r c = 63) {v : UInt8} (hv : v ≠ 63) : ers (setB l r c v) + 1 = ers l := by
  have hl := h.ln
  have hrow := shpRow h hr
  have e : l = l.take r ++ l.getD r ByteArray.empty :: l.drop (r + 1) := by
    rw [getD_in _ (by omega)]; simp
  have e2 : setB l r c v = l.take r ++ mkb ((bl (l.getD r ByteArray.empty)).set c v) :: l.drop (r + 1) := by unfold setB; rw [List.set_eq_take_append_cons_drop, if_pos (by omega)]
  rw [e2]
  conv => rhs; rw [e]
  rw [ers_app, ers_app]
  simp only [ers, cnt, bl_mkb]
  have := count_set (b := bl (l.getD r ByteArray.empty)) (c := c) (by omega) (by rw [← getD_in 0 (by omega)]; exact he) hv
  omega
theorem evB_ne (n : Nat) : evB n ≠ 63 := by unfold evB; split <;> decide
theorem fill_ers {n m : Nat} {l : List ByteArray} (h : Shp n m l) {i : Nat} (hi : i < n + m) (hc : cQ l i = 1) : ers (fillB l i) + 1 = ers l := by
  have hx := idx_lt h hi hc
  have hm : (63 : UInt8) ∈ lnL l i := List.count_pos_iff.1 (by unfold cQ at hc; omega)
  have hlt := List.idxOf_lt_length_iff.2 hm
  have hg : (lnL l i)[(lnL l i).idxOf 63]'hlt = 63 := List.getElem_idxOf hlt
  unfold fillB
  rw [h.ln]
  split
  · rename_i c
    rw [if_pos c] at hx
    refine ers_set h c hx ?_ (evB_ne _)
    have e : lnL l i = bl (l.getD i ByteArray.empty) := by unfold lnL; rw [if_pos (by rw [h.ln]; exact c)]
    have : (lnL l i).getD ((lnL l i).idxOf 63) 0 = 63 := by rw [getD_in 0 hlt]; exact hg
    unfold ch
    rw [e] at this ⊢
    exact this
  · rename_i c
    rw [if_neg c] at hx
    refine ers_set h hx (by omega) ?_ (evB_ne _)
    have e : lnL l i = l.map fun s => (bl s).getD (i - l.length) 0 := by unfold lnL; rw [if_neg (by rw [h.ln]; exact c)]
    have : (lnL l i).getD ((lnL l i).idxOf 63) 0 = 63 := by rw [getD_in 0 hlt]; exact hg
    generalize hat : (lnL l i).idxOf 63 = at_ at this hx ⊢
    rw [e, getD_in 0 (by simp; rw [h.ln]; exact hx), List.getElem_map] at this
    unfold ch
    have hle := h.ln
    rw [getD_in ByteArray.empty (by omega)]
    simp only [hle] at this
    exact this
inductive Peels : List ByteArray → List ByteArray → Prop
  | stop {n m : Nat} {l : List ByteArray} (h : Shp n m l) (hp : peelAt l 0 (n + m) = none) : Peels l l
  | next {n m : Nat} {l l' r : List ByteArray} (h : Shp n m l) (hp : peelAt l 0 (n + m) = some l') (hr : Peels l' r) : Peels l r
theorem peelAt_some {n m : Nat} {l : List ByteArray} (h : Shp n m l) {l' : List ByteArray} : ∀ (d i : Nat), i + d = n + m → peelAt l i d = some l' → Shp n m l' ∧ ers l' + 1 = ers l
  | 0, i, _, hp => by simp [peelAt] at hp
  | d + 1, i, hd, hp => by
    simp only [peelAt] at hp
    split at hp
    · rename_i c
      obtain rfl := Option.some.inj hp
      exact ⟨fill_shp h (by omega) c, fill_ers h (by omega) c⟩
    · exact peelAt_some h d (i + 1) (by omega) hp
theorem peels_all {n m : Nat} : ∀ (e : Nat) {l : List ByteArray}, Shp n m l → ers l = e → ∃ r, Peels l r ∧ Shp n m r
  | e, l, h, he => by
    cases hp : peelAt l 0 (n + m) with
    | none => exact ⟨l, Peels.stop h hp, h⟩
    | some l' =>
      obtain ⟨h', he'⟩ := peelAt_some h (n + m) 0 (by omega) hp
      obtain ⟨r, hr, hs⟩ := peels_all (n := n) (m := m) (ers l') h' rfl
      exact ⟨r, Peels.next h hp hr, hs⟩
  termination_by e => e
theorem even_eq (n : Nat) : impl_evenChar.f (n : Int) = some (((evB n).toNat : Nat) : Int) := by
  unfold impl_evenChar.f evB
  by_cases c : n % 2 = 0
  · rw [if_neg (by rw [Int.tmod_eq_emod_of_nonneg (by omega)]; omega), if_pos c]; rfl
  · rw [if_pos (by rw [Int.tmod_eq_emod_of_nonneg (by omega)]; omega), if_neg c]; rfl
theorem deMark_eq (n : Nat) : spec_deMark.f (n : Int) = some (mkb [evB n]) := by
  unfold spec_deMark.f evB
  by_cases c : n % 2 = 0
  · rw [if_pos (by rw [Int.tmod_eq_emod_of_nonneg (by omega)]; omega), if_pos c]; rfl
  · rw [if_neg (by rw [Int.tmod_eq_emod_of_nonneg (by omega)]; omega), if_neg c]; rfl
theorem idx_pre {pre suf : List UInt8} {x : UInt8} (h : ∀ y, y ∈ pre → y ≠ 63) (hx : x = 63) : (pre ++ x :: suf).idxOf 63 = pre.length := by
  subst hx
  rw [List.idxOf_append, if_neg (fun z => h _ z rfl)]; simp
theorem once_l1 {n m : Nat} {l : List ByteArray} (h : Shp n m l) {i : Nat} (hi : i < n + m) : ∀ (suf pre : List UInt8), lnL l i = pre ++ suf → (∀ y, y ∈ pre → y ≠ 63) → (63 : UInt8) ∈ suf →
    Ev (fun k => impl_peelOnce.l1 k l (i : Int) ((cO l i : Nat) : Int) ((n + m : Nat) : Int) (i : Int) ((lnL l i).map fun b => (b.toNat : Int)) (((lnL l i).map fun (b : UInt8) => (b.toNat : Int)).length : Int) (pre.length : Int)) (fillB l i, true) := by
  have hl := h.ln; have hn := h.n2; have hm := h.m2
  intro suf
  induction suf with
  | nil => intro pre _ _ hm; simp at hm
  | cons x suf ih =>
    intro pre hp hne hmem
    have hlen := lnL_len h i
    have hpl : pre.length + (suf.length + 1) = (lnL l i).length := by rw [hp]; simp
    have e : wrap64 ((pre.length : Int) + 1) = ((pre ++ [x]).length : Int) := by rw [wrapi (by omega) (by omega)]; simp
    refine Ev.step (fun k => impl_peelOnce.l1.eq_2 ..) (evPos (by simp; omega) (evPos (by omega) (evPos (by simp; omega) ?_)))
    rw [rdMap hp, e]
    have hu := u8_eq x 63 (by omega)
    refine evBy (fun c => ?_) (fun c => ?_)
    · have hx : x = 63 := hu.1 c
      have hidx : (lnL l i).idxOf 63 = pre.length := by rw [hp]; exact idx_pre hne hx
      rw [even_eq]
      simp only [Option.bind_some]
      have ef : fillB l i = if i < n then setB l i pre.length (evB (cO l i)) else setB l pre.length (i - n) (evB (cO l i)) := by unfold fillB; rw [hidx, hl]
      rw [ef]
      by_cases q : i < n
      · rw [if_pos q]
        exact evPos (by omega) (Ev.bind (withChar_ev h _) (Ev.now _))
      · rw [if_neg q]
        have e1 : wrap64 ((i : Int) - (l.length : Int)) = ((i - n : Nat) : Int) := by rw [wrapi (by omega) (by omega)]; omega
        rw [e1]
        exact evNeg (by omega) (Ev.bind (withChar_ev h _) (Ev.now _))
    · have hx : x ≠ 63 := fun z => c (hu.2 z)
      refine ih (pre ++ [x]) (by rw [hp]; simp) (fun y hy => ?_) ?_
      · rcases List.mem_append.1 hy with z | z
        · exact hne y z
        · rw [List.mem_singleton.1 z]; exact hx
      · rcases List.mem_cons.1 hmem with z | z
        · exact absurd z.symm hx
        · exact z
theorem once_l0 {n m : Nat} {l : List ByteArray} (h : Shp n m l) : ∀ (d i : Nat), i + d = n + m →
    Ev (fun k => impl_peelOnce.l0 k l ((n + m : Nat) : Int) (i : Int)) (match peelAt l i d with | some l' => (l', true) | none => (l, false)) := by
  have hn := h.n2; have hm := h.m2
  intro d
  induction d with
  | zero =>
    intro i hd
    exact Ev.step (fun k => impl_peelOnce.l0.eq_2 ..) (evNeg (by omega) (Ev.now _))
  | succ d ih =>
    intro i hd
    have hi : i < n + m := by omega
    have e1 : wrap64 ((i : Int) + 1) = ((i + 1 : Nat) : Int) := by rw [wrapi (by omega) (by omega)]; omega
    refine Ev.step (fun k => impl_peelOnce.l0.eq_2 ..) (evPos (by omega) (Ev.bind (lineCounts_ev h hi) ?_))
    dsimp only
    by_cases c : cQ l i = 1
    · have e : peelAt l i (d + 1) = some (fillB l i) := by simp only [peelAt]; rw [if_pos c]
      rw [e]
      refine evPos (by omega) (Ev.bind (blockLine_ev h hi) ?_)
      have := once_l1 h hi (lnL l i) [] rfl (by simp) (List.count_pos_iff.1 (by unfold cQ at c; omega))
      simpa using this
    · have e : peelAt l i (d + 1) = peelAt l (i + 1) d := by simp only [peelAt]; rw [if_neg c]
      rw [e, e1]
      exact evNeg (by omega) (ih (i + 1) (by omega))
theorem once_ev {n m : Nat} {l : List ByteArray} (h : Shp n m l) : Ev (fun k => impl_peelOnce.f k l) (match peelAt l 0 (n + m) with | some l' => (l', true) | none => (l, false)) := by
  unfold impl_peelOnce.f
  refine evPos (by rw [h.ln]; have := h.n2; omega) ?_
  rw [lines_eq h]
  exact once_l0 h (n + m) 0 (by omega)
theorem implPeel_l0 {l r : List ByteArray} (h : Peels l r) : Ev (fun k => impl_peelBlock.l0 k l true) r := by
  induction h with
  | stop h hp =>
    have := once_ev h
    rw [hp] at this
    exact Ev.step (fun k => impl_peelBlock.l0.eq_2 ..) (evPos rfl (Ev.bind this (Ev.step (fun k => impl_peelBlock.l0.eq_2 ..) (evNeg (by simp) (Ev.now _)))))
  | next h hp _ ih =>
    have := once_ev h
    rw [hp] at this
    exact Ev.step (fun k => impl_peelBlock.l0.eq_2 ..) (evPos rfl (Ev.bind this ih))
theorem implPeel_ev {l r : List ByteArray} (hl : l.length ≤ 1048576) (h : Peels l r) : Ev (fun k => impl_peelBlock.f k l) r := by
  unfold impl_peelBlock.f
  simp only [Option.bind_some, List.nil_append, List.length_nil]
  exact evPos (by omega) (implPeel_l0 h)
theorem specPeel_l2 {n m : Nat} {l : List ByteArray} (h : Shp n m l) {i : Nat} (hi : i < n + m) {r : List ByteArray} (hr : Ev (fun k => spec_dePeel.l1 k (fillB l i) true (wrap64 ((i : Int) + 1))) r) : ∀ (suf pre : List UInt8), lnL l i = pre ++ suf → (∀ y, y ∈ pre → y ≠ 63) → (63 : UInt8) ∈ suf →
    Ev (fun k => spec_dePeel.l2 k l (i : Int) (mkb (lnL l i)) (pre.length : Int)) r := by
  have hl := h.ln; have hn := h.n2; have hm := h.m2
  intro suf
  induction suf with
  | nil => intro pre _ _ hm; simp at hm
  | cons x suf ih =>
    intro pre hp hne hmem
    have hlen := lnL_len h i
    have hpl : pre.length + (suf.length + 1) = (lnL l i).length := by rw [hp]; simp
    have e : wrap64 ((pre.length : Int) + 1) = ((pre ++ [x]).length : Int) := by rw [wrapi (by omega) (by omega)]; simp
    have hb := bt_mid (s := mkb (lnL l i)) (by rw [bl_mkb]; exact hp)
    refine Ev.step (fun k => spec_dePeel.l2.eq_2 ..) (evPos (by omega) (evPos (by rw [mkb_size]; omega) ?_))
    rw [hb, e]
    have hu := u8_eq x 63 (by omega)
    refine evBy (fun c => ?_) (fun c => ?_)
    · have hx : x = 63 := hu.1 c
      have hidx : (lnL l i).idxOf 63 = pre.length := by rw [hp]; exact idx_pre hne hx
      have ef : fillB l i = if i < n then setB l i pre.length (evB (cO l i)) else setB l pre.length (i - n) (evB (cO l i)) := by unfold fillB; rw [hidx, hl]
      refine Ev.bind (deCnt_ev (lnL l i) (by omega) 111 (by omega)) ?_
      rw [show (List.count (UInt8.ofNat 111) (lnL l i)) = cO l i from rfl, deMark_eq]
      simp only [Option.bind_some]
      have hq : ∃ q, cQ l i = q := ⟨_, rfl⟩
      by_cases q : i < n
      · rw [if_pos q] at ef
        have hmm : pre.length < m := by
          have : (lnL l i).length = m := by unfold lnL; rw [if_pos (by omega)]; exact shpRow h q
          omega
        rw [deWith_eq h q hmm]
        refine evPos (by omega) ?_
        simp only [Option.bind_some]
        rw [ef] at hr; exact hr
      · rw [if_neg q] at ef
        have hmm : pre.length < n := by
          have : (lnL l i).length = n := by unfold lnL; rw [if_neg (by omega)]; simp [hl]
          omega
        have e1 : wrap64 ((i : Int) - (l.length : Int)) = ((i - n : Nat) : Int) := by rw [wrapi (by omega) (by omega)]; omega
        rw [e1, deWith_eq h hmm (by omega)]
        refine evNeg (by omega) ?_
        simp only [Option.bind_some]
        rw [ef] at hr; exact hr
    · have hx : x ≠ 63 := fun z => c (hu.2 z)
      refine ih (pre ++ [x]) (by rw [hp]; simp) (fun y hy => ?_) ?_
      · rcases List.mem_append.1 hy with z | z
        · exact hne y z
        · rw [List.mem_singleton.1 z]; exact hx
      · rcases List.mem_cons.1 hmem with z | z
        · exact absurd z.symm hx
        · exact z
theorem specPeel_out {n m : Nat} {l : List ByteArray} (h : Shp n m l) {i : Nat} (b : Bool) {r : List ByteArray} (hr : Ev (fun k => spec_dePeel.l0 k l b) r) (hb : b = true ∨ ¬ i < n + m) : Ev (fun k => spec_dePeel.l1 k l b (i : Int)) r := by
  refine Ev.step (fun k => spec_dePeel.l1.eq_2 ..) ?_
  rw [deLines_eq h]
  simp only [Option.bind_some]
  refine evBy (fun c => ?_) (fun c => Ev.step (fun k => spec_dePeel.j2.eq_2 ..) (evNeg (by simp) hr))
  have : b = true := by rcases hb with z | z
                        · exact z
                        · exact absurd c (by omega)
  subst this
  exact Ev.step (fun k => spec_dePeel.j2.eq_2 ..) (evNeg (by simp) hr)
theorem specPeel_l1 {n m : Nat} {l : List ByteArray} (h : Shp n m l) {r : List ByteArray} (hr : match peelAt l 0 (n + m) with | some l' => Ev (fun k => spec_dePeel.l0 k l' true) r | none => r = l) : ∀ (d i : Nat), i + d = n + m → peelAt l i d = peelAt l 0 (n + m) →
    Ev (fun k => spec_dePeel.l1 k l false (i : Int)) r := by
  have hn := h.n2; have hm := h.m2
  intro d
  induction d with
  | zero =>
    intro i hd hp
    have hz : peelAt l i 0 = none := rfl
    rw [← hp, hz] at hr
    refine specPeel_out h false ?_ (.inr (by omega))
    exact Ev.step (fun k => spec_dePeel.l0.eq_2 ..) (evNeg (by simp) (evNow hr.symm))
  | succ d ih =>
    intro i hd hp
    have hi : i < n + m := by omega
    have e1 : wrap64 ((i : Int) + 1) = ((i + 1 : Nat) : Int) := by rw [wrapi (by omega) (by omega)]; omega
    refine Ev.step (fun k => spec_dePeel.l1.eq_2 ..) ?_
    rw [deLines_eq h]
    simp only [Option.bind_some]
    refine evPos (by omega) (Ev.step (fun k => spec_dePeel.j2.eq_2 ..) (evPos (by simp) (Ev.bind (deLine_ev h hi) (Ev.bind (deCnt_ev (lnL l i) (by have := lnL_len h i; omega) 63 (by omega)) ?_))))
    rw [show (List.count (UInt8.ofNat 63) (lnL l i)) = cQ l i from rfl]
    by_cases c : cQ l i = 1
    · have e : peelAt l i (d + 1) = some (fillB l i) := by simp only [peelAt]; rw [if_pos c]
      rw [← hp, e] at hr
      refine evPos (by omega) ?_
      have := specPeel_l2 h hi (r := r) (by
        rw [e1]
        exact specPeel_out (fill_shp h hi c) true hr (.inl rfl)) (lnL l i) [] rfl (by simp) (List.count_pos_iff.1 (by unfold cQ at c; omega))
      simpa using this
    · have e : peelAt l i (d + 1) = peelAt l (i + 1) d := by simp only [peelAt]; rw [if_neg c]
      refine evNeg (by omega) ?_
      rw [e1]
      exact ih (i + 1) (by omega) (e ▸ hp)
theorem specPeel_l0 {l r : List ByteArray} (h : Peels l r) : Ev (fun k => spec_dePeel.l0 k l true) r := by
  induction h with
  | stop h hp => exact Ev.step (fun k => spec_dePeel.l0.eq_2 ..) (evPos rfl (specPeel_l1 h (by rw [hp]) _ 0 (by omega) rfl))
  | next h hp _ ih => exact Ev.step (fun k => spec_dePeel.l0.eq_2 ..) (evPos rfl (specPeel_l1 h (by rw [hp]; exact ih) _ 0 (by omega) rfl))
theorem specPeel_ev {l r : List ByteArray} (hl : l.length ≤ 1048576) (h : Peels l r) : Ev (fun k => spec_dePeel.f k l) r := by
  unfold spec_dePeel.f
  rw [own_eq hl]
  exact specPeel_l0 h
-- ** correct
theorem deErased_ev {n m : Nat} {l : List ByteArray} (h : Shp n m l) : Ev (fun k => spec_deErased.f k l) ((ers l : Nat) : Int) := by
  unfold spec_deErased.f
  have hl := h.ln; have hn := h.n2; have hm := h.m2
  have := deErased_l0 l (by omega) (fun s hs => by rw [h.rw_ s hs]; omega) l [] 0 rfl (by simp)
  simpa using this
-- ** classes
theorem countP_less {P : Nat → Bool} (a : Nat) : ∀ (n : Nat), a < n → P a = true → (List.range n).countP (fun t => P t && !(t == a)) + 1 = (List.range n).countP P
  | 0, h, _ => by omega
  | n + 1, h, hP => by
    rw [List.range_succ, List.countP_append, List.countP_append, List.countP_singleton, List.countP_singleton]
    by_cases e : n = a
    · subst e
      have : (List.range n).countP (fun t => P t && !(t == n)) = (List.range n).countP P := List.countP_congr (fun t ht => by
        have : t < n := List.mem_range.1 ht
        have : (t == n) = false := by rw [beq_eq_false_iff_ne]; omega
        simp [this])
      rw [this, hP]; simp
    · have ih := countP_less (P := P) a n (by omega) hP
      have : (n == a) = false := by rw [beq_eq_false_iff_ne]; exact e
      rw [this]
      simp only [Bool.not_false, Bool.and_true]
      omega
def relab (p : Nat → Int) (a b : Int) (i : Nat) : Int := if p i = a then b else p i
def remin (q : Nat → Int) (a b : Int) (i : Nat) : Int := if q i = a ∨ q i = b then min a b else q i
def labs (n : Nat) (p : Nat → Int) : Nat := (List.range n).countP fun (t : Nat) => (List.range n).any fun i => decide (p i = (t : Int))
def fixs (n : Nat) (q : Nat → Int) : Nat := (List.range n).countP fun (i : Nat) => decide (q i = (i : Int))
structure Cls (n : Nat) (p q : Nat → Int) : Prop where
  pb : ∀ i, i < n → 0 ≤ p i ∧ p i < n
  qb : ∀ i, i < n → 0 ≤ q i ∧ q i < n
  qq : ∀ i, i < n → q (q i).toNat = q i
  same : ∀ i j, i < n → j < n → (p i = p j ↔ q i = q j)
  cnt : labs n p = fixs n q
theorem labs_step {n : Nat} {p : Nat → Int} (hp : ∀ i, i < n → 0 ≤ p i ∧ p i < n) {u v : Nat} (hu : u < n) (hv : v < n) (hne : p u ≠ p v) : labs n (relab p (p u) (p v)) + 1 = labs n p := by
  unfold labs
  have hb := hp u hu
  have key := countP_less (P := fun (t : Nat) => (List.range n).any fun i => decide (p i = (t : Int))) (p u).toNat n (by omega) (by
    rw [List.any_eq_true]
    exact ⟨u, List.mem_range.2 hu, decide_eq_true (by omega)⟩)
  rw [← key]
  congr 1
  refine List.countP_congr (fun t ht => ?_)
  simp only [List.any_eq_true, List.mem_range, decide_eq_true_eq, Bool.and_eq_true, Bool.not_eq_true', beq_eq_false_iff_ne]
  unfold relab
  constructor
  · rintro ⟨i, hi, e⟩
    by_cases c : p i = p u
    · rw [if_pos c] at e
      exact ⟨⟨v, hv, e⟩, by omega⟩
    · rw [if_neg c] at e
      exact ⟨⟨i, hi, e⟩, by intro z; apply c; omega⟩
  · rintro ⟨⟨i, hi, e⟩, hz⟩
    exact ⟨i, hi, by rw [if_neg (by omega)]; exact e⟩
theorem fixs_step {n : Nat} {q : Nat → Int} (hq : ∀ i, i < n → 0 ≤ q i ∧ q i < n) (hqq : ∀ i, i < n → q (q i).toNat = q i) {u v : Nat} (hu : u < n) (hv : v < n) (hne : q u ≠ q v) : fixs n (remin q (q u) (q v)) + 1 = fixs n q := by
  unfold fixs
  have hbu := hq u hu
  have hbv := hq v hv
  have hqu := hqq u hu
  have hqv := hqq v hv
  have hm : q (max (q u) (q v)).toNat = max (q u) (q v) := by
    rcases Int.lt_or_le (q u) (q v) with z | z
    · rw [show max (q u) (q v) = q v by omega]; exact hqv
    · rw [show max (q u) (q v) = q u by omega]; exact hqu
  have hm' : q (min (q u) (q v)).toNat = min (q u) (q v) := by
    rcases Int.lt_or_le (q u) (q v) with z | z
    · rw [show min (q u) (q v) = q u by omega]; exact hqu
    · rw [show min (q u) (q v) = q v by omega]; exact hqv
  have key := countP_less (P := fun (i : Nat) => decide (q i = (i : Int))) (max (q u) (q v)).toNat n (by omega) (decide_eq_true (by omega))
  rw [← key]
  congr 1
  refine List.countP_congr (fun i hi => ?_)
  rw [decide_eq_true_iff, Bool.and_eq_true, decide_eq_true_iff, Bool.not_eq_true', beq_eq_false_iff_ne]
  unfold remin
  constructor
  · intro e
    by_cases c : q i = q u ∨ q i = q v
    · rw [if_pos c] at e
      have : i = (min (q u) (q v)).toNat := by omega
      subst this
      exact ⟨by omega, by omega⟩
    · rw [if_neg c] at e
      exact ⟨e, by omega⟩
  · rintro ⟨e, hz⟩
    by_cases c : q i = q u ∨ q i = q v
    · rw [if_pos c]; omega
    · rw [if_neg c]; exact e
theorem cls_step {n : Nat} {p q : Nat → Int} (h : Cls n p q) {u v : Nat} (hu : u < n) (hv : v < n) : Cls n (relab p (p u) (p v)) (remin q (q u) (q v)) := by
  have hpu := h.pb u hu
  have hpv := h.pb v hv
  have hqu := h.qb u hu
  have hqv := h.qb v hv
  refine ⟨fun i hi => ?_, fun i hi => ?_, fun i hi => ?_, fun i j hi hj => ?_, ?_⟩
  · have := h.pb i hi
    unfold relab; split <;> omega
  · have := h.qb i hi
    unfold remin; split <;> omega
  · have hqi := h.qb i hi
    have e1 := h.qq i hi
    have e2 := h.qq u hu
    have e3 := h.qq v hv
    unfold remin
    by_cases c : q i = q u ∨ q i = q v
    · rw [if_pos c]
      rcases Int.lt_or_le (q u) (q v) with z | z
      · rw [show min (q u) (q v) = q u by omega, e2, if_pos (.inl rfl)]
      · rw [show min (q u) (q v) = q v by omega, e3, if_pos (.inr rfl)]
    · rw [if_neg c, e1, if_neg c]
  · have a1 := h.same i u hi hu
    have a2 := h.same i v hi hv
    have b1 := h.same j u hj hu
    have b2 := h.same j v hj hv
    have c0 := h.same i j hi hj
    have d0 := h.same u v hu hv
    unfold relab remin
    by_cases ci : q i = q u ∨ q i = q v
    · by_cases cj : q j = q u ∨ q j = q v
      · rw [if_pos ci, if_pos cj]
        have : ∀ x, (x = i ∨ x = j) → (if p x = p u then p v else p x) = p v := by
          intro x hx
          split
          · rfl
          · rcases hx with rfl | rfl
            · rcases ci with z | z
              · exact absurd (a1.2 z) (by assumption)
              · exact a2.2 z
            · rcases cj with z | z
              · exact absurd (b1.2 z) (by assumption)
              · exact b2.2 z
        rw [this i (.inl rfl), this j (.inr rfl)]
        exact ⟨fun _ => rfl, fun _ => rfl⟩
      · rw [if_pos ci, if_neg cj, if_neg (fun z => cj (.inl (b1.1 z)))]
        constructor
        · intro e
          exfalso
          split at e
          · exact cj (.inr (b2.1 e.symm))
          · rcases ci with z | z
            · exact absurd (a1.2 z) (by assumption)
            · exact cj (.inr (b2.1 (e.symm.trans (a2.2 z))))
        · intro e
          exfalso
          rcases Int.lt_or_le (q u) (q v) with z | z
          · rw [show min (q u) (q v) = q u by omega] at e; exact cj (.inl e.symm)
          · rw [show min (q u) (q v) = q v by omega] at e; exact cj (.inr e.symm)
    · by_cases cj : q j = q u ∨ q j = q v
      · rw [if_neg ci, if_pos cj, if_neg (fun z => ci (.inl (a1.1 z)))]
        constructor
        · intro e
          exfalso
          split at e
          · exact ci (.inr (a2.1 e))
          · rcases cj with z | z
            · exact absurd (b1.2 z) (by assumption)
            · exact ci (.inr (a2.1 (e.trans (b2.2 z))))
        · intro e
          exfalso
          rcases Int.lt_or_le (q u) (q v) with z | z
          · rw [show min (q u) (q v) = q u by omega] at e; exact ci (.inl e)
          · rw [show min (q u) (q v) = q v by omega] at e; exact ci (.inr e)
      · rw [if_neg ci, if_neg cj, if_neg (fun z => ci (.inl (a1.1 z))), if_neg (fun z => cj (.inl (b1.1 z)))]
        exact c0
  · by_cases e : p u = p v
    · have e' := (h.same u v hu hv).1 e
      have hp : relab p (p u) (p v) = p := by
        funext i; unfold relab; split
        · rename_i z; rw [z, e]
        · rfl
      have hq : remin q (q u) (q v) = q := by
        funext i; unfold remin; split
        · rename_i z; omega
        · rfl
      rw [hp, hq]; exact h.cnt
    · have e' : q u ≠ q v := fun z => e ((h.same u v hu hv).2 z)
      have h1 := labs_step h.pb hu hv e
      have h2 := fixs_step h.qb h.qq hu hv e'
      have := h.cnt
      omega
theorem cls_id (n : Nat) : Cls n (fun i => (i : Int)) (fun i => (i : Int)) := by
  refine ⟨fun i hi => by omega, fun i hi => by omega, fun i hi => by simp, fun i j _ _ => Iff.rfl, ?_⟩
  unfold labs fixs
  refine List.countP_congr (fun t ht => ?_)
  simp only [List.any_eq_true, List.mem_range, decide_eq_true_eq]
  exact ⟨fun _ => trivial, fun _ => ⟨t, List.mem_range.1 ht, rfl⟩⟩
-- what a label's lines hold together
def lsum (p h : Nat → Int) (t : Int) : Nat → Int
  | 0 => 0
  | n + 1 => lsum p h t n + (if p n = t then h n else 0)
theorem lsum_same {n : Nat} {p q : Nat → Int} (h : Nat → Int) (hs : ∀ i j, i < n → j < n → (p i = p j ↔ q i = q j)) {z : Nat} (hz : z < n) : ∀ m, m ≤ n → lsum p h (p z) m = lsum q h (q z) m
  | 0, _ => rfl
  | m + 1, hm => by
    simp only [lsum]
    rw [lsum_same h hs hz m (by omega)]
    congr 1
    by_cases c : p m = p z
    · rw [if_pos c, if_pos ((hs m z (by omega) hz).1 c)]
    · rw [if_neg c, if_neg (fun k => c ((hs m z (by omega) hz).2 k))]
-- ** decode
def tabA {α : Type} (n : Nat) (f : Nat → α) : List α := (List.range n).map f
theorem tabA_len {α : Type} (n : Nat) (f : Nat → α) : (tabA n f).length = n := by simp [tabA]
theorem tabA_get {α : Type} {n i : Nat} (f : Nat → α) (z : α) (h : i < n) : (tabA n f).getD i z = f i := by
  rw [getD_in z (by rw [tabA_len]; exact h)]; simp [tabA]
theorem tabA_set {α : Type} {n i : Nat} (f : Nat → α) (v : α) : (tabA n f).set i v = tabA n fun j => if j = i then v else f j := by
  apply List.ext_getElem
  · simp [tabA]
  · intro j h1 h2
    rw [List.getElem_set]
    simp only [tabA, List.getElem_map, List.getElem_range]
    by_cases c : i = j
    · rw [if_pos c, if_pos c.symm]
    · rw [if_neg c, if_neg (fun z => c z.symm)]
theorem tabA_congr {α : Type} {n : Nat} {f g : Nat → α} (h : ∀ j, j < n → f j = g j) : tabA n f = tabA n g := by
  unfold tabA
  exact List.map_congr_left (fun j hj => h j (List.mem_range.1 hj))
theorem tabA_rep {α : Type} (n : Nat) (z : α) : List.replicate n z = tabA n fun _ => z := by
  apply List.ext_getElem
  · simp [tabA]
  · intro j h1 h2; simp [tabA]
def rowQ (l : List ByteArray) (n r c d : Nat) : List (Nat × Nat) := ((List.range' c d).filter fun c => decide (ch l r c = 63)).map fun c => (r, n + c)
def allQ (l : List ByteArray) (n m r d : Nat) : List (Nat × Nat) := (List.range' r d).flatMap fun r => rowQ l n r 0 m
def foldP : List (Nat × Nat) → (Nat → Int) → (Nat → Int)
  | [], p => p
  | (u, v) :: L, p => foldP L (relab p (p u) (p v))
def foldQ : List (Nat × Nat) → (Nat → Int) → (Nat → Int)
  | [], q => q
  | (u, v) :: L, q => foldQ L (remin q (q u) (q v))
theorem foldP_app : ∀ (A B : List (Nat × Nat)) (p : Nat → Int), foldP (A ++ B) p = foldP B (foldP A p)
  | [], _, _ => rfl
  | (u, v) :: A, B, p => by simp only [List.cons_append, foldP]; exact foldP_app A B _
theorem foldQ_app : ∀ (A B : List (Nat × Nat)) (p : Nat → Int), foldQ (A ++ B) p = foldQ B (foldQ A p)
  | [], _, _ => rfl
  | (u, v) :: A, B, p => by simp only [List.cons_append, foldQ]; exact foldQ_app A B _
theorem fold_cls {N : Nat} : ∀ (L : List (Nat × Nat)) {p q : Nat → Int}, (∀ z, z ∈ L → z.1 < N ∧ z.2 < N) → Cls N p q → Cls N (foldP L p) (foldQ L q)
  | [], _, _, _, h => h
  | (u, v) :: L, p, q, hz, h => by
    have := hz (u, v) (by simp)
    exact fold_cls L (fun z hm => hz z (by simp [hm])) (cls_step h this.1 this.2)
theorem rowQ_in {l : List ByteArray} {n m r c d : Nat} (hr : r < n) (hc : c + d ≤ m) : ∀ z, z ∈ rowQ l n r c d → z.1 < n + m ∧ z.2 < n + m := by
  intro z hz
  obtain ⟨x, hx, rfl⟩ := List.mem_map.1 hz
  have := List.mem_range'_1.1 (List.mem_filter.1 hx).1
  dsimp only; omega
theorem allQ_in {l : List ByteArray} {n m : Nat} : ∀ z, z ∈ allQ l n m 0 n → z.1 < n + m ∧ z.2 < n + m := by
  intro z hz
  obtain ⟨r, hr, hz⟩ := List.mem_flatMap.1 hz
  have := List.mem_range'_1.1 hr
  exact rowQ_in (by omega) (by omega) z hz
theorem rowQ_len {n m : Nat} {l : List ByteArray} (h : Shp n m l) {r : Nat} (hr : r < n) : (rowQ l n r 0 m).length = cnt (l.getD r ByteArray.empty) := by
  unfold rowQ cnt
  have hrow := shpRow h hr
  rw [List.length_map, ← List.countP_eq_length_filter, ← List.range_eq_range']
  have e : bl (l.getD r ByteArray.empty) = (List.range m).map fun c => ch l r c := by
    apply List.ext_getElem
    · rw [hrow]; simp
    · intro c h1 h2
      simp only [List.getElem_map, List.getElem_range]
      exact (getD_in 0 h1).symm
  rw [e, List.count, List.countP_map]
  exact List.countP_congr (fun c _ => by simp)
theorem ers_from {n m : Nat} {l : List ByteArray} (h : Shp n m l) : ∀ (d r : Nat), r + d = n → (allQ l n m r d).length = ers (l.drop r)
  | 0, r, hd => by
    rw [List.drop_of_length_le (by rw [h.ln]; omega)]; rfl
  | d + 1, r, hd => by
    have hr : r < l.length := by rw [h.ln]; omega
    have ih := ers_from h d (r + 1) (by omega)
    rw [List.drop_eq_getElem_cons hr]
    simp only [ers]
    rw [← ih]
    unfold allQ
    rw [List.range'_succ, List.flatMap_cons, List.length_append, rowQ_len h (by omega), getD_in _ hr]
theorem least_eq (a b : Int) : spec_l1Least.f a b = some (min a b) := by
  unfold spec_l1Least.f
  split
  · congr 1; omega
  · congr 1; omega
-- the program's labels
theorem pr_l3 (l : List ByteArray) (N : Nat) (hN : N ≤ 24) (p : Nat → Int) (a b : Int) (x3 x6 x7 x40 x41 x48 x49 : Int) {q : Int} (hq : Ev (fun k => impl_decodingBits.l2 k l x3 (tabA N (relab p a b)) x6 x7 x40 x41 x48 (wrap64 (x49 + 1))) q) : ∀ (d i : Nat), i + d = N →
    Ev (fun k => impl_decodingBits.l3 k l x3 (tabA N fun j => if j < i then relab p a b j else p j) x6 x7 a b x40 x41 x48 x49 (N : Int) (i : Int)) q := by
  intro d
  induction d with
  | zero =>
    intro i hd
    refine Ev.step (fun k => impl_decodingBits.l3.eq_2 ..) (evNeg (by omega) ?_)
    have e : (tabA N fun j => if j < i then relab p a b j else p j) = tabA N (relab p a b) := tabA_congr (fun j hj => if_pos (by omega))
    rw [e]; exact hq
  | succ d ih =>
    intro i hd
    have e1 : wrap64 ((i : Int) + 1) = ((i + 1 : Nat) : Int) := by rw [wrapi (by omega) (by omega)]; omega
    have er : rd (tabA N fun j => if j < i then relab p a b j else p j) (i : Int) = p i := by
      show (tabA N _).getD i 0 = _
      rw [tabA_get _ 0 (by omega)]; exact if_neg (by omega)
    refine Ev.step (fun k => impl_decodingBits.l3.eq_2 ..) (evPos (by omega) (evPos (by omega) (evPos (by rw [tabA_len]; omega) ?_)))
    rw [er, e1]
    refine evBy (fun c => ?_) (fun c => ?_)
    · have e : (tabA N fun j => if j < i then relab p a b j else p j).set (i : Int).toNat b = tabA N fun j => if j < i + 1 then relab p a b j else p j := by
        rw [Int.toNat_natCast, tabA_set]
        refine tabA_congr (fun j hj => ?_)
        by_cases z : j = i
        · subst z; rw [if_pos rfl, if_pos (by omega)]; unfold relab; rw [if_pos c]
        · rw [if_neg z]
          by_cases y : j < i
          · rw [if_pos y, if_pos (by omega)]
          · rw [if_neg y, if_neg (by omega)]
      rw [e]; exact ih (i + 1) (by omega)
    · have e : (tabA N fun j => if j < i then relab p a b j else p j) = tabA N fun j => if j < i + 1 then relab p a b j else p j := by
        refine tabA_congr (fun j hj => ?_)
        by_cases z : j = i
        · subst z; rw [if_neg (by omega), if_pos (by omega)]; unfold relab; rw [if_neg c]
        · by_cases y : j < i
          · rw [if_pos y, if_pos (by omega)]
          · rw [if_neg y, if_neg (by omega)]
      rw [e]; exact ih (i + 1) (by omega)
theorem rd_tab {N i : Nat} (p : Nat → Int) (h : i < N) : rd (tabA N p) (i : Int) = p i := tabA_get p 0 h
theorem pr_l2 {n m : Nat} {l : List ByteArray} (h : Shp n m l) {r : Nat} (hr : r < n) (x3 : Int) {q : Int} : ∀ (d c : Nat) (p : Nat → Int) (bits : Int), c + d = m → -1000000 ≤ bits → bits + (d : Int) ≤ 1000000 →
    Ev (fun k => impl_decodingBits.l1 k l x3 (tabA (n + m) (foldP (rowQ l n r c d) p)) (bits + ((rowQ l n r c d).length : Int)) (n : Int) (wrap64 ((r : Int) + 1))) q →
    Ev (fun k => impl_decodingBits.l2 k l x3 (tabA (n + m) p) bits (r : Int) (n : Int) (r : Int) (m : Int) (c : Int)) q := by
  have hn := h.n2; have hm := h.m2; have hl := h.ln
  intro d
  induction d with
  | zero =>
    intro c p bits hd h0 h1 hq
    exact Ev.step (fun k => impl_decodingBits.l2.eq_2 ..) (evNeg (by omega) (by simpa [rowQ, foldP] using hq))
  | succ d ih =>
    intro c p bits hd h0 h1 hq
    have hcm : c < m := by omega
    have k1 : (c : Int) < (m : Int) := by omega
    have k2 : (0 : Int) ≤ (r : Int) := by omega
    have k3 : (r : Int) < (l.length : Int) := by omega
    have k4 : (0 : Int) ≤ (c : Int) := by omega
    have e1 : wrap64 ((c : Int) + 1) = ((c + 1 : Nat) : Int) := by rw [wrapi (by omega) (by omega)]; omega
    have e2 : wrap64 ((l.length : Int) + (c : Int)) = ((n + c : Nat) : Int) := by rw [wrapi (by omega) (by omega)]; omega
    have hsz : (rdOf ByteArray.empty l (r : Int)).size = m := by rw [← shpRow h hr, bl_len]; rfl
    have hb : bt (rdOf ByteArray.empty l (r : Int)) (c : Int) = ((ch l r c).toNat : Int) := bt_at_ (l.getD r ByteArray.empty) c (by rw [shpRow h hr]; exact hcm)
    have hu := u8_eq (ch l r c) 63 (by omega)
    refine Ev.step (fun k => impl_decodingBits.l2.eq_2 ..) ?_
    rw [hb, e1, e2, hsz]
    simp only [if_pos k1, if_pos k2, if_pos k3, if_pos k4]
    clear hsz hb e1
    refine evBy (fun cc => ?_) (fun cc => ?_)
    · have hx : ch l r c = 63 := hu.1 cc
      have e3 : rowQ l n r c (d + 1) = (r, n + c) :: rowQ l n r (c + 1) d := by unfold rowQ; rw [List.range'_succ, List.filter_cons_of_pos (by simpa using hx)]; rfl
      rw [e3] at hq
      simp only [foldP, List.length_cons] at hq
      refine evPos (by rw [tabA_len]; omega) ?_
      refine evPos (by omega) ?_
      refine evPos (by rw [tabA_len]; omega) ?_
      rw [rd_tab p (by omega), rd_tab p (by omega), tabA_len, wrapi (x := bits + 1) (by omega) (by omega)]
      have := pr_l3 l (n + m) (by omega) p (p r) (p (n + c)) x3 (bits + 1) (r : Int) (n : Int) (r : Int) (m : Int) (c : Int) (q := q) (by
        have e1 : wrap64 ((c : Int) + 1) = ((c + 1 : Nat) : Int) := by rw [wrapi (by omega) (by omega)]; omega
        rw [e1]
        refine ih (c + 1) _ (bits + 1) (by omega) (by omega) (by omega) ?_
        refine evEq ?_ rfl
        have e4 : bits + 1 + ((rowQ l n r (c + 1) d).length : Int) = bits + (((rowQ l n r (c + 1) d).length + 1 : Nat) : Int) := by omega
        rw [e4]; exact hq) (n + m) 0 (by omega)
      have e5 : (tabA (n + m) fun j => if j < 0 then relab p (p r) (p (n + c)) j else p j) = tabA (n + m) p := tabA_congr (fun j _ => if_neg (by omega))
      rw [e5] at this
      exact this
    · have hx : ch l r c ≠ 63 := fun z => cc (hu.2 z)
      have e3 : rowQ l n r c (d + 1) = rowQ l n r (c + 1) d := by unfold rowQ; rw [List.range'_succ, List.filter_cons_of_neg (by simpa using hx)]
      rw [e3] at hq
      exact ih (c + 1) p bits (by omega) h0 (by omega) hq
theorem rowQ_le (l : List ByteArray) (n r c d : Nat) : (rowQ l n r c d).length ≤ d := by
  unfold rowQ
  rw [List.length_map]
  have := List.length_filter_le (fun c => decide (ch l r c = 63)) (List.range' c d)
  rw [List.length_range'] at this; exact this
theorem pr_l1 {n m : Nat} {l : List ByteArray} (h : Shp n m l) {q : Int} : ∀ (d r : Nat) (p : Nat → Int) (bits : Int), r + d = n → -1000 ≤ bits → bits ≤ 12 * (r : Int) →
    Ev (fun k => impl_decodingBits.l4 k l ((n + m : Nat) : Int) (tabA (n + m) (foldP (allQ l n m r d) p)) (bits + ((allQ l n m r d).length : Int)) (tabA (n + m) fun _ => (0 : Int)) (tabA (n + m) fun _ => false) ((n + m : Nat) : Int) 0) q →
    Ev (fun k => impl_decodingBits.l1 k l ((n + m : Nat) : Int) (tabA (n + m) p) bits (n : Int) (r : Int)) q := by
  have hn := h.n2; have hm := h.m2; have hl := h.ln
  intro d
  induction d with
  | zero =>
    intro r p bits hd h0 h1 hq
    refine Ev.step (fun k => impl_decodingBits.l1.eq_2 ..) (evNeg (by omega) (evPos (by omega) (evPos (by omega) (evPos (by omega) ?_))))
    rw [Int.toNat_natCast, tabA_rep, tabA_rep]
    simpa [allQ, foldP] using hq
  | succ d ih =>
    intro r p bits hd h0 h1 hq
    have hr : r < n := by omega
    have hrow := shpRow h hr
    have hsz : (rdOf ByteArray.empty l (r : Int)).size = m := by rw [← hrow, bl_len]; rfl
    have e1 : wrap64 ((r : Int) + 1) = ((r + 1 : Nat) : Int) := by rw [wrapi (by omega) (by omega)]; omega
    have e3 : allQ l n m r (d + 1) = rowQ l n r 0 m ++ allQ l n m (r + 1) d := by unfold allQ; rw [List.range'_succ, List.flatMap_cons]
    rw [e3, foldP_app, List.length_append] at hq
    refine Ev.step (fun k => impl_decodingBits.l1.eq_2 ..) (evPos (by omega) (evPos (by omega) (evPos (by omega) ?_)))
    rw [hsz]
    have hle := rowQ_le l n r 0 m
    refine pr_l2 h hr _ m 0 p bits (by omega) (by omega) (by omega) ?_
    rw [e1]
    refine ih (r + 1) _ _ (by omega) (by omega) (by omega) ?_
    have e4 : bits + ((rowQ l n r 0 m).length : Int) + ((allQ l n m (r + 1) d).length : Int) = bits + (((rowQ l n r 0 m).length + (allQ l n m (r + 1) d).length : Nat) : Int) := by omega
    rw [e4]; exact hq
def hO (l : List ByteArray) (i : Nat) : Int := (cO l i : Int)
theorem lsum_bd (p : Nat → Int) (l : List ByteArray) (hl : ∀ i, cO l i ≤ 12) (t : Int) : ∀ n, 0 ≤ lsum p (hO l) t n ∧ lsum p (hO l) t n ≤ 12 * (n : Int)
  | 0 => by simp [lsum]
  | n + 1 => by
    have h1 := lsum_bd p l hl t n
    have h2 := hl n
    have h3 : hO l n = (cO l n : Int) := rfl
    simp only [lsum]
    split <;> omega
theorem cO_le {n m : Nat} {l : List ByteArray} (h : Shp n m l) (i : Nat) : cO l i ≤ 12 := Nat.le_trans List.count_le_length (lnL_len h i)
def there (p : Nat → Int) (i : Nat) (t : Nat) : Bool := (List.range i).any fun j => decide (p j = (t : Int))
theorem there_succ (p : Nat → Int) (i t : Nat) : there p (i + 1) t = (there p i t || decide (p i = (t : Int))) := by unfold there; rw [List.range_succ, List.any_append]; simp
def oddT (l : List ByteArray) (p : Nat → Int) (N t : Nat) : Bool := decide (lsum p (hO l) (t : Int) N % 2 = 1)
theorem pr_l5 {n m : Nat} {l : List ByteArray} (h : Shp n m l) (p : Nat → Int) : ∀ (d t : Nat) (bits : Int), t + d = n + m → -1000 ≤ bits → bits ≤ 1000 + (t : Int) →
    Ev (fun k => impl_decodingBits.l5 k bits (tabA (n + m) fun t => lsum p (hO l) (t : Int) (n + m)) (tabA (n + m) (there p (n + m))) ((n + m : Nat) : Int) (t : Int)) (if (List.range' t d).any (fun t => there p (n + m) t && oddT l p (n + m) t) = true then -1 else bits + ((List.range' t d).countP (there p (n + m)) : Int)) := by
  have hn := h.n2; have hm := h.m2
  intro d
  induction d with
  | zero =>
    intro t bits hd _ _
    exact Ev.step (fun k => impl_decodingBits.l5.eq_2 ..) (evNeg (by omega) (evNow (by simp)))
  | succ d ih =>
    intro t bits hd h0 h1
    have e1 : wrap64 ((t : Int) + 1) = ((t + 1 : Nat) : Int) := by rw [wrapi (by omega) (by omega)]; omega
    have et : rdOf false (tabA (n + m) (there p (n + m))) (t : Int) = there p (n + m) t := tabA_get _ _ (by omega)
    have eo : rd (tabA (n + m) fun t => lsum p (hO l) (t : Int) (n + m)) (t : Int) = lsum p (hO l) (t : Int) (n + m) := rd_tab _ (by omega)
    have hb := lsum_bd p l (cO_le h) (t : Int) (n + m)
    refine Ev.step (fun k => impl_decodingBits.l5.eq_2 ..) (evPos (by omega) (evPos (by omega) (evPos (by rw [tabA_len]; omega) ?_)))
    rw [et, eo, e1, List.range'_succ, List.any_cons, List.countP_cons]
    refine evBy (fun c => evPos (by rw [tabA_len]; omega) (evBy (fun c2 => ?_) (fun c2 => evNow ?_))) (fun c => ?_)
    · have ho : oddT l p (n + m) t = false := decide_eq_false (by rw [Int.tmod_eq_emod_of_nonneg hb.1] at c2; omega)
      rw [wrapi (by omega) (by omega)]
      refine evEq (ih (t + 1) (bits + 1) (by omega) (by omega) (by omega)) ?_
      rw [c, ho]
      simp only [Bool.and_false, Bool.false_or, if_true]
      congr 1; omega
    · have ho : oddT l p (n + m) t = true := decide_eq_true (by rw [Int.tmod_eq_emod_of_nonneg hb.1] at c2; show lsum p (hO l) (t : Int) (n + m) % 2 = 1; have : ¬ lsum p (hO l) (t : Int) (n + m) % 2 = 0 := c2; omega)
      rw [c, ho]; rfl
    · refine evEq (ih (t + 1) bits (by omega) h0 (by omega)) ?_
      rw [Bool.eq_false_iff.2 c, Bool.false_and, Bool.false_or]
      simp
theorem pr_l4 {n m : Nat} {l : List ByteArray} (h : Shp n m l) (p : Nat → Int) (hp : ∀ i, i < n + m → 0 ≤ p i ∧ p i < ((n + m : Nat) : Int)) (bits : Int) (hb0 : -1000 ≤ bits) (hb1 : bits ≤ 1000) : ∀ (d i : Nat), i + d = n + m →
    Ev (fun k => impl_decodingBits.l4 k l ((n + m : Nat) : Int) (tabA (n + m) p) bits (tabA (n + m) fun t => lsum p (hO l) (t : Int) i) (tabA (n + m) (there p i)) ((n + m : Nat) : Int) (i : Int)) (if (List.range' 0 (n + m)).any (fun t => there p (n + m) t && oddT l p (n + m) t) = true then -1 else bits + ((List.range' 0 (n + m)).countP (there p (n + m)) : Int)) := by
  have hn := h.n2; have hm := h.m2
  intro d
  induction d with
  | zero =>
    intro i hd
    have : i = n + m := by omega
    subst this
    exact Ev.step (fun k => impl_decodingBits.l4.eq_2 ..) (evNeg (by omega) (pr_l5 h p (n + m) 0 bits (by omega) hb0 (by omega)))
  | succ d ih =>
    intro i hd
    have hi : i < n + m := by omega
    have hpi := hp i hi
    obtain ⟨t, ht⟩ : ∃ t : Nat, p i = (t : Int) := ⟨(p i).toNat, by omega⟩
    have htl : t < n + m := by omega
    have e1 : wrap64 ((i : Int) + 1) = ((i + 1 : Nat) : Int) := by rw [wrapi (by omega) (by omega)]; omega
    have hb := lsum_bd p l (cO_le h) (t : Int) i
    have hc := cO_le h i
    refine Ev.step (fun k => impl_decodingBits.l4.eq_2 ..) (evPos (by omega) (Ev.bind (lineCounts_ev h hi) (evPos (by omega) (evPos (by rw [tabA_len]; omega) ?_))))
    dsimp only
    rw [rd_tab p hi, ht]
    refine evPos (by omega) (evPos (by rw [tabA_len]; omega) (evPos (by rw [tabA_len]; omega) ?_))
    rw [rd_tab _ htl, Int.toNat_natCast, tabA_set, tabA_set, e1]
    have ew : wrap64 (lsum p (hO l) (t : Int) i + ((cO l i : Nat) : Int)) = lsum p (hO l) (t : Int) i + (cO l i : Int) := wrapi (by have : 0 ≤ lsum p (hO l) (t : Int) i := hb.1; omega) (by have : lsum p (hO l) (t : Int) i ≤ 12 * (i : Int) := hb.2; omega)
    rw [ew]
    have ea : (tabA (n + m) fun j => if j = t then lsum p (hO l) (t : Int) i + (cO l i : Int) else lsum p (hO l) (j : Int) i) = tabA (n + m) fun t => lsum p (hO l) (t : Int) (i + 1) := by
      refine tabA_congr (fun j _ => ?_)
      simp only [lsum]
      by_cases z : j = t
      · subst z; rw [if_pos rfl, if_pos ht]; rfl
      · rw [if_neg z, if_neg (by rw [ht]; omega)]; omega
    have eb : (tabA (n + m) fun j => if j = t then true else there p i j) = tabA (n + m) (there p (i + 1)) := by
      refine tabA_congr (fun j _ => ?_)
      rw [there_succ]
      by_cases z : j = t
      · subst z; rw [if_pos rfl, decide_eq_true ht]; simp
      · rw [if_neg z, decide_eq_false (by rw [ht]; omega)]; simp
    rw [ea, eb]
    exact ih (i + 1) (by omega)
def lab (l : List ByteArray) (n m : Nat) : Nat → Int := foldP (allQ l n m 0 n) (fun i => (i : Int))
def grp (l : List ByteArray) (n m : Nat) : Nat → Int := foldQ (allQ l n m 0 n) (fun i => (i : Int))
theorem cls_all (l : List ByteArray) (n m : Nat) : Cls (n + m) (lab l n m) (grp l n m) := fold_cls _ allQ_in (cls_id (n + m))
theorem allQ_le {n m : Nat} {l : List ByteArray} (hm : m ≤ 12) : ∀ (d r : Nat), (allQ l n m r d).length ≤ 12 * d
  | 0, _ => by simp [allQ]
  | d + 1, r => by
    have h1 := allQ_le (n := n) (l := l) hm d (r + 1)
    have h2 := rowQ_le l n r 0 m
    have e3 : allQ l n m r (d + 1) = rowQ l n r 0 m ++ allQ l n m (r + 1) d := by unfold allQ; rw [List.range'_succ, List.flatMap_cons]
    rw [e3, List.length_append]; omega
theorem pr_l0 {n m : Nat} {l : List ByteArray} (h : Shp n m l) {q : Int} (hq : Ev (fun k => impl_decodingBits.l1 k l ((n + m : Nat) : Int) (tabA (n + m) fun i => (i : Int)) (-((n + m : Nat) : Int)) (n : Int) 0) q) : ∀ (d i : Nat), i + d = n + m →
    Ev (fun k => impl_decodingBits.l0 k l ((n + m : Nat) : Int) (tabA (n + m) fun j => if j < i then (j : Int) else 0) ((n + m : Nat) : Int) (i : Int)) q := by
  have hn := h.n2; have hm := h.m2; have hl := h.ln
  intro d
  induction d with
  | zero =>
    intro i hd
    refine Ev.step (fun k => impl_decodingBits.l0.eq_2 ..) (evNeg (by omega) ?_)
    rw [wrapi (by omega) (by omega), hl]
    have e : (tabA (n + m) fun j => if j < i then (j : Int) else 0) = tabA (n + m) fun i => (i : Int) := tabA_congr (fun j hj => if_pos (by omega))
    rw [e]; exact hq
  | succ d ih =>
    intro i hd
    have e1 : wrap64 ((i : Int) + 1) = ((i + 1 : Nat) : Int) := by rw [wrapi (by omega) (by omega)]; omega
    refine Ev.step (fun k => impl_decodingBits.l0.eq_2 ..) (evPos (by omega) (evPos (by omega) (evPos (by rw [tabA_len]; omega) ?_)))
    rw [Int.toNat_natCast, tabA_set, e1]
    have e : (tabA (n + m) fun j => if j = i then (i : Int) else if j < i then (j : Int) else 0) = tabA (n + m) fun j => if j < i + 1 then (j : Int) else 0 := by
      refine tabA_congr (fun j _ => ?_)
      by_cases z : j = i
      · subst z; rw [if_pos rfl, if_pos (by omega)]
      · rw [if_neg z]
        by_cases y : j < i
        · rw [if_pos y, if_pos (by omega)]
        · rw [if_neg y, if_neg (by omega)]
    rw [e]; exact ih (i + 1) (by omega)
def bitsB (n m : Nat) (l : List ByteArray) : Int := if (List.range (n + m)).any (fun t => oddT l (grp l n m) (n + m) t) = true then -1 else (ers l : Int) - ((n + m : Nat) : Int) + (fixs (n + m) (grp l n m) : Int)
theorem lsum_none (p h : Nat → Int) (t : Int) : ∀ n, (∀ i, i < n → p i ≠ t) → lsum p h t n = 0
  | 0, _ => rfl
  | n + 1, hz => by
    simp only [lsum]
    rw [lsum_none p h t n (fun i hi => hz i (by omega)), if_neg (hz n (by omega))]; rfl
theorem odd_same (n m : Nat) (l : List ByteArray) : (List.range' 0 (n + m)).any (fun t => there (lab l n m) (n + m) t && oddT l (lab l n m) (n + m) t) = (List.range (n + m)).any (fun t => oddT l (grp l n m) (n + m) t) := by
  have hc := cls_all l n m
  rw [← List.range_eq_range', Bool.eq_iff_iff]
  simp only [List.any_eq_true, List.mem_range, Bool.and_eq_true]
  constructor
  · rintro ⟨t, ht, h1, h2⟩
    unfold there at h1
    simp only [List.any_eq_true, List.mem_range, decide_eq_true_eq] at h1
    obtain ⟨z, hz, e⟩ := h1
    have hq := hc.qb z hz
    refine ⟨(grp l n m z).toNat, by omega, decide_eq_true ?_⟩
    have h2' := of_decide_eq_true h2
    rw [← e, lsum_same (hO l) hc.same hz (n + m) (Nat.le_refl _)] at h2'
    rw [show (((grp l n m z).toNat : Nat) : Int) = grp l n m z by omega]
    exact h2'
  · rintro ⟨t, ht, h2⟩
    have h2' := of_decide_eq_true h2
    by_cases c : ∃ z, z < n + m ∧ grp l n m z = (t : Int)
    · obtain ⟨z, hz, e⟩ := c
      have hp := hc.pb z hz
      refine ⟨(lab l n m z).toNat, by omega, ?_, decide_eq_true ?_⟩
      · unfold there
        simp only [List.any_eq_true, List.mem_range, decide_eq_true_eq]
        exact ⟨z, hz, by omega⟩
      · rw [show (((lab l n m z).toNat : Nat) : Int) = lab l n m z by omega, lsum_same (hO l) hc.same hz (n + m) (Nat.le_refl _), e]
        exact h2'
    · rw [lsum_none _ _ _ _ (fun i hi z => c ⟨i, hi, z⟩)] at h2'
      exact absurd h2' (by decide)
theorem ers_all {n m : Nat} {l : List ByteArray} (h : Shp n m l) : (allQ l n m 0 n).length = ers l := by
  have := ers_from h n 0 (by omega)
  rw [List.drop_zero] at this; exact this
theorem implBits_ev {n m : Nat} {l : List ByteArray} (h : Shp n m l) : Ev (fun k => impl_decodingBits.f k l) (bitsB n m l) := by
  have hn := h.n2; have hm := h.m2; have hl := h.ln
  have hc := cls_all l n m
  unfold impl_decodingBits.f
  refine evPos (by omega) ?_
  rw [lines_eq h]
  refine evPos (by omega) (evPos (by omega) ?_)
  simp only [Option.bind_some]
  rw [Int.toNat_natCast, List.length_replicate]
  have key := pr_l0 h (q := bitsB n m l) (by
    refine pr_l1 h n 0 (fun i => (i : Int)) (-((n + m : Nat) : Int)) (by omega) (by omega) (by omega) ?_
    have hle := allQ_le (n := n) (l := l) hm.2 n 0
    have := pr_l4 h (lab l n m) hc.pb (-((n + m : Nat) : Int) + ((allQ l n m 0 n).length : Int)) (by omega) (by omega) (n + m) 0 (by omega)
    refine evEq ?_ (show (if (List.range' 0 (n + m)).any (fun t => there (lab l n m) (n + m) t && oddT l (lab l n m) (n + m) t) = true then -1 else -((n + m : Nat) : Int) + ((allQ l n m 0 n).length : Int) + ((List.range' 0 (n + m)).countP (there (lab l n m) (n + m)) : Int)) = bitsB n m l from ?_)
    · exact this
    · rw [odd_same]
      unfold bitsB
      rw [← hc.cnt, ers_all h, ← List.range_eq_range']
      have : (List.range (n + m)).countP (there (lab l n m) (n + m)) = labs (n + m) (lab l n m) := rfl
      rw [this]
      split
      · rfl
      · omega) (n + m) 0 (by omega)
  rw [tabA_rep]
  have e : (tabA (n + m) fun j => if j < 0 then (j : Int) else 0) = tabA (n + m) fun _ => (0 : Int) := tabA_congr (fun j _ => if_neg (by omega))
  rw [e] at key
  exact key
-- the reference's groups
theorem sp_l3 (l : List ByteArray) (N : Nat) (hN : N ≤ 24) (p : Nat → Int) (a b : Int) (x5 : Int) (x6 : ByteArray) (x7 : Int) (x22 : List ByteArray) (x23 x24 : Int) {q : List Int} (hq : Ev (fun k => spec_deGroups.l2 k l (tabA N (remin p a b)) x5 x6 (wrap64 (x7 + 1)) x22 x23 x24) q) : ∀ (d i : Nat), i + d = N →
    Ev (fun k => spec_deGroups.l3 k l (tabA N fun j => if j < i then remin p a b j else p j) x5 x6 x7 a b x22 x23 x24 (N : Int) (i : Int)) q := by
  intro d
  induction d with
  | zero =>
    intro i hd
    refine Ev.step (fun k => spec_deGroups.l3.eq_2 ..) (evNeg (by omega) ?_)
    have e : (tabA N fun j => if j < i then remin p a b j else p j) = tabA N (remin p a b) := tabA_congr (fun j hj => if_pos (by omega))
    rw [e]; exact hq
  | succ d ih =>
    intro i hd
    have e1 : wrap64 ((i : Int) + 1) = ((i + 1 : Nat) : Int) := by rw [wrapi (by omega) (by omega)]; omega
    have er : rd (tabA N fun j => if j < i then remin p a b j else p j) (i : Int) = p i := by
      show (tabA N _).getD i 0 = _
      rw [tabA_get _ 0 (by omega)]; exact if_neg (by omega)
    have es : (p i = a ∨ p i = b) → (tabA N fun j => if j < i then remin p a b j else p j).set (i : Int).toNat (min a b) = tabA N fun j => if j < i + 1 then remin p a b j else p j := by
      intro c
      rw [Int.toNat_natCast, tabA_set]
      refine tabA_congr (fun j hj => ?_)
      by_cases z : j = i
      · subst z; rw [if_pos rfl, if_pos (by omega)]; unfold remin; rw [if_pos c]
      · rw [if_neg z]
        by_cases y : j < i
        · rw [if_pos y, if_pos (by omega)]
        · rw [if_neg y, if_neg (by omega)]
    refine Ev.step (fun k => spec_deGroups.l3.eq_2 ..) (evPos (by omega) (evPos (by omega) (evPos (by rw [tabA_len]; omega) ?_)))
    rw [er, e1, least_eq]
    simp only [Option.bind_some]
    refine evBy (fun c => ?_) (fun c => evBy (fun c2 => ?_) (fun c2 => ?_))
    · rw [es (.inl c)]; exact ih (i + 1) (by omega)
    · rw [es (.inr c2)]; exact ih (i + 1) (by omega)
    · have e : (tabA N fun j => if j < i then remin p a b j else p j) = tabA N fun j => if j < i + 1 then remin p a b j else p j := by
        refine tabA_congr (fun j hj => ?_)
        by_cases z : j = i
        · subst z; rw [if_neg (by omega), if_pos (by omega)]; unfold remin; rw [if_neg (fun y => y.elim c c2)]
        · by_cases y : j < i
          · rw [if_pos y, if_pos (by omega)]
          · rw [if_neg y, if_neg (by omega)]
      rw [e]; exact ih (i + 1) (by omega)
theorem sp_l2 {n m : Nat} {l : List ByteArray} (h : Shp n m l) {r : Nat} (hr : r < n) {q : List Int} : ∀ (d c : Nat) (p : Nat → Int), c + d = m →
    Ev (fun k => spec_deGroups.l1 k l (tabA (n + m) (foldQ (rowQ l n r c d) p)) l (n : Int) (wrap64 ((r : Int) + 1))) q →
    Ev (fun k => spec_deGroups.l2 k l (tabA (n + m) p) (r : Int) (rdOf ByteArray.empty l (r : Int)) (c : Int) l (n : Int) (r : Int)) q := by
  have hn := h.n2; have hm := h.m2; have hl := h.ln
  have hrow := shpRow h hr
  have hsz : (rdOf ByteArray.empty l (r : Int)).size = m := by rw [← hrow, bl_len]; rfl
  intro d
  induction d with
  | zero =>
    intro c p hd hq
    exact Ev.step (fun k => spec_deGroups.l2.eq_2 ..) (evNeg (by omega) (by simpa [rowQ, foldQ] using hq))
  | succ d ih =>
    intro c p hd hq
    have e1 : wrap64 ((c : Int) + 1) = ((c + 1 : Nat) : Int) := by rw [wrapi (by omega) (by omega)]; omega
    have e2 : wrap64 ((l.length : Int) + (c : Int)) = ((n + c : Nat) : Int) := by rw [wrapi (by omega) (by omega)]; omega
    have hb : bt (rdOf ByteArray.empty l (r : Int)) (c : Int) = ((ch l r c).toNat : Int) := bt_at_ (l.getD r ByteArray.empty) c (by omega)
    have hu := u8_eq (ch l r c) 63 (by omega)
    refine Ev.step (fun k => spec_deGroups.l2.eq_2 ..) (evPos (by omega) (evPos (by omega) ?_))
    rw [hb, e1, e2]
    refine evBy (fun cc => ?_) (fun cc => ?_)
    · have hx : ch l r c = 63 := hu.1 cc
      have e3 : rowQ l n r c (d + 1) = (r, n + c) :: rowQ l n r (c + 1) d := by unfold rowQ; rw [List.range'_succ, List.filter_cons_of_pos (by simpa using hx)]; rfl
      rw [e3] at hq
      simp only [foldQ] at hq
      refine evPos (by omega) (evPos (by rw [tabA_len]; omega) (evPos (by omega) (evPos (by rw [tabA_len]; omega) ?_)))
      rw [rd_tab p (by omega), rd_tab p (by omega), tabA_len]
      have := sp_l3 l (n + m) (by omega) p (p r) (p (n + c)) (r : Int) (rdOf ByteArray.empty l (r : Int)) (c : Int) l (n : Int) (r : Int) (q := q) (by
        rw [e1]
        exact ih (c + 1) _ (by omega) hq) (n + m) 0 (by omega)
      have e5 : (tabA (n + m) fun j => if j < 0 then remin p (p r) (p (n + c)) j else p j) = tabA (n + m) p := tabA_congr (fun j _ => if_neg (by omega))
      rw [e5] at this
      exact this
    · have hx : ch l r c ≠ 63 := fun z => cc (hu.2 z)
      have e3 : rowQ l n r c (d + 1) = rowQ l n r (c + 1) d := by unfold rowQ; rw [List.range'_succ, List.filter_cons_of_neg (by simpa using hx)]
      rw [e3] at hq
      exact ih (c + 1) p (by omega) hq
theorem sp_l1 {n m : Nat} {l : List ByteArray} (h : Shp n m l) : ∀ (d r : Nat) (p : Nat → Int), r + d = n →
    Ev (fun k => spec_deGroups.l1 k l (tabA (n + m) p) l (n : Int) (r : Int)) (tabA (n + m) (foldQ (allQ l n m r d) p)) := by
  have hn := h.n2; have hm := h.m2; have hl := h.ln
  intro d
  induction d with
  | zero =>
    intro r p hd
    exact Ev.step (fun k => spec_deGroups.l1.eq_2 ..) (evNeg (by omega) (Ev.now _))
  | succ d ih =>
    intro r p hd
    have hr : r < n := by omega
    have e1 : wrap64 ((r : Int) + 1) = ((r + 1 : Nat) : Int) := by rw [wrapi (by omega) (by omega)]; omega
    have e3 : allQ l n m r (d + 1) = rowQ l n r 0 m ++ allQ l n m (r + 1) d := by unfold allQ; rw [List.range'_succ, List.flatMap_cons]
    rw [e3, foldQ_app]
    refine Ev.step (fun k => spec_deGroups.l1.eq_2 ..) (evPos (by omega) (evPos (by omega) (evPos (by omega) ?_)))
    refine sp_l2 h hr m 0 p (by omega) ?_
    rw [e1]
    exact ih (r + 1) _ (by omega)
theorem tabA_snoc {α : Type} (n : Nat) (f : Nat → α) : tabA (n + 1) f = tabA n f ++ [f n] := by unfold tabA; rw [List.range_succ]; simp
theorem groups_ev {n m : Nat} {l : List ByteArray} (h : Shp n m l) : Ev (fun k => spec_deGroups.f k l) (tabA (n + m) (grp l n m)) := by
  have hn := h.n2; have hm := h.m2; have hl := h.ln
  unfold spec_deGroups.f
  have go : ∀ (d i : Nat), i + d = n + m → Ev (fun k => spec_deGroups.l0 k l (tabA i fun i => (i : Int)) (i : Int)) (tabA (n + m) (grp l n m)) := by
    intro d
    induction d with
    | zero =>
      intro i hd
      have : i = n + m := by omega
      subst this
      refine Ev.step (fun k => spec_deGroups.l0.eq_2 ..) ?_
      rw [deLines_eq h]
      simp only [Option.bind_some]
      refine evNeg (by omega) ?_
      rw [hl]
      exact sp_l1 h n 0 (fun i => (i : Int)) (by omega)
    | succ d ih =>
      intro i hd
      have e1 : wrap64 ((i : Int) + 1) = ((i + 1 : Nat) : Int) := by rw [wrapi (by omega) (by omega)]; omega
      refine Ev.step (fun k => spec_deGroups.l0.eq_2 ..) ?_
      rw [deLines_eq h]
      simp only [Option.bind_some]
      refine evPos (by omega) (evPos (by rw [tabA_len]; omega) ?_)
      have := ih (i + 1) (by omega)
      rw [tabA_snoc] at this
      rw [e1]
      exact this
  exact go (n + m) 0 (by omega)
theorem db_l1 {n m : Nat} {l : List ByteArray} (h : Shp n m l) (g : List Int) (hg : g.length = n + m) (p : Nat → Int) (cn : Nat) (hcn : cn ≤ 24) : ∀ (d t : Nat), t + d = n + m →
    Ev (fun k => spec_deBits.l1 k l g (cn : Int) (tabA (n + m) fun t => lsum p (hO l) (t : Int) (n + m)) ((n + m : Nat) : Int) (t : Int)) (if (List.range' t d).any (fun t => oddT l p (n + m) t) = true then -1 else (ers l : Int) - ((n + m : Nat) : Int) + (cn : Int)) := by
  have hn := h.n2; have hm := h.m2
  have hle := allQ_le (n := n) (l := l) hm.2 n 0
  have hea := ers_all h
  intro d
  induction d with
  | zero =>
    intro t hd
    refine Ev.step (fun k => spec_deBits.l1.eq_2 ..) (evNeg (by omega) (Ev.bind (deErased_ev h) (evNow ?_)))
    rw [hg, wrapi (x := (ers l : Int) - _) (by omega) (by omega), wrapi (by omega) (by omega)]
    simp
  | succ d ih =>
    intro t hd
    have e1 : wrap64 ((t : Int) + 1) = ((t + 1 : Nat) : Int) := by rw [wrapi (by omega) (by omega)]; omega
    have eo : rd (tabA (n + m) fun t => lsum p (hO l) (t : Int) (n + m)) (t : Int) = lsum p (hO l) (t : Int) (n + m) := rd_tab _ (by omega)
    have hb := lsum_bd p l (cO_le h) (t : Int) (n + m)
    refine Ev.step (fun k => spec_deBits.l1.eq_2 ..) (evPos (by omega) (evPos (by omega) (evPos (by rw [tabA_len]; omega) ?_)))
    rw [eo, e1, List.range'_succ, List.any_cons]
    refine evBy (fun c2 => ?_) (fun c2 => evNow ?_)
    · have ho : oddT l p (n + m) t = false := decide_eq_false (by rw [Int.tmod_eq_emod_of_nonneg hb.1] at c2; omega)
      rw [ho, Bool.false_or]
      exact ih (t + 1) (by omega)
    · have ho : oddT l p (n + m) t = true := decide_eq_true (by rw [Int.tmod_eq_emod_of_nonneg hb.1] at c2; show lsum p (hO l) (t : Int) (n + m) % 2 = 1; have : ¬ lsum p (hO l) (t : Int) (n + m) % 2 = 0 := c2; omega)
      rw [ho]; rfl
theorem db_l0 {n m : Nat} {l : List ByteArray} (h : Shp n m l) (p : Nat → Int) (hp : ∀ i, i < n + m → 0 ≤ p i ∧ p i < ((n + m : Nat) : Int)) : ∀ (d i : Nat), i + d = n + m →
    Ev (fun k => spec_deBits.l0 k l (tabA (n + m) p) (tabA (n + m) fun t => lsum p (hO l) (t : Int) i) (((List.range i).countP fun i => decide (p i = (i : Int)) : Nat) : Int) (tabA (n + m) p) ((n + m : Nat) : Int) (i : Int)) (if (List.range (n + m)).any (fun t => oddT l p (n + m) t) = true then -1 else (ers l : Int) - ((n + m : Nat) : Int) + (fixs (n + m) p : Int)) := by
  have hn := h.n2; have hm := h.m2
  intro d
  induction d with
  | zero =>
    intro i hd
    have : i = n + m := by omega
    subst this
    refine Ev.step (fun k => spec_deBits.l0.eq_2 ..) (evNeg (by omega) ?_)
    rw [tabA_len]
    have hf : (List.range (n + m)).countP (fun i => decide (p i = (i : Int))) ≤ 24 := by have := List.countP_le_length (p := fun (i : Nat) => decide (p i = (i : Int))) (l := List.range (n + m)); rw [List.length_range] at this; omega
    have := db_l1 h (tabA (n + m) p) (tabA_len _ _) p _ hf (n + m) 0 (by omega)
    rw [← List.range_eq_range'] at this
    exact this
  | succ d ih =>
    intro i hd
    have hi : i < n + m := by omega
    have hpi := hp i hi
    obtain ⟨t, ht⟩ : ∃ t : Nat, p i = (t : Int) := ⟨(p i).toNat, by omega⟩
    have htl : t < n + m := by omega
    have e1 : wrap64 ((i : Int) + 1) = ((i + 1 : Nat) : Int) := by rw [wrapi (by omega) (by omega)]; omega
    have hb := lsum_bd p l (cO_le h) (t : Int) i
    have hc := cO_le h i
    have hf : (List.range i).countP (fun i => decide (p i = (i : Int))) ≤ i := by have := List.countP_le_length (p := fun (i : Nat) => decide (p i = (i : Int))) (l := List.range i); rw [List.length_range] at this; exact this
    refine Ev.step (fun k => spec_deBits.l0.eq_2 ..) (evPos (by omega) (evPos (by omega) (evPos (by rw [tabA_len]; omega) ?_)))
    rw [rd_tab p hi, ht]
    refine evPos (by omega) (evPos (by rw [tabA_len]; omega) (Ev.bind (deLine_ev h hi) (Ev.bind (deCnt_ev (lnL l i) (by have := lnL_len h i; omega) 111 (by omega)) ?_)))
    simp only [Option.bind_some]
    rw [show (List.count (UInt8.ofNat 111) (lnL l i)) = cO l i from rfl, rd_tab _ htl, Int.toNat_natCast, tabA_set, e1]
    have ew : wrap64 (lsum p (hO l) (t : Int) i + ((cO l i : Nat) : Int)) = lsum p (hO l) (t : Int) i + (cO l i : Int) := wrapi (by have : 0 ≤ lsum p (hO l) (t : Int) i := hb.1; omega) (by have : lsum p (hO l) (t : Int) i ≤ 12 * (i : Int) := hb.2; omega)
    rw [ew]
    have ea : (tabA (n + m) fun j => if j = t then lsum p (hO l) (t : Int) i + (cO l i : Int) else lsum p (hO l) (j : Int) i) = tabA (n + m) fun t => lsum p (hO l) (t : Int) (i + 1) := by
      refine tabA_congr (fun j _ => ?_)
      simp only [lsum]
      by_cases z : j = t
      · subst z; rw [if_pos rfl, if_pos ht]; rfl
      · rw [if_neg z, if_neg (by rw [ht]; omega)]; omega
    rw [ea]
    have ih' := ih (i + 1) (by omega)
    rw [List.range_succ, List.countP_append, List.countP_singleton] at ih'
    refine evBy (fun c => ?_) (fun c => ?_)
    · rw [decide_eq_true (show p i = (i : Int) by omega)] at ih'
      rw [wrapi (by omega) (by omega)]
      refine evEq ?_ rfl
      have : (((List.range i).countP (fun i => decide (p i = (i : Int))) : Nat) : Int) + 1 = (((List.range i).countP (fun i => decide (p i = (i : Int))) + (if true = true then 1 else 0) : Nat) : Int) := by rw [if_pos rfl]; omega
      rw [this]; exact ih'
    · rw [decide_eq_false (show ¬ p i = (i : Int) by omega)] at ih'
      simpa using ih'
theorem specBits_ev {n m : Nat} {l : List ByteArray} (h : Shp n m l) : Ev (fun k => spec_deBits.f k l) (bitsB n m l) := by
  have hn := h.n2; have hm := h.m2
  have hc := cls_all l n m
  unfold spec_deBits.f
  refine Ev.bind (groups_ev h) (evPos (by omega) (evPos (by rw [tabA_len]; omega) ?_))
  rw [tabA_len, Int.toNat_natCast, tabA_rep]
  have := db_l0 h (grp l n m) hc.qb (n + m) 0 (by omega)
  simpa [lsum, bitsB] using this
-- ** strmark
theorem markText_l0 : ∀ (d : Nat) (n : Int) (s : ByteArray), 0 ≤ n → n < (d : Int) → n ≤ 1000000000 → s.size + d ≤ 4611686018427387904 → ∃ v, Ev (fun k => laws_markText.l0 k n s) v
  | 0, n, s, h0, hd, _, _ => by omega
  | d + 1, n, s, h0, hd, hb, hs => by
    by_cases c : n > 0
    · have e : wrap64 (Int.tdiv n 10) = n / 10 := by
        rw [Int.tdiv_eq_ediv_of_nonneg h0, wrapi (by omega) (by omega)]
      have sz : (strOfNums [(wrap64 (48 + (Int.tmod n 10))) % 256]).size = 1 := by rw [strOfNums_size]; rfl
      have sz2 : ((strOfNums [(wrap64 (48 + (Int.tmod n 10))) % 256]) ++ s).size = 1 + s.size := by rw [ByteArray.size_append, sz]
      obtain ⟨v, hv⟩ := markText_l0 d (n / 10) ((strOfNums [(wrap64 (48 + (Int.tmod n 10))) % 256]) ++ s) (by omega) (by omega) (by omega) (by omega)
      refine ⟨v, Ev.step (fun k => laws_markText.l0.eq_2 ..) (evPos c ?_)⟩
      simp only [Option.bind_some]
      rw [e]
      exact evPos (by omega) hv
    · exact ⟨_, Ev.step (fun k => laws_markText.l0.eq_2 ..) (evNeg c (evPos (by omega) (Ev.now _)))⟩
theorem markText_ex (n : Int) (h0 : 0 ≤ n) (hb : n ≤ 1000000000) : ∃ v, Ev (fun k => laws_markText.f k n) v := by
  unfold laws_markText.f
  by_cases c : n ≤ 0
  · exact ⟨_, evPos c (Ev.now _)⟩
  · obtain ⟨v, hv⟩ := markText_l0 (n.toNat + 1) n ⟨#[]⟩ h0 (by omega) hb (by simp [ByteArray.size]; omega)
    exact ⟨v, evNeg c hv⟩
open Classical in
noncomputable def mtx (n : Int) : ByteArray := if h : ∃ v, Ev (fun k => laws_markText.f k n) v then Classical.choose h else ByteArray.empty
theorem mtx_ev (n : Int) (h0 : 0 ≤ n) (hb : n ≤ 1000000000) : Ev (fun k => laws_markText.f k n) (mtx n) := by
  have h := markText_ex n h0 hb
  unfold mtx
  rw [dif_pos h]
  exact Classical.choose_spec h
noncomputable def mkStr : List ByteArray → Int → List ByteArray
  | [], _ => []
  | _ :: l, k => mtx k :: mkStr l (k + 1)
theorem mkStr_length : ∀ (l : List ByteArray) (k : Int), (mkStr l k).length = l.length
  | [], _ => rfl
  | _ :: l, k => by simp [mkStr, mkStr_length l]
theorem markStr_l0 : ∀ (suf pre : List ByteArray) (k : Int), pre.length + suf.length ≤ 1048576 → 0 ≤ k → k + (suf.length : Int) ≤ 1000000000 →
    Ev (fun n => laws_markStringS.l0 n (pre ++ suf) k (pre.length : Int)) (k + (suf.length : Int), pre ++ mkStr suf k) := by
  intro suf
  induction suf with
  | nil =>
    intro pre k hl h0 hk
    refine Ev.step (fun k => laws_markStringS.l0.eq_2 ..) ?_
    simp only [rgEnd (l := pre ++ []) (pre := pre) rfl, if_false]
    exact evNow (by simp [mkStr])
  | cons x suf ih =>
    intro pre k hl h0 hk
    obtain ⟨h1, h2, h3, h4, h5⟩ := rgHead (l := pre ++ x :: suf) (pre := pre) rfl (by simp at hl ⊢; omega) ByteArray.empty
    simp at hl hk
    refine Ev.step (fun k => laws_markStringS.l0.eq_2 ..) ?_
    simp only [h1, h2, h3, if_true]
    refine Ev.bind (mtx_ev k h0 (by omega)) ?_
    rw [setAt _ _ _ _ _ (by simp), wrapi (by omega) (by omega)]
    have := ih (pre ++ [mtx k]) (k + 1) (by simp; omega) (by omega) (by omega)
    simp only [List.append_assoc, List.singleton_append] at this
    have e : ((pre ++ [x]).length : Int) = ((pre ++ [mtx k] : List ByteArray).length : Int) := by simp
    rw [e]
    exact evEq this (by simp [mkStr]; omega)
theorem markStr_ev (l : List ByteArray) (hl : l.length ≤ 1048576) : Ev (fun n => laws_markStringS.f n l 1) (1 + (l.length : Int), mkStr l 1) := by
  unfold laws_markStringS.f
  exact markStr_l0 l [] 1 (by simpa using hl) (by omega) (by omega)
theorem heldStr_l0 : ∀ (suf pre : List ByteArray) (k : Int), pre.length + suf.length ≤ 1048576 → 0 ≤ k → k + (suf.length : Int) ≤ 1000000000 →
    Ev (fun n => laws_heldStringS.l0 n (pre ++ mkStr suf k) k (pre.length : Int)) (k + (suf.length : Int)) := by
  intro suf
  induction suf with
  | nil =>
    intro pre k hl h0 hk
    refine Ev.step (fun k => laws_heldStringS.l0.eq_2 ..) ?_
    simp only [mkStr, rgEnd (l := pre ++ []) (pre := pre) rfl, if_false]
    exact evNow (by simp)
  | cons x suf ih =>
    intro pre k hl h0 hk
    simp only [mkStr]
    simp at hl hk
    obtain ⟨h1, h2, h3, h4, h5⟩ := rgHead (l := pre ++ mtx k :: mkStr suf (k + 1)) (pre := pre) rfl (by simp [mkStr_length]; omega) ByteArray.empty
    refine Ev.step (fun k => laws_heldStringS.l0.eq_2 ..) ?_
    simp only [h1, h2, h3, rdOf, h4, if_true]
    refine Ev.bind (mtx_ev k h0 (by omega)) (evPos rfl ?_)
    rw [wrapi (by omega) (by omega), h5]
    refine evEq (ih (pre ++ [mtx k]) (k + 1) (by simp; omega) (by omega) (by omega)) (by simp; omega)
theorem heldStr_ev (l : List ByteArray) (hl : l.length ≤ 1048576) : Ev (fun n => laws_heldStringS.f n (mkStr l 1) 1) (1 + (l.length : Int)) := by
  unfold laws_heldStringS.f
  exact heldStr_l0 l [] 1 (by simpa using hl) (by omega) (by omega)
-- ** FnExactDecodeBlock
theorem dc_ex {l : List ByteArray} (hl : l.length ≤ 1048576) (hb : ∀ s, s ∈ l → s.size ≤ 1048576) : ∃ q, Ev (fun k => spec_DecodeBlock.f k l) q ∧ Ev (fun k => impl_DecodeBlock.f k l) q ∧ q.1.length ≤ 12 := by
  unfold spec_DecodeBlock.f impl_DecodeBlock.f
  by_cases g : good l = true
  · have h := good_shp g
    by_cases z : bitsB l.length (sz0 l) l = 0
    · obtain ⟨r, hr, hs⟩ := peels_all (ers l) h rfl
      refine ⟨(r, true), Ev.bind (deGood_ev hl hb) (evPos g (Ev.bind (specBits_ev h) (evPos z (Ev.bind (specPeel_ev hl hr) (Ev.now _))))), Ev.bind (isBlock_ev hl hb) (evPos g (Ev.bind (implBits_ev h) (evPos z (Ev.bind (implPeel_ev hl hr) (Ev.now _))))), ?_⟩
      have := hs.ln; have := hs.n2
      dsimp only; omega
    · exact ⟨([], false), Ev.bind (deGood_ev hl hb) (evPos g (Ev.bind (specBits_ev h) (evNeg z (Ev.now _)))), Ev.bind (isBlock_ev hl hb) (evPos g (Ev.bind (implBits_ev h) (evNeg z (Ev.now _)))), by simp⟩
  · exact ⟨([], false), Ev.bind (deGood_ev hl hb) (evNeg g (Ev.now _)), Ev.bind (isBlock_ev hl hb) (evNeg g (Ev.now _)), by simp⟩
theorem FnExactDecodeBlock (l0 : List ByteArray) (w0 : Opn.Lst Opn.Str l0) : ∃ k, laws_FnExactDecodeBlock.f k l0 = some true := by
  refine Ev.rounds (g := fun k => laws_FnExactDecodeBlock.f k l0) ?_
  unfold laws_FnExactDecodeBlock.f laws_szStringS.f
  have hw := w0.1
  by_cases c : (1048576 : Int) - (l0.length : Int) < 0
  · refine Ev.bind (a := (-1 : Int)) ?_ (evPos (by omega) (Ev.now _))
    rw [wrapi (x := (1048576 : Int) - (l0.length : Int)) (by omega) (by omega)]
    exact evPos c (Ev.now _)
  · obtain ⟨r, hr, hb⟩ := szStr_l0 l0 (by omega) (fun s hs => w0.2 s hs) l0 [] ((1048576 : Int) - (l0.length : Int)) rfl (by omega) (by omega)
    refine Ev.bind (a := r) ?_ (evBy (fun _ => Ev.now _) (fun c1 => ?_))
    · rw [wrapi (x := (1048576 : Int) - (l0.length : Int)) (by omega) (by omega)]
      exact evNeg c hr
    · have hb' := hb (by omega)
      have hl : l0.length ≤ 1048576 := by omega
      obtain ⟨q, hq1, hq2, hq3⟩ := dc_ex hl hb'
      refine Ev.bind (toStr_ev hl) (Ev.bind hq1 (Ev.bind (toStr_ev hl) (Ev.bind hq2 (Ev.bind (eqStr_ev (by omega)) (evPos rfl ?_)))))
      simp only [bne_self_eq_false]
      refine Ev.step (fun k => laws_FnExactDecodeBlock.j0.eq_2 ..) (evNeg (by simp) (Ev.bind (toStr_ev hl) (Ev.bind (eqStr_ev hl) (evPos rfl (Ev.bind (markStr_ev l0 hl) (evNeg (by dsimp only; omega) (Ev.bind (eqStr_ev (by omega)) (evPos rfl ?_))))))))
      simp only [bne_self_eq_false]
      refine Ev.step (fun k => laws_FnExactDecodeBlock.j1.eq_2 ..) (evNeg (by simp) (Ev.bind (markStr_ev _ (by omega)) (Ev.bind (heldStr_ev _ (by omega)) (evNeg (by omega) (evPos rfl (Ev.bind (toStr_ev hl) (Ev.bind hq2 (Ev.bind (eqStr_ev (by omega)) (evPos rfl ?_)))))))))
      simp only [bne_self_eq_false]
      exact Ev.step (fun k => laws_FnExactDecodeBlock.j2.eq_2 ..) (evNeg (by simp) (Ev.bind (heldStr_ev _ (by omega)) (evNeg (by omega) (evPos rfl (Ev.now _)))))
end Go.Proofs.Ytjjjikdpegogcaa.Pure
