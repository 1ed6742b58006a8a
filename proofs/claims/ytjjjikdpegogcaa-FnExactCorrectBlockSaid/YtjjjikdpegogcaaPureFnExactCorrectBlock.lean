/- The program's CorrectBlock returns what the reference's returns, for all arguments.: the plain part: what the program computes and what the reference computes agree, for all arguments. No conditions beyond the arguments' own kinds. -/
import Derived.Test.YtjjjikdpegogcaaPBkx0
import Derived.Test.YtjjjikdpegogcaaPBkx1
import Derived.Test.YtjjjikdpegogcaaPBkx2
import Derived.Test.YtjjjikdpegogcaaPBkx3
import Derived.Test.YtjjjikdpegogcaaPBkx4
import Derived.Test.YtjjjikdpegogcaaPBkx5
import Derived.Test.YtjjjikdpegogcaaPBkx6
import Derived.Test.YtjjjikdpegogcaaPBkx7
import Derived.Test.YtjjjikdpegogcaaPBkx8
import Derived.Test.YtjjjikdpegogcaaPBkx9
import Derived.Test.YtjjjikdpegogcaaPBkx10
import Derived.Test.YtjjjikdpegogcaaOpn
namespace Go.Proofs.Ytjjjikdpegogcaa.Pure
open Go.RowKit Go.Proofs.Ytjjjikdpegogcaa.PBk Go.Proofs.YtjjjikdpegogcaaW.PrintWords Go.Proofs.YtjjjikdpegogcaaW.PrintLast Go.Proofs.YtjjjikdpegogcaaW.PrintMore
-- ** base
theorem wrapi {x : Int} (h0 : -9223372036854775808 ≤ x) (h1 : x ≤ 9223372036854775807) : wrap64 x = x := by unfold wrap64; omega
theorem evPos {α : Type} {c : Prop} [Decidable c] {g f : Nat → Option α} {r : α} (h : c) (e : Ev g r) : Ev (fun k => if c then g k else f k) r := by
  simp only [if_pos h]; exact e
theorem evNeg {α : Type} {c : Prop} [Decidable c] {g f : Nat → Option α} {r : α} (h : ¬ c) (e : Ev f r) : Ev (fun k => if c then g k else f k) r := by
  simp only [if_neg h]; exact e
theorem evNow {α : Type} {r q : α} (h : r = q) : Ev (fun _ => some r) q := by subst h; exact Ev.now r
theorem evEq {α : Type} {g : Nat → Option α} {r q : α} (h : Ev g r) (e : r = q) : Ev g q := e ▸ h
theorem evBy {α : Type} {c : Prop} [Decidable c] {g f : Nat → Option α} {r : α} (h : c → Ev g r) (h' : ¬ c → Ev f r) : Ev (fun k => if c then g k else f k) r := by
  by_cases hc : c
  · simp only [if_pos hc]; exact h hc
  · simp only [if_neg hc]; exact h' hc
theorem someF {p : Prop} [Decidable p] (h : ¬ p) : some false = some (decide p) := by rw [decide_eq_false h]
theorem someD {p q : Prop} [Decidable p] [Decidable q] (h : p ↔ q) : some (decide p) = some (decide q) := by rw [decide_eq_decide.mpr h]
theorem decD {p q : Prop} [Decidable p] [Decidable q] (h : p ↔ q) : decide p = decide q := decide_eq_decide.mpr h
theorem rgEnd {α : Type} {l pre : List α} (h : l = pre ++ []) : ¬ ((pre.length : Int) < (l.length : Int)) := by subst h; simp
theorem rgHead {α : Type} {l pre suf : List α} {x : α} (h : l = pre ++ x :: suf) (hl : l.length ≤ 4611686018427387904) (z : α) :
    (pre.length : Int) < (l.length : Int) ∧ (0 : Int) ≤ (pre.length : Int) ∧ wrap64 ((pre.length : Int) + 1) = ((pre ++ [x]).length : Int) ∧ l.getD (pre.length : Int).toNat z = x ∧ l = (pre ++ [x]) ++ suf := by
  subst h
  simp at hl
  refine ⟨by simp; omega, by omega, ?_, by simp, by simp⟩
  rw [wrapi (by omega) (by omega)]; simp
theorem in_eq (a b c : Int) : spec_l1In.f a b c = some (decide (b ≤ a ∧ a ≤ c)) := by
  unfold spec_l1In.f
  split
  · exact someD (by omega)
  · exact someF (by omega)
-- ** lists
theorem setAt {α : Type} (A B : List α) (z v : α) (n : Nat) (h : n = A.length) : (A ++ z :: B).set n v = A ++ v :: B := by subst h; simp
-- ** FnExactCountErased
def bl (s : ByteArray) : List UInt8 := s.data.toList
theorem bl_len (s : ByteArray) : (bl s).length = s.size := by unfold bl ByteArray.size; exact Array.length_toList
theorem bt_mid {s : ByteArray} {pre suf : List UInt8} {b : UInt8} (h : bl s = pre ++ b :: suf) : bt s (pre.length : Int) = (b.toNat : Int) := by
  have hl : pre.length < s.size := by rw [← bl_len, h]; simp
  unfold bt
  rw [dif_pos (by simpa using hl)]
  have : s[pre.length]'hl = b := by
    show s.data[pre.length]'_ = b
    rw [← Array.getElem_toList]
    have e : s.data.toList = pre ++ b :: suf := h
    simp [e]
  simp only [Int.toNat_natCast, this]
def chr (b : UInt8) : Bool := decide (b = 46 ∨ b = 111 ∨ b = 63)
def rowOk (n : Nat) (s : ByteArray) : Bool := decide (s.size = n) && (bl s).all chr
def sz0 (l : List ByteArray) : Nat := (l.getD 0 ByteArray.empty).size
def good (l : List ByteArray) : Bool := decide (2 ≤ l.length ∧ l.length ≤ 12) && (decide (2 ≤ sz0 l ∧ sz0 l ≤ 12) && l.all (rowOk (sz0 l)))
theorem good_iff {l : List ByteArray} : good l = true ↔ (2 ≤ l.length ∧ l.length ≤ 12) ∧ (2 ≤ sz0 l ∧ sz0 l ≤ 12) ∧ l.all (rowOk (sz0 l)) = true := by simp [good]
theorem bt0 : bt (⟨#[46, 111, 63]⟩ : ByteArray) 0 = 46 := by decide
theorem bt1 : bt (⟨#[46, 111, 63]⟩ : ByteArray) 1 = 111 := by decide
theorem bt2 : bt (⟨#[46, 111, 63]⟩ : ByteArray) 2 = 63 := by decide
theorem sz3 : ((⟨#[46, 111, 63]⟩ : ByteArray).size : Int) = 3 := by decide
theorem u8_eq (b : UInt8) (n : Nat) (hn : n < 256) : ((b.toNat : Int) = (n : Int)) ↔ b = UInt8.ofNat n := by
  constructor
  · intro h
    have : b.toNat = n := by omega
    apply UInt8.toNat_inj.1
    rw [this, UInt8.toNat_ofNat']; omega
  · intro h; subst h; rw [UInt8.toNat_ofNat']; omega
theorem chr_iff (b : UInt8) : chr b = true ↔ ((b.toNat : Int) = 46 ∨ (b.toNat : Int) = 111 ∨ (b.toNat : Int) = 63) := by
  unfold chr
  rw [decide_eq_true_eq, show ((46 : Int) = ((46 : Nat) : Int)) from rfl, show ((111 : Int) = ((111 : Nat) : Int)) from rfl, show ((63 : Int) = ((63 : Nat) : Int)) from rfl, u8_eq b 46 (by omega), u8_eq b 111 (by omega), u8_eq b 63 (by omega)]
  rfl
theorem shape_l1 (l : List ByteArray) (s : ByteArray) (hs : s.size ≤ 1048576) (l' : List ByteArray) (n i : Int) (q : Bool) (hq : Ev (fun k => spec_deShape.l0 k l 2 12 ⟨#[46, 111, 63]⟩ l' n (wrap64 (i + 1))) q) : ∀ (suf pre : List UInt8), bl s = pre ++ suf →
    Ev (fun k => spec_deShape.l1 k l 2 12 ⟨#[46, 111, 63]⟩ s (pre.length : Int) l' n i) (suf.all chr && q) := by
  intro suf
  have hsz := bl_len s
  induction suf with
  | nil =>
    intro pre h
    have : pre.length = s.size := by rw [← hsz, h]; simp
    exact Ev.step (fun k => spec_deShape.l1.eq_2 ..) (evNeg (by omega) (evEq hq (by simp)))
  | cons b suf ih =>
    intro pre h
    have hl : pre.length + (suf.length + 1) = s.size := by rw [← hsz, h]; simp
    have hb := bt_mid h
    have ih' := ih (pre ++ [b]) (by rw [h]; simp)
    have e : wrap64 ((pre.length : Int) + 1) = ((pre ++ [b]).length : Int) := by rw [wrapi (by omega) (by omega)]; simp
    have hc := chr_iff b
    refine Ev.step (fun k => spec_deShape.l1.eq_2 ..) (evPos (by omega) ?_)
    have fin : ∀ (f : Bool), f = chr b → Ev (fun k => spec_deShape.l2 k l 2 12 ⟨#[46, 111, 63]⟩ s (pre.length : Int) f 3 l' n i) ((b :: suf).all chr && q) := by
      intro f hf
      refine Ev.step (fun k => spec_deShape.l2.eq_2 ..) (evNeg (by rw [sz3]; omega) ?_)
      rw [List.all_cons, ← hf]
      cases f with
      | true => exact evPos rfl (by rw [e]; simpa using ih')
      | false => exact evNeg (by simp) (evNow (by simp))
    have s2 : ∀ (f : Bool), (f = true ↔ ((b.toNat : Int) = 46 ∨ (b.toNat : Int) = 111)) → Ev (fun k => spec_deShape.l2 k l 2 12 ⟨#[46, 111, 63]⟩ s (pre.length : Int) f 2 l' n i) ((b :: suf).all chr && q) := by
      intro f hf
      refine Ev.step (fun k => spec_deShape.l2.eq_2 ..) ?_
      rw [show wrap64 (2 + 1) = 3 by unfold wrap64; omega]
      refine (evPos (by rw [sz3]; omega) (evBy (fun c => fin true ?_) (fun c => evPos (by omega) (evPos (by omega) (evPos (by omega) ?_)))))
      · exact (hc.2 (by have := hf.1 c; omega)).symm
      · rw [hb, bt2]
        refine fin _ ?_
        rw [Bool.eq_iff_iff, hc, beq_iff_eq]
        have : ¬ ((b.toNat : Int) = 46 ∨ (b.toNat : Int) = 111) := fun z => c (hf.2 z)
        omega
    have s1 : ∀ (f : Bool), (f = true ↔ (b.toNat : Int) = 46) → Ev (fun k => spec_deShape.l2 k l 2 12 ⟨#[46, 111, 63]⟩ s (pre.length : Int) f 1 l' n i) ((b :: suf).all chr && q) := by
      intro f hf
      refine Ev.step (fun k => spec_deShape.l2.eq_2 ..) ?_
      rw [show wrap64 (1 + 1) = 2 by unfold wrap64; omega]
      refine (evPos (by rw [sz3]; omega) (evBy (fun c => s2 true ?_) (fun c => evPos (by omega) (evPos (by omega) (evPos (by omega) ?_)))))
      · simp only [true_iff]; exact .inl (hf.1 c)
      · rw [hb, bt1]
        refine s2 _ ?_
        rw [beq_iff_eq]
        have : ¬ (b.toNat : Int) = 46 := fun z => c (hf.2 z)
        omega
    refine Ev.step (fun k => spec_deShape.l2.eq_2 ..) ?_
    rw [show wrap64 (0 + 1) = 1 by unfold wrap64; omega]
    refine (evPos (by rw [sz3]; omega) (evNeg (by simp) (evPos (by omega) (evPos (by omega) (evPos (by omega) ?_)))))
    rw [hb, bt0]
    exact s1 _ (by rw [beq_iff_eq])
theorem at0 {l : List ByteArray} : rdOf ByteArray.empty l 0 = l.getD 0 ByteArray.empty := rfl
theorem deGood_ev {l : List ByteArray} (hl : l.length ≤ 1048576) (hb : ∀ s, s ∈ l → s.size ≤ 1048576) : Ev (fun k => spec_deGood.f k l) (good l) := by
  unfold spec_deGood.f spec_deShape.f
  have go : ∀ (suf pre : List ByteArray), l = pre ++ suf → Ev (fun k => spec_deShape.l0 k l 2 12 ⟨#[46, 111, 63]⟩ l (l.length : Int) (pre.length : Int)) (suf.all (rowOk (sz0 l)) && (decide (2 ≤ l.length ∧ l.length ≤ 12) && decide (2 ≤ sz0 l ∧ sz0 l ≤ 12))) := by
    intro suf
    induction suf with
    | nil =>
      intro pre h
      refine Ev.step (fun k => spec_deShape.l0.eq_2 ..) (evNeg (rgEnd h) ?_)
      simp only [in_eq, Option.bind_some, decide_eq_true_eq, List.all_nil, Bool.true_and]
      refine evBy (fun c => evPos (by omega) (evNow ?_)) (fun c => evNow ?_)
      · rw [decide_eq_true (show 2 ≤ l.length ∧ l.length ≤ 12 by omega), Bool.true_and, at0]
        exact decD (by unfold sz0; omega)
      · rw [decide_eq_false (show ¬ (2 ≤ l.length ∧ l.length ≤ 12) by omega), Bool.false_and]
    | cons s suf ih =>
      intro pre h
      obtain ⟨h1, h2, h3, h4, h5⟩ := rgHead h (by omega) ByteArray.empty
      refine Ev.step (fun k => spec_deShape.l0.eq_2 ..) ?_
      simp only [h1, h2, rdOf, h4, if_true]
      refine evPos (by omega) (evBy (fun c => ?_) (fun c => evNow ?_))
      · have := shape_l1 l s (hb s (by rw [h]; simp)) l (l.length : Int) (pre.length : Int) _ (by rw [h3]; exact ih _ h5) (bl s) [] rfl
        refine evEq this ?_
        have e : rowOk (sz0 l) s = (bl s).all chr := by
          unfold rowOk; rw [decide_eq_true (show s.size = sz0 l by unfold sz0; have c' : (s.size : Int) = ((l.getD 0 ByteArray.empty).size : Int) := c; omega), Bool.true_and]
        rw [List.all_cons, e, Bool.and_assoc]
      · have e : rowOk (sz0 l) s = false := by
          unfold rowOk; rw [decide_eq_false (show ¬ s.size = sz0 l by unfold sz0; have c' : ¬ (s.size : Int) = ((l.getD 0 ByteArray.empty).size : Int) := c; omega), Bool.false_and]
        rw [List.all_cons, e]; rfl
  refine Ev.bind (go l [] rfl) (evNow ?_)
  unfold good
  rw [Bool.and_comm, Bool.and_assoc]
theorem index_iff (b : UInt8) : ¬ Go.Lib.indexByte (⟨#[46, 111, 63]⟩ : ByteArray).data.toList b < 0 ↔ chr b = true := by
  show ¬ Go.Lib.indexByte [46, 111, 63] b < 0 ↔ chr b = true
  unfold chr
  simp only [Go.Lib.indexByte]
  by_cases c1 : b = 46
  · subst c1; decide
  · by_cases c2 : b = 111
    · subst c2; decide
    · by_cases c3 : b = 63
      · subst c3; decide
      · simp [c1, c2, c3, Ne.symm c1, Ne.symm c2, Ne.symm c3]
theorem grid_l1 (l : List ByteArray) (s : ByteArray) (hs : s.size ≤ 1048576) (l' : List ByteArray) (n i : Int) (q : Bool) (hq : Ev (fun k => impl_isGridOf.l0 k l ⟨#[46, 111, 63]⟩ l' n (wrap64 (i + 1))) q) : ∀ (suf pre : List UInt8), bl s = pre ++ suf →
    Ev (fun k => impl_isGridOf.l1 k l ⟨#[46, 111, 63]⟩ s (pre.length : Int) l' n i) (suf.all chr && q) := by
  intro suf
  have hsz := bl_len s
  induction suf with
  | nil =>
    intro pre h
    have : pre.length = s.size := by rw [← hsz, h]; simp
    exact Ev.step (fun k => impl_isGridOf.l1.eq_2 ..) (evNeg (by omega) (evEq hq (by simp)))
  | cons b suf ih =>
    intro pre h
    have hl : pre.length + (suf.length + 1) = s.size := by rw [← hsz, h]; simp
    have hb := bt_mid h
    have ih' := ih (pre ++ [b]) (by rw [h]; simp)
    have e : wrap64 ((pre.length : Int) + 1) = ((pre ++ [b]).length : Int) := by rw [wrapi (by omega) (by omega)]; simp
    refine Ev.step (fun k => impl_isGridOf.l1.eq_2 ..) (evPos (by omega) (evPos (by omega) ?_))
    rw [hb, e]
    simp only [strings_IndexByte.f, Option.bind_some]
    rw [show ((b.toNat : Int).toNat.toUInt8) = b by simp]
    have hi := index_iff b
    refine evBy (fun c => evNow ?_) (fun c => evEq ih' ?_)
    · have : chr b = false := Bool.eq_false_iff.2 (fun z => hi.2 z c)
      rw [List.all_cons, this]; rfl
    · rw [List.all_cons, hi.1 c, Bool.true_and]
theorem isBlock_ev {l : List ByteArray} (hl : l.length ≤ 1048576) (hb : ∀ s, s ∈ l → s.size ≤ 1048576) : Ev (fun k => impl_IsBlock.f k l) (good l) := by
  unfold impl_IsBlock.f impl_isGridOf.f
  have go : ∀ (suf pre : List ByteArray), l = pre ++ suf → Ev (fun k => impl_isGridOf.l0 k l ⟨#[46, 111, 63]⟩ l (l.length : Int) (pre.length : Int)) (suf.all (rowOk (sz0 l))) := by
    intro suf
    induction suf with
    | nil =>
      intro pre h
      exact Ev.step (fun k => impl_isGridOf.l0.eq_2 ..) (evNeg (rgEnd h) (Ev.now _))
    | cons s suf ih =>
      intro pre h
      obtain ⟨h1, h2, h3, h4, h5⟩ := rgHead h (by omega) ByteArray.empty
      refine Ev.step (fun k => impl_isGridOf.l0.eq_2 ..) ?_
      simp only [h1, h2, rdOf, h4, if_true]
      refine evPos (by omega) (evBy (fun c => ?_) (fun c => evNow ?_))
      · have := grid_l1 l s (hb s (by rw [h]; simp)) l (l.length : Int) (pre.length : Int) _ (by rw [h3]; exact ih _ h5) (bl s) [] rfl
        refine evEq this ?_
        have e : rowOk (sz0 l) s = (bl s).all chr := by
          unfold rowOk; rw [decide_eq_true (show s.size = sz0 l by unfold sz0; have c' : (s.size : Int) = ((l.getD 0 ByteArray.empty).size : Int) := c; omega), Bool.true_and]
        rw [List.all_cons, e]
      · have e : rowOk (sz0 l) s = false := by
          unfold rowOk; rw [decide_eq_false (show ¬ s.size = sz0 l by unfold sz0; have c' : ¬ (s.size : Int) = ((l.getD 0 ByteArray.empty).size : Int) := c; omega), Bool.false_and]
        rw [List.all_cons, e]; rfl
  have bad : ∀ {z : Bool}, z = true → good l = false → Ev (fun k => impl_isGridOf.j0 k l ⟨#[46, 111, 63]⟩ z) (good l) := fun hz h =>
    Ev.step (fun k => impl_isGridOf.j0.eq_2 ..) (evPos hz (evNow h.symm))
  have nog : ¬ ((2 ≤ l.length ∧ l.length ≤ 12) ∧ (2 ≤ sz0 l ∧ sz0 l ≤ 12)) → good l = false := fun h => Bool.eq_false_iff.2 (fun z => h ⟨(good_iff.1 z).1, (good_iff.1 z).2.1⟩)
  refine Ev.bind (a := good l) (evBy (fun c => bad rfl (nog (by omega))) (fun c => evBy (fun c1 => bad rfl (nog (by omega))) (fun c1 => evPos (by omega) ?_))) (Ev.now _)
  rw [at0]
  refine evBy (fun c2 => bad rfl (nog (by unfold sz0; omega))) (fun c2 => ?_)
  by_cases c3 : ((l.getD 0 ByteArray.empty).size : Int) > 12
  · exact bad (decide_eq_true c3) (nog (by unfold sz0; omega))
  · refine Ev.step (fun k => impl_isGridOf.j0.eq_2 ..) (evNeg (by simpa using c3) (evEq (go l [] rfl) ?_))
    unfold good
    rw [decide_eq_true (show 2 ≤ l.length ∧ l.length ≤ 12 by omega), decide_eq_true (show 2 ≤ sz0 l ∧ sz0 l ≤ 12 by unfold sz0; omega), Bool.true_and, Bool.true_and]
def cnt (s : ByteArray) : Nat := (bl s).count 63
theorem cnt_le (s : ByteArray) : cnt s ≤ s.size := by unfold cnt; rw [← bl_len]; exact List.count_le_length
def ers : List ByteArray → Nat
  | [] => 0
  | s :: l => cnt s + ers l
theorem deCount_ev {s : ByteArray} (hs : s.size ≤ 1048576) : Ev (fun k => spec_deCount.f k s 63) ((cnt s : Nat) : Int) := by
  unfold spec_deCount.f
  have hsz := bl_len s
  have go : ∀ (suf pre : List UInt8) (a : Nat), bl s = pre ++ suf → a ≤ pre.length → Ev (fun k => spec_deCount.l0 k s 63 (a : Int) (pre.length : Int)) ((a + suf.count 63 : Nat) : Int) := by
    intro suf
    induction suf with
    | nil =>
      intro pre a h _
      have : pre.length = s.size := by rw [← hsz, h]; simp
      exact Ev.step (fun k => spec_deCount.l0.eq_2 ..) (evNeg (by omega) (evNow (by simp)))
    | cons b suf ih =>
      intro pre a h ha
      have hl : pre.length + (suf.length + 1) = s.size := by rw [← hsz, h]; simp
      have hb := bt_mid h
      have e : wrap64 ((pre.length : Int) + 1) = ((pre ++ [b]).length : Int) := by rw [wrapi (by omega) (by omega)]; simp
      refine Ev.step (fun k => spec_deCount.l0.eq_2 ..) (evPos (by omega) (evPos (by omega) ?_))
      rw [hb, e, wrapi (x := (a : Int) + 1) (by omega) (by omega)]
      have hu := u8_eq b 63 (by omega)
      refine evBy (fun c => ?_) (fun c => ?_)
      · have c' : b = 63 := hu.1 c
        refine evEq (ih (pre ++ [b]) (a + 1) (by rw [h]; simp) (by simp; omega)) ?_
        rw [c', List.count_cons_self]; omega
      · have c' : ¬ b = 63 := fun z => c (hu.2 z)
        refine evEq (ih (pre ++ [b]) a (by rw [h]; simp) (by simp; omega)) ?_
        rw [List.count_cons_of_ne (by simpa using c')]
  have := go (bl s) [] 0 rfl (by simp)
  simpa [cnt] using this
theorem deErased_l0 (l : List ByteArray) (hl : l.length ≤ 1048576) (hb : ∀ s, s ∈ l → s.size ≤ 1048576) : ∀ (suf pre : List ByteArray) (a : Nat), l = pre ++ suf → a ≤ 1048576 * pre.length → Ev (fun k => spec_deErased.l0 k (a : Int) l (l.length : Int) (pre.length : Int)) ((a + ers suf : Nat) : Int) := by
  intro suf
  induction suf with
  | nil =>
    intro pre a h _
    exact Ev.step (fun k => spec_deErased.l0.eq_2 ..) (evNeg (rgEnd h) (evNow (by simp [ers])))
  | cons s suf ih =>
    intro pre a h ha
    obtain ⟨h1, h2, h3, h4, h5⟩ := rgHead h (by omega) ByteArray.empty
    have hs := hb s (by rw [h]; simp)
    have hc := cnt_le s
    have hp : pre.length ≤ 1048576 := by rw [h] at hl; simp at hl; omega
    refine Ev.step (fun k => spec_deErased.l0.eq_2 ..) ?_
    simp only [h1, h2, h3, rdOf, h4, if_true]
    refine Ev.bind (deCount_ev hs) ?_
    rw [wrapi (x := (a : Int) + (cnt s : Nat)) (by omega) (by omega), show (a : Int) + (cnt s : Nat) = ((a + cnt s : Nat) : Int) by omega]
    exact evEq (ih _ (a + cnt s) h5 (by simp; omega)) (by simp only [ers]; omega)
theorem toStr_l0 (l : List ByteArray) (hl : l.length ≤ 1048576) : ∀ (suf pre : List ByteArray), l = pre ++ suf →
    Ev (fun k => laws_toStringS.l0 k l (pre ++ List.replicate suf.length (⟨#[]⟩ : ByteArray)) (pre.length : Int)) l := by
  intro suf
  induction suf with
  | nil =>
    intro pre h
    exact Ev.step (fun k => laws_toStringS.l0.eq_2 ..) (evNeg (rgEnd h) (evNow (by subst h; simp)))
  | cons x suf ih =>
    intro pre h
    obtain ⟨h1, h2, h3, h4, h5⟩ := rgHead h (by omega) ByteArray.empty
    refine Ev.step (fun k => laws_toStringS.l0.eq_2 ..) ?_
    simp only [h1, h2, h3, rdOf, h4, if_true]
    refine evPos (by simp; omega) ?_
    have e : (pre ++ List.replicate (x :: suf).length (⟨#[]⟩ : ByteArray)).set (pre.length : Int).toNat x = (pre ++ [x]) ++ List.replicate suf.length (⟨#[]⟩ : ByteArray) := by
      rw [List.length_cons, List.replicate_succ, setAt _ _ _ _ _ (by simp)]
      simp
    rw [e]
    exact ih _ h5
theorem toStr_ev {l : List ByteArray} (hl : l.length ≤ 1048576) : Ev (fun k => laws_toStringS.f k l) l := by
  unfold laws_toStringS.f
  refine evPos (by omega) (evPos (by omega) ?_)
  have := toStr_l0 l hl l [] rfl
  simpa using this
theorem eqStr_l0 (l : List ByteArray) (hl : l.length ≤ 1048576) : ∀ (suf pre : List ByteArray), l = pre ++ suf → Ev (fun k => laws_eqStringS.l0 k l l (pre.length : Int)) true := by
  intro suf
  induction suf with
  | nil =>
    intro pre h
    exact Ev.step (fun k => laws_eqStringS.l0.eq_2 ..) (evNeg (rgEnd h) (Ev.now _))
  | cons x suf ih =>
    intro pre h
    obtain ⟨h1, h2, h3, h4, h5⟩ := rgHead h (by omega) ByteArray.empty
    refine Ev.step (fun k => laws_eqStringS.l0.eq_2 ..) ?_
    simp only [h1, h2, h3, if_true]
    exact ih _ h5
theorem eqStr_ev {l : List ByteArray} (hl : l.length ≤ 1048576) : Ev (fun k => laws_eqStringS.f k l l) true := by
  unfold laws_eqStringS.f
  exact evPos rfl (eqStr_l0 l hl l [] rfl)
theorem szStr_l0 (l : List ByteArray) (hl : l.length ≤ 1048576) (hw : ∀ s, s ∈ l → s.size ≤ 9223372036854775807) : ∀ (suf pre : List ByteArray) (left : Int), l = pre ++ suf → 0 ≤ left → left ≤ 1048576 →
    ∃ r, Ev (fun k => laws_szStringS.l0 k l left (pre.length : Int)) r ∧ (0 ≤ r → ∀ s, s ∈ suf → s.size ≤ 1048576) := by
  intro suf
  induction suf with
  | nil =>
    intro pre left h _ _
    exact ⟨left, Ev.step (fun k => laws_szStringS.l0.eq_2 ..) (evNeg (rgEnd h) (Ev.now _)), fun _ s hs => by simp at hs⟩
  | cons x suf ih =>
    intro pre left h h0 hb
    obtain ⟨h1, h2, h3, h4, h5⟩ := rgHead h (by omega) ByteArray.empty
    have hx := hw x (by rw [h]; simp)
    by_cases c : left - (x.size : Int) < 0
    · refine ⟨-1, Ev.step (fun k => laws_szStringS.l0.eq_2 ..) ?_, fun z => by omega⟩
      simp only [h1, h2, h3, rdOf, h4, if_true]
      rw [wrapi (x := left - (x.size : Int)) (by omega) (by omega)]
      exact evPos c (Ev.now _)
    · obtain ⟨r, hr, hr'⟩ := ih (pre ++ [x]) (left - (x.size : Int)) h5 (by omega) (by omega)
      refine ⟨r, Ev.step (fun k => laws_szStringS.l0.eq_2 ..) ?_, fun z s hs => ?_⟩
      · simp only [h1, h2, h3, rdOf, h4, if_true]
        rw [wrapi (x := left - (x.size : Int)) (by omega) (by omega)]
        exact evNeg c hr
      · rcases List.mem_cons.1 hs with rfl | q
        · omega
        · exact hr' z s q
-- ** blocks
def mkb (b : List UInt8) : ByteArray := ⟨b.toArray⟩
theorem bl_mkb (b : List UInt8) : bl (mkb b) = b := by simp [bl, mkb]
theorem mkb_bl (s : ByteArray) : mkb (bl s) = s := by cases s; simp [bl, mkb]
theorem mkb_size (b : List UInt8) : (mkb b).size = b.length := by simp [mkb, ByteArray.size]
theorem bl_inj {s t : ByteArray} (h : bl s = bl t) : s = t := by rw [← mkb_bl s, ← mkb_bl t, h]
theorem bl_append (s t : ByteArray) : bl (s ++ t) = bl s ++ bl t := by simp [bl]
theorem bl_extract (s : ByteArray) (i j : Nat) : bl (s.extract i j) = ((bl s).drop i).take (j - i) := by simp [bl, List.extract]
theorem mkb_append (a b : List UInt8) : mkb a ++ mkb b = mkb (a ++ b) := bl_inj (by rw [bl_append, bl_mkb, bl_mkb, bl_mkb])
theorem bt_at_ (s : ByteArray) (i : Nat) (h : i < (bl s).length) : bt s (i : Int) = (((bl s).getD i 0).toNat : Int) := by
  have hl : i < s.size := by rw [← bl_len]; exact h
  unfold bt
  rw [dif_pos (by simpa using hl)]
  have e : s[(i : Int).toNat]'(by simpa using hl) = (bl s).getD i 0 := by
    show s.data[(i : Int).toNat]'_ = _
    rw [List.getD_eq_getElem?_getD, List.getElem?_eq_getElem h]
    simp [bl]
  rw [e]
-- a block: its rows have one length
structure Shp (n m : Nat) (l : List ByteArray) : Prop where
  n2 : 2 ≤ n ∧ n ≤ 12
  m2 : 2 ≤ m ∧ m ≤ 12
  ln : l.length = n
  rw_ : ∀ s, s ∈ l → s.size = m
theorem shpRow {n m : Nat} {l : List ByteArray} (h : Shp n m l) {r : Nat} (hr : r < n) : (bl (l.getD r ByteArray.empty)).length = m := by
  rw [bl_len]
  refine h.rw_ _ ?_
  rw [List.getD_eq_getElem?_getD, List.getElem?_eq_getElem (by rw [h.ln]; exact hr)]
  exact List.getElem_mem _
theorem shpSz {n m : Nat} {l : List ByteArray} (h : Shp n m l) : ((rdOf ByteArray.empty l 0).size : Int) = (m : Int) := by
  have := shpRow h (r := 0) (by have := h.n2; omega)
  rw [bl_len] at this
  show ((l.getD 0 ByteArray.empty).size : Int) = _
  omega
theorem good_shp {l : List ByteArray} (h : good l = true) : Shp l.length (sz0 l) l := by
  obtain ⟨h1, h2, h3⟩ := good_iff.1 h
  refine ⟨h1, h2, rfl, fun s hs => ?_⟩
  have := List.all_eq_true.1 h3 s hs
  unfold rowOk at this
  simp at this
  exact this.1
def ch (l : List ByteArray) (r c : Nat) : UInt8 := (bl (l.getD r ByteArray.empty)).getD c 0
def lnL (l : List ByteArray) (i : Nat) : List UInt8 := if i < l.length then bl (l.getD i ByteArray.empty) else l.map fun s => (bl s).getD (i - l.length) 0
def cO (l : List ByteArray) (i : Nat) : Nat := (lnL l i).count 111
def cQ (l : List ByteArray) (i : Nat) : Nat := (lnL l i).count 63
theorem lnL_len {n m : Nat} {l : List ByteArray} (h : Shp n m l) (i : Nat) : (lnL l i).length ≤ 12 := by
  unfold lnL
  split
  · rename_i c
    rw [shpRow h (by rw [← h.ln]; exact c)]; exact h.m2.2
  · simp; rw [h.ln]; exact h.n2.2
theorem lines_eq {n m : Nat} {l : List ByteArray} (h : Shp n m l) : wrap64 ((l.length : Int) + ((rdOf ByteArray.empty l 0).size : Int)) = ((n + m : Nat) : Int) := by
  rw [shpSz h, h.ln, wrapi (by have := h.n2; have := h.m2; omega) (by have := h.n2; have := h.m2; omega)]; omega
theorem deLines_eq {n m : Nat} {l : List ByteArray} (h : Shp n m l) : spec_deLines.f l = some ((n + m : Nat) : Int) := by
  unfold spec_deLines.f
  rw [if_pos (by rw [h.ln]; have := h.n2; omega), lines_eq h]
theorem deLine_ev {n m : Nat} {l : List ByteArray} (h : Shp n m l) {i : Nat} (hi : i < n + m) : Ev (fun k => spec_deLine.f k l (i : Int)) (mkb (lnL l i)) := by
  have hn := h.n2; have hm := h.m2; have hl := h.ln
  unfold spec_deLine.f
  by_cases c : i < n
  · refine evPos (by omega) (evPos (by omega) (evNow ?_))
    unfold lnL
    rw [if_pos (by omega), mkb_bl]
    rfl
  · refine evNeg (by omega) ?_
    have e1 : wrap64 ((i : Int) - (l.length : Int)) = ((i - n : Nat) : Int) := by rw [wrapi (by omega) (by omega)]; omega
    have e2 : wrap64 (((i - n : Nat) : Int) + 1) = ((i - n + 1 : Nat) : Int) := by rw [wrapi (by omega) (by omega)]; omega
    have go : ∀ (suf pre : List ByteArray), l = pre ++ suf → Ev (fun k => spec_deLine.l0 k l (i : Int) (mkb (pre.map fun s => (bl s).getD (i - n) 0)) l (l.length : Int) (pre.length : Int)) (mkb (l.map fun s => (bl s).getD (i - n) 0)) := by
      intro suf
      induction suf with
      | nil =>
        intro pre hp
        exact Ev.step (fun k => spec_deLine.l0.eq_2 ..) (evNeg (rgEnd hp) (evNow (by subst hp; simp)))
      | cons s suf ih =>
        intro pre hp
        obtain ⟨h1, h2, h3, h4, h5⟩ := rgHead hp (by omega) ByteArray.empty
        have hs := h.rw_ s (by rw [hp]; simp)
        have hb := bl_len s
        have hpl : pre.length ≤ 12 := by rw [hp] at hl; simp at hl; omega
        refine Ev.step (fun k => spec_deLine.l0.eq_2 ..) ?_
        simp only [h1, h2, h3, e1, e2, rdOf, h4, if_true]
        have e3 : bl (s.extract (((i - n : Nat) : Int)).toNat (((i - n + 1 : Nat) : Int)).toNat) = [(bl s).getD (i - n) 0] := by
          rw [bl_extract]
          have hx : i - n < (bl s).length := by omega
          rw [Int.toNat_natCast, Int.toNat_natCast, show i - n + 1 - (i - n) = 1 by omega, List.drop_eq_getElem_cons hx, List.take_succ_cons, List.take_zero, List.getD_eq_getElem?_getD, List.getElem?_eq_getElem hx]
          rfl
        have e4 : s.extract (((i - n : Nat) : Int)).toNat (((i - n + 1 : Nat) : Int)).toNat = mkb [(bl s).getD (i - n) 0] := by rw [← e3, mkb_bl]
        refine evPos (by omega) (evPos (by omega) (evPos (by omega) ?_))
        rw [e4]
        refine evPos (by rw [mkb_size, mkb_size]; simp; omega) ?_
        have := ih (pre ++ [s]) h5
        simp only [List.map_append, List.map_cons, List.map_nil] at this
        rw [mkb_append]
        exact this
    have := go l [] rfl
    unfold lnL
    rw [if_neg (by omega), hl]
    rw [hl] at this
    exact this
theorem blockLine_ev {n m : Nat} {l : List ByteArray} (h : Shp n m l) {i : Nat} (hi : i < n + m) : Ev (fun k => impl_blockLine.f k l (i : Int)) ((lnL l i).map fun b => (b.toNat : Int)) := by
  have hn := h.n2; have hm := h.m2; have hl := h.ln
  unfold impl_blockLine.f
  by_cases c : i < n
  · have hr := shpRow h c
    rw [bl_len] at hr
    refine evPos (by omega) (evPos (by omega) (evPos ?_ (evNow ?_)))
    · show (l.getD (i : Int).toNat ByteArray.empty).size ≤ _
      rw [Int.toNat_natCast]; omega
    · unfold lnL
      rw [if_pos (by omega)]
      rfl
  · refine evNeg (by omega) ?_
    have e1 : wrap64 ((i : Int) - (l.length : Int)) = ((i - n : Nat) : Int) := by rw [wrapi (by omega) (by omega)]; omega
    have go : ∀ (suf pre : List ByteArray), l = pre ++ suf → Ev (fun k => impl_blockLine.l0 k l (i : Int) (pre.map fun s => (((bl s).getD (i - n) 0).toNat : Int)) l (l.length : Int) (pre.length : Int)) (l.map fun s => (((bl s).getD (i - n) 0).toNat : Int)) := by
      intro suf
      induction suf with
      | nil =>
        intro pre hp
        exact Ev.step (fun k => impl_blockLine.l0.eq_2 ..) (evNeg (rgEnd hp) (evNow (by subst hp; simp)))
      | cons s suf ih =>
        intro pre hp
        obtain ⟨h1, h2, h3, h4, h5⟩ := rgHead hp (by omega) ByteArray.empty
        have hs := h.rw_ s (by rw [hp]; simp)
        have hb := bl_len s
        have hpl : pre.length ≤ 12 := by rw [hp] at hl; simp at hl; omega
        refine Ev.step (fun k => impl_blockLine.l0.eq_2 ..) ?_
        simp only [h1, h2, h3, e1, rdOf, h4, if_true]
        refine evPos (by omega) (evPos (by omega) (evPos (by simp; omega) ?_))
        rw [bt_at_ s (i - n) (by omega)]
        have := ih (pre ++ [s]) h5
        simp only [List.map_append, List.map_cons, List.map_nil] at this
        exact this
    have := go l [] rfl
    unfold lnL
    rw [if_neg (by omega), hl, List.map_map]
    rw [hl] at this
    exact this
theorem deCnt_ev (b : List UInt8) (hs : b.length ≤ 1048576) (c : Nat) (hc : c < 256) : Ev (fun k => spec_deCount.f k (mkb b) (c : Int)) ((b.count (UInt8.ofNat c) : Nat) : Int) := by
  unfold spec_deCount.f
  have hsz : (mkb b).size = b.length := mkb_size b
  have go : ∀ (suf pre : List UInt8) (a : Nat), b = pre ++ suf → a ≤ pre.length → Ev (fun k => spec_deCount.l0 k (mkb b) (c : Int) (a : Int) (pre.length : Int)) ((a + suf.count (UInt8.ofNat c) : Nat) : Int) := by
    intro suf
    induction suf with
    | nil =>
      intro pre a h _
      have : pre.length = (mkb b).size := by rw [hsz, h]; simp
      exact Ev.step (fun k => spec_deCount.l0.eq_2 ..) (evNeg (by omega) (evNow (by simp)))
    | cons x suf ih =>
      intro pre a h ha
      have hl : pre.length + (suf.length + 1) = (mkb b).size := by rw [hsz, h]; simp
      have hb := bt_mid (s := mkb b) (by rw [bl_mkb]; exact h)
      have e : wrap64 ((pre.length : Int) + 1) = ((pre ++ [x]).length : Int) := by rw [wrapi (by omega) (by omega)]; simp
      refine Ev.step (fun k => spec_deCount.l0.eq_2 ..) (evPos (by omega) (evPos (by omega) ?_))
      rw [hb, e, wrapi (x := (a : Int) + 1) (by omega) (by omega)]
      have hu := u8_eq x c hc
      refine evBy (fun q => ?_) (fun q => ?_)
      · have q' : x = UInt8.ofNat c := hu.1 q
        refine evEq (ih (pre ++ [x]) (a + 1) (by rw [h]; simp) (by simp; omega)) ?_
        rw [q', List.count_cons_self]; omega
      · have q' : ¬ x = UInt8.ofNat c := fun z => q (hu.2 z)
        refine evEq (ih (pre ++ [x]) a (by rw [h]; simp) (by simp; omega)) ?_
        rw [List.count_cons_of_ne (by simpa using q')]
  have := go b [] 0 rfl (by simp)
  simpa using this
theorem rdMap {b pre suf : List UInt8} {x : UInt8} (h : b = pre ++ x :: suf) : rd (b.map fun (b : UInt8) => (b.toNat : Int)) (pre.length : Int) = (x.toNat : Int) := by
  subst h; simp [rd]
theorem lineCounts_l0 (b : List UInt8) (hs : b.length ≤ 1048576) : ∀ (suf pre : List UInt8) (p q : Nat), b = pre ++ suf → p ≤ pre.length → q ≤ pre.length →
    Ev (fun k => impl_lineCounts.l0 k (p : Int) (q : Int) (b.map fun b => (b.toNat : Int)) ((b.map fun (b : UInt8) => (b.toNat : Int)).length : Int) (pre.length : Int)) (((p + suf.count 111 : Nat) : Int), ((q + suf.count 63 : Nat) : Int)) := by
  intro suf
  induction suf with
  | nil =>
    intro pre p q h _ _
    exact Ev.step (fun k => impl_lineCounts.l0.eq_2 ..) (evNeg (by subst h; simp) (evNow (by simp)))
  | cons x suf ih =>
    intro pre p q h hp hq
    have hl : pre.length + (suf.length + 1) = b.length := by rw [h]; simp
    have e : wrap64 ((pre.length : Int) + 1) = ((pre ++ [x]).length : Int) := by rw [wrapi (by omega) (by omega)]; simp
    have h5 : b = (pre ++ [x]) ++ suf := by rw [h]; simp
    refine Ev.step (fun k => impl_lineCounts.l0.eq_2 ..) (evPos (by simp; omega) (evPos (by omega) (evPos (by simp; omega) ?_)))
    rw [rdMap h, e, wrapi (x := (p : Int) + 1) (by omega) (by omega), wrapi (x := (q : Int) + 1) (by omega) (by omega)]
    have h1 := u8_eq x 111 (by omega)
    have h2 := u8_eq x 63 (by omega)
    refine evBy (fun c => ?_) (fun c => evBy (fun c' => ?_) (fun c' => ?_))
    · have z : x = 111 := h1.1 c
      refine evEq (ih (pre ++ [x]) (p + 1) q h5 (by simp; omega) (by simp; omega)) ?_
      rw [z, List.count_cons_self, List.count_cons_of_ne (by decide)]
      congr 1; omega
    · have z : x = 63 := h2.1 c'
      refine evEq (ih (pre ++ [x]) p (q + 1) h5 (by simp; omega) (by simp; omega)) ?_
      rw [z, List.count_cons_self, List.count_cons_of_ne (by decide)]
      congr 1; omega
    · have z1 : ¬ x = 111 := fun z => c (h1.2 z)
      have z2 : ¬ x = 63 := fun z => c' (h2.2 z)
      refine evEq (ih (pre ++ [x]) p q h5 (by simp; omega) (by simp; omega)) ?_
      rw [List.count_cons_of_ne (by simpa using z1), List.count_cons_of_ne (by simpa using z2)]
theorem lineCounts_ev {n m : Nat} {l : List ByteArray} (h : Shp n m l) {i : Nat} (hi : i < n + m) : Ev (fun k => impl_lineCounts.f k l (i : Int)) (((cO l i : Nat) : Int), ((cQ l i : Nat) : Int)) := by
  unfold impl_lineCounts.f
  refine Ev.bind (blockLine_ev h hi) ?_
  have := lineCounts_l0 (lnL l i) (by have := lnL_len h i; omega) (lnL l i) [] 0 0 rfl (by simp) (by simp)
  simpa [cO, cQ] using this
-- another character at a place
def setB (l : List ByteArray) (r c : Nat) (b : UInt8) : List ByteArray := l.set r (mkb ((bl (l.getD r ByteArray.empty)).set c b))
theorem setB_shp {n m : Nat} {l : List ByteArray} (h : Shp n m l) {r : Nat} (hr : r < n) (c : Nat) (b : UInt8) : Shp n m (setB l r c b) := by
  refine ⟨h.n2, h.m2, by simp [setB, h.ln], fun s hs => ?_⟩
  rcases List.mem_or_eq_of_mem_set hs with z | z
  · exact h.rw_ s z
  · rw [z, mkb_size, List.length_set, shpRow h hr]
theorem own_eq {l : List ByteArray} (hl : l.length ≤ 1048576) : spec_l1OwnS.f l = some l := by
  unfold spec_l1OwnS.f
  simp only [Option.bind_some]
  rw [if_pos (by simp; omega)]; simp
theorem deWith_eq {n m : Nat} {l : List ByteArray} (h : Shp n m l) {r c : Nat} (hr : r < n) (hc : c < m) (b : UInt8) : spec_deWith.f l (r : Int) (c : Int) (mkb [b]) = some (setB l r c b) := by
  have hn := h.n2; have hm := h.m2; have hl := h.ln
  have hrow := shpRow h hr
  have hsz : (rdOf ByteArray.empty l (r : Int)).size = m := by rw [← hrow, bl_len]; rfl
  have eb : bl (rdOf ByteArray.empty l (r : Int)) = bl (l.getD r ByteArray.empty) := rfl
  have e1 : wrap64 ((c : Int) + 1) = ((c + 1 : Nat) : Int) := by rw [wrapi (by omega) (by omega)]; omega
  unfold spec_deWith.f
  rw [own_eq (by omega)]
  simp only [Option.bind_some, e1]
  have sz : ∀ (i j : Nat), ((rdOf ByteArray.empty l (r : Int)).extract i j).size ≤ m := fun i j => by rw [← bl_len, bl_extract, eb, List.length_take, List.length_drop]; omega
  have s1 := sz 0 (c : Int).toNat
  have s2 := sz ((c + 1 : Nat) : Int).toNat (rdOf ByteArray.empty l (r : Int)).size
  have s3 : (((rdOf ByteArray.empty l (r : Int)).extract 0 (c : Int).toNat) ++ mkb [b]).size ≤ m + 1 := by rw [← bl_len, bl_append, List.length_append, bl_mkb, bl_len]; simp; omega
  rw [if_pos (by omega), if_pos (by omega), if_pos (by omega), if_pos (by omega), if_pos (by rw [mkb_size]; simp; omega), if_pos (by omega), if_pos (by omega), if_pos (by omega), if_pos (by omega)]
  congr 1
  unfold setB
  rw [Int.toNat_natCast]
  congr 1
  refine bl_inj ?_
  rw [bl_append, bl_append, bl_mkb, bl_mkb, bl_extract, bl_extract, eb, hsz, Int.toNat_natCast, Int.toNat_natCast, List.drop_zero, Nat.sub_zero]
  rw [List.set_eq_take_append_cons_drop, if_pos (by omega), List.append_assoc, List.singleton_append]
  congr 2
  exact List.take_of_length_le (by rw [List.length_drop]; omega)
-- ** peel
theorem getD_in {α : Type} {l : List α} {i : Nat} (z : α) (h : i < l.length) : l.getD i z = l[i] := by rw [List.getD_eq_getElem?_getD, List.getElem?_eq_getElem h]; rfl
theorem fn_eq {n m : Nat} {l : List ByteArray} (h : Shp n m l) (r c : Nat) (b : UInt8) {x y : Nat} (hx : x < n) (hy : y < m) : impl_withCharFn.f (x : Int) (y : Int) (r : Int) (c : Int) (b.toNat : Int) l = some (((if x = r ∧ y = c then b else ch l x y).toNat : Nat) : Int) := by
  have hn := h.n2; have hl := h.ln
  have hr := shpRow h hx
  have hsz : (rdOf ByteArray.empty l (x : Int)).size = m := by rw [← hr, bl_len]; rfl
  have e : bt (rdOf ByteArray.empty l (x : Int)) (y : Int) = ((ch l x y).toNat : Int) := bt_at_ (l.getD x ByteArray.empty) y (by omega)
  have rest : (if (0 : Int) ≤ (x : Int) then (if (x : Int) < (l.length : Int) then (if (0 : Int) ≤ (y : Int) then (if (y : Int) < ((rdOf ByteArray.empty l (x : Int)).size : Int) then (some (bt (rdOf ByteArray.empty l (x : Int)) (y : Int))) else none) else none) else none) else none) = some ((ch l x y).toNat : Int) := by
    rw [if_pos (by omega), if_pos (by omega), if_pos (by omega), if_pos (by omega), e]
  unfold impl_withCharFn.f
  by_cases c1 : x = r
  · rw [if_pos (by omega)]
    by_cases c2 : y = c
    · rw [if_pos (by omega), if_pos ⟨c1, c2⟩]
    · rw [if_neg (show ¬ ((y : Int) = (c : Int)) by omega), rest, if_neg (fun z => c2 z.2)]
  · rw [if_neg (show ¬ ((x : Int) = (r : Int)) by omega), rest, if_neg (fun z => c1 z.1)]
def rowW (l : List ByteArray) (m r c : Nat) (b : UInt8) (x : Nat) : List UInt8 := (List.range m).map fun y => if x = r ∧ y = c then b else ch l x y
theorem rowW_eq {n m : Nat} {l : List ByteArray} (h : Shp n m l) {r c : Nat} (b : UInt8) {x : Nat} (hx : x < n) : rowW l m r c b x = bl ((setB l r c b).getD x ByteArray.empty) := by
  have hr := shpRow h hx
  have hl := h.ln
  unfold setB
  apply List.ext_getElem
  · by_cases e : r = x
    · subst e; rw [List.getD_eq_getElem?_getD, List.getElem?_set_self (by omega)]; simp [rowW, bl_mkb]; exact hr.symm
    · rw [List.getD_eq_getElem?_getD, List.getElem?_set_ne e, ← List.getD_eq_getElem?_getD, hr]; simp [rowW]
  · intro y h1 h2
    have hy : y < m := by simpa [rowW] using h1
    have hc : ch l x y = (bl (l.getD x ByteArray.empty))[y]'(by omega) := getD_in 0 (by omega)
    by_cases e : r = x
    · subst e
      have e2 : (l.set r (mkb ((bl (l.getD r ByteArray.empty)).set c b))).getD r ByteArray.empty = mkb ((bl (l.getD r ByteArray.empty)).set c b) := by rw [List.getD_eq_getElem?_getD, List.getElem?_set_self (by omega)]; rfl
      simp only [e2, bl_mkb, List.getElem_set]
      simp only [rowW, List.getElem_map, List.getElem_range, hc, true_and]
      by_cases q : c = y
      · rw [if_pos q, if_pos q.symm]
      · rw [if_neg q, if_neg (fun z => q z.symm)]
    · have e2 : (l.set r (mkb ((bl (l.getD r ByteArray.empty)).set c b))).getD x ByteArray.empty = l.getD x ByteArray.empty := by rw [List.getD_eq_getElem?_getD, List.getElem?_set_ne e, ← List.getD_eq_getElem?_getD]
      simp only [e2]
      simp only [rowW, List.getElem_map, List.getElem_range, hc]
      rw [if_neg (fun z => e z.1.symm)]
theorem drawn_l1 {n m : Nat} {l : List ByteArray} (h : Shp n m l) (r c : Nat) (b : UInt8) (out : List ByteArray) (ho : out.length ≤ 12) {x : Nat} (hx : x < n) (q : List ByteArray) (hq : Ev (fun k => impl_drawn.l0 k (n : Int) (m : Int) (r : Int) (c : Int) (b.toNat : Int) l (out ++ [mkb (rowW l m r c b x)]) (wrap64 ((x : Int) + 1))) q) : ∀ (d y : Nat), y + d = m →
    Ev (fun k => impl_drawn.l1 k (n : Int) (m : Int) (r : Int) (c : Int) (b.toNat : Int) l out (x : Int) (((rowW l m r c b x).take y).map (fun b => (b.toNat : Int)) ++ List.replicate d 0) (m : Int) (y : Int)) q := by
  have hm := h.m2
  have hlen : (rowW l m r c b x).length = m := by simp [rowW]
  intro d
  induction d with
  | zero =>
    intro y hy
    have : y = m := by omega
    subst this
    refine Ev.step (fun k => impl_drawn.l1.eq_2 ..) (evNeg (by omega) (evPos (by omega) ?_))
    rw [List.take_of_length_le (by omega), List.replicate_zero, List.append_nil]
    have e : strOfNums ((rowW l y r c b x).map fun b => (b.toNat : Int)) = mkb (rowW l y r c b x) := (by
      unfold strOfNums mkb
      congr 2
      rw [List.map_map]
      conv => rhs; rw [← List.map_id (rowW l y r c b x)]
      refine List.map_congr_left (fun b _ => ?_)
      simp)
    rw [e]; exact hq
  | succ d ih =>
    intro y hy
    have hy' : y < m := by omega
    have e1 : wrap64 ((y : Int) + 1) = ((y + 1 : Nat) : Int) := by rw [wrapi (by omega) (by omega)]; omega
    refine Ev.step (fun k => impl_drawn.l1.eq_2 ..) (evPos (by omega) ?_)
    rw [fn_eq h r c b hx hy']
    simp only [Option.bind_some]
    refine evPos (by omega) (evPos (by simp; omega) ?_)
    have tk : (rowW l m r c b x).take (y + 1) = (rowW l m r c b x).take y ++ [if x = r ∧ y = c then b else ch l x y] := by
      rw [List.take_add_one, List.getElem?_eq_getElem (by omega)]
      simp [rowW]
    have st : (((rowW l m r c b x).take y).map (fun (b : UInt8) => (b.toNat : Int)) ++ List.replicate (d + 1) 0).set (y : Int).toNat (((if x = r ∧ y = c then b else ch l x y).toNat : Nat) : Int) = ((rowW l m r c b x).take (y + 1)).map (fun (b : UInt8) => (b.toNat : Int)) ++ List.replicate d 0 := by
      rw [List.replicate_succ, setAt _ _ _ _ _ (by simp; omega), tk]
      simp
    rw [st, e1]
    exact ih (y + 1) (by omega)
theorem drawn_l0 {n m : Nat} {l : List ByteArray} (h : Shp n m l) {r c : Nat} (b : UInt8) : ∀ (d x : Nat), x + d = n →
    Ev (fun k => impl_drawn.l0 k (n : Int) (m : Int) (r : Int) (c : Int) (b.toNat : Int) l ((setB l r c b).take x) (x : Int)) (setB l r c b) := by
  have hn := h.n2; have hm := h.m2
  have hlen : (setB l r c b).length = n := by simp [setB, h.ln]
  intro d
  induction d with
  | zero =>
    intro x hx
    refine Ev.step (fun k => impl_drawn.l0.eq_2 ..) (evNeg (by omega) (evNow ?_))
    exact List.take_of_length_le (by omega)
  | succ d ih =>
    intro x hx
    have e1 : wrap64 ((x : Int) + 1) = ((x + 1 : Nat) : Int) := by rw [wrapi (by omega) (by omega)]; omega
    refine Ev.step (fun k => impl_drawn.l0.eq_2 ..) (evPos (by omega) (evPos (by omega) (evPos (by omega) ?_)))
    simp only [Option.bind_some]
    have := drawn_l1 h r c b ((setB l r c b).take x) (by rw [List.length_take]; omega) (x := x) (by omega) (setB l r c b) (by
      have tk : (setB l r c b).take (x + 1) = (setB l r c b).take x ++ [mkb (rowW l m r c b x)] := by
        rw [List.take_add_one, List.getElem?_eq_getElem (by omega), rowW_eq h b (by omega), mkb_bl, getD_in _ (by omega)]; rfl
      rw [← tk, e1]; exact ih (x + 1) (by omega)) m 0 (by omega)
    simpa using this
theorem withChar_ev {n m : Nat} {l : List ByteArray} (h : Shp n m l) {r c : Nat} (b : UInt8) : Ev (fun k => impl_withChar.f k l (r : Int) (c : Int) (b.toNat : Int)) (setB l r c b) := by
  unfold impl_withChar.f impl_drawn.f
  refine evPos (by rw [h.ln]; have := h.n2; omega) ?_
  rw [shpSz h, h.ln]
  have := drawn_l0 h (r := r) (c := c) b n 0 (by omega)
  exact Ev.bind (by simpa using this) (Ev.now _)
-- filling the erased character of the first line that has one alone
-- ** correct
def oddL (l : List ByteArray) (i : Nat) : Bool := decide (cO l i % 2 = 1)
theorem tm (n : Nat) : (Int.tmod (n : Int) 2 = 0) ↔ n % 2 = 0 := by rw [Int.tmod_eq_emod_of_nonneg (by omega)]; omega
-- nothing is erased
theorem count_le_ers : ∀ {l : List ByteArray} {s : ByteArray}, s ∈ l → cnt s ≤ ers l
  | x :: l, s, h => by
    simp only [ers]
    rcases List.mem_cons.1 h with rfl | z
    · omega
    · have := count_le_ers z; omega
theorem ers_zero : ∀ {l : List ByteArray}, (∀ s, s ∈ l → cnt s = 0) → ers l = 0
  | [], _ => rfl
  | x :: l, h => by simp only [ers]; rw [h x (by simp), ers_zero (fun s hs => h s (by simp [hs]))]
theorem cQ_row {n m : Nat} {l : List ByteArray} (h : Shp n m l) {i : Nat} (hi : i < n) : cQ l i = cnt (l.getD i ByteArray.empty) := by unfold cQ lnL cnt; rw [if_pos (by rw [h.ln]; exact hi)]
theorem none_iff {n m : Nat} {l : List ByteArray} (h : Shp n m l) : ers l = 0 ↔ ∀ i, i < n + m → cQ l i = 0 := by
  have hl := h.ln
  constructor
  · intro he i hi
    by_cases c : i < n
    · rw [cQ_row h c]
      have := count_le_ers (l := l) (s := l.getD i ByteArray.empty) (by rw [getD_in _ (by omega)]; exact List.getElem_mem _)
      omega
    · unfold cQ lnL
      rw [if_neg (by omega)]
      refine List.count_eq_zero.2 (fun hm => ?_)
      obtain ⟨s, hs, e⟩ := List.mem_map.1 hm
      have hc : cnt s = 0 := by have := count_le_ers hs; omega
      unfold cnt at hc
      have hlen : i - l.length < (bl s).length := by rw [bl_len, h.rw_ s hs]; omega
      rw [getD_in 0 hlen] at e
      exact List.count_eq_zero.1 hc (e ▸ List.getElem_mem hlen)
  · intro he
    refine ers_zero (fun s hs => ?_)
    obtain ⟨i, hi, rfl⟩ := List.getElem_of_mem hs
    have := he i (by omega)
    rw [cQ_row h (by omega), getD_in _ hi] at this
    exact this
theorem deErased_ev {n m : Nat} {l : List ByteArray} (h : Shp n m l) : Ev (fun k => spec_deErased.f k l) ((ers l : Nat) : Int) := by
  unfold spec_deErased.f
  have hl := h.ln; have hn := h.n2; have hm := h.m2
  have := deErased_l0 l (by omega) (fun s hs => by rw [h.rw_ s hs]; omega) l [] 0 rfl (by simp)
  simpa using this
theorem isCode_l0 {n m : Nat} {l : List ByteArray} (h : Shp n m l) : ∀ (d i : Nat), i + d = n + m →
    Ev (fun k => impl_isCode.l0 k l ((n + m : Nat) : Int) (i : Int)) ((List.range' i d).all fun j => !oddL l j && decide (cQ l j = 0)) := by
  have hn := h.n2; have hm := h.m2
  intro d
  induction d with
  | zero =>
    intro i hd
    exact Ev.step (fun k => impl_isCode.l0.eq_2 ..) (evNeg (by omega) (Ev.now _))
  | succ d ih =>
    intro i hd
    have e1 : wrap64 ((i : Int) + 1) = ((i + 1 : Nat) : Int) := by rw [wrapi (by omega) (by omega)]; omega
    refine Ev.step (fun k => impl_isCode.l0.eq_2 ..) (evPos (by omega) (Ev.bind (lineCounts_ev h (by omega)) ?_))
    dsimp only
    rw [List.range'_succ, List.all_cons, e1]
    refine evBy (fun c => evBy (fun c2 => evNow ?_) (fun c2 => evEq (ih (i + 1) (by omega)) ?_)) (fun c => evNow ?_)
    · rw [decide_eq_false (show ¬ cQ l i = 0 by omega)]; simp
    · rw [decide_eq_true (show cQ l i = 0 by omega)]
      have : oddL l i = false := decide_eq_false (by have := (tm _).1 c; omega)
      simp [this]
    · have : oddL l i = true := decide_eq_true (by have q : ¬ cO l i % 2 = 0 := fun z => c ((tm _).2 z); omega)
      simp [this]
def codeB (n m : Nat) (l : List ByteArray) : Bool := (List.range (n + m)).all fun j => !oddL l j && decide (cQ l j = 0)
theorem isCode_ev {n m : Nat} {l : List ByteArray} (h : Shp n m l) : Ev (fun k => impl_isCode.f k l) (codeB n m l) := by
  unfold impl_isCode.f codeB
  refine evPos (by rw [h.ln]; have := h.n2; omega) ?_
  rw [lines_eq h, List.range_eq_range']
  exact isCode_l0 h (n + m) 0 (by omega)
theorem deCode_l0 {n m : Nat} {l : List ByteArray} (h : Shp n m l) : ∀ (d i : Nat), i + d = n + m →
    Ev (fun k => spec_deCode.l0 k l (i : Int)) ((List.range' i d).all (fun j => !oddL l j) && decide (ers l = 0)) := by
  have hn := h.n2; have hm := h.m2
  intro d
  induction d with
  | zero =>
    intro i hd
    refine Ev.step (fun k => spec_deCode.l0.eq_2 ..) ?_
    rw [deLines_eq h]
    simp only [Option.bind_some]
    refine evNeg (by omega) (Ev.bind (deErased_ev h) (evNow ?_))
    rw [Bool.eq_iff_iff]; simp
  | succ d ih =>
    intro i hd
    have e1 : wrap64 ((i : Int) + 1) = ((i + 1 : Nat) : Int) := by rw [wrapi (by omega) (by omega)]; omega
    refine Ev.step (fun k => spec_deCode.l0.eq_2 ..) ?_
    rw [deLines_eq h]
    simp only [Option.bind_some]
    refine evPos (by omega) (Ev.bind (deLine_ev h (by omega)) (Ev.bind (deCnt_ev (lnL l i) (by have := lnL_len h i; omega) 111 (by omega)) ?_))
    rw [show (List.count (UInt8.ofNat 111) (lnL l i)) = cO l i from rfl, List.range'_succ, List.all_cons, e1]
    refine evBy (fun c => evEq (ih (i + 1) (by omega)) ?_) (fun c => evNow ?_)
    · have : oddL l i = false := decide_eq_false (by have := (tm _).1 c; omega)
      simp [this]
    · have : oddL l i = true := decide_eq_true (by have q : ¬ cO l i % 2 = 0 := fun z => c ((tm _).2 z); omega)
      simp [this]
theorem deCode_ev {n m : Nat} {l : List ByteArray} (h : Shp n m l) : Ev (fun k => spec_deCode.f k l) (codeB n m l) := by
  unfold spec_deCode.f
  refine evEq (deCode_l0 h (n + m) 0 (by omega)) ?_
  unfold codeB
  rw [← List.range_eq_range', Bool.eq_iff_iff]
  simp only [Bool.and_eq_true, List.all_eq_true, List.mem_range, Bool.not_eq_true', decide_eq_true_eq]
  rw [none_iff h]
  exact ⟨fun z j hj => ⟨z.1 j hj, z.2 j hj⟩, fun z => ⟨fun j hj => (z j hj).1, fun j hj => (z j hj).2⟩⟩
-- the wrong mark
def odds (l : List ByteArray) (i d : Nat) : List Nat := (List.range' i d).filter (oddL l)
def wrong (n : Nat) (o : List Nat) : Int × Int × Bool := match o with
  | [a, b] => if a < n ∧ n ≤ b then ((a : Int), ((b - n : Nat) : Int), true) else (0, 0, false)
  | _ => (0, 0, false)
theorem odds_bd (l : List ByteArray) (i d : Nat) : ∀ j, j ∈ odds l i d → i ≤ j ∧ j < i + d := by
  intro j hj
  have := (List.mem_filter.1 hj).1
  rw [List.mem_range'_1] at this
  omega
theorem wrong_two (n : Nat) (A B : List Nat) (hA : ∀ a, a ∈ A → a < n) (hB : ∀ b, b ∈ B → n ≤ b) : wrong n (A ++ B) = (match A, B with | [a], [b] => ((a : Int), ((b - n : Nat) : Int), true) | _, _ => (0, 0, false)) := by
  match A, B with
  | [], [] => rfl
  | [], [b] => rfl
  | [], [b, c] =>
    have := hB b (by simp)
    simp only [List.nil_append, wrong]; rw [if_neg (by omega)]
  | [], b :: c :: d :: B => rfl
  | [a], [] => rfl
  | [a], [b] =>
    have h1 := hA a (by simp); have h2 := hB b (by simp)
    simp only [List.singleton_append, wrong]; rw [if_pos ⟨h1, h2⟩]
  | [a], b :: c :: B => rfl
  | [a, b], [] =>
    have h2 := hA b (by simp)
    simp only [List.append_nil, wrong]; rw [if_neg (by omega)]
  | [a, b], c :: B => rfl
  | a :: b :: c :: A, B => rfl
theorem deError_l0 {n m : Nat} {l : List ByteArray} (h : Shp n m l) : ∀ (d i : Nat) (o : List Nat), i + d = n + m → o.length ≤ i → (∀ j, j ∈ o → j < n + m) →
    Ev (fun k => spec_deError.l0 k l (o.map fun (j : Nat) => (j : Int)) (i : Int)) (if ers l = 0 then wrong n (o ++ odds l i d) else (0, 0, false)) := by
  have hn := h.n2; have hm := h.m2; have hl := h.ln
  intro d
  induction d with
  | zero =>
    intro i o hd ho hb
    refine Ev.step (fun k => spec_deError.l0.eq_2 ..) ?_
    rw [deLines_eq h]
    simp only [Option.bind_some]
    refine evNeg (by omega) (Ev.bind (deErased_ev h) ?_)
    by_cases c : ers l = 0
    · rw [if_pos c]
      refine evNeg (by omega) ?_
      have e0 : odds l i 0 = [] := rfl
      rw [e0, List.append_nil]
      match o, hb with
      | [], _ => exact evNeg (by simp) (Ev.now _)
      | [a], _ => exact evNeg (by simp) (Ev.now _)
      | [a, b], hb =>
        have hbb := hb b (by simp)
        refine evPos (by simp) (evPos (by simp) ?_)
        have ra : rd (([a, b] : List Nat).map fun (j : Nat) => (j : Int)) 0 = (a : Int) := rfl
        have rb : rd (([a, b] : List Nat).map fun (j : Nat) => (j : Int)) 1 = (b : Int) := rfl
        rw [ra, rb]
        simp only [wrong]
        refine evBy (fun q => evNow ?_) (fun q => evPos (by simp) (evBy (fun q2 => evNow ?_) (fun q2 => evNow ?_)))
        · rw [if_neg (by omega)]
        · rw [if_neg (by omega)]
        · rw [if_pos (by omega), wrapi (by omega) (by omega)]
          have : (b : Int) - (l.length : Int) = ((b - n : Nat) : Int) := by omega
          rw [this]
      | a :: b :: c :: o, _ => exact evNeg (by simp; omega) (Ev.now _)
    · rw [if_neg c]
      exact evPos (by omega) (Ev.now _)
  | succ d ih =>
    intro i o hd ho hb
    have e1 : wrap64 ((i : Int) + 1) = ((i + 1 : Nat) : Int) := by rw [wrapi (by omega) (by omega)]; omega
    refine Ev.step (fun k => spec_deError.l0.eq_2 ..) ?_
    rw [deLines_eq h]
    simp only [Option.bind_some]
    refine evPos (by omega) (Ev.bind (deLine_ev h (by omega)) (Ev.bind (deCnt_ev (lnL l i) (by have := lnL_len h i; omega) 111 (by omega)) ?_))
    rw [show (List.count (UInt8.ofNat 111) (lnL l i)) = cO l i from rfl, e1]
    refine evBy (fun c => evEq (ih (i + 1) o (by omega) (by omega) hb) ?_) (fun c => evPos (by simp; omega) ?_)
    · have : oddL l i = false := decide_eq_false (by have := (tm _).1 c; omega)
      have e : odds l i (d + 1) = odds l (i + 1) d := by unfold odds; rw [List.range'_succ, List.filter_cons_of_neg (by simp [this])]
      rw [e]
    · have : oddL l i = true := decide_eq_true (by have q : ¬ cO l i % 2 = 0 := fun z => c ((tm _).2 z); omega)
      have e : odds l i (d + 1) = i :: odds l (i + 1) d := by unfold odds; rw [List.range'_succ, List.filter_cons_of_pos (by simp [this])]
      rw [e]
      have := ih (i + 1) (o ++ [i]) (by omega) (by simp; omega) (fun j hj => by
        rcases List.mem_append.1 hj with z | z
        · exact hb j z
        · rw [List.mem_singleton.1 z]; omega)
      simp only [List.map_append, List.map_cons, List.map_nil, List.append_assoc, List.singleton_append] at this
      exact this
theorem deError_ev {n m : Nat} {l : List ByteArray} (h : Shp n m l) : Ev (fun k => spec_deError.f k l) (if ers l = 0 then wrong n (odds l 0 (n + m)) else (0, 0, false)) := by
  unfold spec_deError.f
  have := deError_l0 h (n + m) 0 [] (by omega) (by simp) (by simp)
  simpa using this
theorem wrongMark_l0 {n m : Nat} {l : List ByteArray} (h : Shp n m l) : ∀ (d i : Nat) (A B : List Nat), i + d = n + m → A.length ≤ i → B.length ≤ i → (∀ a, a ∈ A → a < n) → (∀ b, b ∈ B → n ≤ b ∧ b < n + m) → (i < n → B = []) → (∀ j, j < i → cQ l j = 0) →
    Ev (fun k => impl_wrongMark.l0 k l (A.map fun (j : Nat) => (j : Int)) (B.map fun (j : Nat) => ((j - n : Nat) : Int)) ((n + m : Nat) : Int) (i : Int)) (if ers l = 0 then wrong n (A ++ B ++ odds l i d) else (0, 0, false)) := by
  have hn := h.n2; have hm := h.m2; have hl := h.ln
  intro d
  induction d with
  | zero =>
    intro i A B hd hA hB ha hb _ hq
    have e0 : odds l i 0 = [] := rfl
    have hz : ers l = 0 := (none_iff h).2 (fun j hj => hq j (by omega))
    rw [if_pos hz, e0, List.append_nil, wrong_two n A B ha (fun b z => (hb b z).1)]
    refine Ev.step (fun k => impl_wrongMark.l0.eq_2 ..) (evNeg (by omega) ?_)
    match A, B with
    | [], B => exact evNeg (by simp) (Ev.now _)
    | [a], [] => exact evPos (by simp) (evNeg (by simp) (Ev.now _))
    | [a], [b] => exact evPos (by simp) (evPos (by simp) (evPos (by simp) (evPos (by simp) (Ev.now _))))
    | [a], b :: c :: B => exact evPos (by simp) (evNeg (by simp; omega) (Ev.now _))
    | a :: b :: A, B => exact evNeg (by simp; omega) (Ev.now _)
  | succ d ih =>
    intro i A B hd hA hB ha hb hi0 hq
    have e1 : wrap64 ((i : Int) + 1) = ((i + 1 : Nat) : Int) := by rw [wrapi (by omega) (by omega)]; omega
    refine Ev.step (fun k => impl_wrongMark.l0.eq_2 ..) (evPos (by omega) (Ev.bind (lineCounts_ev h (by omega)) ?_))
    dsimp only
    by_cases cq : cQ l i = 0
    · have hq' : ∀ j, j < i + 1 → cQ l j = 0 := fun j hj => by
        by_cases z : j = i
        · rw [z]; exact cq
        · exact hq j (by omega)
      rw [e1]
      refine evNeg (by omega) (evBy (fun c => evEq (ih (i + 1) A B (by omega) (by omega) (by omega) ha hb (fun z => hi0 (by omega)) hq') ?_) (fun c => ?_))
      · have : oddL l i = false := decide_eq_false (by have := (tm _).1 c; omega)
        have e : odds l i (d + 1) = odds l (i + 1) d := by unfold odds; rw [List.range'_succ, List.filter_cons_of_neg (by simp [this])]
        rw [e]
      · have : oddL l i = true := decide_eq_true (by have q : ¬ cO l i % 2 = 0 := fun z => c ((tm _).2 z); omega)
        have e : odds l i (d + 1) = i :: odds l (i + 1) d := by unfold odds; rw [List.range'_succ, List.filter_cons_of_pos (by simp [this])]
        rw [e]
        by_cases ci : i < n
        · refine evPos (by omega) (evPos (by simp; omega) ?_)
          have hBn := hi0 ci
          subst hBn
          have := ih (i + 1) (A ++ [i]) [] (by omega) (by simp; omega) (by simp) (fun a z => by
            rcases List.mem_append.1 z with q | q
            · exact ha a q
            · rw [List.mem_singleton.1 q]; exact ci) (by simp) (fun _ => rfl) hq'
          simp only [List.map_append, List.map_cons, List.map_nil, List.append_nil, List.append_assoc, List.singleton_append] at this ⊢
          exact this
        · have e2 : wrap64 ((i : Int) - (l.length : Int)) = ((i - n : Nat) : Int) := by rw [wrapi (by omega) (by omega)]; omega
          rw [e2]
          refine evNeg (by omega) (evPos (by simp; omega) ?_)
          have := ih (i + 1) A (B ++ [i]) (by omega) (by omega) (by simp; omega) ha (fun b z => by
            rcases List.mem_append.1 z with q | q
            · exact hb b q
            · rw [List.mem_singleton.1 q]; omega) (fun z => by omega) hq'
          simp only [List.map_append, List.map_cons, List.map_nil, List.append_assoc, List.singleton_append] at this ⊢
          exact this
    · have hz : ¬ ers l = 0 := fun z => cq ((none_iff h).1 z i (by omega))
      rw [if_neg hz]
      exact evPos (by omega) (Ev.now _)
theorem wrongMark_ev {n m : Nat} {l : List ByteArray} (h : Shp n m l) : Ev (fun k => impl_wrongMark.f k l) (if ers l = 0 then wrong n (odds l 0 (n + m)) else (0, 0, false)) := by
  unfold impl_wrongMark.f
  refine evPos (by rw [h.ln]; have := h.n2; omega) ?_
  rw [lines_eq h]
  have := wrongMark_l0 h (n + m) 0 [] [] (by omega) (by simp) (by simp) (by simp) (by simp) (fun _ => rfl) (by omega)
  simpa using this
theorem wrong_in {n m : Nat} {l : List ByteArray} {r c : Int} (he : (if ers l = 0 then wrong n (odds l 0 (n + m)) else (0, 0, false)) = (r, c, true)) : ∃ a b : Nat, r = (a : Int) ∧ c = (b : Int) ∧ a < n ∧ b < m := by
  split at he
  · have hb := odds_bd l 0 (n + m)
    unfold wrong at he
    split at he
    · rename_i a b ho
      have h2 := hb b (by rw [ho]; simp)
      split at he
      · simp only [Prod.mk.injEq] at he
        exact ⟨a, b - n, he.1.symm, he.2.1.symm, by omega, by omega⟩
      · simp at he
    · simp at he
  · simp at he
-- ** strmark
theorem markText_l0 : ∀ (d : Nat) (n : Int) (s : ByteArray), 0 ≤ n → n < (d : Int) → n ≤ 1000000000 → s.size + d ≤ 4611686018427387904 → ∃ v, Ev (fun k => laws_markText.l0 k n s) v
  | 0, n, s, h0, hd, _, _ => by omega
  | d + 1, n, s, h0, hd, hb, hs => by
    by_cases c : n > 0
    · have e : wrap64 (Int.tdiv n 10) = n / 10 := by
        rw [Int.tdiv_eq_ediv_of_nonneg h0, wrapi (by omega) (by omega)]
      have sz : (strOfNums [(wrap64 (48 + (Int.tmod n 10))) % 256]).size = 1 := by rw [strOfNums_size]; rfl
      have sz2 : ((strOfNums [(wrap64 (48 + (Int.tmod n 10))) % 256]) ++ s).size = 1 + s.size := by rw [ByteArray.size_append, sz]
      obtain ⟨v, hv⟩ := markText_l0 d (n / 10) ((strOfNums [(wrap64 (48 + (Int.tmod n 10))) % 256]) ++ s) (by omega) (by omega) (by omega) (by omega)
      refine ⟨v, Ev.step (fun k => laws_markText.l0.eq_2 ..) (evPos c ?_)⟩
      simp only [Option.bind_some]
      rw [e]
      exact evPos (by omega) hv
    · exact ⟨_, Ev.step (fun k => laws_markText.l0.eq_2 ..) (evNeg c (evPos (by omega) (Ev.now _)))⟩
theorem markText_ex (n : Int) (h0 : 0 ≤ n) (hb : n ≤ 1000000000) : ∃ v, Ev (fun k => laws_markText.f k n) v := by
  unfold laws_markText.f
  by_cases c : n ≤ 0
  · exact ⟨_, evPos c (Ev.now _)⟩
  · obtain ⟨v, hv⟩ := markText_l0 (n.toNat + 1) n ⟨#[]⟩ h0 (by omega) hb (by simp [ByteArray.size]; omega)
    exact ⟨v, evNeg c hv⟩
open Classical in
noncomputable def mtx (n : Int) : ByteArray := if h : ∃ v, Ev (fun k => laws_markText.f k n) v then Classical.choose h else ByteArray.empty
theorem mtx_ev (n : Int) (h0 : 0 ≤ n) (hb : n ≤ 1000000000) : Ev (fun k => laws_markText.f k n) (mtx n) := by
  have h := markText_ex n h0 hb
  unfold mtx
  rw [dif_pos h]
  exact Classical.choose_spec h
noncomputable def mkStr : List ByteArray → Int → List ByteArray
  | [], _ => []
  | _ :: l, k => mtx k :: mkStr l (k + 1)
theorem mkStr_length : ∀ (l : List ByteArray) (k : Int), (mkStr l k).length = l.length
  | [], _ => rfl
  | _ :: l, k => by simp [mkStr, mkStr_length l]
theorem markStr_l0 : ∀ (suf pre : List ByteArray) (k : Int), pre.length + suf.length ≤ 1048576 → 0 ≤ k → k + (suf.length : Int) ≤ 1000000000 →
    Ev (fun n => laws_markStringS.l0 n (pre ++ suf) k (pre.length : Int)) (k + (suf.length : Int), pre ++ mkStr suf k) := by
  intro suf
  induction suf with
  | nil =>
    intro pre k hl h0 hk
    refine Ev.step (fun k => laws_markStringS.l0.eq_2 ..) ?_
    simp only [rgEnd (l := pre ++ []) (pre := pre) rfl, if_false]
    exact evNow (by simp [mkStr])
  | cons x suf ih =>
    intro pre k hl h0 hk
    obtain ⟨h1, h2, h3, h4, h5⟩ := rgHead (l := pre ++ x :: suf) (pre := pre) rfl (by simp at hl ⊢; omega) ByteArray.empty
    simp at hl hk
    refine Ev.step (fun k => laws_markStringS.l0.eq_2 ..) ?_
    simp only [h1, h2, h3, if_true]
    refine Ev.bind (mtx_ev k h0 (by omega)) ?_
    rw [setAt _ _ _ _ _ (by simp), wrapi (by omega) (by omega)]
    have := ih (pre ++ [mtx k]) (k + 1) (by simp; omega) (by omega) (by omega)
    simp only [List.append_assoc, List.singleton_append] at this
    have e : ((pre ++ [x]).length : Int) = ((pre ++ [mtx k] : List ByteArray).length : Int) := by simp
    rw [e]
    exact evEq this (by simp [mkStr]; omega)
theorem markStr_ev (l : List ByteArray) (hl : l.length ≤ 1048576) : Ev (fun n => laws_markStringS.f n l 1) (1 + (l.length : Int), mkStr l 1) := by
  unfold laws_markStringS.f
  exact markStr_l0 l [] 1 (by simpa using hl) (by omega) (by omega)
theorem heldStr_l0 : ∀ (suf pre : List ByteArray) (k : Int), pre.length + suf.length ≤ 1048576 → 0 ≤ k → k + (suf.length : Int) ≤ 1000000000 →
    Ev (fun n => laws_heldStringS.l0 n (pre ++ mkStr suf k) k (pre.length : Int)) (k + (suf.length : Int)) := by
  intro suf
  induction suf with
  | nil =>
    intro pre k hl h0 hk
    refine Ev.step (fun k => laws_heldStringS.l0.eq_2 ..) ?_
    simp only [mkStr, rgEnd (l := pre ++ []) (pre := pre) rfl, if_false]
    exact evNow (by simp)
  | cons x suf ih =>
    intro pre k hl h0 hk
    simp only [mkStr]
    simp at hl hk
    obtain ⟨h1, h2, h3, h4, h5⟩ := rgHead (l := pre ++ mtx k :: mkStr suf (k + 1)) (pre := pre) rfl (by simp [mkStr_length]; omega) ByteArray.empty
    refine Ev.step (fun k => laws_heldStringS.l0.eq_2 ..) ?_
    simp only [h1, h2, h3, rdOf, h4, if_true]
    refine Ev.bind (mtx_ev k h0 (by omega)) (evPos rfl ?_)
    rw [wrapi (by omega) (by omega), h5]
    refine evEq (ih (pre ++ [mtx k]) (k + 1) (by simp; omega) (by omega) (by omega)) (by simp; omega)
theorem heldStr_ev (l : List ByteArray) (hl : l.length ≤ 1048576) : Ev (fun n => laws_heldStringS.f n (mkStr l 1) 1) (1 + (l.length : Int)) := by
  unfold laws_heldStringS.f
  exact heldStr_l0 l [] 1 (by simpa using hl) (by omega) (by omega)
-- ** FnExactCorrectBlock
theorem co_ex {l : List ByteArray} (hl : l.length ≤ 1048576) (hb : ∀ s, s ∈ l → s.size ≤ 1048576) : ∃ q, Ev (fun k => spec_CorrectBlock.f k l) q ∧ Ev (fun k => impl_CorrectBlock.f k l) q ∧ q.1.length ≤ 12 := by
  unfold spec_CorrectBlock.f impl_CorrectBlock.f
  by_cases g : good l = true
  · have h := good_shp g
    have hn := h.n2
    by_cases cd : codeB l.length (sz0 l) l = true
    · refine ⟨(l, true), Ev.bind (deGood_ev hl hb) (evPos g (Ev.bind (deCode_ev h) (evPos cd ?_))), Ev.bind (isBlock_ev hl hb) (evPos g (Ev.bind (isCode_ev h) (evPos cd ?_))), by dsimp only; omega⟩
      · rw [own_eq hl]; exact Ev.now _
      · simp only [Option.bind_some, List.nil_append, List.length_nil]
        exact evPos (by omega) (Ev.now _)
    · obtain ⟨⟨r, c, ok⟩, he⟩ : ∃ z, (if ers l = 0 then wrong l.length (odds l 0 (l.length + sz0 l)) else (0, 0, false)) = z := ⟨_, rfl⟩
      cases ok with
      | false =>
        have h1 := deError_ev h
        have h2 := wrongMark_ev h
        rw [he] at h1 h2
        exact ⟨([], false), Ev.bind (deGood_ev hl hb) (evPos g (Ev.bind (deCode_ev h) (evNeg cd (Ev.bind h1 (evNeg (by simp) (Ev.now _)))))), Ev.bind (isBlock_ev hl hb) (evPos g (Ev.bind (isCode_ev h) (evNeg cd (Ev.bind h2 (evNeg (by simp) (Ev.now _)))))), by simp⟩
      | true =>
        have h1 := deError_ev h
        have h2 := wrongMark_ev h
        rw [he] at h1 h2
        obtain ⟨a, b, rfl, rfl, ha, hbm⟩ := wrong_in he
        have hrow := shpRow h ha
        have hsz : ((rdOf ByteArray.empty l (a : Int)).size : Int) = (sz0 l : Int) := by
          rw [bl_len] at hrow
          show ((l.getD (a : Int).toNat ByteArray.empty).size : Int) = _
          rw [Int.toNat_natCast]; omega
        by_cases cc : bt (rdOf ByteArray.empty l (a : Int)) (b : Int) = 111
        · refine ⟨(setB l a b 46, true), Ev.bind (deGood_ev hl hb) (evPos g (Ev.bind (deCode_ev h) (evNeg cd (Ev.bind h1 (evPos rfl (evPos (by dsimp only; omega) (evPos (by dsimp only; omega) (evPos (by dsimp only; omega) (evPos (by dsimp only; omega) (evPos cc ?_)))))))))), Ev.bind (isBlock_ev hl hb) (evPos g (Ev.bind (isCode_ev h) (evNeg cd (Ev.bind h2 (evPos rfl (evPos (by dsimp only; omega) (evPos (by dsimp only; omega) (evPos (by dsimp only; omega) (evPos (by dsimp only; omega) (evPos cc (Ev.bind (withChar_ev h 46) (Ev.now _)))))))))))), ?_⟩
          · have := deWith_eq h ha hbm 46
            rw [show (⟨#[46]⟩ : ByteArray) = mkb [46] from rfl, this]; exact Ev.now _
          · have := (setB_shp h ha b 46).ln
            dsimp only; omega
        · refine ⟨(setB l a b 111, true), Ev.bind (deGood_ev hl hb) (evPos g (Ev.bind (deCode_ev h) (evNeg cd (Ev.bind h1 (evPos rfl (evPos (by dsimp only; omega) (evPos (by dsimp only; omega) (evPos (by dsimp only; omega) (evPos (by dsimp only; omega) (evNeg cc ?_)))))))))), Ev.bind (isBlock_ev hl hb) (evPos g (Ev.bind (isCode_ev h) (evNeg cd (Ev.bind h2 (evPos rfl (evPos (by dsimp only; omega) (evPos (by dsimp only; omega) (evPos (by dsimp only; omega) (evPos (by dsimp only; omega) (evNeg cc (Ev.bind (withChar_ev h 111) (Ev.now _)))))))))))), ?_⟩
          · have := deWith_eq h ha hbm 111
            rw [show (⟨#[111]⟩ : ByteArray) = mkb [111] from rfl, this]; exact Ev.now _
          · have := (setB_shp h ha b 111).ln
            dsimp only; omega
  · exact ⟨([], false), Ev.bind (deGood_ev hl hb) (evNeg g (Ev.now _)), Ev.bind (isBlock_ev hl hb) (evNeg g (Ev.now _)), by simp⟩
theorem FnExactCorrectBlock (l0 : List ByteArray) (w0 : Opn.Lst Opn.Str l0) : ∃ k, laws_FnExactCorrectBlock.f k l0 = some true := by
  refine Ev.rounds (g := fun k => laws_FnExactCorrectBlock.f k l0) ?_
  unfold laws_FnExactCorrectBlock.f laws_szStringS.f
  have hw := w0.1
  by_cases c : (1048576 : Int) - (l0.length : Int) < 0
  · refine Ev.bind (a := (-1 : Int)) ?_ (evPos (by omega) (Ev.now _))
    rw [wrapi (x := (1048576 : Int) - (l0.length : Int)) (by omega) (by omega)]
    exact evPos c (Ev.now _)
  · obtain ⟨r, hr, hb⟩ := szStr_l0 l0 (by omega) (fun s hs => w0.2 s hs) l0 [] ((1048576 : Int) - (l0.length : Int)) rfl (by omega) (by omega)
    refine Ev.bind (a := r) ?_ (evBy (fun _ => Ev.now _) (fun c1 => ?_))
    · rw [wrapi (x := (1048576 : Int) - (l0.length : Int)) (by omega) (by omega)]
      exact evNeg c hr
    · have hb' := hb (by omega)
      have hl : l0.length ≤ 1048576 := by omega
      obtain ⟨q, hq1, hq2, hq3⟩ := co_ex hl hb'
      refine Ev.bind (toStr_ev hl) (Ev.bind hq1 (Ev.bind (toStr_ev hl) (Ev.bind hq2 (Ev.bind (eqStr_ev (by omega)) (evPos rfl ?_)))))
      simp only [bne_self_eq_false]
      refine Ev.step (fun k => laws_FnExactCorrectBlock.j0.eq_2 ..) (evNeg (by simp) (Ev.bind (toStr_ev hl) (Ev.bind (eqStr_ev hl) (evPos rfl (Ev.bind (markStr_ev l0 hl) (evNeg (by dsimp only; omega) (Ev.bind (eqStr_ev (by omega)) (evPos rfl ?_))))))))
      simp only [bne_self_eq_false]
      refine Ev.step (fun k => laws_FnExactCorrectBlock.j1.eq_2 ..) (evNeg (by simp) (Ev.bind (markStr_ev _ (by omega)) (Ev.bind (heldStr_ev _ (by omega)) (evNeg (by omega) (evPos rfl (Ev.bind (toStr_ev hl) (Ev.bind hq2 (Ev.bind (eqStr_ev (by omega)) (evPos rfl ?_)))))))))
      simp only [bne_self_eq_false]
      exact Ev.step (fun k => laws_FnExactCorrectBlock.j2.eq_2 ..) (evNeg (by simp) (Ev.bind (heldStr_ev _ (by omega)) (evNeg (by omega) (evPos rfl (Ev.now _)))))
end Go.Proofs.Ytjjjikdpegogcaa.Pure
