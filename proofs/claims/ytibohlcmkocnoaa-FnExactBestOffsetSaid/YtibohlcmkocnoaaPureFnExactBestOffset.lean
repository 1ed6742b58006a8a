/- The program's BestOffset returns what the reference's returns, for all arguments.: the plain part: what the program computes and what the reference computes agree, for all arguments. No conditions beyond the arguments' own kinds. -/
import Derived.Test.YtibohlcmkocnoaaPFnExactBestOffsetx0
import Derived.Test.YtibohlcmkocnoaaPFnExactBestOffsetx1
import Derived.Test.YtibohlcmkocnoaaPFnExactBestOffsetx2
import Derived.Test.YtibohlcmkocnoaaPFnExactBestOffsetx3
import Derived.Test.YtibohlcmkocnoaaPFnExactBestOffsetx4
import Derived.Test.YtibohlcmkocnoaaOpn
namespace Go.Proofs.Ytibohlcmkocnoaa.Pure
open Go.RowKit Go.Proofs.Ytibohlcmkocnoaa.PFnExactBestOffset Go.Proofs.YtibohlcmkocnoaaW.PrintWords Go.Proofs.YtibohlcmkocnoaaW.PrintLast Go.Proofs.YtibohlcmkocnoaaW.PrintMore
-- ** base
theorem wrapi {x : Int} (h0 : -9223372036854775808 ≤ x) (h1 : x ≤ 9223372036854775807) : wrap64 x = x := by unfold wrap64; omega
theorem evPos {α : Type} {c : Prop} [Decidable c] {g f : Nat → Option α} {r : α} (h : c) (e : Ev g r) : Ev (fun k => if c then g k else f k) r := by
  simp only [if_pos h]; exact e
theorem evNeg {α : Type} {c : Prop} [Decidable c] {g f : Nat → Option α} {r : α} (h : ¬ c) (e : Ev f r) : Ev (fun k => if c then g k else f k) r := by
  simp only [if_neg h]; exact e
theorem evNow {α : Type} {r q : α} (h : r = q) : Ev (fun _ => some r) q := by subst h; exact Ev.now r
theorem evEq {α : Type} {g : Nat → Option α} {r q : α} (h : Ev g r) (e : r = q) : Ev g q := e ▸ h
theorem evIte {α : Type} {c : Prop} [Decidable c] {g f : Nat → Option α} {r q : α} (h : c → Ev g r) (h' : ¬ c → Ev f q) : Ev (fun k => if c then g k else f k) (if c then r else q) := by
  by_cases hc : c
  · simp only [if_pos hc]; exact h hc
  · simp only [if_neg hc]; exact h' hc
theorem evBy {α : Type} {c : Prop} [Decidable c] {g f : Nat → Option α} {r : α} (h : c → Ev g r) (h' : ¬ c → Ev f r) : Ev (fun k => if c then g k else f k) r := by
  by_cases hc : c
  · simp only [if_pos hc]; exact h hc
  · simp only [if_neg hc]; exact h' hc
theorem someF {p : Prop} [Decidable p] (h : ¬ p) : some false = some (decide p) := by rw [decide_eq_false h]
theorem someD {p q : Prop} [Decidable p] [Decidable q] (h : p ↔ q) : some (decide p) = some (decide q) := by rw [decide_eq_decide.mpr h]
theorem rgEnd {α : Type} {l pre : List α} (h : l = pre ++ []) : ¬ ((pre.length : Int) < (l.length : Int)) := by subst h; simp
theorem rgHead {α : Type} {l pre suf : List α} {x : α} (h : l = pre ++ x :: suf) (hl : l.length ≤ 4611686018427387904) (z : α) :
    (pre.length : Int) < (l.length : Int) ∧ (0 : Int) ≤ (pre.length : Int) ∧ wrap64 ((pre.length : Int) + 1) = ((pre ++ [x]).length : Int) ∧ l.getD (pre.length : Int).toNat z = x ∧ l = (pre ++ [x]) ++ suf := by
  subst h
  simp at hl
  refine ⟨by simp; omega, by omega, ?_, by simp, by simp⟩
  rw [wrapi (by omega) (by omega)]; simp
theorem in_eq (a b c : Int) : spec_l1In.f a b c = some (decide (b ≤ a ∧ a ≤ c)) := by
  unfold spec_l1In.f
  split
  · exact someD (by omega)
  · exact someF (by omega)
theorem mx_eq (a b : Int) : mx a b = max a b := by unfold mx; omega
theorem mn_eq (a b : Int) : mn a b = min a b := by unfold mn; omega
-- ** lists
theorem setAt {α : Type} (A B : List α) (z v : α) (n : Nat) (h : n = A.length) : (A ++ z :: B).set n v = A ++ v :: B := by subst h; simp
-- ** seglaw
def cvSeg (x : S66) : S64 := ⟨x.f0, x.f1⟩
theorem szSeg_eq (l : List S66) (h : l.length ≤ 9223372036854775807) : laws_szSegmentS.f l 1048576 = some (if l.length ≤ 1048576 then 1048576 - (l.length : Int) else -1) := by
  unfold laws_szSegmentS.f
  rw [wrapi (by omega) (by omega)]
  by_cases c : l.length ≤ 1048576
  · rw [if_neg (by omega), if_pos c]
  · rw [if_pos (by omega), if_neg c]
theorem toSeg_l0 (l : List S66) (hl : l.length ≤ 1048576) : ∀ (suf pre : List S66), l = pre ++ suf →
    Ev (fun k => laws_toSegmentS.l0 k l (pre.map cvSeg ++ List.replicate suf.length z64) (pre.length : Int)) (l.map cvSeg) := by
  intro suf
  induction suf with
  | nil =>
    intro pre h
    refine Ev.step (fun k => laws_toSegmentS.l0.eq_2 ..) ?_
    simp only [rgEnd h, if_false]
    exact evNow (by subst h; simp)
  | cons x suf ih =>
    intro pre h
    obtain ⟨h1, h2, h3, h4, h5⟩ := rgHead h (by omega) z66
    refine Ev.step (fun k => laws_toSegmentS.l0.eq_2 ..) ?_
    simp only [h1, h2, h3, rd_T66, h4, if_true, laws_toSegment.f, Option.bind_some]
    refine evPos (by simp; omega) ?_
    have e : (pre.map cvSeg ++ List.replicate (x :: suf).length z64).set (pre.length : Int).toNat ⟨x.f0, x.f1⟩ = (pre ++ [x]).map cvSeg ++ List.replicate suf.length z64 := by
      rw [List.length_cons, List.replicate_succ, setAt _ _ _ _ _ (by simp)]
      simp [cvSeg]
    rw [e]
    exact ih _ h5
theorem toSeg_ev (l : List S66) (hl : l.length ≤ 1048576) : Ev (fun k => laws_toSegmentS.f k l) (l.map cvSeg) := by
  unfold laws_toSegmentS.f
  refine evPos (by omega) (evPos (by omega) ?_)
  have := toSeg_l0 l hl l [] rfl
  simpa using this
theorem eqSeg_l0 (l : List S64) (hl : l.length ≤ 4611686018427387904) : ∀ (suf pre : List S64), l = pre ++ suf → Ev (fun k => laws_eqSegmentS.l0 k l l (pre.length : Int)) true := by
  intro suf
  induction suf with
  | nil =>
    intro pre h
    refine Ev.step (fun k => laws_eqSegmentS.l0.eq_2 ..) ?_
    simp only [rgEnd h, if_false]
    exact Ev.now _
  | cons x suf ih =>
    intro pre h
    obtain ⟨h1, h2, h3, h4, h5⟩ := rgHead h hl z64
    refine Ev.step (fun k => laws_eqSegmentS.l0.eq_2 ..) ?_
    simp only [h1, h2, h3, if_true, laws_eqSegment.f, Option.bind_some]
    exact ih _ h5
theorem eqSeg_ev (l : List S64) (hl : l.length ≤ 4611686018427387904) : Ev (fun k => laws_eqSegmentS.f k l l) true := by
  unfold laws_eqSegmentS.f
  exact evPos rfl (eqSeg_l0 l hl l [] rfl)
-- ** seggood
def seg (x : S64) : Bool := decide (1 ≤ x.f0 ∧ x.f0 ≤ 500 ∧ 900 ≤ x.f1 ∧ x.f1 ≤ 1100)
theorem seg_iff {x : S64} : seg x = true ↔ 1 ≤ x.f0 ∧ x.f0 ≤ 500 ∧ 900 ≤ x.f1 ∧ x.f1 ≤ 1100 := by simp [seg]
def stps : List S64 → Int
  | [] => 0
  | x :: l => x.f0 + stps l
theorem stps_bd : ∀ {l : List S64}, l.all seg = true → (l.length : Int) ≤ stps l ∧ stps l ≤ 500 * (l.length : Int)
  | [], _ => by simp [stps]
  | x :: l, h => by
    simp only [List.all_cons, Bool.and_eq_true] at h
    have := stps_bd h.2
    have := seg_iff.1 h.1
    simp only [stps, List.length_cons]; omega
def goodSegs (l : List S64) : Bool := decide (1 ≤ l.length ∧ l.length ≤ 20) && (l.all seg && decide (stps l ≤ 2000))
theorem good_iff {l : List S64} : goodSegs l = true ↔ (1 ≤ l.length ∧ l.length ≤ 20) ∧ l.all seg = true ∧ stps l ≤ 2000 := by simp [goodSegs]
theorem stSteps_l0 (l : List S64) (hl : l.length ≤ 1048576) : ∀ (suf pre : List S64) (a : Int), l = pre ++ suf → suf.all seg = true → 0 ≤ a → a ≤ 500 * (pre.length : Int) →
    Ev (fun k => spec_stSteps.l0 k a l (l.length : Int) (pre.length : Int)) (a + stps suf) := by
  intro suf
  induction suf with
  | nil =>
    intro pre a h hs h0 ha
    refine Ev.step (fun k => spec_stSteps.l0.eq_2 ..) ?_
    simp only [rgEnd h, if_false]
    exact evNow (by simp [stps])
  | cons x suf ih =>
    intro pre a h hs h0 ha
    obtain ⟨h1, h2, h3, h4, h5⟩ := rgHead h (by omega) z64
    simp only [List.all_cons, Bool.and_eq_true] at hs
    have hx := seg_iff.1 hs.1
    have hpl : pre.length ≤ 1048576 := by omega
    refine Ev.step (fun k => spec_stSteps.l0.eq_2 ..) ?_
    simp only [h1, h2, h3, rd_T64, h4, if_true]
    rw [wrapi (by omega) (by omega)]
    exact evEq (ih _ _ h5 hs.2 (by omega) (by simp; omega)) (by simp only [stps]; omega)
theorem stSteps_ev {l : List S64} (hl : l.length ≤ 1048576) (hs : l.all seg = true) : Ev (fun k => spec_stSteps.f k l) (stps l) :=
  evEq (stSteps_l0 l hl l [] 0 rfl hs (by omega) (by simp)) (by simp)
theorem stSegment_eq (x : S64) : spec_stSegment.f x.f0 x.f1 = some (seg x) := by
  unfold spec_stSegment.f; simp only [in_eq, Option.bind_some, decide_eq_true_eq]
  split
  · exact someD (by omega)
  · exact someF (by omega)
theorem stGood_l0 (l : List S64) (hl : l.length ≤ 1048576) : ∀ (suf pre : List S64), l = pre ++ suf → pre.all seg = true →
    Ev (fun k => spec_stGood.l0 k l l (l.length : Int) (pre.length : Int)) (suf.all seg && decide (stps l ≤ 2000)) := by
  intro suf
  induction suf with
  | nil =>
    intro pre h hp
    refine Ev.step (fun k => spec_stGood.l0.eq_2 ..) ?_
    simp only [rgEnd h, if_false]
    refine Ev.bind (stSteps_ev hl (by rw [h]; simpa using hp)) (evNow (by simp))
  | cons x suf ih =>
    intro pre h hp
    obtain ⟨h1, h2, h3, h4, h5⟩ := rgHead h (by omega) z64
    refine Ev.step (fun k => spec_stGood.l0.eq_2 ..) ?_
    simp only [h1, h2, h3, rd_T64, h4, if_true, stSegment_eq, Option.bind_some]
    refine evBy (fun c => evEq (ih _ h5 (by simp at hp ⊢; exact ⟨hp, c⟩)) (by simp [c])) (fun c => evNow (by simp [c]))
theorem stGood_ev (l : List S64) : Ev (fun k => spec_stGood.f k l) (goodSegs l) := by
  unfold spec_stGood.f goodSegs
  simp only [in_eq, Option.bind_some, decide_eq_true_eq]
  refine evBy (fun c => evEq (stGood_l0 l (by omega) l [] rfl rfl) ?_) (fun c => evNow ?_)
  · rw [show decide (1 ≤ l.length ∧ l.length ≤ 20) = true from decide_eq_true (by omega)]; rfl
  · rw [show decide (1 ≤ l.length ∧ l.length ≤ 20) = false from decide_eq_false (by omega)]; rfl
theorem allSteps_l0 (l : List S64) (hl : l.length ≤ 1048576) : ∀ (suf pre : List S64) (a : Int), l = pre ++ suf → suf.all seg = true → 0 ≤ a → a ≤ 500 * (pre.length : Int) →
    Ev (fun k => impl_allSteps.l0 k a l (l.length : Int) (pre.length : Int)) (a + stps suf) := by
  intro suf
  induction suf with
  | nil =>
    intro pre a h hs h0 ha
    refine Ev.step (fun k => impl_allSteps.l0.eq_2 ..) ?_
    simp only [rgEnd h, if_false]
    exact evNow (by simp [stps])
  | cons x suf ih =>
    intro pre a h hs h0 ha
    obtain ⟨h1, h2, h3, h4, h5⟩ := rgHead h (by omega) z64
    simp only [List.all_cons, Bool.and_eq_true] at hs
    have hx := seg_iff.1 hs.1
    have hpl : pre.length ≤ 1048576 := by omega
    refine Ev.step (fun k => impl_allSteps.l0.eq_2 ..) ?_
    simp only [h1, h2, h3, rd_T64, h4, if_true]
    rw [wrapi (by omega) (by omega)]
    exact evEq (ih _ _ h5 hs.2 (by omega) (by simp; omega)) (by simp only [stps]; omega)
theorem allSteps_ev {l : List S64} (hl : l.length ≤ 1048576) (hs : l.all seg = true) : Ev (fun k => impl_allSteps.f k l) (stps l) :=
  evEq (allSteps_l0 l hl l [] 0 rfl hs (by omega) (by simp)) (by simp)
theorem areSegs_l0 (l : List S64) (hl : l.length ≤ 1048576) : ∀ (suf pre : List S64), l = pre ++ suf → pre.all seg = true →
    Ev (fun k => impl_AreSegments.l0 k l l (l.length : Int) (pre.length : Int)) (suf.all seg && decide (stps l ≤ 2000)) := by
  intro suf
  induction suf with
  | nil =>
    intro pre h hp
    refine Ev.step (fun k => impl_AreSegments.l0.eq_2 ..) ?_
    simp only [rgEnd h, if_false]
    refine Ev.bind (allSteps_ev hl (by rw [h]; simpa using hp)) (evNow (by simp))
  | cons x suf ih =>
    intro pre h hp
    obtain ⟨h1, h2, h3, h4, h5⟩ := rgHead h (by omega) z64
    refine Ev.step (fun k => impl_AreSegments.l0.eq_2 ..) ?_
    simp only [h1, h2, h3, rd_T64, h4, if_true]
    have bad : ¬ (1 ≤ x.f0 ∧ x.f0 ≤ 500 ∧ 900 ≤ x.f1 ∧ x.f1 ≤ 1100) → false = ((x :: suf).all seg && decide (stps l ≤ 2000)) := fun c => by
      have : seg x = false := decide_eq_false c
      simp [this]
    refine evBy (fun c => evNow (bad (by omega))) (fun c => evBy (fun c => evNow (bad (by omega))) (fun c => evBy (fun c => evNow (bad (by omega))) (fun c => evBy (fun c => evNow (bad (by omega))) (fun c => ?_))))
    have hx : seg x = true := seg_iff.2 (by omega)
    exact evEq (ih _ h5 (by simp at hp ⊢; exact ⟨hp, hx⟩)) (by simp [hx])
theorem areSegs_ev (l : List S64) : Ev (fun k => impl_AreSegments.f k l) (goodSegs l) := by
  unfold impl_AreSegments.f goodSegs
  refine evBy (fun c => ?_) (fun c => ?_)
  · refine Ev.step (fun k => impl_AreSegments.j0.eq_2 ..) (evPos rfl (evNow ?_))
    rw [show decide (1 ≤ l.length ∧ l.length ≤ 20) = false from decide_eq_false (by omega)]; rfl
  · refine Ev.step (fun k => impl_AreSegments.j0.eq_2 ..) ?_
    simp only [decide_eq_true_eq]
    refine evBy (fun c' => evNow ?_) (fun c' => evEq (areSegs_l0 l (by omega) l [] rfl rfl) ?_)
    · rw [show decide (1 ≤ l.length ∧ l.length ≤ 20) = false from decide_eq_false (by omega)]; rfl
    · rw [show decide (1 ≤ l.length ∧ l.length ≤ 20) = true from decide_eq_true (by omega)]; rfl
-- ** place
def plc : List S64 → Int → Int
  | [], _ => 0
  | x :: l, s => min x.f0 s * x.f1 + plc l (s - min x.f0 s)
theorem mulBd {n r : Int} (h0 : 0 ≤ n) (h1 : n ≤ 500) (h2 : 0 ≤ r) (h3 : r ≤ 1100) : 0 ≤ n * r ∧ n * r ≤ 550000 :=
  ⟨Int.mul_nonneg h0 h2, Int.le_trans (Int.mul_le_mul_of_nonneg_right h1 h2) (by omega)⟩
theorem plc_bd : ∀ {l : List S64} {s : Int}, l.all seg = true → 0 ≤ s → 0 ≤ plc l s ∧ plc l s ≤ 550000 * (l.length : Int)
  | [], _, _, _ => by simp [plc]
  | x :: l, s, h, hs => by
    simp only [List.all_cons, Bool.and_eq_true] at h
    have hx := seg_iff.1 h.1
    have := plc_bd (s := s - min x.f0 s) h.2 (by omega)
    have := mulBd (n := min x.f0 s) (r := x.f1) (by omega) (by omega) (by omega) (by omega)
    simp only [plc, List.length_cons]; omega
theorem plc_zero : ∀ {l : List S64}, l.all seg = true → plc l 0 = 0
  | [], _ => rfl
  | x :: l, h => by
    simp only [List.all_cons, Bool.and_eq_true] at h
    have hx := seg_iff.1 h.1
    simp only [plc, show min x.f0 0 = 0 by omega, Int.zero_mul, Int.sub_self, plc_zero h.2]; rfl
theorem l1Least_eq (a b : Int) : spec_l1Least.f a b = some (min a b) := by
  unfold spec_l1Least.f; split <;> (congr 1; omega)
theorem stPlace_l0 (l : List S64) (hl : l.length ≤ 1048576) : ∀ (suf pre : List S64) (s a : Int), l = pre ++ suf → suf.all seg = true → 0 ≤ s → s ≤ 1000000000 → 0 ≤ a → a ≤ 550000 * (pre.length : Int) →
    Ev (fun k => spec_stPlace.l0 k s a l (l.length : Int) (pre.length : Int)) (a + plc suf s) := by
  intro suf
  induction suf with
  | nil =>
    intro pre s a h hs h0 hb ha hc
    refine Ev.step (fun k => spec_stPlace.l0.eq_2 ..) ?_
    simp only [rgEnd h, if_false]
    exact evNow (by simp [plc])
  | cons x suf ih =>
    intro pre s a h hs h0 hb ha hc
    obtain ⟨h1, h2, h3, h4, h5⟩ := rgHead h (by omega) z64
    simp only [List.all_cons, Bool.and_eq_true] at hs
    have hx := seg_iff.1 hs.1
    have hpl : pre.length ≤ 1048576 := by omega
    have hm := mulBd (n := min x.f0 s) (r := x.f1) (by omega) (by omega) (by omega) (by omega)
    refine Ev.step (fun k => spec_stPlace.l0.eq_2 ..) ?_
    simp only [h1, h2, h3, rd_T64, h4, if_true, l1Least_eq, Option.bind_some]
    rw [show min s x.f0 = min x.f0 s by omega, wrapi (x := s - min x.f0 s) (by omega) (by omega), wrapi (x := min x.f0 s * x.f1) (by omega) (by omega), wrapi (x := a + min x.f0 s * x.f1) (by omega) (by omega)]
    exact evEq (ih _ _ _ h5 hs.2 (by omega) (by omega) (by omega) (by simp; omega)) (by simp only [plc]; omega)
theorem stPlace_ev {l : List S64} {s : Int} (hl : l.length ≤ 1048576) (h : l.all seg = true) (h0 : 0 ≤ s) (hb : s ≤ 1000000000) : Ev (fun k => spec_stPlace.f k l s) (plc l s) :=
  evEq (stPlace_l0 l hl l [] s 0 rfl h h0 hb (by omega) (by simp)) (by simp)
theorem placeOf_l0 (l : List S64) (hl : l.length ≤ 1048576) : ∀ (suf pre : List S64) (s a : Int), l = pre ++ suf → suf.all seg = true → 0 ≤ s → s ≤ 1000000000 → 0 ≤ a → a ≤ 550000 * (pre.length : Int) →
    Ev (fun k => impl_placeOf.l0 k s a l (l.length : Int) (pre.length : Int)) (a + plc suf s) := by
  intro suf
  induction suf with
  | nil =>
    intro pre s a h hs h0 hb ha hc
    refine Ev.step (fun k => impl_placeOf.l0.eq_2 ..) ?_
    simp only [rgEnd h, if_false]
    exact evNow (by simp [plc])
  | cons x suf ih =>
    intro pre s a h hs h0 hb ha hc
    obtain ⟨h1, h2, h3, h4, h5⟩ := rgHead h (by omega) z64
    simp only [List.all_cons, Bool.and_eq_true] at hs
    have hx := seg_iff.1 hs.1
    have hpl : pre.length ≤ 1048576 := by omega
    have hm := mulBd (n := min x.f0 s) (r := x.f1) (by omega) (by omega) (by omega) (by omega)
    refine Ev.step (fun k => impl_placeOf.l0.eq_2 ..) ?_
    simp only [h1, h2, h3, rd_T64, h4, if_true, mn_eq]
    rw [wrapi (x := s - min x.f0 s) (by omega) (by omega), wrapi (x := min x.f0 s * x.f1) (by omega) (by omega), wrapi (x := a + min x.f0 s * x.f1) (by omega) (by omega)]
    exact evEq (ih _ _ _ h5 hs.2 (by omega) (by omega) (by omega) (by simp; omega)) (by simp only [plc]; omega)
theorem placeOf_ev {l : List S64} {s : Int} (hl : l.length ≤ 1048576) (h : l.all seg = true) (h0 : 0 ≤ s) (hb : s ≤ 1000000000) : Ev (fun k => impl_placeOf.f k l s) (plc l s) :=
  evEq (placeOf_l0 l hl l [] s 0 rfl h h0 hb (by omega) (by simp)) (by simp)
-- ** errat
def err (l : List S64) (s : Int) : Int := plc l s - 1000 * s
theorem stError_ev {l : List S64} {s : Int} (hl : l.length ≤ 1048576) (h : l.all seg = true) (h0 : 0 ≤ s) (hb : s ≤ 1000000000) : Ev (fun k => spec_stError.f k l s) (err l s) := by
  have := plc_bd (s := s) h h0
  unfold spec_stError.f err
  refine Ev.bind (stPlace_ev hl h h0 hb) ?_
  rw [wrapi (x := 1000 * s) (by omega) (by omega), wrapi (by omega) (by omega)]
  exact Ev.now _
theorem errorAt_ev {l : List S64} {s : Int} (hl : l.length ≤ 1048576) (h : l.all seg = true) (h0 : 0 ≤ s) (hb : s ≤ 1000000000) : Ev (fun k => impl_errorAt.f k l s) (err l s) := by
  have := plc_bd (s := s) h h0
  unfold impl_errorAt.f err
  refine Ev.bind (placeOf_ev hl h h0 hb) ?_
  rw [wrapi (x := 1000 * s) (by omega) (by omega), wrapi (by omega) (by omega)]
  exact Ev.now _
-- ** ends
def endsFrom : Int → List S64 → List Int
  | _, [] => []
  | a, x :: l => (a + x.f0) :: endsFrom (a + x.f0) l
def ends (l : List S64) : List Int := 0 :: endsFrom 0 l
theorem endsFrom_length : ∀ (l : List S64) (a : Int), (endsFrom a l).length = l.length
  | [], _ => rfl
  | x :: l, a => by simp [endsFrom, endsFrom_length l]
theorem endsFrom_bd : ∀ {l : List S64} {a : Int}, l.all seg = true → ∀ s, s ∈ endsFrom a l → a ≤ s ∧ s ≤ a + stps l
  | [], _, _, s, hs => by simp [endsFrom] at hs
  | x :: l, a, h, s, hs => by
    simp only [List.all_cons, Bool.and_eq_true] at h
    have hx := seg_iff.1 h.1
    have hb := stps_bd h.2
    simp only [endsFrom, List.mem_cons] at hs
    simp only [stps]
    rcases hs with r | r
    · omega
    · have := endsFrom_bd h.2 s r
      omega
theorem ends_bd {l : List S64} (hg : goodSegs l = true) : ∀ s, s ∈ ends l → 0 ≤ s ∧ s ≤ 2000 := by
  have h := good_iff.1 hg
  have hb := stps_bd h.2.1
  intro s hs
  simp only [ends, List.mem_cons] at hs
  rcases hs with r | r
  · omega
  · have := endsFrom_bd h.2.1 s r
    omega
theorem ends_length (l : List S64) : (ends l).length = l.length + 1 := by simp [ends, endsFrom_length]
theorem err_zero {l : List S64} (h : l.all seg = true) : err l 0 = 0 := by simp [err, plc_zero h]
theorem err_bd {l : List S64} (hg : goodSegs l = true) {s : Int} (h0 : 0 ≤ s) (h1 : s ≤ 2000) : -100000000 ≤ err l s ∧ err l s ≤ 100000000 := by
  have h := good_iff.1 hg
  have := plc_bd (s := s) h.2.1 h0
  unfold err; omega
theorem stEnds_l0 (l : List S64) (hl : l.length ≤ 1048576) : ∀ (suf pre : List S64) (acc : List Int) (a : Int), l = pre ++ suf → suf.all seg = true → acc.length = pre.length → 0 ≤ a → a ≤ 500 * (pre.length : Int) →
    Ev (fun k => spec_stEnds.l0 k (acc ++ [a]) l (l.length : Int) (pre.length : Int)) (acc ++ [a] ++ endsFrom a suf) := by
  intro suf
  induction suf with
  | nil =>
    intro pre acc a h hs hc h0 ha
    refine Ev.step (fun k => spec_stEnds.l0.eq_2 ..) ?_
    simp only [rgEnd h, if_false]
    exact evNow (by simp [endsFrom])
  | cons x suf ih =>
    intro pre acc a h hs hc h0 ha
    obtain ⟨h1, h2, h3, h4, h5⟩ := rgHead h (by omega) z64
    simp only [List.all_cons, Bool.and_eq_true] at hs
    have hx := seg_iff.1 hs.1
    have hpl : pre.length ≤ 1048576 := by omega
    refine Ev.step (fun k => spec_stEnds.l0.eq_2 ..) ?_
    have e : wrap64 (((acc ++ [a]).length : Int) - 1) = (acc.length : Int) := by simp; rw [wrapi (by omega) (by omega)]
    have e2 : rd (acc ++ [a]) (acc.length : Int) = a := by simp [rd]
    simp only [h1, h2, h3, rd_T64, h4, if_true, e, e2]
    rw [wrapi (x := a + x.f0) (by omega) (by omega)]
    refine evPos (by omega) (evPos (by simp; omega) (evPos (by simp; omega) ?_))
    refine evEq (ih (pre ++ [x]) (acc ++ [a]) (a + x.f0) h5 hs.2 (by simp [hc]) (by omega) (by simp; omega)) ?_
    simp [endsFrom]
theorem stEnds_ev {l : List S64} (hl : l.length ≤ 1048576) (hs : l.all seg = true) : Ev (fun k => spec_stEnds.f k l) (ends l) :=
  evEq (stEnds_l0 l hl l [] [] 0 rfl hs rfl (by omega) (by simp)) (by simp [ends])
theorem errorsOf_l0 (l : List S64) (hg : goodSegs l = true) : ∀ (suf pre : List S64) (er st : List Int) (a : Int), l = pre ++ suf → suf.all seg = true → er.length ≤ pre.length + 1 → st.length ≤ pre.length + 1 → 0 ≤ a → a ≤ 500 * (pre.length : Int) →
    Ev (fun k => impl_errorsOf.l0 k l er st a l (l.length : Int) (pre.length : Int)) (er ++ (endsFrom a suf).map (err l), st ++ endsFrom a suf) := by
  have hgg := good_iff.1 hg
  intro suf
  induction suf with
  | nil =>
    intro pre er st a h hs he ht h0 ha
    refine Ev.step (fun k => impl_errorsOf.l0.eq_2 ..) ?_
    simp only [rgEnd h, if_false]
    exact evNow (by simp [endsFrom])
  | cons x suf ih =>
    intro pre er st a h hs he ht h0 ha
    obtain ⟨h1, h2, h3, h4, h5⟩ := rgHead h (by omega) z64
    simp only [List.all_cons, Bool.and_eq_true] at hs
    have hx := seg_iff.1 hs.1
    have hpl : pre.length ≤ 20 := by omega
    refine Ev.step (fun k => impl_errorsOf.l0.eq_2 ..) ?_
    simp only [h1, h2, h3, rd_T64, h4, if_true]
    rw [wrapi (x := a + x.f0) (by omega) (by omega)]
    refine Ev.bind (errorAt_ev (by omega) hgg.2.1 (show 0 ≤ a + x.f0 by omega) (by omega)) (evPos (by omega) (evPos (by omega) ?_))
    refine evEq (ih (pre ++ [x]) (er ++ [err l (a + x.f0)]) (st ++ [a + x.f0]) (a + x.f0) h5 hs.2 (by simp; omega) (by simp; omega) (by omega) (by simp; omega)) ?_
    simp [endsFrom]
theorem errorsOf_ev {l : List S64} (hg : goodSegs l = true) : Ev (fun k => impl_errorsOf.f k l) ((ends l).map (err l), ends l) := by
  have h := good_iff.1 hg
  exact evEq (errorsOf_l0 l hg l [] [0] [0] 0 rfl h.2.1 (by simp) (by simp) (by omega) (by simp)) (by simp [ends, err_zero h.2.1])
-- ** most
theorem l1Most_eq (a b : Int) : spec_l1Most.f a b = some (max a b) := by
  unfold spec_l1Most.f; split <;> (congr 1; omega)
-- ** abs
theorem l1Abs_eq {o : Int} (h : -1000000000 ≤ o ∧ o ≤ 1000000000) : spec_l1Abs.f o = some (o.natAbs : Int) := by
  unfold spec_l1Abs.f
  rw [wrapi (by omega) (by omega), l1Most_eq]
  simp only [Option.bind_some]; congr 1; omega
-- ** BestOffset_
def lohi (l : List S64) : Int → Int → List Int → Int × Int
  | lo, hi, [] => (lo, hi)
  | lo, hi, s :: r => lohi l (min lo (err l s)) (max hi (err l s)) r
def bestOf (lo hi : Int) : Int × Int × Bool := ((-lo - hi) / 2, max (hi + (-lo - hi) / 2) (-lo - (-lo - hi) / 2), true)
def bestRes (l : List S64) : Int × Int × Bool := if goodSegs l = true then bestOf (lohi l 0 0 (ends l)).1 (lohi l 0 0 (ends l)).2 else (0, 0, false)
theorem bestSpec_end {lo hi : Int} (h0 : -100000000 ≤ lo) (h1 : lo ≤ 0) (h2 : 0 ≤ hi) (h3 : hi ≤ 100000000) :
    Ev (fun k => if wrap64 (lo + hi) > 0 then spec_BestOffset.j1 k lo hi (wrap64 (Int.tdiv (wrap64 (-(wrap64 (lo + hi)))) 2)) ((Int.tmod (wrap64 (lo + hi)) 2) == 1) else spec_BestOffset.j1 k lo hi (wrap64 (Int.tdiv (wrap64 (-(wrap64 (lo + hi)))) 2)) false) (bestOf lo hi) := by
  rw [wrapi (x := lo + hi) (by omega) (by omega), wrapi (x := -(lo + hi)) (by omega) (by omega)]
  have ht : Int.tdiv (-(lo + hi)) 2 = if lo + hi > 0 then -((lo + hi) / 2) else (-(lo + hi)) / 2 := by
    split
    · rw [Int.neg_tdiv, Int.tdiv_eq_ediv_of_nonneg (by omega)]
    · rw [Int.tdiv_eq_ediv_of_nonneg (by omega)]
  rw [ht]
  by_cases c : lo + hi > 0
  · rw [if_pos c]
    refine evPos c ?_
    rw [wrapi (x := -((lo + hi) / 2)) (by omega) (by omega), Int.tmod_eq_emod_of_nonneg (by omega)]
    refine Ev.step (fun k => spec_BestOffset.j1.eq_2 ..) ?_
    by_cases o : (lo + hi) % 2 = 1
    · refine evPos (by simp [o]) ?_
      rw [wrapi (x := -((lo + hi) / 2) - 1) (by omega) (by omega), wrapi (x := lo + (-((lo + hi) / 2) - 1)) (by omega) (by omega), wrapi (x := hi + (-((lo + hi) / 2) - 1)) (by omega) (by omega),
        l1Abs_eq (by omega), l1Abs_eq (by omega)]
      simp only [Option.bind_some, l1Most_eq]
      refine evNow ?_
      unfold bestOf
      have e : -((lo + hi) / 2) - 1 = (-lo - hi) / 2 := by omega
      rw [e]
      simp only [Prod.mk.injEq, and_true, true_and]; omega
    · refine evNeg (by simp [o]) ?_
      rw [wrapi (x := lo + -((lo + hi) / 2)) (by omega) (by omega), wrapi (x := hi + -((lo + hi) / 2)) (by omega) (by omega), l1Abs_eq (by omega), l1Abs_eq (by omega)]
      simp only [Option.bind_some, l1Most_eq]
      refine evNow ?_
      unfold bestOf
      have e : -((lo + hi) / 2) = (-lo - hi) / 2 := by omega
      rw [e]
      simp only [Prod.mk.injEq, and_true, true_and]; omega
  · rw [if_neg c]
    refine evNeg c ?_
    rw [wrapi (x := (-(lo + hi)) / 2) (by omega) (by omega)]
    refine Ev.step (fun k => spec_BestOffset.j1.eq_2 ..) (evNeg (by simp) ?_)
    rw [wrapi (x := lo + (-(lo + hi)) / 2) (by omega) (by omega), wrapi (x := hi + (-(lo + hi)) / 2) (by omega) (by omega), l1Abs_eq (by omega), l1Abs_eq (by omega)]
    simp only [Option.bind_some, l1Most_eq]
    refine evNow ?_
    unfold bestOf
    have e : (-(lo + hi)) / 2 = (-lo - hi) / 2 := by omega
    rw [e]
    simp only [Prod.mk.injEq, and_true, true_and]; omega
theorem bestSpec_l0 {l : List S64} (hg : goodSegs l = true) (E : List Int) (hE : ∀ s, s ∈ E → 0 ≤ s ∧ s ≤ 2000) (hl : E.length ≤ 1048576) : ∀ (suf pre : List Int) (lo hi : Int), E = pre ++ suf → -100000000 ≤ lo → lo ≤ 0 → 0 ≤ hi → hi ≤ 100000000 →
    Ev (fun k => spec_BestOffset.l0 k l lo hi E (E.length : Int) (pre.length : Int)) (bestOf (lohi l lo hi suf).1 (lohi l lo hi suf).2) := by
  have h := good_iff.1 hg
  intro suf
  induction suf with
  | nil =>
    intro pre lo hi he h0 h1 h2 h3
    refine Ev.step (fun k => spec_BestOffset.l0.eq_2 ..) ?_
    simp only [rgEnd he, if_false]
    exact bestSpec_end h0 h1 h2 h3
  | cons s suf ih =>
    intro pre lo hi he k0 k1 k2 k3
    obtain ⟨h1, h2, h3, h4, h5⟩ := rgHead he (by omega) 0
    have hs := hE s (by rw [he]; simp)
    have hb := err_bd hg hs.1 hs.2
    refine Ev.step (fun k => spec_BestOffset.l0.eq_2 ..) ?_
    simp only [h1, h2, h3, rd, h4, if_true]
    refine Ev.bind (stError_ev (by omega) h.2.1 hs.1 (by omega)) ?_
    simp only [l1Least_eq, Option.bind_some]
    refine Ev.bind (stError_ev (by omega) h.2.1 hs.1 (by omega)) ?_
    simp only [l1Most_eq, Option.bind_some, lohi]
    exact ih _ _ _ h5 (by omega) (by omega) (by omega) (by omega)
theorem specBest_ev (l : List S64) : Ev (fun k => spec_BestOffset.f k l) (bestRes l) := by
  unfold spec_BestOffset.f bestRes
  refine Ev.bind (stGood_ev l) (evIte (fun c => ?_) (fun c => Ev.now _))
  have h := good_iff.1 c
  exact Ev.bind (stEnds_ev (by omega) h.2.1) (bestSpec_l0 c (ends l) (ends_bd c) (by rw [ends_length]; omega) (ends l) [] 0 0 rfl (by omega) (by omega) (by omega) (by omega))
theorem floorDiv2_eq {a : Int} (h0 : -1000000000 ≤ a) (h1 : a ≤ 1000000000) : impl_floorDiv.f a 2 = some (a / 2) := by
  unfold impl_floorDiv.f
  rw [if_neg (by omega)]
  by_cases c : 0 ≤ a
  · rw [Int.tmod_eq_emod_of_nonneg c, Int.tdiv_eq_ediv_of_nonneg c, wrapi (x := a / 2) (by omega) (by omega)]
    have : (decide (a < 0) != decide ((2 : Int) < 0)) = false := by rw [decide_eq_false (by omega)]; rfl
    rw [this]
    split <;> rfl
  · obtain ⟨b, rfl⟩ : ∃ b, a = -b := ⟨-a, by omega⟩
    rw [Int.neg_tmod, Int.neg_tdiv, Int.tmod_eq_emod_of_nonneg (by omega), Int.tdiv_eq_ediv_of_nonneg (by omega), wrapi (x := -(b / 2)) (by omega) (by omega), wrapi (x := -(b / 2) - 1) (by omega) (by omega)]
    have : (decide (-b < 0) != decide ((2 : Int) < 0)) = true := by rw [decide_eq_true (show -b < 0 by omega)]; rfl
    rw [this]
    split
    · congr 1; omega
    · rw [if_pos rfl]; congr 1; omega
theorem bestImpl_l0 {l : List S64} (hg : goodSegs l = true) (E : List Int) (hE : ∀ s, s ∈ E → 0 ≤ s ∧ s ≤ 2000) (hl : E.length ≤ 1048576) : ∀ (suf pre : List Int) (lo hi : Int), E = pre ++ suf → -100000000 ≤ lo → lo ≤ 0 → 0 ≤ hi → hi ≤ 100000000 →
    Ev (fun k => impl_BestOffset.l0 k lo hi (E.map (err l)) (E.length : Int) (pre.length : Int)) (bestOf (lohi l lo hi suf).1 (lohi l lo hi suf).2) := by
  intro suf
  induction suf with
  | nil =>
    intro pre lo hi he h0 h1 h2 h3
    refine Ev.step (fun k => impl_BestOffset.l0.eq_2 ..) ?_
    simp only [rgEnd he, if_false]
    rw [wrapi (x := -lo) (by omega) (by omega), wrapi (x := -lo - hi) (by omega) (by omega), floorDiv2_eq (by omega) (by omega)]
    simp only [Option.bind_some, mx_eq, lohi]
    rw [wrapi (x := hi + (-lo - hi) / 2) (by omega) (by omega), wrapi (x := -lo - (-lo - hi) / 2) (by omega) (by omega)]
    exact Ev.now _
  | cons s suf ih =>
    intro pre lo hi he k0 k1 k2 k3
    obtain ⟨h1, h2, h3, h4, h5⟩ := rgHead he (by omega) 0
    have hs := hE s (by rw [he]; simp)
    have hb := err_bd hg hs.1 hs.2
    have hget : E[pre.length]? = some s := by rw [he]; simp
    have e1 : rd (E.map (err l)) (pre.length : Int) = err l s := by simp [rd, hget]
    refine Ev.step (fun k => impl_BestOffset.l0.eq_2 ..) ?_
    simp only [h1, h2, h3, e1, List.length_map, if_true, mn_eq, mx_eq, lohi]
    exact ih _ _ _ h5 (by omega) (by omega) (by omega) (by omega)
theorem implBest_ev (l : List S64) : Ev (fun k => impl_BestOffset.f k l) (bestRes l) := by
  unfold impl_BestOffset.f bestRes
  refine Ev.bind (areSegs_ev l) (evIte (fun c => ?_) (fun c => Ev.now _))
  have h := good_iff.1 c
  refine Ev.bind (errorsOf_ev c) ?_
  simp only [List.length_map]
  exact bestImpl_l0 c (ends l) (ends_bd c) (by rw [ends_length]; omega) (ends l) [] 0 0 rfl (by omega) (by omega) (by omega) (by omega)
-- ** FnExactBestOffset
theorem FnExactBestOffset (l0 : List S66) (w0 : Opn.Lst (fun x : S66 => Opn.I64 x.f0 ∧ Opn.I64 x.f1) l0) : ∃ k, laws_FnExactBestOffset.f k l0  = some true := by
  refine Ev.rounds (g := fun k => laws_FnExactBestOffset.f k l0 ) ?_
  unfold laws_FnExactBestOffset.f
  rw [szSeg_eq l0 w0.1]
  simp only [Option.bind_some]
  by_cases c : l0.length ≤ 1048576
  · rw [if_pos c]
    refine evNeg (by omega) (Ev.bind (toSeg_ev l0 c) (Ev.bind (specBest_ev (l0.map cvSeg) ) (Ev.bind (toSeg_ev l0 c) (Ev.bind (implBest_ev (l0.map cvSeg) ) ?_))))
    simp only [bne_self_eq_false, if_true]
    exact Ev.step (fun k => laws_FnExactBestOffset.j0.eq_2 ..) (evNeg (by simp) (Ev.bind (toSeg_ev l0 c) (Ev.bind (eqSeg_ev _ (by simp; omega)) (evPos rfl (Ev.now _)))))
  · rw [if_neg c]
    exact evPos (by omega) (Ev.now _)
end Go.Proofs.Ytibohlcmkocnoaa.Pure
