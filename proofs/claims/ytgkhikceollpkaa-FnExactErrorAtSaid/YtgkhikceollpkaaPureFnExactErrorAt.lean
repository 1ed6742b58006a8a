/- The program's ErrorAt returns what the reference's returns, for all arguments.: the plain part: what the program computes and what the reference computes agree, for all arguments. No conditions beyond the arguments' own kinds. -/
import Derived.Test.YtgkhikceollpkaaPFnExactErrorAtx0
import Derived.Test.YtgkhikceollpkaaPFnExactErrorAtx1
import Derived.Test.YtgkhikceollpkaaPFnExactErrorAtx2
import Derived.Test.YtgkhikceollpkaaPFnExactErrorAtx3
import Derived.Test.YtgkhikceollpkaaOpn
namespace Go.Proofs.Ytgkhikceollpkaa.Pure
open Go.RowKit Go.Proofs.Ytgkhikceollpkaa.PFnExactErrorAt Go.Proofs.YtgkhikceollpkaaW.PrintWords Go.Proofs.YtgkhikceollpkaaW.PrintLast Go.Proofs.YtgkhikceollpkaaW.PrintMore
-- ** base
theorem wrapi {x : Int} (h0 : -9223372036854775808 ≤ x) (h1 : x ≤ 9223372036854775807) : wrap64 x = x := by unfold wrap64; omega
theorem evPos {α : Type} {c : Prop} [Decidable c] {g f : Nat → Option α} {r : α} (h : c) (e : Ev g r) : Ev (fun k => if c then g k else f k) r := by
  simp only [if_pos h]; exact e
theorem evNeg {α : Type} {c : Prop} [Decidable c] {g f : Nat → Option α} {r : α} (h : ¬ c) (e : Ev f r) : Ev (fun k => if c then g k else f k) r := by
  simp only [if_neg h]; exact e
theorem evC {α β : Type} {o : Option α} {f : Nat → α → Option β} {a : α} {r : β} (h : o = some a) (e : Ev (fun n => f n a) r) : Ev (fun n => o.bind (f n)) r := by
  subst h; exact e
theorem evOf {α : Type} {o : Option α} {r : α} (h : o = some r) : Ev (fun _ => o) r := by subst h; exact Ev.now r
theorem evNow {α : Type} {r q : α} (h : r = q) : Ev (fun _ => some r) q := by subst h; exact Ev.now r
theorem evEq {α : Type} {g : Nat → Option α} {r q : α} (h : Ev g r) (e : r = q) : Ev g q := e ▸ h
theorem evIte {α : Type} {c : Prop} [Decidable c] {g f : Nat → Option α} {r q : α} (h : c → Ev g r) (h' : ¬ c → Ev f q) : Ev (fun k => if c then g k else f k) (if c then r else q) := by
  by_cases hc : c
  · simp only [if_pos hc]; exact h hc
  · simp only [if_neg hc]; exact h' hc
theorem evBy {α : Type} {c : Prop} [Decidable c] {g f : Nat → Option α} {r : α} (h : c → Ev g r) (h' : ¬ c → Ev f r) : Ev (fun k => if c then g k else f k) r := by
  by_cases hc : c
  · simp only [if_pos hc]; exact h hc
  · simp only [if_neg hc]; exact h' hc
theorem someT {p : Prop} [Decidable p] (h : p) : some true = some (decide p) := by rw [decide_eq_true h]
theorem someF {p : Prop} [Decidable p] (h : ¬ p) : some false = some (decide p) := by rw [decide_eq_false h]
theorem someD {p q : Prop} [Decidable p] [Decidable q] (h : p ↔ q) : some (decide p) = some (decide q) := by rw [decide_eq_decide.mpr h]
theorem decT {p : Prop} [Decidable p] (h : p) : true = decide p := by rw [decide_eq_true h]
theorem decF {p : Prop} [Decidable p] (h : ¬ p) : false = decide p := by rw [decide_eq_false h]
theorem decD {p q : Prop} [Decidable p] [Decidable q] (h : p ↔ q) : decide p = decide q := decide_eq_decide.mpr h
theorem allBad {α : Type} {p : α → Bool} {x : α} {suf : List α} {q : Bool} (h : p x = false) : false = ((x :: suf).all p && q) := by simp [h]
theorem allGood {α : Type} {p : α → Bool} {x : α} {suf : List α} {q : Bool} (h : p x = true) : (suf.all p && q) = ((x :: suf).all p && q) := by simp [h]
theorem rgEnd {α : Type} {l pre : List α} (h : l = pre ++ []) : ¬ ((pre.length : Int) < (l.length : Int)) := by subst h; simp
theorem rgHead {α : Type} {l pre suf : List α} {x : α} (h : l = pre ++ x :: suf) (hl : l.length ≤ 4611686018427387904) (z : α) :
    (pre.length : Int) < (l.length : Int) ∧ (0 : Int) ≤ (pre.length : Int) ∧ wrap64 ((pre.length : Int) + 1) = ((pre ++ [x]).length : Int) ∧ l.getD (pre.length : Int).toNat z = x ∧ l = (pre ++ [x]) ++ suf := by
  subst h
  simp at hl
  refine ⟨by simp; omega, by omega, ?_, by simp, by simp⟩
  rw [wrapi (by omega) (by omega)]; simp
theorem in_eq (a b c : Int) : spec_l1In.f a b c = some (decide (b ≤ a ∧ a ≤ c)) := by
  unfold spec_l1In.f
  split
  · exact someD (by omega)
  · exact someF (by omega)
theorem mx_eq (a b : Int) : mx a b = max a b := by unfold mx; omega
theorem mn_eq (a b : Int) : mn a b = min a b := by unfold mn; omega
-- ** lists
theorem setAt {α : Type} (A B : List α) (z v : α) (n : Nat) (h : n = A.length) : (A ++ z :: B).set n v = A ++ v :: B := by subst h; simp
theorem getAt {α : Type} (A B : List α) (z v : α) (n : Nat) (h : n = A.length) : (A ++ v :: B).getD n z = v := by subst h; simp
-- ** seglaw
def cvSeg (x : S73) : S71 := ⟨x.f0, x.f1⟩
theorem szSeg_eq (l : List S73) (h : l.length ≤ 9223372036854775807) : laws_szSegmentS.f l 1048576 = some (if l.length ≤ 1048576 then 1048576 - (l.length : Int) else -1) := by
  unfold laws_szSegmentS.f
  rw [wrapi (by omega) (by omega)]
  by_cases c : l.length ≤ 1048576
  · rw [if_neg (by omega), if_pos c]
  · rw [if_pos (by omega), if_neg c]
theorem toSeg_l0 (l : List S73) (hl : l.length ≤ 1048576) : ∀ (suf pre : List S73), l = pre ++ suf →
    Ev (fun k => laws_toSegmentS.l0 k l (pre.map cvSeg ++ List.replicate suf.length z71) (pre.length : Int)) (l.map cvSeg) := by
  intro suf
  induction suf with
  | nil =>
    intro pre h
    refine Ev.step (fun k => laws_toSegmentS.l0.eq_2 ..) ?_
    simp only [rgEnd h, if_false]
    exact evNow (by subst h; simp)
  | cons x suf ih =>
    intro pre h
    obtain ⟨h1, h2, h3, h4, h5⟩ := rgHead h (by omega) z73
    refine Ev.step (fun k => laws_toSegmentS.l0.eq_2 ..) ?_
    simp only [h1, h2, h3, rd_T73, h4, if_true, laws_toSegment.f, Option.bind_some]
    refine evPos (by simp; omega) ?_
    have e : (pre.map cvSeg ++ List.replicate (x :: suf).length z71).set (pre.length : Int).toNat ⟨x.f0, x.f1⟩ = (pre ++ [x]).map cvSeg ++ List.replicate suf.length z71 := by
      rw [List.length_cons, List.replicate_succ, setAt _ _ _ _ _ (by simp)]
      simp [cvSeg]
    rw [e]
    exact ih _ h5
theorem toSeg_ev (l : List S73) (hl : l.length ≤ 1048576) : Ev (fun k => laws_toSegmentS.f k l) (l.map cvSeg) := by
  unfold laws_toSegmentS.f
  refine evPos (by omega) (evPos (by omega) ?_)
  have := toSeg_l0 l hl l [] rfl
  simpa using this
theorem eqSeg_l0 (l : List S71) (hl : l.length ≤ 4611686018427387904) : ∀ (suf pre : List S71), l = pre ++ suf → Ev (fun k => laws_eqSegmentS.l0 k l l (pre.length : Int)) true := by
  intro suf
  induction suf with
  | nil =>
    intro pre h
    refine Ev.step (fun k => laws_eqSegmentS.l0.eq_2 ..) ?_
    simp only [rgEnd h, if_false]
    exact Ev.now _
  | cons x suf ih =>
    intro pre h
    obtain ⟨h1, h2, h3, h4, h5⟩ := rgHead h hl z71
    refine Ev.step (fun k => laws_eqSegmentS.l0.eq_2 ..) ?_
    simp only [h1, h2, h3, if_true, laws_eqSegment.f, Option.bind_some]
    exact ih _ h5
theorem eqSeg_ev (l : List S71) (hl : l.length ≤ 4611686018427387904) : Ev (fun k => laws_eqSegmentS.f k l l) true := by
  unfold laws_eqSegmentS.f
  exact evPos rfl (eqSeg_l0 l hl l [] rfl)
-- ** seggood
def seg (x : S71) : Bool := decide (1 ≤ x.f0 ∧ x.f0 ≤ 500 ∧ 900 ≤ x.f1 ∧ x.f1 ≤ 1100)
theorem seg_iff {x : S71} : seg x = true ↔ 1 ≤ x.f0 ∧ x.f0 ≤ 500 ∧ 900 ≤ x.f1 ∧ x.f1 ≤ 1100 := by simp [seg]
def stps : List S71 → Int
  | [] => 0
  | x :: l => x.f0 + stps l
theorem stps_bd : ∀ {l : List S71}, l.all seg = true → (l.length : Int) ≤ stps l ∧ stps l ≤ 500 * (l.length : Int)
  | [], _ => by simp [stps]
  | x :: l, h => by
    simp only [List.all_cons, Bool.and_eq_true] at h
    have := stps_bd h.2
    have := seg_iff.1 h.1
    simp only [stps, List.length_cons]; omega
def goodSegs (l : List S71) : Bool := decide (1 ≤ l.length ∧ l.length ≤ 20) && (l.all seg && decide (stps l ≤ 2000))
theorem good_iff {l : List S71} : goodSegs l = true ↔ (1 ≤ l.length ∧ l.length ≤ 20) ∧ l.all seg = true ∧ stps l ≤ 2000 := by simp [goodSegs]
theorem stSteps_l0 (l : List S71) (hl : l.length ≤ 1048576) : ∀ (suf pre : List S71) (a : Int), l = pre ++ suf → suf.all seg = true → 0 ≤ a → a ≤ 500 * (pre.length : Int) →
    Ev (fun k => spec_stSteps.l0 k a l (l.length : Int) (pre.length : Int)) (a + stps suf) := by
  intro suf
  induction suf with
  | nil =>
    intro pre a h hs h0 ha
    refine Ev.step (fun k => spec_stSteps.l0.eq_2 ..) ?_
    simp only [rgEnd h, if_false]
    exact evNow (by simp [stps])
  | cons x suf ih =>
    intro pre a h hs h0 ha
    obtain ⟨h1, h2, h3, h4, h5⟩ := rgHead h (by omega) z71
    simp only [List.all_cons, Bool.and_eq_true] at hs
    have hx := seg_iff.1 hs.1
    have hpl : pre.length ≤ 1048576 := by omega
    refine Ev.step (fun k => spec_stSteps.l0.eq_2 ..) ?_
    simp only [h1, h2, h3, rd_T71, h4, if_true]
    rw [wrapi (by omega) (by omega)]
    exact evEq (ih _ _ h5 hs.2 (by omega) (by simp; omega)) (by simp only [stps]; omega)
theorem stSteps_ev {l : List S71} (hl : l.length ≤ 1048576) (hs : l.all seg = true) : Ev (fun k => spec_stSteps.f k l) (stps l) :=
  evEq (stSteps_l0 l hl l [] 0 rfl hs (by omega) (by simp)) (by simp)
theorem stSegment_eq (x : S71) : spec_stSegment.f x.f0 x.f1 = some (seg x) := by
  unfold spec_stSegment.f; simp only [in_eq, Option.bind_some, decide_eq_true_eq]
  split
  · exact someD (by omega)
  · exact someF (by omega)
theorem stGood_l0 (l : List S71) (hl : l.length ≤ 1048576) : ∀ (suf pre : List S71), l = pre ++ suf → pre.all seg = true →
    Ev (fun k => spec_stGood.l0 k l l (l.length : Int) (pre.length : Int)) (suf.all seg && decide (stps l ≤ 2000)) := by
  intro suf
  induction suf with
  | nil =>
    intro pre h hp
    refine Ev.step (fun k => spec_stGood.l0.eq_2 ..) ?_
    simp only [rgEnd h, if_false]
    refine Ev.bind (stSteps_ev hl (by rw [h]; simpa using hp)) (evNow (by simp))
  | cons x suf ih =>
    intro pre h hp
    obtain ⟨h1, h2, h3, h4, h5⟩ := rgHead h (by omega) z71
    refine Ev.step (fun k => spec_stGood.l0.eq_2 ..) ?_
    simp only [h1, h2, h3, rd_T71, h4, if_true, stSegment_eq, Option.bind_some]
    refine evBy (fun c => evEq (ih _ h5 (by simp at hp ⊢; exact ⟨hp, c⟩)) (by simp [c])) (fun c => evNow (by simp [c]))
theorem stGood_ev (l : List S71) : Ev (fun k => spec_stGood.f k l) (goodSegs l) := by
  unfold spec_stGood.f goodSegs
  simp only [in_eq, Option.bind_some, decide_eq_true_eq]
  refine evBy (fun c => evEq (stGood_l0 l (by omega) l [] rfl rfl) ?_) (fun c => evNow ?_)
  · rw [show decide (1 ≤ l.length ∧ l.length ≤ 20) = true from decide_eq_true (by omega)]; rfl
  · rw [show decide (1 ≤ l.length ∧ l.length ≤ 20) = false from decide_eq_false (by omega)]; rfl
theorem allSteps_l0 (l : List S71) (hl : l.length ≤ 1048576) : ∀ (suf pre : List S71) (a : Int), l = pre ++ suf → suf.all seg = true → 0 ≤ a → a ≤ 500 * (pre.length : Int) →
    Ev (fun k => impl_allSteps.l0 k a l (l.length : Int) (pre.length : Int)) (a + stps suf) := by
  intro suf
  induction suf with
  | nil =>
    intro pre a h hs h0 ha
    refine Ev.step (fun k => impl_allSteps.l0.eq_2 ..) ?_
    simp only [rgEnd h, if_false]
    exact evNow (by simp [stps])
  | cons x suf ih =>
    intro pre a h hs h0 ha
    obtain ⟨h1, h2, h3, h4, h5⟩ := rgHead h (by omega) z71
    simp only [List.all_cons, Bool.and_eq_true] at hs
    have hx := seg_iff.1 hs.1
    have hpl : pre.length ≤ 1048576 := by omega
    refine Ev.step (fun k => impl_allSteps.l0.eq_2 ..) ?_
    simp only [h1, h2, h3, rd_T71, h4, if_true]
    rw [wrapi (by omega) (by omega)]
    exact evEq (ih _ _ h5 hs.2 (by omega) (by simp; omega)) (by simp only [stps]; omega)
theorem allSteps_ev {l : List S71} (hl : l.length ≤ 1048576) (hs : l.all seg = true) : Ev (fun k => impl_allSteps.f k l) (stps l) :=
  evEq (allSteps_l0 l hl l [] 0 rfl hs (by omega) (by simp)) (by simp)
theorem areSegs_l0 (l : List S71) (hl : l.length ≤ 1048576) : ∀ (suf pre : List S71), l = pre ++ suf → pre.all seg = true →
    Ev (fun k => impl_AreSegments.l0 k l l (l.length : Int) (pre.length : Int)) (suf.all seg && decide (stps l ≤ 2000)) := by
  intro suf
  induction suf with
  | nil =>
    intro pre h hp
    refine Ev.step (fun k => impl_AreSegments.l0.eq_2 ..) ?_
    simp only [rgEnd h, if_false]
    refine Ev.bind (allSteps_ev hl (by rw [h]; simpa using hp)) (evNow (by simp))
  | cons x suf ih =>
    intro pre h hp
    obtain ⟨h1, h2, h3, h4, h5⟩ := rgHead h (by omega) z71
    refine Ev.step (fun k => impl_AreSegments.l0.eq_2 ..) ?_
    simp only [h1, h2, h3, rd_T71, h4, if_true]
    have bad : ¬ (1 ≤ x.f0 ∧ x.f0 ≤ 500 ∧ 900 ≤ x.f1 ∧ x.f1 ≤ 1100) → false = ((x :: suf).all seg && decide (stps l ≤ 2000)) := fun c => by
      have : seg x = false := decide_eq_false c
      simp [this]
    refine evBy (fun c => evNow (bad (by omega))) (fun c => evBy (fun c => evNow (bad (by omega))) (fun c => evBy (fun c => evNow (bad (by omega))) (fun c => evBy (fun c => evNow (bad (by omega))) (fun c => ?_))))
    have hx : seg x = true := seg_iff.2 (by omega)
    exact evEq (ih _ h5 (by simp at hp ⊢; exact ⟨hp, hx⟩)) (by simp [hx])
theorem areSegs_ev (l : List S71) : Ev (fun k => impl_AreSegments.f k l) (goodSegs l) := by
  unfold impl_AreSegments.f goodSegs
  refine evBy (fun c => ?_) (fun c => ?_)
  · refine Ev.step (fun k => impl_AreSegments.j0.eq_2 ..) (evPos rfl (evNow ?_))
    rw [show decide (1 ≤ l.length ∧ l.length ≤ 20) = false from decide_eq_false (by omega)]; rfl
  · refine Ev.step (fun k => impl_AreSegments.j0.eq_2 ..) ?_
    simp only [decide_eq_true_eq]
    refine evBy (fun c' => evNow ?_) (fun c' => evEq (areSegs_l0 l (by omega) l [] rfl rfl) ?_)
    · rw [show decide (1 ≤ l.length ∧ l.length ≤ 20) = false from decide_eq_false (by omega)]; rfl
    · rw [show decide (1 ≤ l.length ∧ l.length ≤ 20) = true from decide_eq_true (by omega)]; rfl
-- ** place
def plc : List S71 → Int → Int
  | [], _ => 0
  | x :: l, s => min x.f0 s * x.f1 + plc l (s - min x.f0 s)
theorem mulBd {n r : Int} (h0 : 0 ≤ n) (h1 : n ≤ 500) (h2 : 0 ≤ r) (h3 : r ≤ 1100) : 0 ≤ n * r ∧ n * r ≤ 550000 :=
  ⟨Int.mul_nonneg h0 h2, Int.le_trans (Int.mul_le_mul_of_nonneg_right h1 h2) (by omega)⟩
theorem plc_bd : ∀ {l : List S71} {s : Int}, l.all seg = true → 0 ≤ s → 0 ≤ plc l s ∧ plc l s ≤ 550000 * (l.length : Int)
  | [], _, _, _ => by simp [plc]
  | x :: l, s, h, hs => by
    simp only [List.all_cons, Bool.and_eq_true] at h
    have hx := seg_iff.1 h.1
    have := plc_bd (s := s - min x.f0 s) h.2 (by omega)
    have := mulBd (n := min x.f0 s) (r := x.f1) (by omega) (by omega) (by omega) (by omega)
    simp only [plc, List.length_cons]; omega
theorem l1Least_eq (a b : Int) : spec_l1Least.f a b = some (min a b) := by
  unfold spec_l1Least.f; split <;> (congr 1; omega)
theorem stPlace_l0 (l : List S71) (hl : l.length ≤ 1048576) : ∀ (suf pre : List S71) (s a : Int), l = pre ++ suf → suf.all seg = true → 0 ≤ s → s ≤ 1000000000 → 0 ≤ a → a ≤ 550000 * (pre.length : Int) →
    Ev (fun k => spec_stPlace.l0 k s a l (l.length : Int) (pre.length : Int)) (a + plc suf s) := by
  intro suf
  induction suf with
  | nil =>
    intro pre s a h hs h0 hb ha hc
    refine Ev.step (fun k => spec_stPlace.l0.eq_2 ..) ?_
    simp only [rgEnd h, if_false]
    exact evNow (by simp [plc])
  | cons x suf ih =>
    intro pre s a h hs h0 hb ha hc
    obtain ⟨h1, h2, h3, h4, h5⟩ := rgHead h (by omega) z71
    simp only [List.all_cons, Bool.and_eq_true] at hs
    have hx := seg_iff.1 hs.1
    have hpl : pre.length ≤ 1048576 := by omega
    have hm := mulBd (n := min x.f0 s) (r := x.f1) (by omega) (by omega) (by omega) (by omega)
    refine Ev.step (fun k => spec_stPlace.l0.eq_2 ..) ?_
    simp only [h1, h2, h3, rd_T71, h4, if_true, l1Least_eq, Option.bind_some]
    rw [show min s x.f0 = min x.f0 s by omega, wrapi (x := s - min x.f0 s) (by omega) (by omega), wrapi (x := min x.f0 s * x.f1) (by omega) (by omega), wrapi (x := a + min x.f0 s * x.f1) (by omega) (by omega)]
    exact evEq (ih _ _ _ h5 hs.2 (by omega) (by omega) (by omega) (by simp; omega)) (by simp only [plc]; omega)
theorem stPlace_ev {l : List S71} {s : Int} (hl : l.length ≤ 1048576) (h : l.all seg = true) (h0 : 0 ≤ s) (hb : s ≤ 1000000000) : Ev (fun k => spec_stPlace.f k l s) (plc l s) :=
  evEq (stPlace_l0 l hl l [] s 0 rfl h h0 hb (by omega) (by simp)) (by simp)
theorem placeOf_l0 (l : List S71) (hl : l.length ≤ 1048576) : ∀ (suf pre : List S71) (s a : Int), l = pre ++ suf → suf.all seg = true → 0 ≤ s → s ≤ 1000000000 → 0 ≤ a → a ≤ 550000 * (pre.length : Int) →
    Ev (fun k => impl_placeOf.l0 k s a l (l.length : Int) (pre.length : Int)) (a + plc suf s) := by
  intro suf
  induction suf with
  | nil =>
    intro pre s a h hs h0 hb ha hc
    refine Ev.step (fun k => impl_placeOf.l0.eq_2 ..) ?_
    simp only [rgEnd h, if_false]
    exact evNow (by simp [plc])
  | cons x suf ih =>
    intro pre s a h hs h0 hb ha hc
    obtain ⟨h1, h2, h3, h4, h5⟩ := rgHead h (by omega) z71
    simp only [List.all_cons, Bool.and_eq_true] at hs
    have hx := seg_iff.1 hs.1
    have hpl : pre.length ≤ 1048576 := by omega
    have hm := mulBd (n := min x.f0 s) (r := x.f1) (by omega) (by omega) (by omega) (by omega)
    refine Ev.step (fun k => impl_placeOf.l0.eq_2 ..) ?_
    simp only [h1, h2, h3, rd_T71, h4, if_true, mn_eq]
    rw [wrapi (x := s - min x.f0 s) (by omega) (by omega), wrapi (x := min x.f0 s * x.f1) (by omega) (by omega), wrapi (x := a + min x.f0 s * x.f1) (by omega) (by omega)]
    exact evEq (ih _ _ _ h5 hs.2 (by omega) (by omega) (by omega) (by simp; omega)) (by simp only [plc]; omega)
theorem placeOf_ev {l : List S71} {s : Int} (hl : l.length ≤ 1048576) (h : l.all seg = true) (h0 : 0 ≤ s) (hb : s ≤ 1000000000) : Ev (fun k => impl_placeOf.f k l s) (plc l s) :=
  evEq (placeOf_l0 l hl l [] s 0 rfl h h0 hb (by omega) (by simp)) (by simp)
-- ** errat
def err (l : List S71) (s : Int) : Int := plc l s - 1000 * s
theorem stError_ev {l : List S71} {s : Int} (hl : l.length ≤ 1048576) (h : l.all seg = true) (h0 : 0 ≤ s) (hb : s ≤ 1000000000) : Ev (fun k => spec_stError.f k l s) (err l s) := by
  have := plc_bd (s := s) h h0
  unfold spec_stError.f err
  refine Ev.bind (stPlace_ev hl h h0 hb) ?_
  rw [wrapi (x := 1000 * s) (by omega) (by omega), wrapi (by omega) (by omega)]
  exact Ev.now _
theorem errorAt_ev {l : List S71} {s : Int} (hl : l.length ≤ 1048576) (h : l.all seg = true) (h0 : 0 ≤ s) (hb : s ≤ 1000000000) : Ev (fun k => impl_errorAt.f k l s) (err l s) := by
  have := plc_bd (s := s) h h0
  unfold impl_errorAt.f err
  refine Ev.bind (placeOf_ev hl h h0 hb) ?_
  rw [wrapi (x := 1000 * s) (by omega) (by omega), wrapi (by omega) (by omega)]
  exact Ev.now _
-- ** has
def hasStep (l : List S71) (s : Int) : Bool := goodSegs l && decide (0 ≤ s ∧ s ≤ stps l)
theorem hasStep_iff {l : List S71} {s : Int} : hasStep l s = true ↔ goodSegs l = true ∧ 0 ≤ s ∧ s ≤ stps l := by simp [hasStep]
theorem stHas_ev (l : List S71) (s : Int) : Ev (fun k => spec_stHas.f k l s) (hasStep l s) := by
  unfold spec_stHas.f hasStep
  refine Ev.bind (stGood_ev l) (evBy (fun c => ?_) (fun c => evNow (by simp [c])))
  have h := good_iff.1 c
  refine Ev.bind (stSteps_ev (by omega) h.2.1) ?_
  simp only [in_eq, Option.bind_some]
  exact evNow (by simp [c])
theorem isStepOf_ev {l : List S71} (s : Int) (c : goodSegs l = true) : Ev (fun k => impl_isStepOf.f k l s) (decide (0 ≤ s ∧ s ≤ stps l)) := by
  have h := good_iff.1 c
  unfold impl_isStepOf.f
  refine evBy (fun q => Ev.bind (allSteps_ev (by omega) h.2.1) (evNow (decD (by omega)))) (fun q => evNow (decF (by omega)))
-- ** ErrorAt_
def errRes (l : List S71) (s : Int) : Int × Bool := if hasStep l s = true then (err l s, true) else (0, false)
theorem specErrorAt_ev (l : List S71) (s : Int) : Ev (fun k => spec_ErrorAt.f k l s) (errRes l s) := by
  unfold spec_ErrorAt.f errRes
  refine Ev.bind (stHas_ev l s) (evIte (fun c => ?_) (fun c => Ev.now _))
  obtain ⟨h, h0, h1⟩ := hasStep_iff.1 c
  have h := good_iff.1 h
  exact Ev.bind (stError_ev (by omega) h.2.1 h0 (by omega)) (Ev.now _)
theorem implErrorAt_ev (l : List S71) (s : Int) : Ev (fun k => impl_ErrorAt.f k l s) (errRes l s) := by
  unfold impl_ErrorAt.f errRes
  refine Ev.bind (areSegs_ev l) (evBy (fun c => Ev.bind (isStepOf_ev s c) ?_) (fun c => evNow (by rw [if_neg (fun q => c (hasStep_iff.1 q).1)])))
  have h := good_iff.1 c
  refine evBy (fun q => ?_) (fun q => evNow (by rw [if_neg (fun q' => q (decide_eq_true (hasStep_iff.1 q').2))]))
  have q' := of_decide_eq_true q
  rw [if_pos (hasStep_iff.2 ⟨c, q'⟩)]
  exact Ev.bind (errorAt_ev (by omega) h.2.1 q'.1 (by omega)) (Ev.now _)
-- ** FnExactErrorAt
theorem FnExactErrorAt (l0 : List S73) (a1 : Int) (w0 : Opn.Lst (fun x : S73 => Opn.I64 x.f0 ∧ Opn.I64 x.f1) l0) (_ : Opn.I64 a1) : ∃ k, laws_FnExactErrorAt.f k l0 a1 = some true := by
  refine Ev.rounds (g := fun k => laws_FnExactErrorAt.f k l0 a1) ?_
  unfold laws_FnExactErrorAt.f
  rw [szSeg_eq l0 w0.1]
  simp only [Option.bind_some]
  by_cases c : l0.length ≤ 1048576
  · rw [if_pos c]
    refine evNeg (by omega) (Ev.bind (toSeg_ev l0 c) (Ev.bind (specErrorAt_ev (l0.map cvSeg) a1) (Ev.bind (toSeg_ev l0 c) (Ev.bind (implErrorAt_ev (l0.map cvSeg) a1) ?_))))
    simp only [bne_self_eq_false, if_true]
    exact Ev.step (fun k => laws_FnExactErrorAt.j0.eq_2 ..) (evNeg (by simp) (Ev.bind (toSeg_ev l0 c) (Ev.bind (eqSeg_ev _ (by simp; omega)) (evPos rfl (Ev.now _)))))
  · rw [if_neg c]
    exact evPos (by omega) (Ev.now _)
end Go.Proofs.Ytgkhikceollpkaa.Pure
