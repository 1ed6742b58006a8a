/- The program's StepAtPlace returns what the reference's returns, for all arguments.: the plain part: what the program computes and what the reference computes agree, for all arguments. No conditions beyond the arguments' own kinds. -/
import Derived.Test.YtgkhikceollpkaaPFnExactStepAtPlacex0
import Derived.Test.YtgkhikceollpkaaPFnExactStepAtPlacex1
import Derived.Test.YtgkhikceollpkaaPFnExactStepAtPlacex2
import Derived.Test.YtgkhikceollpkaaPFnExactStepAtPlacex3
import Derived.Test.YtgkhikceollpkaaOpn
namespace Go.Proofs.Ytgkhikceollpkaa.Pure
open Go.RowKit Go.Proofs.Ytgkhikceollpkaa.PFnExactStepAtPlace Go.Proofs.YtgkhikceollpkaaW.PrintWords Go.Proofs.YtgkhikceollpkaaW.PrintLast Go.Proofs.YtgkhikceollpkaaW.PrintMore
-- ** base
theorem wrapi {x : Int} (h0 : -9223372036854775808 ≤ x) (h1 : x ≤ 9223372036854775807) : wrap64 x = x := by unfold wrap64; omega
theorem evPos {α : Type} {c : Prop} [Decidable c] {g f : Nat → Option α} {r : α} (h : c) (e : Ev g r) : Ev (fun k => if c then g k else f k) r := by
  simp only [if_pos h]; exact e
theorem evNeg {α : Type} {c : Prop} [Decidable c] {g f : Nat → Option α} {r : α} (h : ¬ c) (e : Ev f r) : Ev (fun k => if c then g k else f k) r := by
  simp only [if_neg h]; exact e
theorem evNow {α : Type} {r q : α} (h : r = q) : Ev (fun _ => some r) q := by subst h; exact Ev.now r
theorem evEq {α : Type} {g : Nat → Option α} {r q : α} (h : Ev g r) (e : r = q) : Ev g q := e ▸ h
theorem evBy {α : Type} {c : Prop} [Decidable c] {g f : Nat → Option α} {r : α} (h : c → Ev g r) (h' : ¬ c → Ev f r) : Ev (fun k => if c then g k else f k) r := by
  by_cases hc : c
  · simp only [if_pos hc]; exact h hc
  · simp only [if_neg hc]; exact h' hc
theorem someF {p : Prop} [Decidable p] (h : ¬ p) : some false = some (decide p) := by rw [decide_eq_false h]
theorem someD {p q : Prop} [Decidable p] [Decidable q] (h : p ↔ q) : some (decide p) = some (decide q) := by rw [decide_eq_decide.mpr h]
theorem rgEnd {α : Type} {l pre : List α} (h : l = pre ++ []) : ¬ ((pre.length : Int) < (l.length : Int)) := by subst h; simp
theorem rgHead {α : Type} {l pre suf : List α} {x : α} (h : l = pre ++ x :: suf) (hl : l.length ≤ 4611686018427387904) (z : α) :
    (pre.length : Int) < (l.length : Int) ∧ (0 : Int) ≤ (pre.length : Int) ∧ wrap64 ((pre.length : Int) + 1) = ((pre ++ [x]).length : Int) ∧ l.getD (pre.length : Int).toNat z = x ∧ l = (pre ++ [x]) ++ suf := by
  subst h
  simp at hl
  refine ⟨by simp; omega, by omega, ?_, by simp, by simp⟩
  rw [wrapi (by omega) (by omega)]; simp
theorem in_eq (a b c : Int) : spec_l1In.f a b c = some (decide (b ≤ a ∧ a ≤ c)) := by
  unfold spec_l1In.f
  split
  · exact someD (by omega)
  · exact someF (by omega)
theorem mn_eq (a b : Int) : mn a b = min a b := by unfold mn; omega
-- ** lists
theorem setAt {α : Type} (A B : List α) (z v : α) (n : Nat) (h : n = A.length) : (A ++ z :: B).set n v = A ++ v :: B := by subst h; simp
-- ** seglaw
def cvSeg (x : S73) : S71 := ⟨x.f0, x.f1⟩
theorem szSeg_eq (l : List S73) (h : l.length ≤ 9223372036854775807) : laws_szSegmentS.f l 1048576 = some (if l.length ≤ 1048576 then 1048576 - (l.length : Int) else -1) := by
  unfold laws_szSegmentS.f
  rw [wrapi (by omega) (by omega)]
  by_cases c : l.length ≤ 1048576
  · rw [if_neg (by omega), if_pos c]
  · rw [if_pos (by omega), if_neg c]
theorem toSeg_l0 (l : List S73) (hl : l.length ≤ 1048576) : ∀ (suf pre : List S73), l = pre ++ suf →
    Ev (fun k => laws_toSegmentS.l0 k l (pre.map cvSeg ++ List.replicate suf.length z71) (pre.length : Int)) (l.map cvSeg) := by
  intro suf
  induction suf with
  | nil =>
    intro pre h
    refine Ev.step (fun k => laws_toSegmentS.l0.eq_2 ..) ?_
    simp only [rgEnd h, if_false]
    exact evNow (by subst h; simp)
  | cons x suf ih =>
    intro pre h
    obtain ⟨h1, h2, h3, h4, h5⟩ := rgHead h (by omega) z73
    refine Ev.step (fun k => laws_toSegmentS.l0.eq_2 ..) ?_
    simp only [h1, h2, h3, rd_T73, h4, if_true, laws_toSegment.f, Option.bind_some]
    refine evPos (by simp; omega) ?_
    have e : (pre.map cvSeg ++ List.replicate (x :: suf).length z71).set (pre.length : Int).toNat ⟨x.f0, x.f1⟩ = (pre ++ [x]).map cvSeg ++ List.replicate suf.length z71 := by
      rw [List.length_cons, List.replicate_succ, setAt _ _ _ _ _ (by simp)]
      simp [cvSeg]
    rw [e]
    exact ih _ h5
theorem toSeg_ev (l : List S73) (hl : l.length ≤ 1048576) : Ev (fun k => laws_toSegmentS.f k l) (l.map cvSeg) := by
  unfold laws_toSegmentS.f
  refine evPos (by omega) (evPos (by omega) ?_)
  have := toSeg_l0 l hl l [] rfl
  simpa using this
theorem eqSeg_l0 (l : List S71) (hl : l.length ≤ 4611686018427387904) : ∀ (suf pre : List S71), l = pre ++ suf → Ev (fun k => laws_eqSegmentS.l0 k l l (pre.length : Int)) true := by
  intro suf
  induction suf with
  | nil =>
    intro pre h
    refine Ev.step (fun k => laws_eqSegmentS.l0.eq_2 ..) ?_
    simp only [rgEnd h, if_false]
    exact Ev.now _
  | cons x suf ih =>
    intro pre h
    obtain ⟨h1, h2, h3, h4, h5⟩ := rgHead h hl z71
    refine Ev.step (fun k => laws_eqSegmentS.l0.eq_2 ..) ?_
    simp only [h1, h2, h3, if_true, laws_eqSegment.f, Option.bind_some]
    exact ih _ h5
theorem eqSeg_ev (l : List S71) (hl : l.length ≤ 4611686018427387904) : Ev (fun k => laws_eqSegmentS.f k l l) true := by
  unfold laws_eqSegmentS.f
  exact evPos rfl (eqSeg_l0 l hl l [] rfl)
-- ** seggood
def seg (x : S71) : Bool := decide (1 ≤ x.f0 ∧ x.f0 ≤ 500 ∧ 900 ≤ x.f1 ∧ x.f1 ≤ 1100)
theorem seg_iff {x : S71} : seg x = true ↔ 1 ≤ x.f0 ∧ x.f0 ≤ 500 ∧ 900 ≤ x.f1 ∧ x.f1 ≤ 1100 := by simp [seg]
def stps : List S71 → Int
  | [] => 0
  | x :: l => x.f0 + stps l
theorem stps_bd : ∀ {l : List S71}, l.all seg = true → (l.length : Int) ≤ stps l ∧ stps l ≤ 500 * (l.length : Int)
  | [], _ => by simp [stps]
  | x :: l, h => by
    simp only [List.all_cons, Bool.and_eq_true] at h
    have := stps_bd h.2
    have := seg_iff.1 h.1
    simp only [stps, List.length_cons]; omega
def goodSegs (l : List S71) : Bool := decide (1 ≤ l.length ∧ l.length ≤ 20) && (l.all seg && decide (stps l ≤ 2000))
theorem good_iff {l : List S71} : goodSegs l = true ↔ (1 ≤ l.length ∧ l.length ≤ 20) ∧ l.all seg = true ∧ stps l ≤ 2000 := by simp [goodSegs]
theorem stSteps_l0 (l : List S71) (hl : l.length ≤ 1048576) : ∀ (suf pre : List S71) (a : Int), l = pre ++ suf → suf.all seg = true → 0 ≤ a → a ≤ 500 * (pre.length : Int) →
    Ev (fun k => spec_stSteps.l0 k a l (l.length : Int) (pre.length : Int)) (a + stps suf) := by
  intro suf
  induction suf with
  | nil =>
    intro pre a h hs h0 ha
    refine Ev.step (fun k => spec_stSteps.l0.eq_2 ..) ?_
    simp only [rgEnd h, if_false]
    exact evNow (by simp [stps])
  | cons x suf ih =>
    intro pre a h hs h0 ha
    obtain ⟨h1, h2, h3, h4, h5⟩ := rgHead h (by omega) z71
    simp only [List.all_cons, Bool.and_eq_true] at hs
    have hx := seg_iff.1 hs.1
    have hpl : pre.length ≤ 1048576 := by omega
    refine Ev.step (fun k => spec_stSteps.l0.eq_2 ..) ?_
    simp only [h1, h2, h3, rd_T71, h4, if_true]
    rw [wrapi (by omega) (by omega)]
    exact evEq (ih _ _ h5 hs.2 (by omega) (by simp; omega)) (by simp only [stps]; omega)
theorem stSteps_ev {l : List S71} (hl : l.length ≤ 1048576) (hs : l.all seg = true) : Ev (fun k => spec_stSteps.f k l) (stps l) :=
  evEq (stSteps_l0 l hl l [] 0 rfl hs (by omega) (by simp)) (by simp)
theorem stSegment_eq (x : S71) : spec_stSegment.f x.f0 x.f1 = some (seg x) := by
  unfold spec_stSegment.f; simp only [in_eq, Option.bind_some, decide_eq_true_eq]
  split
  · exact someD (by omega)
  · exact someF (by omega)
theorem stGood_l0 (l : List S71) (hl : l.length ≤ 1048576) : ∀ (suf pre : List S71), l = pre ++ suf → pre.all seg = true →
    Ev (fun k => spec_stGood.l0 k l l (l.length : Int) (pre.length : Int)) (suf.all seg && decide (stps l ≤ 2000)) := by
  intro suf
  induction suf with
  | nil =>
    intro pre h hp
    refine Ev.step (fun k => spec_stGood.l0.eq_2 ..) ?_
    simp only [rgEnd h, if_false]
    refine Ev.bind (stSteps_ev hl (by rw [h]; simpa using hp)) (evNow (by simp))
  | cons x suf ih =>
    intro pre h hp
    obtain ⟨h1, h2, h3, h4, h5⟩ := rgHead h (by omega) z71
    refine Ev.step (fun k => spec_stGood.l0.eq_2 ..) ?_
    simp only [h1, h2, h3, rd_T71, h4, if_true, stSegment_eq, Option.bind_some]
    refine evBy (fun c => evEq (ih _ h5 (by simp at hp ⊢; exact ⟨hp, c⟩)) (by simp [c])) (fun c => evNow (by simp [c]))
theorem stGood_ev (l : List S71) : Ev (fun k => spec_stGood.f k l) (goodSegs l) := by
  unfold spec_stGood.f goodSegs
  simp only [in_eq, Option.bind_some, decide_eq_true_eq]
  refine evBy (fun c => evEq (stGood_l0 l (by omega) l [] rfl rfl) ?_) (fun c => evNow ?_)
  · rw [show decide (1 ≤ l.length ∧ l.length ≤ 20) = true from decide_eq_true (by omega)]; rfl
  · rw [show decide (1 ≤ l.length ∧ l.length ≤ 20) = false from decide_eq_false (by omega)]; rfl
theorem allSteps_l0 (l : List S71) (hl : l.length ≤ 1048576) : ∀ (suf pre : List S71) (a : Int), l = pre ++ suf → suf.all seg = true → 0 ≤ a → a ≤ 500 * (pre.length : Int) →
    Ev (fun k => impl_allSteps.l0 k a l (l.length : Int) (pre.length : Int)) (a + stps suf) := by
  intro suf
  induction suf with
  | nil =>
    intro pre a h hs h0 ha
    refine Ev.step (fun k => impl_allSteps.l0.eq_2 ..) ?_
    simp only [rgEnd h, if_false]
    exact evNow (by simp [stps])
  | cons x suf ih =>
    intro pre a h hs h0 ha
    obtain ⟨h1, h2, h3, h4, h5⟩ := rgHead h (by omega) z71
    simp only [List.all_cons, Bool.and_eq_true] at hs
    have hx := seg_iff.1 hs.1
    have hpl : pre.length ≤ 1048576 := by omega
    refine Ev.step (fun k => impl_allSteps.l0.eq_2 ..) ?_
    simp only [h1, h2, h3, rd_T71, h4, if_true]
    rw [wrapi (by omega) (by omega)]
    exact evEq (ih _ _ h5 hs.2 (by omega) (by simp; omega)) (by simp only [stps]; omega)
theorem allSteps_ev {l : List S71} (hl : l.length ≤ 1048576) (hs : l.all seg = true) : Ev (fun k => impl_allSteps.f k l) (stps l) :=
  evEq (allSteps_l0 l hl l [] 0 rfl hs (by omega) (by simp)) (by simp)
theorem areSegs_l0 (l : List S71) (hl : l.length ≤ 1048576) : ∀ (suf pre : List S71), l = pre ++ suf → pre.all seg = true →
    Ev (fun k => impl_AreSegments.l0 k l l (l.length : Int) (pre.length : Int)) (suf.all seg && decide (stps l ≤ 2000)) := by
  intro suf
  induction suf with
  | nil =>
    intro pre h hp
    refine Ev.step (fun k => impl_AreSegments.l0.eq_2 ..) ?_
    simp only [rgEnd h, if_false]
    refine Ev.bind (allSteps_ev hl (by rw [h]; simpa using hp)) (evNow (by simp))
  | cons x suf ih =>
    intro pre h hp
    obtain ⟨h1, h2, h3, h4, h5⟩ := rgHead h (by omega) z71
    refine Ev.step (fun k => impl_AreSegments.l0.eq_2 ..) ?_
    simp only [h1, h2, h3, rd_T71, h4, if_true]
    have bad : ¬ (1 ≤ x.f0 ∧ x.f0 ≤ 500 ∧ 900 ≤ x.f1 ∧ x.f1 ≤ 1100) → false = ((x :: suf).all seg && decide (stps l ≤ 2000)) := fun c => by
      have : seg x = false := decide_eq_false c
      simp [this]
    refine evBy (fun c => evNow (bad (by omega))) (fun c => evBy (fun c => evNow (bad (by omega))) (fun c => evBy (fun c => evNow (bad (by omega))) (fun c => evBy (fun c => evNow (bad (by omega))) (fun c => ?_))))
    have hx : seg x = true := seg_iff.2 (by omega)
    exact evEq (ih _ h5 (by simp at hp ⊢; exact ⟨hp, hx⟩)) (by simp [hx])
theorem areSegs_ev (l : List S71) : Ev (fun k => impl_AreSegments.f k l) (goodSegs l) := by
  unfold impl_AreSegments.f goodSegs
  refine evBy (fun c => ?_) (fun c => ?_)
  · refine Ev.step (fun k => impl_AreSegments.j0.eq_2 ..) (evPos rfl (evNow ?_))
    rw [show decide (1 ≤ l.length ∧ l.length ≤ 20) = false from decide_eq_false (by omega)]; rfl
  · refine Ev.step (fun k => impl_AreSegments.j0.eq_2 ..) ?_
    simp only [decide_eq_true_eq]
    refine evBy (fun c' => evNow ?_) (fun c' => evEq (areSegs_l0 l (by omega) l [] rfl rfl) ?_)
    · rw [show decide (1 ≤ l.length ∧ l.length ≤ 20) = false from decide_eq_false (by omega)]; rfl
    · rw [show decide (1 ≤ l.length ∧ l.length ≤ 20) = true from decide_eq_true (by omega)]; rfl
-- ** place
def plc : List S71 → Int → Int
  | [], _ => 0
  | x :: l, s => min x.f0 s * x.f1 + plc l (s - min x.f0 s)
theorem mulBd {n r : Int} (h0 : 0 ≤ n) (h1 : n ≤ 500) (h2 : 0 ≤ r) (h3 : r ≤ 1100) : 0 ≤ n * r ∧ n * r ≤ 550000 :=
  ⟨Int.mul_nonneg h0 h2, Int.le_trans (Int.mul_le_mul_of_nonneg_right h1 h2) (by omega)⟩
theorem plc_bd : ∀ {l : List S71} {s : Int}, l.all seg = true → 0 ≤ s → 0 ≤ plc l s ∧ plc l s ≤ 550000 * (l.length : Int)
  | [], _, _, _ => by simp [plc]
  | x :: l, s, h, hs => by
    simp only [List.all_cons, Bool.and_eq_true] at h
    have hx := seg_iff.1 h.1
    have := plc_bd (s := s - min x.f0 s) h.2 (by omega)
    have := mulBd (n := min x.f0 s) (r := x.f1) (by omega) (by omega) (by omega) (by omega)
    simp only [plc, List.length_cons]; omega
theorem l1Least_eq (a b : Int) : spec_l1Least.f a b = some (min a b) := by
  unfold spec_l1Least.f; split <;> (congr 1; omega)
theorem placeOf_l0 (l : List S71) (hl : l.length ≤ 1048576) : ∀ (suf pre : List S71) (s a : Int), l = pre ++ suf → suf.all seg = true → 0 ≤ s → s ≤ 1000000000 → 0 ≤ a → a ≤ 550000 * (pre.length : Int) →
    Ev (fun k => impl_placeOf.l0 k s a l (l.length : Int) (pre.length : Int)) (a + plc suf s) := by
  intro suf
  induction suf with
  | nil =>
    intro pre s a h hs h0 hb ha hc
    refine Ev.step (fun k => impl_placeOf.l0.eq_2 ..) ?_
    simp only [rgEnd h, if_false]
    exact evNow (by simp [plc])
  | cons x suf ih =>
    intro pre s a h hs h0 hb ha hc
    obtain ⟨h1, h2, h3, h4, h5⟩ := rgHead h (by omega) z71
    simp only [List.all_cons, Bool.and_eq_true] at hs
    have hx := seg_iff.1 hs.1
    have hpl : pre.length ≤ 1048576 := by omega
    have hm := mulBd (n := min x.f0 s) (r := x.f1) (by omega) (by omega) (by omega) (by omega)
    refine Ev.step (fun k => impl_placeOf.l0.eq_2 ..) ?_
    simp only [h1, h2, h3, rd_T71, h4, if_true, mn_eq]
    rw [wrapi (x := s - min x.f0 s) (by omega) (by omega), wrapi (x := min x.f0 s * x.f1) (by omega) (by omega), wrapi (x := a + min x.f0 s * x.f1) (by omega) (by omega)]
    exact evEq (ih _ _ _ h5 hs.2 (by omega) (by omega) (by omega) (by simp; omega)) (by simp only [plc]; omega)
theorem placeOf_ev {l : List S71} {s : Int} (hl : l.length ≤ 1048576) (h : l.all seg = true) (h0 : 0 ≤ s) (hb : s ≤ 1000000000) : Ev (fun k => impl_placeOf.f k l s) (plc l s) :=
  evEq (placeOf_l0 l hl l [] s 0 rfl h h0 hb (by omega) (by simp)) (by simp)
-- ** StepAtPlace_
def sat : List S71 → Int → Int
  | [], _ => 0
  | x :: l, p => if p / x.f1 < x.f0 then p / x.f1 else x.f0 + sat l (p - x.f0 * x.f1)
theorem divBd {p r : Int} (h0 : 0 ≤ p) (hr : 900 ≤ r) : 0 ≤ p / r ∧ (p / r) * r ≤ p ∧ p < (p / r + 1) * r ∧ p / r ≤ p := by
  have e := Int.mul_ediv_add_emod p r
  have m0 := Int.emod_nonneg p (show r ≠ 0 by omega)
  have m1 := Int.emod_lt_of_pos p (show 0 < r by omega)
  have q0 : 0 ≤ p / r := Int.ediv_nonneg h0 (by omega)
  have c : (p / r) * r = r * (p / r) := Int.mul_comm _ _
  refine ⟨q0, by omega, by rw [Int.add_mul, Int.one_mul]; omega, Int.ediv_le_self _ h0⟩
theorem plc_step : ∀ {l : List S71} {s : Int}, l.all seg = true → 0 ≤ s → s < stps l → 900 ≤ plc l (s + 1) - plc l s ∧ plc l (s + 1) - plc l s ≤ 1100
  | [], s, _, h0, h1 => by simp [stps] at h1; omega
  | x :: l, s, h, h0, h1 => by
    simp only [List.all_cons, Bool.and_eq_true] at h
    have hx := seg_iff.1 h.1
    simp only [stps] at h1
    simp only [plc]
    by_cases c : s < x.f0
    · rw [show min x.f0 (s + 1) = s + 1 by omega, show min x.f0 s = s by omega, Int.sub_self, Int.sub_self, Int.add_mul, Int.one_mul]; omega
    · rw [show min x.f0 (s + 1) = x.f0 by omega, show min x.f0 s = x.f0 by omega]
      have := plc_step (s := s - x.f0) h.2 (by omega) (by omega)
      rw [show s + 1 - x.f0 = s - x.f0 + 1 by omega]; omega
theorem plc_mono {l : List S71} (h : l.all seg = true) : ∀ (d : Nat) (s : Int), 0 ≤ s → s + d ≤ stps l → plc l s ≤ plc l (s + d)
  | 0, s, _, _ => by simp
  | d + 1, s, h0, h1 => by
    have := plc_mono h d s h0 (by omega)
    have := plc_step (s := s + d) h (by omega) (by omega)
    rw [show s + ((d + 1 : Nat) : Int) = s + d + 1 by omega]; omega
theorem plc_le {l : List S71} (h : l.all seg = true) {s t : Int} (h0 : 0 ≤ s) (h1 : s ≤ t) (h2 : t ≤ stps l) : plc l s ≤ plc l t := by
  have := plc_mono h (t - s).toNat s h0 (by omega)
  rwa [show s + ((t - s).toNat : Int) = t by omega] at this
theorem plc_zero : ∀ {l : List S71}, l.all seg = true → plc l 0 = 0
  | [], _ => rfl
  | x :: l, h => by
    simp only [List.all_cons, Bool.and_eq_true] at h
    have hx := seg_iff.1 h.1
    simp only [plc, show min x.f0 0 = 0 by omega, Int.zero_mul, Int.sub_self, plc_zero h.2]; rfl
theorem sat_bd : ∀ {l : List S71} {p : Int}, l.all seg = true → 0 ≤ p → 0 ≤ sat l p ∧ sat l p ≤ stps l ∧ plc l (sat l p) ≤ p ∧ (sat l p < stps l → p < plc l (sat l p + 1))
  | [], p, _, h0 => by simp [sat, stps, plc, h0]
  | x :: l, p, h, h0 => by
    simp only [List.all_cons, Bool.and_eq_true] at h
    have hx := seg_iff.1 h.1
    have hd := divBd h0 hx.2.2.1
    have hst := stps_bd h.2
    simp only [sat, stps, plc]
    by_cases c : p / x.f1 < x.f0
    · rw [if_pos c, show min x.f0 (p / x.f1) = p / x.f1 by omega, show min x.f0 (p / x.f1 + 1) = p / x.f1 + 1 by omega, Int.sub_self, Int.sub_self]
      have hz := plc_bd (l := l) (s := 0) h.2 (by omega)
      have hz' : plc l 0 = 0 := plc_zero h.2
      omega
    · rw [if_neg c]
      have hm : x.f0 * x.f1 ≤ (p / x.f1) * x.f1 := Int.mul_le_mul_of_nonneg_right (by omega) (by omega)
      have ih := sat_bd (p := p - x.f0 * x.f1) h.2 (by omega)
      rw [show min x.f0 (x.f0 + sat l (p - x.f0 * x.f1)) = x.f0 by omega, show min x.f0 (x.f0 + sat l (p - x.f0 * x.f1) + 1) = x.f0 by omega,
        show x.f0 + sat l (p - x.f0 * x.f1) - x.f0 = sat l (p - x.f0 * x.f1) by omega, show x.f0 + sat l (p - x.f0 * x.f1) + 1 - x.f0 = sat l (p - x.f0 * x.f1) + 1 by omega]
      omega
def satRes (l : List S71) (p : Int) : Int × Bool := if goodSegs l = true ∧ 0 ≤ p ∧ p ≤ 2200000 then (sat l p, true) else (0, false)
theorem satSpec_l0 (l : List S71) (hl : l.length ≤ 20) : ∀ (suf pre : List S71) (p a : Int), l = pre ++ suf → suf.all seg = true → 0 ≤ p → p ≤ 2200000 → 0 ≤ a → a ≤ 500 * (pre.length : Int) →
    Ev (fun k => spec_StepAtPlace.l0 k p a l (l.length : Int) (pre.length : Int)) (a + sat suf p, true) := by
  intro suf
  induction suf with
  | nil =>
    intro pre p a h hs h0 hb ha hc
    refine Ev.step (fun k => spec_StepAtPlace.l0.eq_2 ..) ?_
    simp only [rgEnd h, if_false]
    exact evNow (by simp [sat])
  | cons x suf ih =>
    intro pre p a h hs h0 hb ha hc
    obtain ⟨h1, h2, h3, h4, h5⟩ := rgHead h (by omega) z71
    simp only [List.all_cons, Bool.and_eq_true] at hs
    have hx := seg_iff.1 hs.1
    have hd := divBd h0 hx.2.2.1
    have hpl : pre.length ≤ 20 := by omega
    refine Ev.step (fun k => spec_StepAtPlace.l0.eq_2 ..) ?_
    simp only [h1, h2, h3, rd_T71, h4, if_true]
    refine evNeg (by omega) ?_
    rw [Int.tdiv_eq_ediv_of_nonneg h0, wrapi (x := p / x.f1) (by omega) (by omega), l1Least_eq]
    simp only [Option.bind_some]
    by_cases c : p / x.f1 < x.f0
    · rw [show min (p / x.f1) x.f0 = p / x.f1 by omega]
      refine evPos c (evNow ?_)
      rw [wrapi (by omega) (by omega)]
      simp only [sat, if_pos c]
    · rw [show min (p / x.f1) x.f0 = x.f0 by omega]
      have hm : x.f0 * x.f1 ≤ (p / x.f1) * x.f1 := Int.mul_le_mul_of_nonneg_right (by omega) (by omega)
      have hq := mulBd (n := x.f0) (r := x.f1) (by omega) (by omega) (by omega) (by omega)
      refine evNeg (by omega) ?_
      rw [wrapi (x := x.f0 * x.f1) (by omega) (by omega), wrapi (x := p - x.f0 * x.f1) (by omega) (by omega), wrapi (x := a + x.f0) (by omega) (by omega)]
      refine evEq (ih _ _ _ h5 hs.2 (by omega) (by omega) (by omega) (by simp; omega)) ?_
      simp only [sat, if_neg c]; rw [Int.add_assoc]
theorem specSat_ev (l : List S71) (p : Int) : Ev (fun k => spec_StepAtPlace.f k l p) (satRes l p) := by
  have bad : ¬ (goodSegs l = true ∧ 0 ≤ p ∧ p ≤ 2200000) → Ev (fun k => spec_StepAtPlace.j0 k l p true) (satRes l p) := fun h =>
    Ev.step (fun k => spec_StepAtPlace.j0.eq_2 ..) (evPos rfl (evNow (by unfold satRes; rw [if_neg h])))
  unfold spec_StepAtPlace.f
  refine Ev.bind (stGood_ev l) (evBy (fun c => ?_) (fun c => bad (fun q => c q.1)))
  simp only [in_eq, Option.bind_some]
  by_cases q : 0 ≤ p ∧ p ≤ 2200000
  · simp only [decide_eq_true q, Bool.not_true]
    refine Ev.step (fun k => spec_StepAtPlace.j0.eq_2 ..) (evNeg (by simp) ?_)
    have h := good_iff.1 c
    unfold satRes; rw [if_pos ⟨c, q⟩]
    exact evEq (satSpec_l0 l h.1.2 l [] p 0 rfl h.2.1 q.1 q.2 (by omega) (by simp)) (by simp)
  · simp only [decide_eq_false q, Bool.not_false]
    exact bad (fun r => q r.2)
theorem satImpl_l0 {l : List S71} (hg : goodSegs l = true) {p : Int} (h0 : 0 ≤ p) : ∀ (d : Nat) (lo hi : Int), hi - lo ≤ d → 0 ≤ lo → lo ≤ sat l p → sat l p ≤ hi → hi ≤ stps l →
    Ev (fun k => impl_StepAtPlace.l0 k l p lo hi) (sat l p, true) := by
  have h := good_iff.1 hg
  have hb := sat_bd h.2.1 h0
  intro d
  induction d with
  | zero =>
    intro lo hi hd hl h1 h2 h3
    refine Ev.step (fun k => impl_StepAtPlace.l0.eq_2 ..) (evNeg (by omega) (evNow ?_))
    rw [show lo = sat l p by omega]
  | succ d ih =>
    intro lo hi hd hl h1 h2 h3
    refine Ev.step (fun k => impl_StepAtPlace.l0.eq_2 ..) ?_
    refine evBy (fun c => ?_) (fun c => evNow (by rw [show lo = sat l p by omega]))
    rw [wrapi (x := lo + hi) (by omega) (by omega), wrapi (x := lo + hi + 1) (by omega) (by omega), Int.tdiv_eq_ediv_of_nonneg (by omega), wrapi (x := (lo + hi + 1) / 2) (by omega) (by omega), wrapi (x := (lo + hi + 1) / 2 - 1) (by omega) (by omega)]
    refine Ev.bind (placeOf_ev (by omega) h.2.1 (show 0 ≤ (lo + hi + 1) / 2 by omega) (by omega)) ?_
    refine evBy (fun q => ih _ _ (by omega) (by omega) ?_ h2 h3) (fun q => ih _ _ (by omega) hl h1 ?_ (by omega))
    · rcases Int.lt_or_le (sat l p) ((lo + hi + 1) / 2) with r | r
      · have := plc_le h.2.1 (s := sat l p + 1) (t := (lo + hi + 1) / 2) (by omega) (by omega) (by omega)
        have := hb.2.2.2 (by omega)
        omega
      · exact r
    · rcases Int.lt_or_le (sat l p) ((lo + hi + 1) / 2) with r | r
      · omega
      · have := plc_le h.2.1 (s := (lo + hi + 1) / 2) (t := sat l p) (by omega) (by omega) (by omega)
        omega
theorem implSat_ev (l : List S71) (p : Int) : Ev (fun k => impl_StepAtPlace.f k l p) (satRes l p) := by
  have bad : ¬ (goodSegs l = true ∧ 0 ≤ p ∧ p ≤ 2200000) → Ev (fun k => impl_StepAtPlace.j0 k l p true) (satRes l p) := fun h =>
    Ev.step (fun k => impl_StepAtPlace.j0.eq_2 ..) (evPos rfl (evNow (by unfold satRes; rw [if_neg h])))
  unfold impl_StepAtPlace.f
  refine Ev.bind (areSegs_ev l) (evBy (fun c => evBy (fun q => bad (fun r => by omega)) (fun q => ?_)) (fun c => bad (fun q => c q.1)))
  by_cases q' : p > 2200000
  · simp only [decide_eq_true q']
    exact bad (fun r => by omega)
  · simp only [decide_eq_false q']
    refine Ev.step (fun k => impl_StepAtPlace.j0.eq_2 ..) (evNeg (by simp) ?_)
    have h := good_iff.1 c
    have hb := sat_bd (p := p) h.2.1 (by omega)
    have hs := stps_bd h.2.1
    refine Ev.bind (allSteps_ev (by omega) h.2.1) ?_
    unfold satRes; rw [if_pos ⟨c, by omega, by omega⟩]
    exact satImpl_l0 c (by omega) (stps l).toNat 0 (stps l) (by omega) (by omega) hb.1 hb.2.1 (by omega)
-- ** FnExactStepAtPlace
theorem FnExactStepAtPlace (l0 : List S73) (a1 : Int) (w0 : Opn.Lst (fun x : S73 => Opn.I64 x.f0 ∧ Opn.I64 x.f1) l0) (_ : Opn.I64 a1) : ∃ k, laws_FnExactStepAtPlace.f k l0 a1 = some true := by
  refine Ev.rounds (g := fun k => laws_FnExactStepAtPlace.f k l0 a1) ?_
  unfold laws_FnExactStepAtPlace.f
  rw [szSeg_eq l0 w0.1]
  simp only [Option.bind_some]
  by_cases c : l0.length ≤ 1048576
  · rw [if_pos c]
    refine evNeg (by omega) (Ev.bind (toSeg_ev l0 c) (Ev.bind (specSat_ev (l0.map cvSeg) a1) (Ev.bind (toSeg_ev l0 c) (Ev.bind (implSat_ev (l0.map cvSeg) a1) ?_))))
    simp only [bne_self_eq_false, if_true]
    exact Ev.step (fun k => laws_FnExactStepAtPlace.j0.eq_2 ..) (evNeg (by simp) (Ev.bind (toSeg_ev l0 c) (Ev.bind (eqSeg_ev _ (by simp; omega)) (evPos rfl (Ev.now _)))))
  · rw [if_neg c]
    exact evPos (by omega) (Ev.now _)
end Go.Proofs.Ytgkhikceollpkaa.Pure
