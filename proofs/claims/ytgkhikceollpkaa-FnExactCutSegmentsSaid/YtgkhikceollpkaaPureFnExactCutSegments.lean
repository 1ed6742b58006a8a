/- The program's CutSegments returns what the reference's returns, for all arguments.: the plain part: what the program computes and what the reference computes agree, for all arguments. No conditions beyond the arguments' own kinds. -/
import Derived.Test.YtgkhikceollpkaaPFnExactCutSegmentsx0
import Derived.Test.YtgkhikceollpkaaPFnExactCutSegmentsx1
import Derived.Test.YtgkhikceollpkaaPFnExactCutSegmentsx2
import Derived.Test.YtgkhikceollpkaaPFnExactCutSegmentsx3
import Derived.Test.YtgkhikceollpkaaPFnExactCutSegmentsx4
import Derived.Test.YtgkhikceollpkaaOpn
namespace Go.Proofs.Ytgkhikceollpkaa.Pure
open Go.RowKit Go.Proofs.Ytgkhikceollpkaa.PFnExactCutSegments Go.Proofs.YtgkhikceollpkaaW.PrintWords Go.Proofs.YtgkhikceollpkaaW.PrintLast Go.Proofs.YtgkhikceollpkaaW.PrintMore
-- ** base
theorem wrapi {x : Int} (h0 : -9223372036854775808 ≤ x) (h1 : x ≤ 9223372036854775807) : wrap64 x = x := by unfold wrap64; omega
theorem evPos {α : Type} {c : Prop} [Decidable c] {g f : Nat → Option α} {r : α} (h : c) (e : Ev g r) : Ev (fun k => if c then g k else f k) r := by
  simp only [if_pos h]; exact e
theorem evNeg {α : Type} {c : Prop} [Decidable c] {g f : Nat → Option α} {r : α} (h : ¬ c) (e : Ev f r) : Ev (fun k => if c then g k else f k) r := by
  simp only [if_neg h]; exact e
theorem evNow {α : Type} {r q : α} (h : r = q) : Ev (fun _ => some r) q := by subst h; exact Ev.now r
theorem evEq {α : Type} {g : Nat → Option α} {r q : α} (h : Ev g r) (e : r = q) : Ev g q := e ▸ h
theorem evBy {α : Type} {c : Prop} [Decidable c] {g f : Nat → Option α} {r : α} (h : c → Ev g r) (h' : ¬ c → Ev f r) : Ev (fun k => if c then g k else f k) r := by
  by_cases hc : c
  · simp only [if_pos hc]; exact h hc
  · simp only [if_neg hc]; exact h' hc
theorem someF {p : Prop} [Decidable p] (h : ¬ p) : some false = some (decide p) := by rw [decide_eq_false h]
theorem someD {p q : Prop} [Decidable p] [Decidable q] (h : p ↔ q) : some (decide p) = some (decide q) := by rw [decide_eq_decide.mpr h]
theorem decF {p : Prop} [Decidable p] (h : ¬ p) : false = decide p := by rw [decide_eq_false h]
theorem decD {p q : Prop} [Decidable p] [Decidable q] (h : p ↔ q) : decide p = decide q := decide_eq_decide.mpr h
theorem rgEnd {α : Type} {l pre : List α} (h : l = pre ++ []) : ¬ ((pre.length : Int) < (l.length : Int)) := by subst h; simp
theorem rgHead {α : Type} {l pre suf : List α} {x : α} (h : l = pre ++ x :: suf) (hl : l.length ≤ 4611686018427387904) (z : α) :
    (pre.length : Int) < (l.length : Int) ∧ (0 : Int) ≤ (pre.length : Int) ∧ wrap64 ((pre.length : Int) + 1) = ((pre ++ [x]).length : Int) ∧ l.getD (pre.length : Int).toNat z = x ∧ l = (pre ++ [x]) ++ suf := by
  subst h
  simp at hl
  refine ⟨by simp; omega, by omega, ?_, by simp, by simp⟩
  rw [wrapi (by omega) (by omega)]; simp
theorem in_eq (a b c : Int) : spec_l1In.f a b c = some (decide (b ≤ a ∧ a ≤ c)) := by
  unfold spec_l1In.f
  split
  · exact someD (by omega)
  · exact someF (by omega)
theorem mx_eq (a b : Int) : mx a b = max a b := by unfold mx; omega
theorem mn_eq (a b : Int) : mn a b = min a b := by unfold mn; omega
-- ** lists
theorem setAt {α : Type} (A B : List α) (z v : α) (n : Nat) (h : n = A.length) : (A ++ z :: B).set n v = A ++ v :: B := by subst h; simp
theorem getAt {α : Type} (A B : List α) (z v : α) (n : Nat) (h : n = A.length) : (A ++ v :: B).getD n z = v := by subst h; simp
-- ** seglaw
def cvSeg (x : S73) : S71 := ⟨x.f0, x.f1⟩
theorem szSeg_eq (l : List S73) (h : l.length ≤ 9223372036854775807) : laws_szSegmentS.f l 1048576 = some (if l.length ≤ 1048576 then 1048576 - (l.length : Int) else -1) := by
  unfold laws_szSegmentS.f
  rw [wrapi (by omega) (by omega)]
  by_cases c : l.length ≤ 1048576
  · rw [if_neg (by omega), if_pos c]
  · rw [if_pos (by omega), if_neg c]
theorem toSeg_l0 (l : List S73) (hl : l.length ≤ 1048576) : ∀ (suf pre : List S73), l = pre ++ suf →
    Ev (fun k => laws_toSegmentS.l0 k l (pre.map cvSeg ++ List.replicate suf.length z71) (pre.length : Int)) (l.map cvSeg) := by
  intro suf
  induction suf with
  | nil =>
    intro pre h
    refine Ev.step (fun k => laws_toSegmentS.l0.eq_2 ..) ?_
    simp only [rgEnd h, if_false]
    exact evNow (by subst h; simp)
  | cons x suf ih =>
    intro pre h
    obtain ⟨h1, h2, h3, h4, h5⟩ := rgHead h (by omega) z73
    refine Ev.step (fun k => laws_toSegmentS.l0.eq_2 ..) ?_
    simp only [h1, h2, h3, rd_T73, h4, if_true, laws_toSegment.f, Option.bind_some]
    refine evPos (by simp; omega) ?_
    have e : (pre.map cvSeg ++ List.replicate (x :: suf).length z71).set (pre.length : Int).toNat ⟨x.f0, x.f1⟩ = (pre ++ [x]).map cvSeg ++ List.replicate suf.length z71 := by
      rw [List.length_cons, List.replicate_succ, setAt _ _ _ _ _ (by simp)]
      simp [cvSeg]
    rw [e]
    exact ih _ h5
theorem toSeg_ev (l : List S73) (hl : l.length ≤ 1048576) : Ev (fun k => laws_toSegmentS.f k l) (l.map cvSeg) := by
  unfold laws_toSegmentS.f
  refine evPos (by omega) (evPos (by omega) ?_)
  have := toSeg_l0 l hl l [] rfl
  simpa using this
theorem eqSeg_l0 (l : List S71) (hl : l.length ≤ 4611686018427387904) : ∀ (suf pre : List S71), l = pre ++ suf → Ev (fun k => laws_eqSegmentS.l0 k l l (pre.length : Int)) true := by
  intro suf
  induction suf with
  | nil =>
    intro pre h
    refine Ev.step (fun k => laws_eqSegmentS.l0.eq_2 ..) ?_
    simp only [rgEnd h, if_false]
    exact Ev.now _
  | cons x suf ih =>
    intro pre h
    obtain ⟨h1, h2, h3, h4, h5⟩ := rgHead h hl z71
    refine Ev.step (fun k => laws_eqSegmentS.l0.eq_2 ..) ?_
    simp only [h1, h2, h3, if_true, laws_eqSegment.f, Option.bind_some]
    exact ih _ h5
theorem eqSeg_ev (l : List S71) (hl : l.length ≤ 4611686018427387904) : Ev (fun k => laws_eqSegmentS.f k l l) true := by
  unfold laws_eqSegmentS.f
  exact evPos rfl (eqSeg_l0 l hl l [] rfl)
-- ** segmark
def mkSeg : List S71 → Int → List S71
  | [], _ => []
  | _ :: l, k => ⟨k, k + 1⟩ :: mkSeg l (k + 2)
theorem mkSeg_length : ∀ (l : List S71) (k : Int), (mkSeg l k).length = l.length
  | [], _ => rfl
  | _ :: l, k => by simp [mkSeg, mkSeg_length l]
theorem markSeg_l0 : ∀ (suf pre : List S71) (k : Int), pre.length + suf.length ≤ 1048576 → 0 ≤ k → k ≤ 1 + 2 * (pre.length : Int) →
    Ev (fun n => laws_markSegmentS.l0 n (pre ++ suf) k (pre.length : Int)) (k + 2 * (suf.length : Int), pre ++ mkSeg suf k) := by
  intro suf
  induction suf with
  | nil =>
    intro pre k hl h0 hk
    refine Ev.step (fun k => laws_markSegmentS.l0.eq_2 ..) ?_
    simp only [rgEnd (l := pre ++ []) (pre := pre) rfl, if_false]
    exact evNow (by simp [mkSeg])
  | cons x suf ih =>
    intro pre k hl h0 hk
    obtain ⟨h1, h2, h3, h4, h5⟩ := rgHead (l := pre ++ x :: suf) (pre := pre) rfl (by simp at hl ⊢; omega) z71
    simp at hl
    refine Ev.step (fun k => laws_markSegmentS.l0.eq_2 ..) ?_
    simp only [h1, h2, h3, rd_T71, h4, if_true, Option.bind_some]
    rw [setAt _ _ _ _ _ (by simp), getAt _ _ _ _ _ (by simp), setAt _ _ _ _ _ (by simp), wrapi (x := k + 1) (by omega) (by omega), wrapi (by omega) (by omega)]
    have := ih (pre ++ [⟨k, k + 1⟩]) (k + 2) (by simp; omega) (by omega) (by simp; omega)
    simp only [List.append_assoc, List.singleton_append] at this
    have e : ((pre ++ [x]).length : Int) = ((pre ++ [⟨k, k + 1⟩] : List S71).length : Int) := by simp
    rw [e, show k + 1 + 1 = k + 2 by omega]
    exact evEq this (by simp [mkSeg]; omega)
theorem markSeg_ev (l : List S71) (hl : l.length ≤ 1048576) : Ev (fun n => laws_markSegmentS.f n l 1) (1 + 2 * (l.length : Int), mkSeg l 1) := by
  unfold laws_markSegmentS.f
  exact markSeg_l0 l [] 1 (by simpa using hl) (by omega) (by simp)
theorem heldSeg_l0 : ∀ (suf pre : List S71) (k : Int), pre.length + suf.length ≤ 1048576 → 0 ≤ k → k ≤ 1 + 2 * (pre.length : Int) →
    Ev (fun n => laws_heldSegmentS.l0 n (pre ++ mkSeg suf k) k (pre.length : Int)) (k + 2 * (suf.length : Int)) := by
  intro suf
  induction suf with
  | nil =>
    intro pre k hl h0 hk
    refine Ev.step (fun k => laws_heldSegmentS.l0.eq_2 ..) ?_
    simp only [mkSeg, rgEnd (l := pre ++ []) (pre := pre) rfl, if_false]
    exact evNow (by simp)
  | cons x suf ih =>
    intro pre k hl h0 hk
    simp only [mkSeg]
    simp at hl
    obtain ⟨h1, h2, h3, h4, h5⟩ := rgHead (l := pre ++ ⟨k, k + 1⟩ :: mkSeg suf (k + 2)) (pre := pre) rfl (by simp [mkSeg_length]; omega) z71
    refine Ev.step (fun k => laws_heldSegmentS.l0.eq_2 ..) ?_
    simp only [h1, h2, h3, rd_T71, h4, if_true]
    rw [wrapi (x := k + 1) (by omega) (by omega), wrapi (by omega) (by omega)]
    simp only [if_true]
    rw [h5, show k + 1 + 1 = k + 2 by omega]
    refine evEq (ih (pre ++ [⟨k, k + 1⟩]) (k + 2) (by simp; omega) (by omega) (by simp; omega)) (by simp; omega)
theorem heldSeg_ev (l : List S71) (hl : l.length ≤ 1048576) : Ev (fun n => laws_heldSegmentS.f n (mkSeg l 1) 1) (1 + 2 * (l.length : Int)) := by
  unfold laws_heldSegmentS.f
  exact heldSeg_l0 l [] 1 (by simpa using hl) (by omega) (by simp)
-- ** seggood
def seg (x : S71) : Bool := decide (1 ≤ x.f0 ∧ x.f0 ≤ 500 ∧ 900 ≤ x.f1 ∧ x.f1 ≤ 1100)
theorem seg_iff {x : S71} : seg x = true ↔ 1 ≤ x.f0 ∧ x.f0 ≤ 500 ∧ 900 ≤ x.f1 ∧ x.f1 ≤ 1100 := by simp [seg]
def stps : List S71 → Int
  | [] => 0
  | x :: l => x.f0 + stps l
def goodSegs (l : List S71) : Bool := decide (1 ≤ l.length ∧ l.length ≤ 20) && (l.all seg && decide (stps l ≤ 2000))
theorem good_iff {l : List S71} : goodSegs l = true ↔ (1 ≤ l.length ∧ l.length ≤ 20) ∧ l.all seg = true ∧ stps l ≤ 2000 := by simp [goodSegs]
theorem stSteps_l0 (l : List S71) (hl : l.length ≤ 1048576) : ∀ (suf pre : List S71) (a : Int), l = pre ++ suf → suf.all seg = true → 0 ≤ a → a ≤ 500 * (pre.length : Int) →
    Ev (fun k => spec_stSteps.l0 k a l (l.length : Int) (pre.length : Int)) (a + stps suf) := by
  intro suf
  induction suf with
  | nil =>
    intro pre a h hs h0 ha
    refine Ev.step (fun k => spec_stSteps.l0.eq_2 ..) ?_
    simp only [rgEnd h, if_false]
    exact evNow (by simp [stps])
  | cons x suf ih =>
    intro pre a h hs h0 ha
    obtain ⟨h1, h2, h3, h4, h5⟩ := rgHead h (by omega) z71
    simp only [List.all_cons, Bool.and_eq_true] at hs
    have hx := seg_iff.1 hs.1
    have hpl : pre.length ≤ 1048576 := by omega
    refine Ev.step (fun k => spec_stSteps.l0.eq_2 ..) ?_
    simp only [h1, h2, h3, rd_T71, h4, if_true]
    rw [wrapi (by omega) (by omega)]
    exact evEq (ih _ _ h5 hs.2 (by omega) (by simp; omega)) (by simp only [stps]; omega)
theorem stSteps_ev {l : List S71} (hl : l.length ≤ 1048576) (hs : l.all seg = true) : Ev (fun k => spec_stSteps.f k l) (stps l) :=
  evEq (stSteps_l0 l hl l [] 0 rfl hs (by omega) (by simp)) (by simp)
theorem stSegment_eq (x : S71) : spec_stSegment.f x.f0 x.f1 = some (seg x) := by
  unfold spec_stSegment.f; simp only [in_eq, Option.bind_some, decide_eq_true_eq]
  split
  · exact someD (by omega)
  · exact someF (by omega)
theorem stGood_l0 (l : List S71) (hl : l.length ≤ 1048576) : ∀ (suf pre : List S71), l = pre ++ suf → pre.all seg = true →
    Ev (fun k => spec_stGood.l0 k l l (l.length : Int) (pre.length : Int)) (suf.all seg && decide (stps l ≤ 2000)) := by
  intro suf
  induction suf with
  | nil =>
    intro pre h hp
    refine Ev.step (fun k => spec_stGood.l0.eq_2 ..) ?_
    simp only [rgEnd h, if_false]
    refine Ev.bind (stSteps_ev hl (by rw [h]; simpa using hp)) (evNow (by simp))
  | cons x suf ih =>
    intro pre h hp
    obtain ⟨h1, h2, h3, h4, h5⟩ := rgHead h (by omega) z71
    refine Ev.step (fun k => spec_stGood.l0.eq_2 ..) ?_
    simp only [h1, h2, h3, rd_T71, h4, if_true, stSegment_eq, Option.bind_some]
    refine evBy (fun c => evEq (ih _ h5 (by simp at hp ⊢; exact ⟨hp, c⟩)) (by simp [c])) (fun c => evNow (by simp [c]))
theorem stGood_ev (l : List S71) : Ev (fun k => spec_stGood.f k l) (goodSegs l) := by
  unfold spec_stGood.f goodSegs
  simp only [in_eq, Option.bind_some, decide_eq_true_eq]
  refine evBy (fun c => evEq (stGood_l0 l (by omega) l [] rfl rfl) ?_) (fun c => evNow ?_)
  · rw [show decide (1 ≤ l.length ∧ l.length ≤ 20) = true from decide_eq_true (by omega)]; rfl
  · rw [show decide (1 ≤ l.length ∧ l.length ≤ 20) = false from decide_eq_false (by omega)]; rfl
theorem allSteps_l0 (l : List S71) (hl : l.length ≤ 1048576) : ∀ (suf pre : List S71) (a : Int), l = pre ++ suf → suf.all seg = true → 0 ≤ a → a ≤ 500 * (pre.length : Int) →
    Ev (fun k => impl_allSteps.l0 k a l (l.length : Int) (pre.length : Int)) (a + stps suf) := by
  intro suf
  induction suf with
  | nil =>
    intro pre a h hs h0 ha
    refine Ev.step (fun k => impl_allSteps.l0.eq_2 ..) ?_
    simp only [rgEnd h, if_false]
    exact evNow (by simp [stps])
  | cons x suf ih =>
    intro pre a h hs h0 ha
    obtain ⟨h1, h2, h3, h4, h5⟩ := rgHead h (by omega) z71
    simp only [List.all_cons, Bool.and_eq_true] at hs
    have hx := seg_iff.1 hs.1
    have hpl : pre.length ≤ 1048576 := by omega
    refine Ev.step (fun k => impl_allSteps.l0.eq_2 ..) ?_
    simp only [h1, h2, h3, rd_T71, h4, if_true]
    rw [wrapi (by omega) (by omega)]
    exact evEq (ih _ _ h5 hs.2 (by omega) (by simp; omega)) (by simp only [stps]; omega)
theorem allSteps_ev {l : List S71} (hl : l.length ≤ 1048576) (hs : l.all seg = true) : Ev (fun k => impl_allSteps.f k l) (stps l) :=
  evEq (allSteps_l0 l hl l [] 0 rfl hs (by omega) (by simp)) (by simp)
theorem areSegs_l0 (l : List S71) (hl : l.length ≤ 1048576) : ∀ (suf pre : List S71), l = pre ++ suf → pre.all seg = true →
    Ev (fun k => impl_AreSegments.l0 k l l (l.length : Int) (pre.length : Int)) (suf.all seg && decide (stps l ≤ 2000)) := by
  intro suf
  induction suf with
  | nil =>
    intro pre h hp
    refine Ev.step (fun k => impl_AreSegments.l0.eq_2 ..) ?_
    simp only [rgEnd h, if_false]
    refine Ev.bind (allSteps_ev hl (by rw [h]; simpa using hp)) (evNow (by simp))
  | cons x suf ih =>
    intro pre h hp
    obtain ⟨h1, h2, h3, h4, h5⟩ := rgHead h (by omega) z71
    refine Ev.step (fun k => impl_AreSegments.l0.eq_2 ..) ?_
    simp only [h1, h2, h3, rd_T71, h4, if_true]
    have bad : ¬ (1 ≤ x.f0 ∧ x.f0 ≤ 500 ∧ 900 ≤ x.f1 ∧ x.f1 ≤ 1100) → false = ((x :: suf).all seg && decide (stps l ≤ 2000)) := fun c => by
      have : seg x = false := decide_eq_false c
      simp [this]
    refine evBy (fun c => evNow (bad (by omega))) (fun c => evBy (fun c => evNow (bad (by omega))) (fun c => evBy (fun c => evNow (bad (by omega))) (fun c => evBy (fun c => evNow (bad (by omega))) (fun c => ?_))))
    have hx : seg x = true := seg_iff.2 (by omega)
    exact evEq (ih _ h5 (by simp at hp ⊢; exact ⟨hp, hx⟩)) (by simp [hx])
theorem areSegs_ev (l : List S71) : Ev (fun k => impl_AreSegments.f k l) (goodSegs l) := by
  unfold impl_AreSegments.f goodSegs
  refine evBy (fun c => ?_) (fun c => ?_)
  · refine Ev.step (fun k => impl_AreSegments.j0.eq_2 ..) (evPos rfl (evNow ?_))
    rw [show decide (1 ≤ l.length ∧ l.length ≤ 20) = false from decide_eq_false (by omega)]; rfl
  · refine Ev.step (fun k => impl_AreSegments.j0.eq_2 ..) ?_
    simp only [decide_eq_true_eq]
    refine evBy (fun c' => evNow ?_) (fun c' => evEq (areSegs_l0 l (by omega) l [] rfl rfl) ?_)
    · rw [show decide (1 ≤ l.length ∧ l.length ≤ 20) = false from decide_eq_false (by omega)]; rfl
    · rw [show decide (1 ≤ l.length ∧ l.length ≤ 20) = true from decide_eq_true (by omega)]; rfl
-- ** has
def hasStep (l : List S71) (s : Int) : Bool := goodSegs l && decide (0 ≤ s ∧ s ≤ stps l)
theorem hasStep_iff {l : List S71} {s : Int} : hasStep l s = true ↔ goodSegs l = true ∧ 0 ≤ s ∧ s ≤ stps l := by simp [hasStep]
theorem stHas_ev (l : List S71) (s : Int) : Ev (fun k => spec_stHas.f k l s) (hasStep l s) := by
  unfold spec_stHas.f hasStep
  refine Ev.bind (stGood_ev l) (evBy (fun c => ?_) (fun c => evNow (by simp [c])))
  have h := good_iff.1 c
  refine Ev.bind (stSteps_ev (by omega) h.2.1) ?_
  simp only [in_eq, Option.bind_some]
  exact evNow (by simp [c])
theorem isStepOf_ev {l : List S71} (s : Int) (c : goodSegs l = true) : Ev (fun k => impl_isStepOf.f k l s) (decide (0 ≤ s ∧ s ≤ stps l)) := by
  have h := good_iff.1 c
  unfold impl_isStepOf.f
  refine evBy (fun q => Ev.bind (allSteps_ev (by omega) h.2.1) (evNow (decD (by omega)))) (fun q => evNow (decF (by omega)))
-- ** place
theorem l1Least_eq (a b : Int) : spec_l1Least.f a b = some (min a b) := by
  unfold spec_l1Least.f; split <;> (congr 1; omega)
-- ** most
theorem l1Most_eq (a b : Int) : spec_l1Most.f a b = some (max a b) := by
  unfold spec_l1Most.f; split <;> (congr 1; omega)
-- ** CutSegments_
def cutAll (f t : Int) : Int → List S71 → List S71
  | _, [] => []
  | at_, x :: l => if max at_ f < min (at_ + x.f0) t then ⟨min (at_ + x.f0) t - max at_ f, x.f1⟩ :: cutAll f t (at_ + x.f0) l else cutAll f t (at_ + x.f0) l
theorem cutAll_len (f t : Int) : ∀ (l : List S71) (a : Int), (cutAll f t a l).length ≤ l.length
  | [], _ => by simp [cutAll]
  | x :: l, a => by
    have := cutAll_len f t l (a + x.f0)
    simp only [cutAll]; split <;> simp <;> omega
def cutRes (l : List S71) (f t : Int) : List S71 × Bool := if hasStep l f = true ∧ hasStep l t = true ∧ f < t then (cutAll f t 0 l, true) else ([], false)
theorem cutRes_len (l : List S71) (f t : Int) : (cutRes l f t).1.length ≤ l.length := by
  unfold cutRes; split
  · exact cutAll_len f t l 0
  · simp
theorem cutSpec_l0 {f t : Int} (hf : 0 ≤ f ∧ f ≤ 2000) (ht : 0 ≤ t ∧ t ≤ 2000) (l : List S71) (hl : l.length ≤ 20) : ∀ (suf pre out : List S71) (a : Int), l = pre ++ suf → suf.all seg = true → out.length ≤ pre.length → 0 ≤ a → a ≤ 500 * (pre.length : Int) →
    Ev (fun k => spec_CutSegments.l0 k f t out a l (l.length : Int) (pre.length : Int)) (out ++ cutAll f t a suf, true) := by
  intro suf
  induction suf with
  | nil =>
    intro pre out a h hs ho h0 ha
    refine Ev.step (fun k => spec_CutSegments.l0.eq_2 ..) ?_
    simp only [rgEnd h, if_false]
    exact evNow (by simp [cutAll])
  | cons x suf ih =>
    intro pre out a h hs ho h0 ha
    obtain ⟨h1, h2, h3, h4, h5⟩ := rgHead h (by omega) z71
    simp only [List.all_cons, Bool.and_eq_true] at hs
    have hx := seg_iff.1 hs.1
    have hpl : pre.length ≤ 20 := by omega
    refine Ev.step (fun k => spec_CutSegments.l0.eq_2 ..) ?_
    simp only [h1, h2, h3, rd_T71, h4, if_true]
    rw [wrapi (x := a + x.f0) (by omega) (by omega)]
    simp only [l1Least_eq, l1Most_eq, Option.bind_some]
    rw [wrapi (x := min (a + x.f0) t - max a f) (by omega) (by omega)]
    by_cases c : max a f < min (a + x.f0) t
    · refine evPos (by omega) (evPos (by omega) (evEq (ih _ _ _ h5 hs.2 (by simp; omega) (by omega) (by simp; omega)) ?_))
      simp [cutAll, c]
    · refine evNeg (by omega) (evEq (ih _ _ _ h5 hs.2 (by simp; omega) (by omega) (by simp; omega)) ?_)
      simp [cutAll, c]
theorem cutImpl_l0 {f t : Int} (hf : 0 ≤ f ∧ f ≤ 2000) (ht : 0 ≤ t ∧ t ≤ 2000) (l : List S71) (hl : l.length ≤ 20) : ∀ (suf pre out : List S71) (a : Int), l = pre ++ suf → suf.all seg = true → out.length ≤ pre.length → 0 ≤ a → a ≤ 500 * (pre.length : Int) →
    Ev (fun k => impl_CutSegments.l0 k f t out a l (l.length : Int) (pre.length : Int)) (out ++ cutAll f t a suf, true) := by
  intro suf
  induction suf with
  | nil =>
    intro pre out a h hs ho h0 ha
    refine Ev.step (fun k => impl_CutSegments.l0.eq_2 ..) ?_
    simp only [rgEnd h, if_false]
    exact evNow (by simp [cutAll])
  | cons x suf ih =>
    intro pre out a h hs ho h0 ha
    obtain ⟨h1, h2, h3, h4, h5⟩ := rgHead h (by omega) z71
    simp only [List.all_cons, Bool.and_eq_true] at hs
    have hx := seg_iff.1 hs.1
    have hpl : pre.length ≤ 20 := by omega
    refine Ev.step (fun k => impl_CutSegments.l0.eq_2 ..) ?_
    simp only [h1, h2, h3, rd_T71, h4, if_true, mx_eq, mn_eq]
    rw [wrapi (x := a + x.f0) (by omega) (by omega), wrapi (x := min (a + x.f0) t - max a f) (by omega) (by omega)]
    by_cases c : max a f < min (a + x.f0) t
    · refine evPos c (evPos (by omega) (evEq (ih _ _ _ h5 hs.2 (by simp; omega) (by omega) (by simp; omega)) ?_))
      simp [cutAll, c]
    · refine evNeg c (evEq (ih _ _ _ h5 hs.2 (by simp; omega) (by omega) (by simp; omega)) ?_)
      simp [cutAll, c]
theorem specCut_ev (l : List S71) (f t : Int) : Ev (fun k => spec_CutSegments.f k l f t) (cutRes l f t) := by
  have bad : ¬ (hasStep l f = true ∧ hasStep l t = true ∧ f < t) → Ev (fun k => spec_CutSegments.j0 k l f t true) (cutRes l f t) := fun h =>
    Ev.step (fun k => spec_CutSegments.j0.eq_2 ..) (evPos rfl (evNow (by unfold cutRes; rw [if_neg h])))
  unfold spec_CutSegments.f
  refine Ev.bind (stHas_ev l f) (evBy (fun c => Ev.bind (stHas_ev l t) (evBy (fun c' => ?_) (fun c' => bad (fun q => c' q.2.1)))) (fun c => bad (fun q => c q.1)))
  by_cases q : f ≥ t
  · simp only [decide_eq_true q]
    exact bad (fun r => by omega)
  · simp only [decide_eq_false q]
    refine Ev.step (fun k => spec_CutSegments.j0.eq_2 ..) (evNeg (by simp) ?_)
    obtain ⟨hg, f0, f1⟩ := hasStep_iff.1 c
    obtain ⟨_, t0, t1⟩ := hasStep_iff.1 c'
    have h := good_iff.1 hg
    unfold cutRes; rw [if_pos ⟨c, c', by omega⟩]
    exact evEq (cutSpec_l0 (by omega) (by omega) l h.1.2 l [] [] 0 rfl h.2.1 (by simp) (by omega) (by simp)) (by simp)
theorem implCut_ev (l : List S71) (f t : Int) : Ev (fun k => impl_CutSegments.f k l f t) (cutRes l f t) := by
  have bad : ¬ (hasStep l f = true ∧ hasStep l t = true ∧ f < t) → Ev (fun k => impl_CutSegments.j0 k l f t true) (cutRes l f t) := fun h =>
    Ev.step (fun k => impl_CutSegments.j0.eq_2 ..) (evPos rfl (evNow (by unfold cutRes; rw [if_neg h])))
  unfold impl_CutSegments.f
  refine Ev.bind (areSegs_ev l) (evBy (fun g => Ev.bind (isStepOf_ev f g) (evBy (fun c => Ev.bind (isStepOf_ev t g) (evBy (fun c' => ?_) (fun c' => bad (fun q => c' (decide_eq_true (hasStep_iff.1 q.2.1).2))))) (fun c => bad (fun q => c (decide_eq_true (hasStep_iff.1 q.1).2))))) (fun g => bad (fun q => g (hasStep_iff.1 q.1).1)))
  have c1 := of_decide_eq_true c
  have c2 := of_decide_eq_true c'
  by_cases q : f ≥ t
  · simp only [decide_eq_true q]
    exact bad (fun r => by omega)
  · simp only [decide_eq_false q]
    refine Ev.step (fun k => impl_CutSegments.j0.eq_2 ..) (evNeg (by simp) ?_)
    have h := good_iff.1 g
    unfold cutRes; rw [if_pos ⟨hasStep_iff.2 ⟨g, c1⟩, hasStep_iff.2 ⟨g, c2⟩, by omega⟩]
    exact evEq (cutImpl_l0 (by omega) (by omega) l h.1.2 l [] [] 0 rfl h.2.1 (by simp) (by omega) (by simp)) (by simp)
-- ** FnExactCutSegments
theorem FnExactCutSegments (l0 : List S73) (a1 a2 : Int) (w0 : Opn.Lst (fun x : S73 => Opn.I64 x.f0 ∧ Opn.I64 x.f1) l0) (_ : Opn.I64 a1) (_ : Opn.I64 a2) : ∃ k, laws_FnExactCutSegments.f k l0 a1 a2 = some true := by
  refine Ev.rounds (g := fun k => laws_FnExactCutSegments.f k l0 a1 a2) ?_
  unfold laws_FnExactCutSegments.f
  rw [szSeg_eq l0 w0.1]
  simp only [Option.bind_some]
  by_cases c : l0.length ≤ 1048576
  · rw [if_pos c]
    have hm : (l0.map cvSeg).length ≤ 1048576 := by simpa using c
    have hr : (cutRes (l0.map cvSeg) a1 a2).1.length ≤ 1048576 := by have := cutRes_len (l0.map cvSeg) a1 a2; omega
    refine evNeg (by omega) (Ev.bind (toSeg_ev l0 c) (Ev.bind (specCut_ev (l0.map cvSeg) a1 a2) (Ev.bind (toSeg_ev l0 c) (Ev.bind (implCut_ev (l0.map cvSeg) a1 a2) (Ev.bind (eqSeg_ev _ (by omega)) ?_)))))
    simp only [bne_self_eq_false, if_true]
    refine Ev.step (fun k => laws_FnExactCutSegments.j0.eq_2 ..) (evNeg (by simp) (Ev.bind (toSeg_ev l0 c) (Ev.bind (eqSeg_ev _ (by omega)) (evPos rfl (Ev.bind (markSeg_ev _ hm) (evNeg (by dsimp only; omega) (Ev.bind (eqSeg_ev _ (by omega)) ?_)))))))
    simp only [bne_self_eq_false, if_true]
    refine Ev.step (fun k => laws_FnExactCutSegments.j1.eq_2 ..) (evNeg (by simp) (Ev.bind (markSeg_ev _ hr) (Ev.bind (heldSeg_ev _ hr) (evNeg (by omega) (evPos rfl (Ev.bind (toSeg_ev l0 c) (Ev.bind (implCut_ev _ a1 a2) (Ev.bind (eqSeg_ev _ (by omega)) ?_))))))))
    simp only [bne_self_eq_false, if_true]
    exact Ev.step (fun k => laws_FnExactCutSegments.j2.eq_2 ..) (evNeg (by simp) (Ev.bind (heldSeg_ev _ hr) (evNeg (by omega) (evPos rfl (Ev.now _)))))
  · rw [if_neg c]
    exact evPos (by omega) (Ev.now _)
end Go.Proofs.Ytgkhikceollpkaa.Pure
