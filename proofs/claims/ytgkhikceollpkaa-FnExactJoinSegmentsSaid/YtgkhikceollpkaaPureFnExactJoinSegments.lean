/- The program's JoinSegments returns what the reference's returns, for all arguments.: the plain part: what the program computes and what the reference computes agree, for all arguments. No conditions beyond the arguments' own kinds. -/
import Derived.Test.YtgkhikceollpkaaPFnExactJoinSegmentsx0
import Derived.Test.YtgkhikceollpkaaPFnExactJoinSegmentsx1
import Derived.Test.YtgkhikceollpkaaPFnExactJoinSegmentsx2
import Derived.Test.YtgkhikceollpkaaPFnExactJoinSegmentsx3
import Derived.Test.YtgkhikceollpkaaPFnExactJoinSegmentsx4
import Derived.Test.YtgkhikceollpkaaPFnExactJoinSegmentsx5
import Derived.Test.YtgkhikceollpkaaPFnExactJoinSegmentsx6
import Derived.Test.YtgkhikceollpkaaOpn
namespace Go.Proofs.Ytgkhikceollpkaa.Pure
open Go.RowKit Go.Proofs.Ytgkhikceollpkaa.PFnExactJoinSegments Go.Proofs.YtgkhikceollpkaaW.PrintWords Go.Proofs.YtgkhikceollpkaaW.PrintLast Go.Proofs.YtgkhikceollpkaaW.PrintMore
-- ** base
theorem wrapi {x : Int} (h0 : -9223372036854775808 ≤ x) (h1 : x ≤ 9223372036854775807) : wrap64 x = x := by unfold wrap64; omega
theorem evPos {α : Type} {c : Prop} [Decidable c] {g f : Nat → Option α} {r : α} (h : c) (e : Ev g r) : Ev (fun k => if c then g k else f k) r := by
  simp only [if_pos h]; exact e
theorem evNeg {α : Type} {c : Prop} [Decidable c] {g f : Nat → Option α} {r : α} (h : ¬ c) (e : Ev f r) : Ev (fun k => if c then g k else f k) r := by
  simp only [if_neg h]; exact e
theorem evNow {α : Type} {r q : α} (h : r = q) : Ev (fun _ => some r) q := by subst h; exact Ev.now r
theorem evEq {α : Type} {g : Nat → Option α} {r q : α} (h : Ev g r) (e : r = q) : Ev g q := e ▸ h
theorem evIte {α : Type} {c : Prop} [Decidable c] {g f : Nat → Option α} {r q : α} (h : c → Ev g r) (h' : ¬ c → Ev f q) : Ev (fun k => if c then g k else f k) (if c then r else q) := by
  by_cases hc : c
  · simp only [if_pos hc]; exact h hc
  · simp only [if_neg hc]; exact h' hc
theorem evBy {α : Type} {c : Prop} [Decidable c] {g f : Nat → Option α} {r : α} (h : c → Ev g r) (h' : ¬ c → Ev f r) : Ev (fun k => if c then g k else f k) r := by
  by_cases hc : c
  · simp only [if_pos hc]; exact h hc
  · simp only [if_neg hc]; exact h' hc
theorem someF {p : Prop} [Decidable p] (h : ¬ p) : some false = some (decide p) := by rw [decide_eq_false h]
theorem someD {p q : Prop} [Decidable p] [Decidable q] (h : p ↔ q) : some (decide p) = some (decide q) := by rw [decide_eq_decide.mpr h]
theorem rgEnd {α : Type} {l pre : List α} (h : l = pre ++ []) : ¬ ((pre.length : Int) < (l.length : Int)) := by subst h; simp
theorem rgHead {α : Type} {l pre suf : List α} {x : α} (h : l = pre ++ x :: suf) (hl : l.length ≤ 4611686018427387904) (z : α) :
    (pre.length : Int) < (l.length : Int) ∧ (0 : Int) ≤ (pre.length : Int) ∧ wrap64 ((pre.length : Int) + 1) = ((pre ++ [x]).length : Int) ∧ l.getD (pre.length : Int).toNat z = x ∧ l = (pre ++ [x]) ++ suf := by
  subst h
  simp at hl
  refine ⟨by simp; omega, by omega, ?_, by simp, by simp⟩
  rw [wrapi (by omega) (by omega)]; simp
theorem in_eq (a b c : Int) : spec_l1In.f a b c = some (decide (b ≤ a ∧ a ≤ c)) := by
  unfold spec_l1In.f
  split
  · exact someD (by omega)
  · exact someF (by omega)
-- ** lists
theorem setAt {α : Type} (A B : List α) (z v : α) (n : Nat) (h : n = A.length) : (A ++ z :: B).set n v = A ++ v :: B := by subst h; simp
theorem getAt {α : Type} (A B : List α) (z v : α) (n : Nat) (h : n = A.length) : (A ++ v :: B).getD n z = v := by subst h; simp
-- ** seglaw
def cvSeg (x : S73) : S71 := ⟨x.f0, x.f1⟩
theorem szSeg_eq (l : List S73) (h : l.length ≤ 9223372036854775807) : laws_szSegmentS.f l 1048576 = some (if l.length ≤ 1048576 then 1048576 - (l.length : Int) else -1) := by
  unfold laws_szSegmentS.f
  rw [wrapi (by omega) (by omega)]
  by_cases c : l.length ≤ 1048576
  · rw [if_neg (by omega), if_pos c]
  · rw [if_pos (by omega), if_neg c]
theorem toSeg_l0 (l : List S73) (hl : l.length ≤ 1048576) : ∀ (suf pre : List S73), l = pre ++ suf →
    Ev (fun k => laws_toSegmentS.l0 k l (pre.map cvSeg ++ List.replicate suf.length z71) (pre.length : Int)) (l.map cvSeg) := by
  intro suf
  induction suf with
  | nil =>
    intro pre h
    refine Ev.step (fun k => laws_toSegmentS.l0.eq_2 ..) ?_
    simp only [rgEnd h, if_false]
    exact evNow (by subst h; simp)
  | cons x suf ih =>
    intro pre h
    obtain ⟨h1, h2, h3, h4, h5⟩ := rgHead h (by omega) z73
    refine Ev.step (fun k => laws_toSegmentS.l0.eq_2 ..) ?_
    simp only [h1, h2, h3, rd_T73, h4, if_true, laws_toSegment.f, Option.bind_some]
    refine evPos (by simp; omega) ?_
    have e : (pre.map cvSeg ++ List.replicate (x :: suf).length z71).set (pre.length : Int).toNat ⟨x.f0, x.f1⟩ = (pre ++ [x]).map cvSeg ++ List.replicate suf.length z71 := by
      rw [List.length_cons, List.replicate_succ, setAt _ _ _ _ _ (by simp)]
      simp [cvSeg]
    rw [e]
    exact ih _ h5
theorem toSeg_ev (l : List S73) (hl : l.length ≤ 1048576) : Ev (fun k => laws_toSegmentS.f k l) (l.map cvSeg) := by
  unfold laws_toSegmentS.f
  refine evPos (by omega) (evPos (by omega) ?_)
  have := toSeg_l0 l hl l [] rfl
  simpa using this
theorem eqSeg_l0 (l : List S71) (hl : l.length ≤ 4611686018427387904) : ∀ (suf pre : List S71), l = pre ++ suf → Ev (fun k => laws_eqSegmentS.l0 k l l (pre.length : Int)) true := by
  intro suf
  induction suf with
  | nil =>
    intro pre h
    refine Ev.step (fun k => laws_eqSegmentS.l0.eq_2 ..) ?_
    simp only [rgEnd h, if_false]
    exact Ev.now _
  | cons x suf ih =>
    intro pre h
    obtain ⟨h1, h2, h3, h4, h5⟩ := rgHead h hl z71
    refine Ev.step (fun k => laws_eqSegmentS.l0.eq_2 ..) ?_
    simp only [h1, h2, h3, if_true, laws_eqSegment.f, Option.bind_some]
    exact ih _ h5
theorem eqSeg_ev (l : List S71) (hl : l.length ≤ 4611686018427387904) : Ev (fun k => laws_eqSegmentS.f k l l) true := by
  unfold laws_eqSegmentS.f
  exact evPos rfl (eqSeg_l0 l hl l [] rfl)
-- ** segmark
def mkSeg : List S71 → Int → List S71
  | [], _ => []
  | _ :: l, k => ⟨k, k + 1⟩ :: mkSeg l (k + 2)
theorem mkSeg_length : ∀ (l : List S71) (k : Int), (mkSeg l k).length = l.length
  | [], _ => rfl
  | _ :: l, k => by simp [mkSeg, mkSeg_length l]
theorem markSeg_l0 : ∀ (suf pre : List S71) (k : Int), pre.length + suf.length ≤ 1048576 → 0 ≤ k → k ≤ 1 + 2 * (pre.length : Int) →
    Ev (fun n => laws_markSegmentS.l0 n (pre ++ suf) k (pre.length : Int)) (k + 2 * (suf.length : Int), pre ++ mkSeg suf k) := by
  intro suf
  induction suf with
  | nil =>
    intro pre k hl h0 hk
    refine Ev.step (fun k => laws_markSegmentS.l0.eq_2 ..) ?_
    simp only [rgEnd (l := pre ++ []) (pre := pre) rfl, if_false]
    exact evNow (by simp [mkSeg])
  | cons x suf ih =>
    intro pre k hl h0 hk
    obtain ⟨h1, h2, h3, h4, h5⟩ := rgHead (l := pre ++ x :: suf) (pre := pre) rfl (by simp at hl ⊢; omega) z71
    simp at hl
    refine Ev.step (fun k => laws_markSegmentS.l0.eq_2 ..) ?_
    simp only [h1, h2, h3, rd_T71, h4, if_true, Option.bind_some]
    rw [setAt _ _ _ _ _ (by simp), getAt _ _ _ _ _ (by simp), setAt _ _ _ _ _ (by simp), wrapi (x := k + 1) (by omega) (by omega), wrapi (by omega) (by omega)]
    have := ih (pre ++ [⟨k, k + 1⟩]) (k + 2) (by simp; omega) (by omega) (by simp; omega)
    simp only [List.append_assoc, List.singleton_append] at this
    have e : ((pre ++ [x]).length : Int) = ((pre ++ [⟨k, k + 1⟩] : List S71).length : Int) := by simp
    rw [e, show k + 1 + 1 = k + 2 by omega]
    exact evEq this (by simp [mkSeg]; omega)
theorem markSeg_ev (l : List S71) (hl : l.length ≤ 1048576) : Ev (fun n => laws_markSegmentS.f n l 1) (1 + 2 * (l.length : Int), mkSeg l 1) := by
  unfold laws_markSegmentS.f
  exact markSeg_l0 l [] 1 (by simpa using hl) (by omega) (by simp)
theorem heldSeg_l0 : ∀ (suf pre : List S71) (k : Int), pre.length + suf.length ≤ 1048576 → 0 ≤ k → k ≤ 1 + 2 * (pre.length : Int) →
    Ev (fun n => laws_heldSegmentS.l0 n (pre ++ mkSeg suf k) k (pre.length : Int)) (k + 2 * (suf.length : Int)) := by
  intro suf
  induction suf with
  | nil =>
    intro pre k hl h0 hk
    refine Ev.step (fun k => laws_heldSegmentS.l0.eq_2 ..) ?_
    simp only [mkSeg, rgEnd (l := pre ++ []) (pre := pre) rfl, if_false]
    exact evNow (by simp)
  | cons x suf ih =>
    intro pre k hl h0 hk
    simp only [mkSeg]
    simp at hl
    obtain ⟨h1, h2, h3, h4, h5⟩ := rgHead (l := pre ++ ⟨k, k + 1⟩ :: mkSeg suf (k + 2)) (pre := pre) rfl (by simp [mkSeg_length]; omega) z71
    refine Ev.step (fun k => laws_heldSegmentS.l0.eq_2 ..) ?_
    simp only [h1, h2, h3, rd_T71, h4, if_true]
    rw [wrapi (x := k + 1) (by omega) (by omega), wrapi (by omega) (by omega)]
    simp only [if_true]
    rw [h5, show k + 1 + 1 = k + 2 by omega]
    refine evEq (ih (pre ++ [⟨k, k + 1⟩]) (k + 2) (by simp; omega) (by omega) (by simp; omega)) (by simp; omega)
theorem heldSeg_ev (l : List S71) (hl : l.length ≤ 1048576) : Ev (fun n => laws_heldSegmentS.f n (mkSeg l 1) 1) (1 + 2 * (l.length : Int)) := by
  unfold laws_heldSegmentS.f
  exact heldSeg_l0 l [] 1 (by simpa using hl) (by omega) (by simp)
-- ** seggood
def seg (x : S71) : Bool := decide (1 ≤ x.f0 ∧ x.f0 ≤ 500 ∧ 900 ≤ x.f1 ∧ x.f1 ≤ 1100)
theorem seg_iff {x : S71} : seg x = true ↔ 1 ≤ x.f0 ∧ x.f0 ≤ 500 ∧ 900 ≤ x.f1 ∧ x.f1 ≤ 1100 := by simp [seg]
def stps : List S71 → Int
  | [] => 0
  | x :: l => x.f0 + stps l
def goodSegs (l : List S71) : Bool := decide (1 ≤ l.length ∧ l.length ≤ 20) && (l.all seg && decide (stps l ≤ 2000))
theorem good_iff {l : List S71} : goodSegs l = true ↔ (1 ≤ l.length ∧ l.length ≤ 20) ∧ l.all seg = true ∧ stps l ≤ 2000 := by simp [goodSegs]
theorem stSteps_l0 (l : List S71) (hl : l.length ≤ 1048576) : ∀ (suf pre : List S71) (a : Int), l = pre ++ suf → suf.all seg = true → 0 ≤ a → a ≤ 500 * (pre.length : Int) →
    Ev (fun k => spec_stSteps.l0 k a l (l.length : Int) (pre.length : Int)) (a + stps suf) := by
  intro suf
  induction suf with
  | nil =>
    intro pre a h hs h0 ha
    refine Ev.step (fun k => spec_stSteps.l0.eq_2 ..) ?_
    simp only [rgEnd h, if_false]
    exact evNow (by simp [stps])
  | cons x suf ih =>
    intro pre a h hs h0 ha
    obtain ⟨h1, h2, h3, h4, h5⟩ := rgHead h (by omega) z71
    simp only [List.all_cons, Bool.and_eq_true] at hs
    have hx := seg_iff.1 hs.1
    have hpl : pre.length ≤ 1048576 := by omega
    refine Ev.step (fun k => spec_stSteps.l0.eq_2 ..) ?_
    simp only [h1, h2, h3, rd_T71, h4, if_true]
    rw [wrapi (by omega) (by omega)]
    exact evEq (ih _ _ h5 hs.2 (by omega) (by simp; omega)) (by simp only [stps]; omega)
theorem stSteps_ev {l : List S71} (hl : l.length ≤ 1048576) (hs : l.all seg = true) : Ev (fun k => spec_stSteps.f k l) (stps l) :=
  evEq (stSteps_l0 l hl l [] 0 rfl hs (by omega) (by simp)) (by simp)
theorem stSegment_eq (x : S71) : spec_stSegment.f x.f0 x.f1 = some (seg x) := by
  unfold spec_stSegment.f; simp only [in_eq, Option.bind_some, decide_eq_true_eq]
  split
  · exact someD (by omega)
  · exact someF (by omega)
theorem stGood_l0 (l : List S71) (hl : l.length ≤ 1048576) : ∀ (suf pre : List S71), l = pre ++ suf → pre.all seg = true →
    Ev (fun k => spec_stGood.l0 k l l (l.length : Int) (pre.length : Int)) (suf.all seg && decide (stps l ≤ 2000)) := by
  intro suf
  induction suf with
  | nil =>
    intro pre h hp
    refine Ev.step (fun k => spec_stGood.l0.eq_2 ..) ?_
    simp only [rgEnd h, if_false]
    refine Ev.bind (stSteps_ev hl (by rw [h]; simpa using hp)) (evNow (by simp))
  | cons x suf ih =>
    intro pre h hp
    obtain ⟨h1, h2, h3, h4, h5⟩ := rgHead h (by omega) z71
    refine Ev.step (fun k => spec_stGood.l0.eq_2 ..) ?_
    simp only [h1, h2, h3, rd_T71, h4, if_true, stSegment_eq, Option.bind_some]
    refine evBy (fun c => evEq (ih _ h5 (by simp at hp ⊢; exact ⟨hp, c⟩)) (by simp [c])) (fun c => evNow (by simp [c]))
theorem stGood_ev (l : List S71) : Ev (fun k => spec_stGood.f k l) (goodSegs l) := by
  unfold spec_stGood.f goodSegs
  simp only [in_eq, Option.bind_some, decide_eq_true_eq]
  refine evBy (fun c => evEq (stGood_l0 l (by omega) l [] rfl rfl) ?_) (fun c => evNow ?_)
  · rw [show decide (1 ≤ l.length ∧ l.length ≤ 20) = true from decide_eq_true (by omega)]; rfl
  · rw [show decide (1 ≤ l.length ∧ l.length ≤ 20) = false from decide_eq_false (by omega)]; rfl
theorem allSteps_l0 (l : List S71) (hl : l.length ≤ 1048576) : ∀ (suf pre : List S71) (a : Int), l = pre ++ suf → suf.all seg = true → 0 ≤ a → a ≤ 500 * (pre.length : Int) →
    Ev (fun k => impl_allSteps.l0 k a l (l.length : Int) (pre.length : Int)) (a + stps suf) := by
  intro suf
  induction suf with
  | nil =>
    intro pre a h hs h0 ha
    refine Ev.step (fun k => impl_allSteps.l0.eq_2 ..) ?_
    simp only [rgEnd h, if_false]
    exact evNow (by simp [stps])
  | cons x suf ih =>
    intro pre a h hs h0 ha
    obtain ⟨h1, h2, h3, h4, h5⟩ := rgHead h (by omega) z71
    simp only [List.all_cons, Bool.and_eq_true] at hs
    have hx := seg_iff.1 hs.1
    have hpl : pre.length ≤ 1048576 := by omega
    refine Ev.step (fun k => impl_allSteps.l0.eq_2 ..) ?_
    simp only [h1, h2, h3, rd_T71, h4, if_true]
    rw [wrapi (by omega) (by omega)]
    exact evEq (ih _ _ h5 hs.2 (by omega) (by simp; omega)) (by simp only [stps]; omega)
theorem allSteps_ev {l : List S71} (hl : l.length ≤ 1048576) (hs : l.all seg = true) : Ev (fun k => impl_allSteps.f k l) (stps l) :=
  evEq (allSteps_l0 l hl l [] 0 rfl hs (by omega) (by simp)) (by simp)
theorem areSegs_l0 (l : List S71) (hl : l.length ≤ 1048576) : ∀ (suf pre : List S71), l = pre ++ suf → pre.all seg = true →
    Ev (fun k => impl_AreSegments.l0 k l l (l.length : Int) (pre.length : Int)) (suf.all seg && decide (stps l ≤ 2000)) := by
  intro suf
  induction suf with
  | nil =>
    intro pre h hp
    refine Ev.step (fun k => impl_AreSegments.l0.eq_2 ..) ?_
    simp only [rgEnd h, if_false]
    refine Ev.bind (allSteps_ev hl (by rw [h]; simpa using hp)) (evNow (by simp))
  | cons x suf ih =>
    intro pre h hp
    obtain ⟨h1, h2, h3, h4, h5⟩ := rgHead h (by omega) z71
    refine Ev.step (fun k => impl_AreSegments.l0.eq_2 ..) ?_
    simp only [h1, h2, h3, rd_T71, h4, if_true]
    have bad : ¬ (1 ≤ x.f0 ∧ x.f0 ≤ 500 ∧ 900 ≤ x.f1 ∧ x.f1 ≤ 1100) → false = ((x :: suf).all seg && decide (stps l ≤ 2000)) := fun c => by
      have : seg x = false := decide_eq_false c
      simp [this]
    refine evBy (fun c => evNow (bad (by omega))) (fun c => evBy (fun c => evNow (bad (by omega))) (fun c => evBy (fun c => evNow (bad (by omega))) (fun c => evBy (fun c => evNow (bad (by omega))) (fun c => ?_))))
    have hx : seg x = true := seg_iff.2 (by omega)
    exact evEq (ih _ h5 (by simp at hp ⊢; exact ⟨hp, hx⟩)) (by simp [hx])
theorem areSegs_ev (l : List S71) : Ev (fun k => impl_AreSegments.f k l) (goodSegs l) := by
  unfold impl_AreSegments.f goodSegs
  refine evBy (fun c => ?_) (fun c => ?_)
  · refine Ev.step (fun k => impl_AreSegments.j0.eq_2 ..) (evPos rfl (evNow ?_))
    rw [show decide (1 ≤ l.length ∧ l.length ≤ 20) = false from decide_eq_false (by omega)]; rfl
  · refine Ev.step (fun k => impl_AreSegments.j0.eq_2 ..) ?_
    simp only [decide_eq_true_eq]
    refine evBy (fun c' => evNow ?_) (fun c' => evEq (areSegs_l0 l (by omega) l [] rfl rfl) ?_)
    · rw [show decide (1 ≤ l.length ∧ l.length ≤ 20) = false from decide_eq_false (by omega)]; rfl
    · rw [show decide (1 ≤ l.length ∧ l.length ≤ 20) = true from decide_eq_true (by omega)]; rfl
-- ** JoinSegments_
def joinStep (out : List S71) (x : S71) : List S71 :=
  if 0 < out.length ∧ (out.getD (out.length - 1) z71).f1 = x.f1 then out.set (out.length - 1) ⟨(out.getD (out.length - 1) z71).f0 + x.f0, (out.getD (out.length - 1) z71).f1⟩ else out ++ [x]
def joinAll : List S71 → List S71 → List S71
  | out, [] => out
  | out, x :: l => joinAll (joinStep out x) l
theorem joinStep_len (out : List S71) (x : S71) : (joinStep out x).length ≤ out.length + 1 := by
  unfold joinStep; split <;> simp
theorem joinAll_len : ∀ (l out : List S71), (joinAll out l).length ≤ out.length + l.length
  | [], out => by simp [joinAll]
  | x :: l, out => by
    have := joinAll_len l (joinStep out x)
    have := joinStep_len out x
    simp only [joinAll, List.length_cons]; omega
def small (B : Int) (x : S71) : Prop := 0 ≤ x.f0 ∧ x.f0 ≤ B
theorem joinStep_small {out : List S71} {x : S71} {B : Int} (h : ∀ y, y ∈ out → small B y) (hx : small 500 x) (hB : 0 ≤ B) : ∀ y, y ∈ joinStep out x → small (B + 500) y := by
  unfold joinStep
  split
  · rename_i c
    intro y hy
    have hg : small B (out.getD (out.length - 1) z71) := by
      apply h
      rw [List.getD_eq_getElem?_getD, List.getElem?_eq_getElem (by omega)]
      exact List.getElem_mem _
    rcases List.mem_or_eq_of_mem_set hy with r | r
    · have := h y r
      unfold small at *; omega
    · subst r
      unfold small at *; dsimp only; omega
  · intro y hy
    rcases List.mem_append.1 hy with r | r
    · have := h y r
      unfold small at *; omega
    · rw [List.mem_singleton] at r; subst r
      unfold small at *; omega
def joinRes (l : List S71) : List S71 × Bool := if goodSegs l = true then (if goodSegs (joinAll [] l) = true then (joinAll [] l, true) else ([], false)) else ([], false)
theorem joinRes_len (l : List S71) : (joinRes l).1.length ≤ l.length := by
  have := joinAll_len l []
  unfold joinRes; split
  · split
    · simpa using this
    · simp
  · simp
theorem lastBd {B : Int} {out : List S71} (h : ∀ y, y ∈ out → small B y) (c : 0 < out.length) : small B (out.getD (out.length - 1) z71) := by
  apply h
  rw [List.getD_eq_getElem?_getD, List.getElem?_eq_getElem (by omega)]
  exact List.getElem_mem _
theorem joinSpec_l0 (l : List S71) (hl : l.length ≤ 1048576) : ∀ (suf pre out : List S71), l = pre ++ suf → suf.all seg = true → out.length ≤ pre.length → (∀ y, y ∈ out → small (500 * (pre.length : Int)) y) →
    Ev (fun k => spec_JoinSegments.l0 k out l (l.length : Int) (pre.length : Int)) (if goodSegs (joinAll out suf) = true then (joinAll out suf, true) else ([], false)) := by
  intro suf
  induction suf with
  | nil =>
    intro pre out h hs ho hb
    refine Ev.step (fun k => spec_JoinSegments.l0.eq_2 ..) ?_
    simp only [rgEnd h, if_false]
    exact Ev.bind (stGood_ev out) (evIte (fun _ => Ev.now _) (fun _ => Ev.now _))
  | cons x suf ih =>
    intro pre out h hs ho hb
    obtain ⟨h1, h2, h3, h4, h5⟩ := rgHead h (by omega) z71
    simp only [List.all_cons, Bool.and_eq_true] at hs
    have hx := seg_iff.1 hs.1
    have hpl : pre.length ≤ 1048576 := by omega
    have hgo := ih (pre ++ [x]) (joinStep out x) h5 hs.2 (by have := joinStep_len out x; simp; omega) (by
      have := joinStep_small hb (x := x) (by unfold small; omega) (by omega)
      have e : (500 * ((pre ++ [x]).length : Int)) = 500 * (pre.length : Int) + 500 := by simp; omega
      rw [e]; exact this)
    refine Ev.step (fun k => spec_JoinSegments.l0.eq_2 ..) ?_
    simp only [h1, h2, h3, rd_T71, h4, if_true]
    by_cases c : 0 < out.length
    · have hs' := lastBd hb c
      rw [wrapi (x := (out.length : Int) - 1) (by omega) (by omega), show ((out.length : Int) - 1).toNat = out.length - 1 by omega]
      unfold small at hs'
      rw [wrapi (x := (out.getD (out.length - 1) z71).f0 + x.f0) (by omega) (by omega)]
      refine evPos (by omega) (evPos (by omega) (evPos (by omega) ?_))
      by_cases q : (out.getD (out.length - 1) z71).f1 = x.f1
      · refine evPos q ?_
        simp only [joinAll]
        have e : joinStep out x = out.set (out.length - 1) ⟨(out.getD (out.length - 1) z71).f0 + x.f0, (out.getD (out.length - 1) z71).f1⟩ := if_pos ⟨c, q⟩
        simp only [e] at hgo ⊢
        exact hgo
      · refine evNeg q (evPos (by omega) ?_)
        simp only [joinAll]
        have e : joinStep out x = out ++ [x] := if_neg (fun r => q r.2)
        simp only [e] at hgo ⊢
        exact hgo
    · refine evNeg (by omega) (evPos (by omega) ?_)
      simp only [joinAll]
      have e : joinStep out x = out ++ [x] := if_neg (fun r => c r.1)
      simp only [e] at hgo ⊢
      exact hgo
theorem joinImpl_l0 (l : List S71) (hl : l.length ≤ 1048576) : ∀ (suf pre out : List S71), l = pre ++ suf → suf.all seg = true → out.length ≤ pre.length → (∀ y, y ∈ out → small (500 * (pre.length : Int)) y) →
    Ev (fun k => impl_JoinSegments.l0 k out l (l.length : Int) (pre.length : Int)) (if goodSegs (joinAll out suf) = true then (joinAll out suf, true) else ([], false)) := by
  intro suf
  induction suf with
  | nil =>
    intro pre out h hs ho hb
    refine Ev.step (fun k => impl_JoinSegments.l0.eq_2 ..) ?_
    simp only [rgEnd h, if_false]
    exact Ev.bind (areSegs_ev out) (evIte (fun _ => Ev.now _) (fun _ => Ev.now _))
  | cons x suf ih =>
    intro pre out h hs ho hb
    obtain ⟨h1, h2, h3, h4, h5⟩ := rgHead h (by omega) z71
    simp only [List.all_cons, Bool.and_eq_true] at hs
    have hx := seg_iff.1 hs.1
    have hpl : pre.length ≤ 1048576 := by omega
    have hgo := ih (pre ++ [x]) (joinStep out x) h5 hs.2 (by have := joinStep_len out x; simp; omega) (by
      have := joinStep_small hb (x := x) (by unfold small; omega) (by omega)
      have e : (500 * ((pre ++ [x]).length : Int)) = 500 * (pre.length : Int) + 500 := by simp; omega
      rw [e]; exact this)
    refine Ev.step (fun k => impl_JoinSegments.l0.eq_2 ..) ?_
    simp only [h1, h2, h3, rd_T71, h4, if_true]
    rw [wrapi (x := (out.length : Int) - 1) (by omega) (by omega)]
    by_cases c : 0 < out.length
    · have hs' := lastBd hb c
      rw [show ((out.length : Int) - 1).toNat = out.length - 1 by omega]
      unfold small at hs'
      rw [wrapi (x := (out.getD (out.length - 1) z71).f0 + x.f0) (by omega) (by omega)]
      refine evPos (by omega) (evPos (by omega) (evPos (by omega) ?_))
      by_cases q : (out.getD (out.length - 1) z71).f1 = x.f1
      · refine evPos q ?_
        simp only [joinAll]
        have e : joinStep out x = out.set (out.length - 1) ⟨(out.getD (out.length - 1) z71).f0 + x.f0, (out.getD (out.length - 1) z71).f1⟩ := if_pos ⟨c, q⟩
        simp only [e] at hgo ⊢
        exact hgo
      · refine evNeg q (evPos (by omega) ?_)
        simp only [joinAll]
        have e : joinStep out x = out ++ [x] := if_neg (fun r => q r.2)
        simp only [e] at hgo ⊢
        exact hgo
    · refine evNeg (by omega) (evPos (by omega) ?_)
      simp only [joinAll]
      have e : joinStep out x = out ++ [x] := if_neg (fun r => c r.1)
      simp only [e] at hgo ⊢
      exact hgo
theorem specJoin_ev (l : List S71) : Ev (fun k => spec_JoinSegments.f k l) (joinRes l) := by
  unfold spec_JoinSegments.f joinRes
  refine Ev.bind (stGood_ev l) (evIte (fun c => ?_) (fun c => Ev.now _))
  have h := good_iff.1 c
  exact joinSpec_l0 l (by omega) l [] [] rfl h.2.1 (by simp) (by simp)
theorem implJoin_ev (l : List S71) : Ev (fun k => impl_JoinSegments.f k l) (joinRes l) := by
  unfold impl_JoinSegments.f joinRes
  refine Ev.bind (areSegs_ev l) (evIte (fun c => ?_) (fun c => Ev.now _))
  have h := good_iff.1 c
  exact joinImpl_l0 l (by omega) l [] [] rfl h.2.1 (by simp) (by simp)
-- ** FnExactJoinSegments
theorem FnExactJoinSegments (l0 : List S73) (w0 : Opn.Lst (fun x : S73 => Opn.I64 x.f0 ∧ Opn.I64 x.f1) l0) : ∃ k, laws_FnExactJoinSegments.f k l0  = some true := by
  refine Ev.rounds (g := fun k => laws_FnExactJoinSegments.f k l0 ) ?_
  unfold laws_FnExactJoinSegments.f
  rw [szSeg_eq l0 w0.1]
  simp only [Option.bind_some]
  by_cases c : l0.length ≤ 1048576
  · rw [if_pos c]
    have hm : (l0.map cvSeg).length ≤ 1048576 := by simpa using c
    have hr : (joinRes (l0.map cvSeg) ).1.length ≤ 1048576 := by have := joinRes_len (l0.map cvSeg) ; omega
    refine evNeg (by omega) (Ev.bind (toSeg_ev l0 c) (Ev.bind (specJoin_ev (l0.map cvSeg) ) (Ev.bind (toSeg_ev l0 c) (Ev.bind (implJoin_ev (l0.map cvSeg) ) (Ev.bind (eqSeg_ev _ (by omega)) ?_)))))
    simp only [bne_self_eq_false, if_true]
    refine Ev.step (fun k => laws_FnExactJoinSegments.j0.eq_2 ..) (evNeg (by simp) (Ev.bind (toSeg_ev l0 c) (Ev.bind (eqSeg_ev _ (by omega)) (evPos rfl (Ev.bind (markSeg_ev _ hm) (evNeg (by dsimp only; omega) (Ev.bind (eqSeg_ev _ (by omega)) ?_)))))))
    simp only [bne_self_eq_false, if_true]
    refine Ev.step (fun k => laws_FnExactJoinSegments.j1.eq_2 ..) (evNeg (by simp) (Ev.bind (markSeg_ev _ hr) (Ev.bind (heldSeg_ev _ hr) (evNeg (by omega) (evPos rfl (Ev.bind (toSeg_ev l0 c) (Ev.bind (implJoin_ev _ ) (Ev.bind (eqSeg_ev _ (by omega)) ?_))))))))
    simp only [bne_self_eq_false, if_true]
    exact Ev.step (fun k => laws_FnExactJoinSegments.j2.eq_2 ..) (evNeg (by simp) (Ev.bind (heldSeg_ev _ hr) (evNeg (by omega) (evPos rfl (Ev.now _)))))
  · rw [if_neg c]
    exact evPos (by omega) (Ev.now _)
end Go.Proofs.Ytgkhikceollpkaa.Pure
