/- For all drawn segments, joined ones have the same places, parts have the lengths between, and the best offset halves the errors. (P17): the plain part: what the program computes and what the reference computes agree, for all arguments. No conditions beyond the arguments' own kinds. -/
import Derived.Test.YtbgbmjagcdnloaaDoorPSgx0
import Derived.Test.YtbgbmjagcdnloaaDoorPSgx1
import Derived.Test.YtbgbmjagcdnloaaDoorPSgx2
import Derived.Test.YtbgbmjagcdnloaaDoorPSgx3
import Derived.Test.YtbgbmjagcdnloaaDoorPSgx4
import Derived.Test.YtbgbmjagcdnloaaDoorPSgx5
import Derived.Test.YtbgbmjagcdnloaaDoorPSgx6
import Derived.Test.YtbgbmjagcdnloaaDoorPSgx7
import Derived.Test.YtbgbmjagcdnloaaDoorPSgx8
import Derived.Test.YtbgbmjagcdnloaaDoorPSgx9
import Derived.Test.YtbgbmjagcdnloaaDoorPSgx10
import Derived.Test.YtbgbmjagcdnloaaDoorPSgx11
import Derived.Test.YtbgbmjagcdnloaaDoorPSgx12
import Derived.Test.YtbgbmjagcdnloaaDoorOpn
namespace Go.Proofs.YtbgbmjagcdnloaaDoor.Pure
open Go.RowKit Go.Proofs.YtbgbmjagcdnloaaDoor.PSg Go.Proofs.YtbgbmjagcdnloaaDoorW.PrintWords Go.Proofs.YtbgbmjagcdnloaaDoorW.PrintLast Go.Proofs.YtbgbmjagcdnloaaDoorW.PrintMore
-- ** base
theorem wrapi {x : Int} (h0 : -9223372036854775808 ≤ x) (h1 : x ≤ 9223372036854775807) : wrap64 x = x := by unfold wrap64; omega
theorem evPos {α : Type} {c : Prop} [Decidable c] {g f : Nat → Option α} {r : α} (h : c) (e : Ev g r) : Ev (fun k => if c then g k else f k) r := by
  simp only [if_pos h]; exact e
theorem evNeg {α : Type} {c : Prop} [Decidable c] {g f : Nat → Option α} {r : α} (h : ¬ c) (e : Ev f r) : Ev (fun k => if c then g k else f k) r := by
  simp only [if_neg h]; exact e
theorem evC {α β : Type} {o : Option α} {f : Nat → α → Option β} {a : α} {r : β} (h : o = some a) (e : Ev (fun n => f n a) r) : Ev (fun n => o.bind (f n)) r := by
  subst h; exact e
theorem evNow {α : Type} {r q : α} (h : r = q) : Ev (fun _ => some r) q := by subst h; exact Ev.now r
theorem evEq {α : Type} {g : Nat → Option α} {r q : α} (h : Ev g r) (e : r = q) : Ev g q := e ▸ h
theorem evIte {α : Type} {c : Prop} [Decidable c] {g f : Nat → Option α} {r q : α} (h : c → Ev g r) (h' : ¬ c → Ev f q) : Ev (fun k => if c then g k else f k) (if c then r else q) := by
  by_cases hc : c
  · simp only [if_pos hc]; exact h hc
  · simp only [if_neg hc]; exact h' hc
theorem evBy {α : Type} {c : Prop} [Decidable c] {g f : Nat → Option α} {r : α} (h : c → Ev g r) (h' : ¬ c → Ev f r) : Ev (fun k => if c then g k else f k) r := by
  by_cases hc : c
  · simp only [if_pos hc]; exact h hc
  · simp only [if_neg hc]; exact h' hc
theorem someF {p : Prop} [Decidable p] (h : ¬ p) : some false = some (decide p) := by rw [decide_eq_false h]
theorem someD {p q : Prop} [Decidable p] [Decidable q] (h : p ↔ q) : some (decide p) = some (decide q) := by rw [decide_eq_decide.mpr h]
theorem decF {p : Prop} [Decidable p] (h : ¬ p) : false = decide p := by rw [decide_eq_false h]
theorem decD {p q : Prop} [Decidable p] [Decidable q] (h : p ↔ q) : decide p = decide q := decide_eq_decide.mpr h
theorem rgEnd {α : Type} {l pre : List α} (h : l = pre ++ []) : ¬ ((pre.length : Int) < (l.length : Int)) := by subst h; simp
theorem rgHead {α : Type} {l pre suf : List α} {x : α} (h : l = pre ++ x :: suf) (hl : l.length ≤ 4611686018427387904) (z : α) :
    (pre.length : Int) < (l.length : Int) ∧ (0 : Int) ≤ (pre.length : Int) ∧ wrap64 ((pre.length : Int) + 1) = ((pre ++ [x]).length : Int) ∧ l.getD (pre.length : Int).toNat z = x ∧ l = (pre ++ [x]) ++ suf := by
  subst h
  simp at hl
  refine ⟨by simp; omega, by omega, ?_, by simp, by simp⟩
  rw [wrapi (by omega) (by omega)]; simp
theorem in_eq (a b c : Int) : spec_l1In.f a b c = some (decide (b ≤ a ∧ a ≤ c)) := by
  unfold spec_l1In.f
  split
  · exact someD (by omega)
  · exact someF (by omega)
theorem mx_eq (a b : Int) : mx a b = max a b := by unfold mx; omega
theorem mn_eq (a b : Int) : mn a b = min a b := by unfold mn; omega
-- ** seggood
def seg (x : S35) : Bool := decide (1 ≤ x.f0 ∧ x.f0 ≤ 500 ∧ 900 ≤ x.f1 ∧ x.f1 ≤ 1100)
theorem seg_iff {x : S35} : seg x = true ↔ 1 ≤ x.f0 ∧ x.f0 ≤ 500 ∧ 900 ≤ x.f1 ∧ x.f1 ≤ 1100 := by simp [seg]
def stps : List S35 → Int
  | [] => 0
  | x :: l => x.f0 + stps l
theorem stps_bd : ∀ {l : List S35}, l.all seg = true → (l.length : Int) ≤ stps l ∧ stps l ≤ 500 * (l.length : Int)
  | [], _ => by simp [stps]
  | x :: l, h => by
    simp only [List.all_cons, Bool.and_eq_true] at h
    have := stps_bd h.2
    have := seg_iff.1 h.1
    simp only [stps, List.length_cons]; omega
def goodSegs (l : List S35) : Bool := decide (1 ≤ l.length ∧ l.length ≤ 20) && (l.all seg && decide (stps l ≤ 2000))
theorem good_iff {l : List S35} : goodSegs l = true ↔ (1 ≤ l.length ∧ l.length ≤ 20) ∧ l.all seg = true ∧ stps l ≤ 2000 := by simp [goodSegs]
theorem stSteps_l0 (l : List S35) (hl : l.length ≤ 1048576) : ∀ (suf pre : List S35) (a : Int), l = pre ++ suf → suf.all seg = true → 0 ≤ a → a ≤ 500 * (pre.length : Int) →
    Ev (fun k => spec_stSteps.l0 k a l (l.length : Int) (pre.length : Int)) (a + stps suf) := by
  intro suf
  induction suf with
  | nil =>
    intro pre a h hs h0 ha
    refine Ev.step (fun k => spec_stSteps.l0.eq_2 ..) ?_
    simp only [rgEnd h, if_false]
    exact evNow (by simp [stps])
  | cons x suf ih =>
    intro pre a h hs h0 ha
    obtain ⟨h1, h2, h3, h4, h5⟩ := rgHead h (by omega) z35
    simp only [List.all_cons, Bool.and_eq_true] at hs
    have hx := seg_iff.1 hs.1
    have hpl : pre.length ≤ 1048576 := by omega
    refine Ev.step (fun k => spec_stSteps.l0.eq_2 ..) ?_
    simp only [h1, h2, h3, rd_T35, h4, if_true]
    rw [wrapi (by omega) (by omega)]
    exact evEq (ih _ _ h5 hs.2 (by omega) (by simp; omega)) (by simp only [stps]; omega)
theorem stSteps_ev {l : List S35} (hl : l.length ≤ 1048576) (hs : l.all seg = true) : Ev (fun k => spec_stSteps.f k l) (stps l) :=
  evEq (stSteps_l0 l hl l [] 0 rfl hs (by omega) (by simp)) (by simp)
theorem stSegment_eq (x : S35) : spec_stSegment.f x.f0 x.f1 = some (seg x) := by
  unfold spec_stSegment.f; simp only [in_eq, Option.bind_some, decide_eq_true_eq]
  split
  · exact someD (by omega)
  · exact someF (by omega)
theorem stGood_l0 (l : List S35) (hl : l.length ≤ 1048576) : ∀ (suf pre : List S35), l = pre ++ suf → pre.all seg = true →
    Ev (fun k => spec_stGood.l0 k l l (l.length : Int) (pre.length : Int)) (suf.all seg && decide (stps l ≤ 2000)) := by
  intro suf
  induction suf with
  | nil =>
    intro pre h hp
    refine Ev.step (fun k => spec_stGood.l0.eq_2 ..) ?_
    simp only [rgEnd h, if_false]
    refine Ev.bind (stSteps_ev hl (by rw [h]; simpa using hp)) (evNow (by simp))
  | cons x suf ih =>
    intro pre h hp
    obtain ⟨h1, h2, h3, h4, h5⟩ := rgHead h (by omega) z35
    refine Ev.step (fun k => spec_stGood.l0.eq_2 ..) ?_
    simp only [h1, h2, h3, rd_T35, h4, if_true, stSegment_eq, Option.bind_some]
    refine evBy (fun c => evEq (ih _ h5 (by simp at hp ⊢; exact ⟨hp, c⟩)) (by simp [c])) (fun c => evNow (by simp [c]))
theorem stGood_ev (l : List S35) : Ev (fun k => spec_stGood.f k l) (goodSegs l) := by
  unfold spec_stGood.f goodSegs
  simp only [in_eq, Option.bind_some, decide_eq_true_eq]
  refine evBy (fun c => evEq (stGood_l0 l (by omega) l [] rfl rfl) ?_) (fun c => evNow ?_)
  · rw [show decide (1 ≤ l.length ∧ l.length ≤ 20) = true from decide_eq_true (by omega)]; rfl
  · rw [show decide (1 ≤ l.length ∧ l.length ≤ 20) = false from decide_eq_false (by omega)]; rfl
theorem allSteps_l0 (l : List S35) (hl : l.length ≤ 1048576) : ∀ (suf pre : List S35) (a : Int), l = pre ++ suf → suf.all seg = true → 0 ≤ a → a ≤ 500 * (pre.length : Int) →
    Ev (fun k => impl_allSteps.l0 k a l (l.length : Int) (pre.length : Int)) (a + stps suf) := by
  intro suf
  induction suf with
  | nil =>
    intro pre a h hs h0 ha
    refine Ev.step (fun k => impl_allSteps.l0.eq_2 ..) ?_
    simp only [rgEnd h, if_false]
    exact evNow (by simp [stps])
  | cons x suf ih =>
    intro pre a h hs h0 ha
    obtain ⟨h1, h2, h3, h4, h5⟩ := rgHead h (by omega) z35
    simp only [List.all_cons, Bool.and_eq_true] at hs
    have hx := seg_iff.1 hs.1
    have hpl : pre.length ≤ 1048576 := by omega
    refine Ev.step (fun k => impl_allSteps.l0.eq_2 ..) ?_
    simp only [h1, h2, h3, rd_T35, h4, if_true]
    rw [wrapi (by omega) (by omega)]
    exact evEq (ih _ _ h5 hs.2 (by omega) (by simp; omega)) (by simp only [stps]; omega)
theorem allSteps_ev {l : List S35} (hl : l.length ≤ 1048576) (hs : l.all seg = true) : Ev (fun k => impl_allSteps.f k l) (stps l) :=
  evEq (allSteps_l0 l hl l [] 0 rfl hs (by omega) (by simp)) (by simp)
theorem areSegs_l0 (l : List S35) (hl : l.length ≤ 1048576) : ∀ (suf pre : List S35), l = pre ++ suf → pre.all seg = true →
    Ev (fun k => impl_AreSegments.l0 k l l (l.length : Int) (pre.length : Int)) (suf.all seg && decide (stps l ≤ 2000)) := by
  intro suf
  induction suf with
  | nil =>
    intro pre h hp
    refine Ev.step (fun k => impl_AreSegments.l0.eq_2 ..) ?_
    simp only [rgEnd h, if_false]
    refine Ev.bind (allSteps_ev hl (by rw [h]; simpa using hp)) (evNow (by simp))
  | cons x suf ih =>
    intro pre h hp
    obtain ⟨h1, h2, h3, h4, h5⟩ := rgHead h (by omega) z35
    refine Ev.step (fun k => impl_AreSegments.l0.eq_2 ..) ?_
    simp only [h1, h2, h3, rd_T35, h4, if_true]
    have bad : ¬ (1 ≤ x.f0 ∧ x.f0 ≤ 500 ∧ 900 ≤ x.f1 ∧ x.f1 ≤ 1100) → false = ((x :: suf).all seg && decide (stps l ≤ 2000)) := fun c => by
      have : seg x = false := decide_eq_false c
      simp [this]
    refine evBy (fun c => evNow (bad (by omega))) (fun c => evBy (fun c => evNow (bad (by omega))) (fun c => evBy (fun c => evNow (bad (by omega))) (fun c => evBy (fun c => evNow (bad (by omega))) (fun c => ?_))))
    have hx : seg x = true := seg_iff.2 (by omega)
    exact evEq (ih _ h5 (by simp at hp ⊢; exact ⟨hp, hx⟩)) (by simp [hx])
theorem areSegs_ev (l : List S35) : Ev (fun k => impl_AreSegments.f k l) (goodSegs l) := by
  unfold impl_AreSegments.f goodSegs
  refine evBy (fun c => ?_) (fun c => ?_)
  · refine Ev.step (fun k => impl_AreSegments.j0.eq_2 ..) (evPos rfl (evNow ?_))
    rw [show decide (1 ≤ l.length ∧ l.length ≤ 20) = false from decide_eq_false (by omega)]; rfl
  · refine Ev.step (fun k => impl_AreSegments.j0.eq_2 ..) ?_
    simp only [decide_eq_true_eq]
    refine evBy (fun c' => evNow ?_) (fun c' => evEq (areSegs_l0 l (by omega) l [] rfl rfl) ?_)
    · rw [show decide (1 ≤ l.length ∧ l.length ≤ 20) = false from decide_eq_false (by omega)]; rfl
    · rw [show decide (1 ≤ l.length ∧ l.length ≤ 20) = true from decide_eq_true (by omega)]; rfl
-- ** JoinSegments_
def joinStep (out : List S35) (x : S35) : List S35 :=
  if 0 < out.length ∧ (out.getD (out.length - 1) z35).f1 = x.f1 then out.set (out.length - 1) ⟨(out.getD (out.length - 1) z35).f0 + x.f0, (out.getD (out.length - 1) z35).f1⟩ else out ++ [x]
def joinAll : List S35 → List S35 → List S35
  | out, [] => out
  | out, x :: l => joinAll (joinStep out x) l
theorem joinStep_len (out : List S35) (x : S35) : (joinStep out x).length ≤ out.length + 1 := by
  unfold joinStep; split <;> simp
theorem joinAll_len : ∀ (l out : List S35), (joinAll out l).length ≤ out.length + l.length
  | [], out => by simp [joinAll]
  | x :: l, out => by
    have := joinAll_len l (joinStep out x)
    have := joinStep_len out x
    simp only [joinAll, List.length_cons]; omega
def small (B : Int) (x : S35) : Prop := 0 ≤ x.f0 ∧ x.f0 ≤ B
theorem joinStep_small {out : List S35} {x : S35} {B : Int} (h : ∀ y, y ∈ out → small B y) (hx : small 500 x) (hB : 0 ≤ B) : ∀ y, y ∈ joinStep out x → small (B + 500) y := by
  unfold joinStep
  split
  · rename_i c
    intro y hy
    have hg : small B (out.getD (out.length - 1) z35) := by
      apply h
      rw [List.getD_eq_getElem?_getD, List.getElem?_eq_getElem (by omega)]
      exact List.getElem_mem _
    rcases List.mem_or_eq_of_mem_set hy with r | r
    · have := h y r
      unfold small at *; omega
    · subst r
      unfold small at *; dsimp only; omega
  · intro y hy
    rcases List.mem_append.1 hy with r | r
    · have := h y r
      unfold small at *; omega
    · rw [List.mem_singleton] at r; subst r
      unfold small at *; omega
def joinRes (l : List S35) : List S35 × Bool := if goodSegs l = true then (if goodSegs (joinAll [] l) = true then (joinAll [] l, true) else ([], false)) else ([], false)
theorem joinRes_len (l : List S35) : (joinRes l).1.length ≤ l.length := by
  have := joinAll_len l []
  unfold joinRes; split
  · split
    · simpa using this
    · simp
  · simp
theorem lastBd {B : Int} {out : List S35} (h : ∀ y, y ∈ out → small B y) (c : 0 < out.length) : small B (out.getD (out.length - 1) z35) := by
  apply h
  rw [List.getD_eq_getElem?_getD, List.getElem?_eq_getElem (by omega)]
  exact List.getElem_mem _
theorem joinSpec_l0 (l : List S35) (hl : l.length ≤ 1048576) : ∀ (suf pre out : List S35), l = pre ++ suf → suf.all seg = true → out.length ≤ pre.length → (∀ y, y ∈ out → small (500 * (pre.length : Int)) y) →
    Ev (fun k => spec_JoinSegments.l0 k out l (l.length : Int) (pre.length : Int)) (if goodSegs (joinAll out suf) = true then (joinAll out suf, true) else ([], false)) := by
  intro suf
  induction suf with
  | nil =>
    intro pre out h hs ho hb
    refine Ev.step (fun k => spec_JoinSegments.l0.eq_2 ..) ?_
    simp only [rgEnd h, if_false]
    exact Ev.bind (stGood_ev out) (evIte (fun _ => Ev.now _) (fun _ => Ev.now _))
  | cons x suf ih =>
    intro pre out h hs ho hb
    obtain ⟨h1, h2, h3, h4, h5⟩ := rgHead h (by omega) z35
    simp only [List.all_cons, Bool.and_eq_true] at hs
    have hx := seg_iff.1 hs.1
    have hpl : pre.length ≤ 1048576 := by omega
    have hgo := ih (pre ++ [x]) (joinStep out x) h5 hs.2 (by have := joinStep_len out x; simp; omega) (by
      have := joinStep_small hb (x := x) (by unfold small; omega) (by omega)
      have e : (500 * ((pre ++ [x]).length : Int)) = 500 * (pre.length : Int) + 500 := by simp; omega
      rw [e]; exact this)
    refine Ev.step (fun k => spec_JoinSegments.l0.eq_2 ..) ?_
    simp only [h1, h2, h3, rd_T35, h4, if_true]
    by_cases c : 0 < out.length
    · have hs' := lastBd hb c
      rw [wrapi (x := (out.length : Int) - 1) (by omega) (by omega), show ((out.length : Int) - 1).toNat = out.length - 1 by omega]
      unfold small at hs'
      rw [wrapi (x := (out.getD (out.length - 1) z35).f0 + x.f0) (by omega) (by omega)]
      refine evPos (by omega) (evPos (by omega) (evPos (by omega) ?_))
      by_cases q : (out.getD (out.length - 1) z35).f1 = x.f1
      · refine evPos q ?_
        simp only [joinAll]
        have e : joinStep out x = out.set (out.length - 1) ⟨(out.getD (out.length - 1) z35).f0 + x.f0, (out.getD (out.length - 1) z35).f1⟩ := if_pos ⟨c, q⟩
        simp only [e] at hgo ⊢
        exact hgo
      · refine evNeg q (evPos (by omega) ?_)
        simp only [joinAll]
        have e : joinStep out x = out ++ [x] := if_neg (fun r => q r.2)
        simp only [e] at hgo ⊢
        exact hgo
    · refine evNeg (by omega) (evPos (by omega) ?_)
      simp only [joinAll]
      have e : joinStep out x = out ++ [x] := if_neg (fun r => c r.1)
      simp only [e] at hgo ⊢
      exact hgo
theorem joinImpl_l0 (l : List S35) (hl : l.length ≤ 1048576) : ∀ (suf pre out : List S35), l = pre ++ suf → suf.all seg = true → out.length ≤ pre.length → (∀ y, y ∈ out → small (500 * (pre.length : Int)) y) →
    Ev (fun k => impl_JoinSegments.l0 k out l (l.length : Int) (pre.length : Int)) (if goodSegs (joinAll out suf) = true then (joinAll out suf, true) else ([], false)) := by
  intro suf
  induction suf with
  | nil =>
    intro pre out h hs ho hb
    refine Ev.step (fun k => impl_JoinSegments.l0.eq_2 ..) ?_
    simp only [rgEnd h, if_false]
    exact Ev.bind (areSegs_ev out) (evIte (fun _ => Ev.now _) (fun _ => Ev.now _))
  | cons x suf ih =>
    intro pre out h hs ho hb
    obtain ⟨h1, h2, h3, h4, h5⟩ := rgHead h (by omega) z35
    simp only [List.all_cons, Bool.and_eq_true] at hs
    have hx := seg_iff.1 hs.1
    have hpl : pre.length ≤ 1048576 := by omega
    have hgo := ih (pre ++ [x]) (joinStep out x) h5 hs.2 (by have := joinStep_len out x; simp; omega) (by
      have := joinStep_small hb (x := x) (by unfold small; omega) (by omega)
      have e : (500 * ((pre ++ [x]).length : Int)) = 500 * (pre.length : Int) + 500 := by simp; omega
      rw [e]; exact this)
    refine Ev.step (fun k => impl_JoinSegments.l0.eq_2 ..) ?_
    simp only [h1, h2, h3, rd_T35, h4, if_true]
    rw [wrapi (x := (out.length : Int) - 1) (by omega) (by omega)]
    by_cases c : 0 < out.length
    · have hs' := lastBd hb c
      rw [show ((out.length : Int) - 1).toNat = out.length - 1 by omega]
      unfold small at hs'
      rw [wrapi (x := (out.getD (out.length - 1) z35).f0 + x.f0) (by omega) (by omega)]
      refine evPos (by omega) (evPos (by omega) (evPos (by omega) ?_))
      by_cases q : (out.getD (out.length - 1) z35).f1 = x.f1
      · refine evPos q ?_
        simp only [joinAll]
        have e : joinStep out x = out.set (out.length - 1) ⟨(out.getD (out.length - 1) z35).f0 + x.f0, (out.getD (out.length - 1) z35).f1⟩ := if_pos ⟨c, q⟩
        simp only [e] at hgo ⊢
        exact hgo
      · refine evNeg q (evPos (by omega) ?_)
        simp only [joinAll]
        have e : joinStep out x = out ++ [x] := if_neg (fun r => q r.2)
        simp only [e] at hgo ⊢
        exact hgo
    · refine evNeg (by omega) (evPos (by omega) ?_)
      simp only [joinAll]
      have e : joinStep out x = out ++ [x] := if_neg (fun r => c r.1)
      simp only [e] at hgo ⊢
      exact hgo
theorem specJoin_ev (l : List S35) : Ev (fun k => spec_JoinSegments.f k l) (joinRes l) := by
  unfold spec_JoinSegments.f joinRes
  refine Ev.bind (stGood_ev l) (evIte (fun c => ?_) (fun c => Ev.now _))
  have h := good_iff.1 c
  exact joinSpec_l0 l (by omega) l [] [] rfl h.2.1 (by simp) (by simp)
theorem implJoin_ev (l : List S35) : Ev (fun k => impl_JoinSegments.f k l) (joinRes l) := by
  unfold impl_JoinSegments.f joinRes
  refine Ev.bind (areSegs_ev l) (evIte (fun c => ?_) (fun c => Ev.now _))
  have h := good_iff.1 c
  exact joinImpl_l0 l (by omega) l [] [] rfl h.2.1 (by simp) (by simp)
-- ** has
def hasStep (l : List S35) (s : Int) : Bool := goodSegs l && decide (0 ≤ s ∧ s ≤ stps l)
theorem hasStep_iff {l : List S35} {s : Int} : hasStep l s = true ↔ goodSegs l = true ∧ 0 ≤ s ∧ s ≤ stps l := by simp [hasStep]
theorem stHas_ev (l : List S35) (s : Int) : Ev (fun k => spec_stHas.f k l s) (hasStep l s) := by
  unfold spec_stHas.f hasStep
  refine Ev.bind (stGood_ev l) (evBy (fun c => ?_) (fun c => evNow (by simp [c])))
  have h := good_iff.1 c
  refine Ev.bind (stSteps_ev (by omega) h.2.1) ?_
  simp only [in_eq, Option.bind_some]
  exact evNow (by simp [c])
theorem isStepOf_ev {l : List S35} (s : Int) (c : goodSegs l = true) : Ev (fun k => impl_isStepOf.f k l s) (decide (0 ≤ s ∧ s ≤ stps l)) := by
  have h := good_iff.1 c
  unfold impl_isStepOf.f
  refine evBy (fun q => Ev.bind (allSteps_ev (by omega) h.2.1) (evNow (decD (by omega)))) (fun q => evNow (decF (by omega)))
-- ** place
def plc : List S35 → Int → Int
  | [], _ => 0
  | x :: l, s => min x.f0 s * x.f1 + plc l (s - min x.f0 s)
theorem mulBd {n r : Int} (h0 : 0 ≤ n) (h1 : n ≤ 500) (h2 : 0 ≤ r) (h3 : r ≤ 1100) : 0 ≤ n * r ∧ n * r ≤ 550000 :=
  ⟨Int.mul_nonneg h0 h2, Int.le_trans (Int.mul_le_mul_of_nonneg_right h1 h2) (by omega)⟩
theorem plc_bd : ∀ {l : List S35} {s : Int}, l.all seg = true → 0 ≤ s → 0 ≤ plc l s ∧ plc l s ≤ 550000 * (l.length : Int)
  | [], _, _, _ => by simp [plc]
  | x :: l, s, h, hs => by
    simp only [List.all_cons, Bool.and_eq_true] at h
    have hx := seg_iff.1 h.1
    have := plc_bd (s := s - min x.f0 s) h.2 (by omega)
    have := mulBd (n := min x.f0 s) (r := x.f1) (by omega) (by omega) (by omega) (by omega)
    simp only [plc, List.length_cons]; omega
theorem plc_zero : ∀ {l : List S35}, l.all seg = true → plc l 0 = 0
  | [], _ => rfl
  | x :: l, h => by
    simp only [List.all_cons, Bool.and_eq_true] at h
    have hx := seg_iff.1 h.1
    simp only [plc, show min x.f0 0 = 0 by omega, Int.zero_mul, Int.sub_self, plc_zero h.2]; rfl
theorem l1Least_eq (a b : Int) : spec_l1Least.f a b = some (min a b) := by
  unfold spec_l1Least.f; split <;> (congr 1; omega)
theorem stPlace_l0 (l : List S35) (hl : l.length ≤ 1048576) : ∀ (suf pre : List S35) (s a : Int), l = pre ++ suf → suf.all seg = true → 0 ≤ s → s ≤ 1000000000 → 0 ≤ a → a ≤ 550000 * (pre.length : Int) →
    Ev (fun k => spec_stPlace.l0 k s a l (l.length : Int) (pre.length : Int)) (a + plc suf s) := by
  intro suf
  induction suf with
  | nil =>
    intro pre s a h hs h0 hb ha hc
    refine Ev.step (fun k => spec_stPlace.l0.eq_2 ..) ?_
    simp only [rgEnd h, if_false]
    exact evNow (by simp [plc])
  | cons x suf ih =>
    intro pre s a h hs h0 hb ha hc
    obtain ⟨h1, h2, h3, h4, h5⟩ := rgHead h (by omega) z35
    simp only [List.all_cons, Bool.and_eq_true] at hs
    have hx := seg_iff.1 hs.1
    have hpl : pre.length ≤ 1048576 := by omega
    have hm := mulBd (n := min x.f0 s) (r := x.f1) (by omega) (by omega) (by omega) (by omega)
    refine Ev.step (fun k => spec_stPlace.l0.eq_2 ..) ?_
    simp only [h1, h2, h3, rd_T35, h4, if_true, l1Least_eq, Option.bind_some]
    rw [show min s x.f0 = min x.f0 s by omega, wrapi (x := s - min x.f0 s) (by omega) (by omega), wrapi (x := min x.f0 s * x.f1) (by omega) (by omega), wrapi (x := a + min x.f0 s * x.f1) (by omega) (by omega)]
    exact evEq (ih _ _ _ h5 hs.2 (by omega) (by omega) (by omega) (by simp; omega)) (by simp only [plc]; omega)
theorem stPlace_ev {l : List S35} {s : Int} (hl : l.length ≤ 1048576) (h : l.all seg = true) (h0 : 0 ≤ s) (hb : s ≤ 1000000000) : Ev (fun k => spec_stPlace.f k l s) (plc l s) :=
  evEq (stPlace_l0 l hl l [] s 0 rfl h h0 hb (by omega) (by simp)) (by simp)
theorem placeOf_l0 (l : List S35) (hl : l.length ≤ 1048576) : ∀ (suf pre : List S35) (s a : Int), l = pre ++ suf → suf.all seg = true → 0 ≤ s → s ≤ 1000000000 → 0 ≤ a → a ≤ 550000 * (pre.length : Int) →
    Ev (fun k => impl_placeOf.l0 k s a l (l.length : Int) (pre.length : Int)) (a + plc suf s) := by
  intro suf
  induction suf with
  | nil =>
    intro pre s a h hs h0 hb ha hc
    refine Ev.step (fun k => impl_placeOf.l0.eq_2 ..) ?_
    simp only [rgEnd h, if_false]
    exact evNow (by simp [plc])
  | cons x suf ih =>
    intro pre s a h hs h0 hb ha hc
    obtain ⟨h1, h2, h3, h4, h5⟩ := rgHead h (by omega) z35
    simp only [List.all_cons, Bool.and_eq_true] at hs
    have hx := seg_iff.1 hs.1
    have hpl : pre.length ≤ 1048576 := by omega
    have hm := mulBd (n := min x.f0 s) (r := x.f1) (by omega) (by omega) (by omega) (by omega)
    refine Ev.step (fun k => impl_placeOf.l0.eq_2 ..) ?_
    simp only [h1, h2, h3, rd_T35, h4, if_true, mn_eq]
    rw [wrapi (x := s - min x.f0 s) (by omega) (by omega), wrapi (x := min x.f0 s * x.f1) (by omega) (by omega), wrapi (x := a + min x.f0 s * x.f1) (by omega) (by omega)]
    exact evEq (ih _ _ _ h5 hs.2 (by omega) (by omega) (by omega) (by simp; omega)) (by simp only [plc]; omega)
theorem placeOf_ev {l : List S35} {s : Int} (hl : l.length ≤ 1048576) (h : l.all seg = true) (h0 : 0 ≤ s) (hb : s ≤ 1000000000) : Ev (fun k => impl_placeOf.f k l s) (plc l s) :=
  evEq (placeOf_l0 l hl l [] s 0 rfl h h0 hb (by omega) (by simp)) (by simp)
-- ** most
theorem l1Most_eq (a b : Int) : spec_l1Most.f a b = some (max a b) := by
  unfold spec_l1Most.f; split <;> (congr 1; omega)
-- ** CutSegments_
def cutAll (f t : Int) : Int → List S35 → List S35
  | _, [] => []
  | at_, x :: l => if max at_ f < min (at_ + x.f0) t then ⟨min (at_ + x.f0) t - max at_ f, x.f1⟩ :: cutAll f t (at_ + x.f0) l else cutAll f t (at_ + x.f0) l
theorem cutAll_len (f t : Int) : ∀ (l : List S35) (a : Int), (cutAll f t a l).length ≤ l.length
  | [], _ => by simp [cutAll]
  | x :: l, a => by
    have := cutAll_len f t l (a + x.f0)
    simp only [cutAll]; split <;> simp <;> omega
def cutRes (l : List S35) (f t : Int) : List S35 × Bool := if hasStep l f = true ∧ hasStep l t = true ∧ f < t then (cutAll f t 0 l, true) else ([], false)
theorem cutRes_len (l : List S35) (f t : Int) : (cutRes l f t).1.length ≤ l.length := by
  unfold cutRes; split
  · exact cutAll_len f t l 0
  · simp
theorem cutSpec_l0 {f t : Int} (hf : 0 ≤ f ∧ f ≤ 2000) (ht : 0 ≤ t ∧ t ≤ 2000) (l : List S35) (hl : l.length ≤ 20) : ∀ (suf pre out : List S35) (a : Int), l = pre ++ suf → suf.all seg = true → out.length ≤ pre.length → 0 ≤ a → a ≤ 500 * (pre.length : Int) →
    Ev (fun k => spec_CutSegments.l0 k f t out a l (l.length : Int) (pre.length : Int)) (out ++ cutAll f t a suf, true) := by
  intro suf
  induction suf with
  | nil =>
    intro pre out a h hs ho h0 ha
    refine Ev.step (fun k => spec_CutSegments.l0.eq_2 ..) ?_
    simp only [rgEnd h, if_false]
    exact evNow (by simp [cutAll])
  | cons x suf ih =>
    intro pre out a h hs ho h0 ha
    obtain ⟨h1, h2, h3, h4, h5⟩ := rgHead h (by omega) z35
    simp only [List.all_cons, Bool.and_eq_true] at hs
    have hx := seg_iff.1 hs.1
    have hpl : pre.length ≤ 20 := by omega
    refine Ev.step (fun k => spec_CutSegments.l0.eq_2 ..) ?_
    simp only [h1, h2, h3, rd_T35, h4, if_true]
    rw [wrapi (x := a + x.f0) (by omega) (by omega)]
    simp only [l1Least_eq, l1Most_eq, Option.bind_some]
    rw [wrapi (x := min (a + x.f0) t - max a f) (by omega) (by omega)]
    by_cases c : max a f < min (a + x.f0) t
    · refine evPos (by omega) (evPos (by omega) (evEq (ih _ _ _ h5 hs.2 (by simp; omega) (by omega) (by simp; omega)) ?_))
      simp [cutAll, c]
    · refine evNeg (by omega) (evEq (ih _ _ _ h5 hs.2 (by simp; omega) (by omega) (by simp; omega)) ?_)
      simp [cutAll, c]
theorem cutImpl_l0 {f t : Int} (hf : 0 ≤ f ∧ f ≤ 2000) (ht : 0 ≤ t ∧ t ≤ 2000) (l : List S35) (hl : l.length ≤ 20) : ∀ (suf pre out : List S35) (a : Int), l = pre ++ suf → suf.all seg = true → out.length ≤ pre.length → 0 ≤ a → a ≤ 500 * (pre.length : Int) →
    Ev (fun k => impl_CutSegments.l0 k f t out a l (l.length : Int) (pre.length : Int)) (out ++ cutAll f t a suf, true) := by
  intro suf
  induction suf with
  | nil =>
    intro pre out a h hs ho h0 ha
    refine Ev.step (fun k => impl_CutSegments.l0.eq_2 ..) ?_
    simp only [rgEnd h, if_false]
    exact evNow (by simp [cutAll])
  | cons x suf ih =>
    intro pre out a h hs ho h0 ha
    obtain ⟨h1, h2, h3, h4, h5⟩ := rgHead h (by omega) z35
    simp only [List.all_cons, Bool.and_eq_true] at hs
    have hx := seg_iff.1 hs.1
    have hpl : pre.length ≤ 20 := by omega
    refine Ev.step (fun k => impl_CutSegments.l0.eq_2 ..) ?_
    simp only [h1, h2, h3, rd_T35, h4, if_true, mx_eq, mn_eq]
    rw [wrapi (x := a + x.f0) (by omega) (by omega), wrapi (x := min (a + x.f0) t - max a f) (by omega) (by omega)]
    by_cases c : max a f < min (a + x.f0) t
    · refine evPos c (evPos (by omega) (evEq (ih _ _ _ h5 hs.2 (by simp; omega) (by omega) (by simp; omega)) ?_))
      simp [cutAll, c]
    · refine evNeg c (evEq (ih _ _ _ h5 hs.2 (by simp; omega) (by omega) (by simp; omega)) ?_)
      simp [cutAll, c]
theorem specCut_ev (l : List S35) (f t : Int) : Ev (fun k => spec_CutSegments.f k l f t) (cutRes l f t) := by
  have bad : ¬ (hasStep l f = true ∧ hasStep l t = true ∧ f < t) → Ev (fun k => spec_CutSegments.j0 k l f t true) (cutRes l f t) := fun h =>
    Ev.step (fun k => spec_CutSegments.j0.eq_2 ..) (evPos rfl (evNow (by unfold cutRes; rw [if_neg h])))
  unfold spec_CutSegments.f
  refine Ev.bind (stHas_ev l f) (evBy (fun c => Ev.bind (stHas_ev l t) (evBy (fun c' => ?_) (fun c' => bad (fun q => c' q.2.1)))) (fun c => bad (fun q => c q.1)))
  by_cases q : f ≥ t
  · simp only [decide_eq_true q]
    exact bad (fun r => by omega)
  · simp only [decide_eq_false q]
    refine Ev.step (fun k => spec_CutSegments.j0.eq_2 ..) (evNeg (by simp) ?_)
    obtain ⟨hg, f0, f1⟩ := hasStep_iff.1 c
    obtain ⟨_, t0, t1⟩ := hasStep_iff.1 c'
    have h := good_iff.1 hg
    unfold cutRes; rw [if_pos ⟨c, c', by omega⟩]
    exact evEq (cutSpec_l0 (by omega) (by omega) l h.1.2 l [] [] 0 rfl h.2.1 (by simp) (by omega) (by simp)) (by simp)
theorem implCut_ev (l : List S35) (f t : Int) : Ev (fun k => impl_CutSegments.f k l f t) (cutRes l f t) := by
  have bad : ¬ (hasStep l f = true ∧ hasStep l t = true ∧ f < t) → Ev (fun k => impl_CutSegments.j0 k l f t true) (cutRes l f t) := fun h =>
    Ev.step (fun k => impl_CutSegments.j0.eq_2 ..) (evPos rfl (evNow (by unfold cutRes; rw [if_neg h])))
  unfold impl_CutSegments.f
  refine Ev.bind (areSegs_ev l) (evBy (fun g => Ev.bind (isStepOf_ev f g) (evBy (fun c => Ev.bind (isStepOf_ev t g) (evBy (fun c' => ?_) (fun c' => bad (fun q => c' (decide_eq_true (hasStep_iff.1 q.2.1).2))))) (fun c => bad (fun q => c (decide_eq_true (hasStep_iff.1 q.1).2))))) (fun g => bad (fun q => g (hasStep_iff.1 q.1).1)))
  have c1 := of_decide_eq_true c
  have c2 := of_decide_eq_true c'
  by_cases q : f ≥ t
  · simp only [decide_eq_true q]
    exact bad (fun r => by omega)
  · simp only [decide_eq_false q]
    refine Ev.step (fun k => impl_CutSegments.j0.eq_2 ..) (evNeg (by simp) ?_)
    have h := good_iff.1 g
    unfold cutRes; rw [if_pos ⟨hasStep_iff.2 ⟨g, c1⟩, hasStep_iff.2 ⟨g, c2⟩, by omega⟩]
    exact evEq (cutImpl_l0 (by omega) (by omega) l h.1.2 l [] [] 0 rfl h.2.1 (by simp) (by omega) (by simp)) (by simp)
-- ** errat
def err (l : List S35) (s : Int) : Int := plc l s - 1000 * s
theorem stError_ev {l : List S35} {s : Int} (hl : l.length ≤ 1048576) (h : l.all seg = true) (h0 : 0 ≤ s) (hb : s ≤ 1000000000) : Ev (fun k => spec_stError.f k l s) (err l s) := by
  have := plc_bd (s := s) h h0
  unfold spec_stError.f err
  refine Ev.bind (stPlace_ev hl h h0 hb) ?_
  rw [wrapi (x := 1000 * s) (by omega) (by omega), wrapi (by omega) (by omega)]
  exact Ev.now _
theorem errorAt_ev {l : List S35} {s : Int} (hl : l.length ≤ 1048576) (h : l.all seg = true) (h0 : 0 ≤ s) (hb : s ≤ 1000000000) : Ev (fun k => impl_errorAt.f k l s) (err l s) := by
  have := plc_bd (s := s) h h0
  unfold impl_errorAt.f err
  refine Ev.bind (placeOf_ev hl h h0 hb) ?_
  rw [wrapi (x := 1000 * s) (by omega) (by omega), wrapi (by omega) (by omega)]
  exact Ev.now _
-- ** ends
def endsFrom : Int → List S35 → List Int
  | _, [] => []
  | a, x :: l => (a + x.f0) :: endsFrom (a + x.f0) l
def ends (l : List S35) : List Int := 0 :: endsFrom 0 l
theorem endsFrom_length : ∀ (l : List S35) (a : Int), (endsFrom a l).length = l.length
  | [], _ => rfl
  | x :: l, a => by simp [endsFrom, endsFrom_length l]
theorem endsFrom_bd : ∀ {l : List S35} {a : Int}, l.all seg = true → ∀ s, s ∈ endsFrom a l → a ≤ s ∧ s ≤ a + stps l
  | [], _, _, s, hs => by simp [endsFrom] at hs
  | x :: l, a, h, s, hs => by
    simp only [List.all_cons, Bool.and_eq_true] at h
    have hx := seg_iff.1 h.1
    have hb := stps_bd h.2
    simp only [endsFrom, List.mem_cons] at hs
    simp only [stps]
    rcases hs with r | r
    · omega
    · have := endsFrom_bd h.2 s r
      omega
theorem ends_bd {l : List S35} (hg : goodSegs l = true) : ∀ s, s ∈ ends l → 0 ≤ s ∧ s ≤ 2000 := by
  have h := good_iff.1 hg
  have hb := stps_bd h.2.1
  intro s hs
  simp only [ends, List.mem_cons] at hs
  rcases hs with r | r
  · omega
  · have := endsFrom_bd h.2.1 s r
    omega
theorem ends_length (l : List S35) : (ends l).length = l.length + 1 := by simp [ends, endsFrom_length]
theorem err_zero {l : List S35} (h : l.all seg = true) : err l 0 = 0 := by simp [err, plc_zero h]
theorem err_bd {l : List S35} (hg : goodSegs l = true) {s : Int} (h0 : 0 ≤ s) (h1 : s ≤ 2000) : -100000000 ≤ err l s ∧ err l s ≤ 100000000 := by
  have h := good_iff.1 hg
  have := plc_bd (s := s) h.2.1 h0
  unfold err; omega
theorem stEnds_l0 (l : List S35) (hl : l.length ≤ 1048576) : ∀ (suf pre : List S35) (acc : List Int) (a : Int), l = pre ++ suf → suf.all seg = true → acc.length = pre.length → 0 ≤ a → a ≤ 500 * (pre.length : Int) →
    Ev (fun k => spec_stEnds.l0 k (acc ++ [a]) l (l.length : Int) (pre.length : Int)) (acc ++ [a] ++ endsFrom a suf) := by
  intro suf
  induction suf with
  | nil =>
    intro pre acc a h hs hc h0 ha
    refine Ev.step (fun k => spec_stEnds.l0.eq_2 ..) ?_
    simp only [rgEnd h, if_false]
    exact evNow (by simp [endsFrom])
  | cons x suf ih =>
    intro pre acc a h hs hc h0 ha
    obtain ⟨h1, h2, h3, h4, h5⟩ := rgHead h (by omega) z35
    simp only [List.all_cons, Bool.and_eq_true] at hs
    have hx := seg_iff.1 hs.1
    have hpl : pre.length ≤ 1048576 := by omega
    refine Ev.step (fun k => spec_stEnds.l0.eq_2 ..) ?_
    have e : wrap64 (((acc ++ [a]).length : Int) - 1) = (acc.length : Int) := by simp; rw [wrapi (by omega) (by omega)]
    have e2 : rd (acc ++ [a]) (acc.length : Int) = a := by simp [rd]
    simp only [h1, h2, h3, rd_T35, h4, if_true, e, e2]
    rw [wrapi (x := a + x.f0) (by omega) (by omega)]
    refine evPos (by omega) (evPos (by simp; omega) (evPos (by simp; omega) ?_))
    refine evEq (ih (pre ++ [x]) (acc ++ [a]) (a + x.f0) h5 hs.2 (by simp [hc]) (by omega) (by simp; omega)) ?_
    simp [endsFrom]
theorem stEnds_ev {l : List S35} (hl : l.length ≤ 1048576) (hs : l.all seg = true) : Ev (fun k => spec_stEnds.f k l) (ends l) :=
  evEq (stEnds_l0 l hl l [] [] 0 rfl hs rfl (by omega) (by simp)) (by simp [ends])
theorem errorsOf_l0 (l : List S35) (hg : goodSegs l = true) : ∀ (suf pre : List S35) (er st : List Int) (a : Int), l = pre ++ suf → suf.all seg = true → er.length ≤ pre.length + 1 → st.length ≤ pre.length + 1 → 0 ≤ a → a ≤ 500 * (pre.length : Int) →
    Ev (fun k => impl_errorsOf.l0 k l er st a l (l.length : Int) (pre.length : Int)) (er ++ (endsFrom a suf).map (err l), st ++ endsFrom a suf) := by
  have hgg := good_iff.1 hg
  intro suf
  induction suf with
  | nil =>
    intro pre er st a h hs he ht h0 ha
    refine Ev.step (fun k => impl_errorsOf.l0.eq_2 ..) ?_
    simp only [rgEnd h, if_false]
    exact evNow (by simp [endsFrom])
  | cons x suf ih =>
    intro pre er st a h hs he ht h0 ha
    obtain ⟨h1, h2, h3, h4, h5⟩ := rgHead h (by omega) z35
    simp only [List.all_cons, Bool.and_eq_true] at hs
    have hx := seg_iff.1 hs.1
    have hpl : pre.length ≤ 20 := by omega
    refine Ev.step (fun k => impl_errorsOf.l0.eq_2 ..) ?_
    simp only [h1, h2, h3, rd_T35, h4, if_true]
    rw [wrapi (x := a + x.f0) (by omega) (by omega)]
    refine Ev.bind (errorAt_ev (by omega) hgg.2.1 (show 0 ≤ a + x.f0 by omega) (by omega)) (evPos (by omega) (evPos (by omega) ?_))
    refine evEq (ih (pre ++ [x]) (er ++ [err l (a + x.f0)]) (st ++ [a + x.f0]) (a + x.f0) h5 hs.2 (by simp; omega) (by simp; omega) (by omega) (by simp; omega)) ?_
    simp [endsFrom]
theorem errorsOf_ev {l : List S35} (hg : goodSegs l = true) : Ev (fun k => impl_errorsOf.f k l) ((ends l).map (err l), ends l) := by
  have h := good_iff.1 hg
  exact evEq (errorsOf_l0 l hg l [] [0] [0] 0 rfl h.2.1 (by simp) (by simp) (by omega) (by simp)) (by simp [ends, err_zero h.2.1])
-- ** abs
theorem l1Abs_eq {o : Int} (h : -1000000000 ≤ o ∧ o ≤ 1000000000) : spec_l1Abs.f o = some (o.natAbs : Int) := by
  unfold spec_l1Abs.f
  rw [wrapi (by omega) (by omega), l1Most_eq]
  simp only [Option.bind_some]; congr 1; omega
-- ** BestOffset_
def lohi (l : List S35) : Int → Int → List Int → Int × Int
  | lo, hi, [] => (lo, hi)
  | lo, hi, s :: r => lohi l (min lo (err l s)) (max hi (err l s)) r
def bestOf (lo hi : Int) : Int × Int × Bool := ((-lo - hi) / 2, max (hi + (-lo - hi) / 2) (-lo - (-lo - hi) / 2), true)
def bestRes (l : List S35) : Int × Int × Bool := if goodSegs l = true then bestOf (lohi l 0 0 (ends l)).1 (lohi l 0 0 (ends l)).2 else (0, 0, false)
theorem bestSpec_end {lo hi : Int} (h0 : -100000000 ≤ lo) (h1 : lo ≤ 0) (h2 : 0 ≤ hi) (h3 : hi ≤ 100000000) :
    Ev (fun k => if wrap64 (lo + hi) > 0 then spec_BestOffset.j1 k lo hi (wrap64 (Int.tdiv (wrap64 (-(wrap64 (lo + hi)))) 2)) ((Int.tmod (wrap64 (lo + hi)) 2) == 1) else spec_BestOffset.j1 k lo hi (wrap64 (Int.tdiv (wrap64 (-(wrap64 (lo + hi)))) 2)) false) (bestOf lo hi) := by
  rw [wrapi (x := lo + hi) (by omega) (by omega), wrapi (x := -(lo + hi)) (by omega) (by omega)]
  have ht : Int.tdiv (-(lo + hi)) 2 = if lo + hi > 0 then -((lo + hi) / 2) else (-(lo + hi)) / 2 := by
    split
    · rw [Int.neg_tdiv, Int.tdiv_eq_ediv_of_nonneg (by omega)]
    · rw [Int.tdiv_eq_ediv_of_nonneg (by omega)]
  rw [ht]
  by_cases c : lo + hi > 0
  · rw [if_pos c]
    refine evPos c ?_
    rw [wrapi (x := -((lo + hi) / 2)) (by omega) (by omega), Int.tmod_eq_emod_of_nonneg (by omega)]
    refine Ev.step (fun k => spec_BestOffset.j1.eq_2 ..) ?_
    by_cases o : (lo + hi) % 2 = 1
    · refine evPos (by simp [o]) ?_
      rw [wrapi (x := -((lo + hi) / 2) - 1) (by omega) (by omega), wrapi (x := lo + (-((lo + hi) / 2) - 1)) (by omega) (by omega), wrapi (x := hi + (-((lo + hi) / 2) - 1)) (by omega) (by omega),
        l1Abs_eq (by omega), l1Abs_eq (by omega)]
      simp only [Option.bind_some, l1Most_eq]
      refine evNow ?_
      unfold bestOf
      have e : -((lo + hi) / 2) - 1 = (-lo - hi) / 2 := by omega
      rw [e]
      simp only [Prod.mk.injEq, and_true, true_and]; omega
    · refine evNeg (by simp [o]) ?_
      rw [wrapi (x := lo + -((lo + hi) / 2)) (by omega) (by omega), wrapi (x := hi + -((lo + hi) / 2)) (by omega) (by omega), l1Abs_eq (by omega), l1Abs_eq (by omega)]
      simp only [Option.bind_some, l1Most_eq]
      refine evNow ?_
      unfold bestOf
      have e : -((lo + hi) / 2) = (-lo - hi) / 2 := by omega
      rw [e]
      simp only [Prod.mk.injEq, and_true, true_and]; omega
  · rw [if_neg c]
    refine evNeg c ?_
    rw [wrapi (x := (-(lo + hi)) / 2) (by omega) (by omega)]
    refine Ev.step (fun k => spec_BestOffset.j1.eq_2 ..) (evNeg (by simp) ?_)
    rw [wrapi (x := lo + (-(lo + hi)) / 2) (by omega) (by omega), wrapi (x := hi + (-(lo + hi)) / 2) (by omega) (by omega), l1Abs_eq (by omega), l1Abs_eq (by omega)]
    simp only [Option.bind_some, l1Most_eq]
    refine evNow ?_
    unfold bestOf
    have e : (-(lo + hi)) / 2 = (-lo - hi) / 2 := by omega
    rw [e]
    simp only [Prod.mk.injEq, and_true, true_and]; omega
theorem bestSpec_l0 {l : List S35} (hg : goodSegs l = true) (E : List Int) (hE : ∀ s, s ∈ E → 0 ≤ s ∧ s ≤ 2000) (hl : E.length ≤ 1048576) : ∀ (suf pre : List Int) (lo hi : Int), E = pre ++ suf → -100000000 ≤ lo → lo ≤ 0 → 0 ≤ hi → hi ≤ 100000000 →
    Ev (fun k => spec_BestOffset.l0 k l lo hi E (E.length : Int) (pre.length : Int)) (bestOf (lohi l lo hi suf).1 (lohi l lo hi suf).2) := by
  have h := good_iff.1 hg
  intro suf
  induction suf with
  | nil =>
    intro pre lo hi he h0 h1 h2 h3
    refine Ev.step (fun k => spec_BestOffset.l0.eq_2 ..) ?_
    simp only [rgEnd he, if_false]
    exact bestSpec_end h0 h1 h2 h3
  | cons s suf ih =>
    intro pre lo hi he k0 k1 k2 k3
    obtain ⟨h1, h2, h3, h4, h5⟩ := rgHead he (by omega) 0
    have hs := hE s (by rw [he]; simp)
    have hb := err_bd hg hs.1 hs.2
    refine Ev.step (fun k => spec_BestOffset.l0.eq_2 ..) ?_
    simp only [h1, h2, h3, rd, h4, if_true]
    refine Ev.bind (stError_ev (by omega) h.2.1 hs.1 (by omega)) ?_
    simp only [l1Least_eq, Option.bind_some]
    refine Ev.bind (stError_ev (by omega) h.2.1 hs.1 (by omega)) ?_
    simp only [l1Most_eq, Option.bind_some, lohi]
    exact ih _ _ _ h5 (by omega) (by omega) (by omega) (by omega)
theorem specBest_ev (l : List S35) : Ev (fun k => spec_BestOffset.f k l) (bestRes l) := by
  unfold spec_BestOffset.f bestRes
  refine Ev.bind (stGood_ev l) (evIte (fun c => ?_) (fun c => Ev.now _))
  have h := good_iff.1 c
  exact Ev.bind (stEnds_ev (by omega) h.2.1) (bestSpec_l0 c (ends l) (ends_bd c) (by rw [ends_length]; omega) (ends l) [] 0 0 rfl (by omega) (by omega) (by omega) (by omega))
theorem floorDiv2_eq {a : Int} (h0 : -1000000000 ≤ a) (h1 : a ≤ 1000000000) : impl_floorDiv.f a 2 = some (a / 2) := by
  unfold impl_floorDiv.f
  rw [if_neg (by omega)]
  by_cases c : 0 ≤ a
  · rw [Int.tmod_eq_emod_of_nonneg c, Int.tdiv_eq_ediv_of_nonneg c, wrapi (x := a / 2) (by omega) (by omega)]
    have : (decide (a < 0) != decide ((2 : Int) < 0)) = false := by rw [decide_eq_false (by omega)]; rfl
    rw [this]
    split <;> rfl
  · obtain ⟨b, rfl⟩ : ∃ b, a = -b := ⟨-a, by omega⟩
    rw [Int.neg_tmod, Int.neg_tdiv, Int.tmod_eq_emod_of_nonneg (by omega), Int.tdiv_eq_ediv_of_nonneg (by omega), wrapi (x := -(b / 2)) (by omega) (by omega), wrapi (x := -(b / 2) - 1) (by omega) (by omega)]
    have : (decide (-b < 0) != decide ((2 : Int) < 0)) = true := by rw [decide_eq_true (show -b < 0 by omega)]; rfl
    rw [this]
    split
    · congr 1; omega
    · rw [if_pos rfl]; congr 1; omega
theorem bestImpl_l0 {l : List S35} (hg : goodSegs l = true) (E : List Int) (hE : ∀ s, s ∈ E → 0 ≤ s ∧ s ≤ 2000) (hl : E.length ≤ 1048576) : ∀ (suf pre : List Int) (lo hi : Int), E = pre ++ suf → -100000000 ≤ lo → lo ≤ 0 → 0 ≤ hi → hi ≤ 100000000 →
    Ev (fun k => impl_BestOffset.l0 k lo hi (E.map (err l)) (E.length : Int) (pre.length : Int)) (bestOf (lohi l lo hi suf).1 (lohi l lo hi suf).2) := by
  intro suf
  induction suf with
  | nil =>
    intro pre lo hi he h0 h1 h2 h3
    refine Ev.step (fun k => impl_BestOffset.l0.eq_2 ..) ?_
    simp only [rgEnd he, if_false]
    rw [wrapi (x := -lo) (by omega) (by omega), wrapi (x := -lo - hi) (by omega) (by omega), floorDiv2_eq (by omega) (by omega)]
    simp only [Option.bind_some, mx_eq, lohi]
    rw [wrapi (x := hi + (-lo - hi) / 2) (by omega) (by omega), wrapi (x := -lo - (-lo - hi) / 2) (by omega) (by omega)]
    exact Ev.now _
  | cons s suf ih =>
    intro pre lo hi he k0 k1 k2 k3
    obtain ⟨h1, h2, h3, h4, h5⟩ := rgHead he (by omega) 0
    have hs := hE s (by rw [he]; simp)
    have hb := err_bd hg hs.1 hs.2
    have hget : E[pre.length]? = some s := by rw [he]; simp
    have e1 : rd (E.map (err l)) (pre.length : Int) = err l s := by simp [rd, hget]
    refine Ev.step (fun k => impl_BestOffset.l0.eq_2 ..) ?_
    simp only [h1, h2, h3, e1, List.length_map, if_true, mn_eq, mx_eq, lohi]
    exact ih _ _ _ h5 (by omega) (by omega) (by omega) (by omega)
theorem implBest_ev (l : List S35) : Ev (fun k => impl_BestOffset.f k l) (bestRes l) := by
  unfold impl_BestOffset.f bestRes
  refine Ev.bind (areSegs_ev l) (evIte (fun c => ?_) (fun c => Ev.now _))
  have h := good_iff.1 c
  refine Ev.bind (errorsOf_ev c) ?_
  simp only [List.length_map]
  exact bestImpl_l0 c (ends l) (ends_bd c) (by rw [ends_length]; omega) (ends l) [] 0 0 rfl (by omega) (by omega) (by omega) (by omega)
-- ** segmath
theorem stps_app : ∀ (p q : List S35), stps (p ++ q) = stps p + stps q
  | [], q => by simp [stps]
  | x :: p, q => by simp only [List.cons_append, stps, stps_app p q]; omega
def nn (l : List S35) : Prop := ∀ x, x ∈ l → 0 ≤ x.f0
theorem nn_seg {l : List S35} (h : l.all seg = true) : nn l := fun x hx => by have := seg_iff.1 (List.all_eq_true.1 h x hx); omega
theorem nn_stps : ∀ {l : List S35}, nn l → 0 ≤ stps l
  | [], _ => by simp [stps]
  | x :: l, h => by
    have := nn_stps (l := l) (fun y hy => h y (by simp [hy]))
    have := h x (by simp)
    simp only [stps]; omega
theorem plc_app : ∀ (p q : List S35) (s : Int), nn p → 0 ≤ s → plc (p ++ q) s = plc p s + plc q (s - min (stps p) s)
  | [], q, s, _, h0 => by simp only [List.nil_append, plc, stps]; rw [show s - min 0 s = s by omega]; omega
  | x :: p, q, s, h, h0 => by
    have hp : nn p := fun y hy => h y (by simp [hy])
    have hx := h x (by simp)
    have hs := nn_stps hp
    have ih := plc_app p q (s - min x.f0 s) hp (by omega)
    simp only [List.cons_append, plc, stps, ih]
    rw [show s - min x.f0 s - min (stps p) (s - min x.f0 s) = s - min (x.f0 + stps p) s by omega]
    omega
theorem snocCases {α : Type} (l : List α) : l = [] ∨ ∃ o y, l = o ++ [y] := by
  rcases List.eq_nil_or_concat l with h | ⟨o, y, h⟩
  · exact .inl h
  · exact .inr ⟨o, y, by rw [h, List.concat_eq_append]⟩
theorem joinStep_cases (out : List S35) (x : S35) :
    (∃ o y, out = o ++ [y] ∧ y.f1 = x.f1 ∧ joinStep out x = o ++ [⟨y.f0 + x.f0, y.f1⟩]) ∨ ((∀ o y, out = o ++ [y] → y.f1 ≠ x.f1) ∧ joinStep out x = out ++ [x]) := by
  rcases snocCases out with rfl | ⟨o, y, rfl⟩
  · exact .inr ⟨fun o y h => by simp at h, by unfold joinStep; rw [if_neg (by simp)]⟩
  · have e : (o ++ [y]).getD ((o ++ [y]).length - 1) z35 = y := by simp
    by_cases c : y.f1 = x.f1
    · refine .inl ⟨o, y, rfl, c, ?_⟩
      unfold joinStep
      rw [e, if_pos ⟨by simp, c⟩]
      simp
    · refine .inr ⟨fun o' y' h => ?_, ?_⟩
      · have := List.append_inj_right' h rfl
        simp only [List.cons.injEq, and_true] at this
        rw [← this]; exact c
      · unfold joinStep; rw [e, if_neg (fun h => c h.2)]
theorem joinStep_nn {out : List S35} {x : S35} (h : nn out) (hx : 0 ≤ x.f0) : nn (joinStep out x) := by
  rcases joinStep_cases out x with ⟨o, y, rfl, _, e⟩ | ⟨_, e⟩
  · rw [e]; intro w hw
    have hy := h y (by simp)
    rcases List.mem_append.1 hw with r | r
    · exact h w (by simp [r])
    · rw [List.mem_singleton] at r; subst r; dsimp only; omega
  · rw [e]; intro w hw
    rcases List.mem_append.1 hw with r | r
    · exact h w r
    · rw [List.mem_singleton] at r; subst r; exact hx
theorem joinStep_stps (out : List S35) (x : S35) : stps (joinStep out x) = stps out + x.f0 := by
  rcases joinStep_cases out x with ⟨o, y, rfl, _, e⟩ | ⟨_, e⟩
  · rw [e]; simp only [stps_app, stps]; omega
  · rw [e]; simp only [stps_app, stps]; omega
theorem joinStep_plc {out : List S35} {x : S35} (h : nn out) (hx : 0 ≤ x.f0) (s : Int) (h0 : 0 ≤ s) : plc (joinStep out x) s = plc (out ++ [x]) s := by
  rcases joinStep_cases out x with ⟨o, y, rfl, c, e⟩ | ⟨_, e⟩
  · have ho : nn o := fun w hw => h w (by simp [hw])
    have hy := h y (by simp)
    have hs := nn_stps ho
    rw [e, List.append_assoc, plc_app _ _ s ho h0, plc_app o _ s ho h0]
    have hu : 0 ≤ s - min (stps o) s := by omega
    generalize s - min (stps o) s = u at hu
    simp only [List.cons_append, List.nil_append, plc]
    rw [← c]
    have e : min (y.f0 + x.f0) u = min y.f0 u + min x.f0 (u - min y.f0 u) := by omega
    rw [e, Int.add_mul]
    omega
  · rw [e]
theorem joinAll_stps : ∀ (l out : List S35), stps (joinAll out l) = stps out + stps l
  | [], out => by simp [joinAll, stps]
  | x :: l, out => by simp only [joinAll, joinAll_stps l, joinStep_stps, stps]; omega
theorem joinAll_plc : ∀ (l out : List S35), nn out → nn l → ∀ s, 0 ≤ s → plc (joinAll out l) s = plc (out ++ l) s
  | [], out, _, _, s, _ => by simp [joinAll]
  | x :: l, out, ho, hl, s, h0 => by
    have hx := hl x (by simp)
    have hj := joinStep_nn ho hx
    have h1 : nn (out ++ [x]) := fun w hw => by
      rcases List.mem_append.1 hw with r | r
      · exact ho w r
      · rw [List.mem_singleton] at r; subst r; exact hx
    rw [joinAll, joinAll_plc l _ hj (fun y hy => hl y (by simp [hy])) s h0, show out ++ x :: l = (out ++ [x]) ++ l by simp, plc_app _ _ s hj h0, plc_app _ _ s h1 h0, joinStep_plc ho hx s h0, joinStep_stps, stps_app]
    simp [stps]
def apt (l : List S35) : Prop := ∀ p a b q, l = p ++ a :: b :: q → a.f1 ≠ b.f1
theorem joinStep_apt {out : List S35} {x : S35} (h : apt out) : apt (joinStep out x) := by
  rcases joinStep_cases out x with ⟨o, y, rfl, c, e⟩ | ⟨n, e⟩
  · rw [e]; intro p a b q hq
    rcases snocCases q with rfl | ⟨q, w, rfl⟩
    · have e1 : o ++ [⟨y.f0 + x.f0, y.f1⟩] = (p ++ [a]) ++ [b] := by rw [hq]; simp
      have h1 := List.append_inj_left' e1 rfl
      have h2 := List.append_inj_right' e1 rfl
      simp only [List.cons.injEq, and_true] at h2
      have := h p a y [] (by rw [h1]; simp)
      rw [← h2]; exact this
    · have e1 : o ++ [⟨y.f0 + x.f0, y.f1⟩] = (p ++ a :: b :: q) ++ [w] := by rw [hq]; simp
      have h1 := List.append_inj_left' e1 rfl
      exact h p a b (q ++ [y]) (by rw [h1]; simp)
  · rw [e]; intro p a b q hq
    rcases snocCases q with rfl | ⟨q, w, rfl⟩
    · have e1 : out ++ [x] = (p ++ [a]) ++ [b] := by rw [hq]; simp
      have h1 := List.append_inj_left' e1 rfl
      have h2 := List.append_inj_right' e1 rfl
      simp only [List.cons.injEq, and_true] at h2
      rw [← h2]; exact n p a h1
    · have e1 : out ++ [x] = (p ++ a :: b :: q) ++ [w] := by rw [hq]; simp
      exact h p a b q (List.append_inj_left' e1 rfl)
theorem joinAll_apt : ∀ (l out : List S35), apt out → apt (joinAll out l)
  | [], _, h => h
  | _ :: l, _, h => joinAll_apt l _ (joinStep_apt h)
def tot : List S35 → Int
  | [] => 0
  | x :: l => x.f0 * x.f1 + tot l
theorem plc_full : ∀ {l : List S35}, nn l → plc l (stps l) = tot l
  | [], _ => rfl
  | x :: l, h => by
    have hl : nn l := fun y hy => h y (by simp [hy])
    have hx := h x (by simp)
    have hs := nn_stps hl
    simp only [plc, stps, tot]
    rw [show min x.f0 (x.f0 + stps l) = x.f0 by omega, show x.f0 + stps l - x.f0 = stps l by omega, plc_full hl]
theorem cutAll_math {f t : Int} (hft : f ≤ t) : ∀ (l : List S35) (a : Int), l.all seg = true →
    (cutAll f t a l).all seg = true ∧ tot (cutAll f t a l) = plc l (max 0 (t - a)) - plc l (max 0 (f - a)) ∧ stps (cutAll f t a l) = min (stps l) (max 0 (t - a)) - min (stps l) (max 0 (f - a))
  | [], a, _ => by simp [cutAll, tot, plc, stps]; omega
  | x :: l, a, h => by
    simp only [List.all_cons, Bool.and_eq_true] at h
    have hx := seg_iff.1 h.1
    have hb := stps_bd h.2
    obtain ⟨i1, i2, i3⟩ := cutAll_math hft l (a + x.f0) h.2
    have e1 : max 0 (t - a) - min x.f0 (max 0 (t - a)) = max 0 (t - (a + x.f0)) := by omega
    have e2 : max 0 (f - a) - min x.f0 (max 0 (f - a)) = max 0 (f - (a + x.f0)) := by omega
    simp only [plc, stps, e1, e2]
    by_cases c : max a f < min (a + x.f0) t
    · have e : cutAll f t a (x :: l) = ⟨min (a + x.f0) t - max a f, x.f1⟩ :: cutAll f t (a + x.f0) l := by rw [cutAll, if_pos c]
      rw [e]
      refine ⟨?_, ?_, ?_⟩
      · simp only [List.all_cons, Bool.and_eq_true]
        exact ⟨seg_iff.2 (by dsimp only; omega), i1⟩
      · simp only [tot, i2]
        have : min (a + x.f0) t - max a f = min x.f0 (max 0 (t - a)) - min x.f0 (max 0 (f - a)) := by omega
        rw [this, Int.sub_mul]; omega
      · simp only [stps, i3]; omega
    · have e : cutAll f t a (x :: l) = cutAll f t (a + x.f0) l := by rw [cutAll, if_neg c]
      rw [e]
      refine ⟨i1, ?_, ?_⟩
      · have : min x.f0 (max 0 (t - a)) = min x.f0 (max 0 (f - a)) := by omega
        rw [i2, this]; omega
      · rw [i3]; omega
theorem cut_good {u : List S35} {f t : Int} (hf : hasStep u f = true) (ht : hasStep u t = true) (h : f < t) :
    goodSegs (cutAll f t 0 u) = true ∧ stps (cutAll f t 0 u) = t - f ∧ plc (cutAll f t 0 u) (t - f) = plc u t - plc u f := by
  obtain ⟨g, f0, f1⟩ := hasStep_iff.1 hf
  obtain ⟨_, t0, t1⟩ := hasStep_iff.1 ht
  have hg := good_iff.1 g
  obtain ⟨i1, i2, i3⟩ := cutAll_math (show f ≤ t by omega) u 0 hg.2.1
  have hl := cutAll_len f t u 0
  have e : stps (cutAll f t 0 u) = t - f := by rw [i3]; omega
  have hb := stps_bd i1
  refine ⟨good_iff.2 ⟨⟨?_, by omega⟩, i1, by omega⟩, e, ?_⟩
  · rcases Nat.eq_zero_or_pos (cutAll f t 0 u).length with z | z
    · rw [z] at hb; omega
    · omega
  · have := plc_full (nn_seg i1)
    rw [← e, this, i2, Int.sub_zero, Int.sub_zero, show max 0 t = t by omega, show max 0 f = f by omega]
theorem best_law {lo hi : Int} : ((((lo + (bestOf lo hi).1).natAbs : Int) ≤ (bestOf lo hi).2.1 ∧ ((hi + (bestOf lo hi).1).natAbs : Int) ≤ (bestOf lo hi).2.1) ∨ hi < lo) ∧ hi - lo ≤ 2 * (bestOf lo hi).2.1 ∧ 2 * (bestOf lo hi).2.1 ≤ hi - lo + 1 := by
  unfold bestOf; dsimp only; omega
-- ** draws
theorem and255 (y : Int) : 0 ≤ wrap64 (Go.bits .and .u64 (IntKind.u64.wrap y / 1099511627776) 255) ∧ wrap64 (Go.bits .and .u64 (IntKind.u64.wrap y / 1099511627776) 255) ≤ 255 := by
  have h : 0 ≤ IntKind.u64.wrap y / 1099511627776 ∧ IntKind.u64.wrap y / 1099511627776 < 18446744073709551616 := by rw [IntKind.wrap_u64]; omega
  generalize IntKind.u64.wrap y / 1099511627776 = x at h
  have e := Go.bits_and_u64_nat x.toNat 255 (by omega) (by omega)
  rw [show ((x.toNat : Nat) : Int) = x by omega] at e
  have l : x.toNat &&& 255 ≤ 255 := Nat.and_le_right
  rw [show Go.bits .and .u64 x 255 = ((x.toNat &&& 255 : Nat) : Int) from e, wrapi (by omega) (by omega)]
  omega
def bytes (l : List Int) : Prop := ∀ x, x ∈ l → 0 ≤ x ∧ x ≤ 255
theorem next_ok {l : List Int} (hl : bytes l) {a : Int} (s : Int) (h0 : 0 ≤ a) (h1 : a ≤ 1000000000) : ∃ v s', spec_l1Cur_next.f l a s = some (v, a + 1, s') ∧ 0 ≤ v ∧ v ≤ 255 := by
  unfold spec_l1Cur_next.f
  rw [wrapi (x := a + 1) (by omega) (by omega)]
  by_cases c : a < (l.length : Int)
  · have hr : 0 ≤ rd l a ∧ rd l a ≤ 255 := hl _ (by unfold rd; rw [List.getD_eq_getElem?_getD, List.getElem?_eq_getElem (by omega), Option.getD_some]; exact List.getElem_mem _)
    rw [if_pos c, if_pos h0]
    split
    · exact ⟨_, _, rfl, by rw [wrapi (by omega) (by omega)]; omega⟩
    · exact ⟨_, _, rfl, and255 _⟩
  · rw [if_neg c]
    split
    · exact ⟨_, _, rfl, by omega⟩
    · exact ⟨_, _, rfl, and255 _⟩
theorem pick_ok {l : List Int} (hl : bytes l) {a : Int} (s : Int) (h0 : 0 ≤ a) (h1 : a ≤ 900000000) {m : Int} (hm : m ≤ 65000) : ∃ v a' s', spec_l1Cur_pick.f l a s m = some (v, a', s') ∧ (0 ≤ v ∧ (1 ≤ m → v < m)) ∧ a ≤ a' ∧ a' ≤ a + 2 := by
  unfold spec_l1Cur_pick.f
  by_cases c : m ≤ 1
  · rw [if_pos c]; exact ⟨_, _, _, rfl, by omega⟩
  · rw [if_neg c]
    obtain ⟨v, s', e, hv⟩ := next_ok hl s h0 (by omega)
    rw [e]
    simp only [Option.bind_some]
    by_cases c1 : m > 200
    · obtain ⟨v2, s2, e2, hv2⟩ := next_ok hl s' (show 0 ≤ a + 1 by omega) (by omega)
      rw [if_pos c1, e2]
      simp only [Option.bind_some]
      rw [if_neg (by omega), wrapi (x := v * 256) (by omega) (by omega), wrapi (x := v * 256 + v2) (by omega) (by omega)]
      exact ⟨_, _, _, rfl, ⟨Int.tmod_nonneg _ (by omega), fun _ => Int.tmod_lt_of_pos _ (by omega)⟩, by omega, by omega⟩
    · rw [if_neg c1, if_neg (by omega)]
      exact ⟨_, _, _, rfl, ⟨Int.tmod_nonneg _ (by omega), fun _ => Int.tmod_lt_of_pos _ (by omega)⟩, by omega, by omega⟩
theorem among_ok {l : List Int} (hl : bytes l) {a : Int} (s : Int) (h0 : 0 ≤ a) (h1 : a ≤ 900000000) {q : List Int} (hq : 1 ≤ q.length ∧ q.length ≤ 1000) : ∃ v a' s', spec_l1Cur_among.f l a s q = some (v, a', s') ∧ a ≤ a' ∧ a' ≤ a + 2 := by
  unfold spec_l1Cur_among.f
  obtain ⟨v, a', s', e, hv, ha⟩ := pick_ok hl s h0 h1 (m := (q.length : Int)) (by omega)
  rw [e]
  simp only [Option.bind_some]
  rw [if_pos hv.1, if_pos (hv.2 (by omega))]
  exact ⟨_, _, _, rfl, ha⟩
theorem one_ok {l : List Int} (hl : bytes l) {a : Int} (s : Int) (h0 : 0 ≤ a) (h1 : a ≤ 900000000) {m : Int} (hm : m ≤ 65000) : ∃ v a' s', spec_l1Cur_one.f l a s m = some (v, a', s') ∧ a ≤ a' ∧ a' ≤ a + 2 := by
  unfold spec_l1Cur_one.f
  obtain ⟨v, a', s', e, hv, ha⟩ := pick_ok hl s h0 h1 hm
  rw [e]
  exact ⟨_, _, _, rfl, ha⟩
-- ** drawseg
theorem segs_l1 (q : List Int) (x7 a s : Int) (h7 : x7 ≤ 100) : ∀ (d : Nat) (x : List S35), x7 - (x.length : Int) ≤ d → x.length ≤ 100 → ∃ r, Ev (fun k => spec_l1Cur_segments.l1 k x x7 q a s) (r, a, s) ∧ r.length ≤ 100 := by
  intro d
  induction d with
  | zero =>
    intro x hx hl
    exact ⟨x, Ev.step (fun k => spec_l1Cur_segments.l1.eq_2 ..) (evNeg (by omega) (Ev.now _)), hl⟩
  | succ d ih =>
    intro x hx hl
    by_cases c : (x.length : Int) < x7
    · obtain ⟨r, h1, h2⟩ := ih (x ++ [⟨2, 1001⟩]) (by simp; omega) (by simp; omega)
      exact ⟨r, Ev.step (fun k => spec_l1Cur_segments.l1.eq_2 ..) (evPos c (evPos (by omega) h1)), h2⟩
    · exact ⟨x, Ev.step (fun k => spec_l1Cur_segments.l1.eq_2 ..) (evNeg c (Ev.now _)), hl⟩
theorem segs_l0 {q : List Int} (hl : bytes q) (n : Int) (hn : 1 ≤ n ∧ n ≤ 20) : ∀ (d : Nat) (x : List S35) (a s : Int), (x.length : Int) + d = n → 0 ≤ a → a + 10 * (d : Int) ≤ 100000 → ∃ r a' s', Ev (fun k => spec_l1Cur_segments.l0 k x n q a s) (r, a', s') ∧ r.length ≤ 100 ∧ a ≤ a' ∧ a' ≤ a + 10 * (d : Int) + 20 := by
  intro d
  induction d with
  | zero =>
    intro x a s hx h0 h1
    obtain ⟨v, a1, s1, e1, hv, h1a⟩ := pick_ok hl s h0 (by omega) (m := n) (by omega)
    have hv2 := hv.2 (by omega)
    obtain ⟨w, a2, s2, e2, hw, h2a⟩ := pick_ok hl s1 (show 0 ≤ a1 by omega) (by omega) (m := 30) (by omega)
    by_cases c0 : w = 0
    · obtain ⟨z, a3, s3, e3, h3a⟩ := among_ok hl s2 (show 0 ≤ a2 by omega) (by omega) (q := [0, 500, 501]) (by simp)
      refine ⟨x.set v.toNat ⟨z, (rd_T35 x v).f1⟩, a3, s3, Ev.step (fun k => spec_l1Cur_segments.l0.eq_2 ..) (evNeg (by omega) ?_), ?_, by omega, by omega⟩
      · simp only [e1, Option.bind_some, e2]
        refine evPos hv.1 (evPos (by omega) (evPos c0 ?_))
        simp only [e3, Option.bind_some]
        exact Ev.now _
      · simp; omega
    · by_cases c1 : w = 1
      · obtain ⟨z, a3, s3, e3, h3a⟩ := among_ok hl s2 (show 0 ≤ a2 by omega) (by omega) (q := [899, 1101]) (by simp)
        refine ⟨x.set v.toNat ⟨(rd_T35 x v).f0, z⟩, a3, s3, Ev.step (fun k => spec_l1Cur_segments.l0.eq_2 ..) (evNeg (by omega) ?_), ?_, by omega, by omega⟩
        · simp only [e1, Option.bind_some, e2]
          refine evPos hv.1 (evPos (by omega) (evNeg c0 (evPos c1 ?_)))
          simp only [e3, Option.bind_some]
          exact Ev.now _
        · simp; omega
      · by_cases c2 : w = 2
        · obtain ⟨z, a3, s3, e3, _, h3a⟩ := pick_ok hl s2 (show 0 ≤ a2 by omega) (by omega) (m := 2) (by omega)
          refine ⟨[⟨500, 1100⟩, ⟨500, 1100⟩, ⟨500, 900⟩, ⟨499, 1000⟩, ⟨wrap64 (1 + z), 1001⟩], a3, s3, Ev.step (fun k => spec_l1Cur_segments.l0.eq_2 ..) (evNeg (by omega) ?_), ?_, by omega, by omega⟩
          · simp only [e1, Option.bind_some, e2]
            refine evPos hv.1 (evPos (by omega) (evNeg c0 (evNeg c1 (evPos c2 ?_))))
            simp only [e3, Option.bind_some]
            exact Ev.now _
          · simp
        · by_cases c3 : w = 3
          · obtain ⟨z, a3, s3, e3, hz, h3a⟩ := pick_ok hl s2 (show 0 ≤ a2 by omega) (by omega) (m := 2) (by omega)
            have hz2 := hz.2 (by omega)
            obtain ⟨r, hE, hr⟩ := segs_l1 q (wrap64 (20 + z)) a3 s3 (by rw [wrapi (by omega) (by omega)]; omega) 100 x (by rw [wrapi (by omega) (by omega)]; omega) (by omega)
            refine ⟨r, a3, s3, Ev.step (fun k => spec_l1Cur_segments.l0.eq_2 ..) (evNeg (by omega) ?_), hr, by omega, by omega⟩
            simp only [e1, Option.bind_some, e2]
            refine evPos hv.1 (evPos (by omega) (evNeg c0 (evNeg c1 (evNeg c2 (evPos c3 ?_)))))
            simp only [e3, Option.bind_some]
            exact hE
          · by_cases c4 : w = 4
            · refine ⟨[], a2, s2, Ev.step (fun k => spec_l1Cur_segments.l0.eq_2 ..) (evNeg (by omega) ?_), by simp, by omega, by omega⟩
              simp only [e1, Option.bind_some, e2]
              exact evPos hv.1 (evPos (by omega) (evNeg c0 (evNeg c1 (evNeg c2 (evNeg c3 (evPos c4 (Ev.now _)))))))
            · refine ⟨x, a2, s2, Ev.step (fun k => spec_l1Cur_segments.l0.eq_2 ..) (evNeg (by omega) ?_), by omega, by omega, by omega⟩
              simp only [e1, Option.bind_some, e2]
              exact evPos hv.1 (evPos (by omega) (evNeg c0 (evNeg c1 (evNeg c2 (evNeg c3 (evNeg c4 (Ev.now _)))))))
  | succ d ih =>
    intro x a s hx h0 h1
    obtain ⟨v1, a1, s1, e1, _, h1a⟩ := pick_ok hl s h0 (by omega) (m := 90) (by omega)
    obtain ⟨v2, a2, s2, e2, h2a⟩ := among_ok hl s1 (show 0 ≤ a1 by omega) (by omega) (q := [1, 10, 10, 40, wrap64 (1 + v1)]) (by simp)
    obtain ⟨v3, a3, s3, e3, _, h3a⟩ := pick_ok hl s2 (show 0 ≤ a2 by omega) (by omega) (m := 201) (by omega)
    obtain ⟨v4, a4, s4, e4, h4a⟩ := among_ok hl s3 (show 0 ≤ a3 by omega) (by omega) (q := [1000, 1000, 1020, 990, 900, 1100, wrap64 (900 + v3)]) (by simp)
    obtain ⟨r, a', s', hE, hr, hb⟩ := ih (x ++ [⟨v2, v4⟩]) a4 s4 (by simp; omega) (by omega) (by omega)
    refine ⟨r, a', s', Ev.step (fun k => spec_l1Cur_segments.l0.eq_2 ..) (evPos (by omega) ?_), hr, by omega, by omega⟩
    simp only [e1, Option.bind_some, e2, e3, e4]
    exact evPos (by omega) hE
theorem segs_ok {q : List Int} (hl : bytes q) (s : Int) {a : Int} (h0 : 0 ≤ a) (h1 : a ≤ 1000) : ∃ r a' s', Ev (fun k => spec_l1Cur_segments.f k q a s) (r, a', s') ∧ r.length ≤ 100 ∧ a ≤ a' ∧ a' ≤ a + 300 := by
  unfold spec_l1Cur_segments.f
  obtain ⟨v1, a1, s1, e1, hv, h1a⟩ := pick_ok hl s h0 (by omega) (m := 5) (by omega)
  obtain ⟨f, a2, s2, e2, h2a⟩ := one_ok hl s1 (show 0 ≤ a1 by omega) (by omega) (m := 20) (by omega)
  have hv2 := hv.2 (by omega)
  simp only [e1, Option.bind_some, e2]
  have go : ∀ (n : Int), 1 ≤ n → n ≤ 20 → ∃ r a' s', Ev (fun k => spec_l1Cur_segments.j0 k [] n q a2 s2) (r, a', s') ∧ r.length ≤ 100 ∧ a2 ≤ a' ∧ a' ≤ a2 + 220 := by
    intro n n0 n1
    obtain ⟨r, a', s', hE, hr, hb⟩ := segs_l0 hl n ⟨n0, n1⟩ n.toNat [] a2 s2 (by simp; omega) (by omega) (by omega)
    exact ⟨r, a', s', Ev.step (fun k => spec_l1Cur_segments.j0.eq_2 ..) hE, hr, by omega, by omega⟩
  cases f with
  | true =>
    obtain ⟨r, a', s', hE, hr, hb⟩ := go 20 (by omega) (by omega)
    exact ⟨r, a', s', evPos rfl hE, hr, by omega, by omega⟩
  | false =>
    obtain ⟨r, a', s', hE, hr, hb⟩ := go (wrap64 (1 + v1)) (by rw [wrapi (by omega) (by omega)]; omega) (by rw [wrapi (by omega) (by omega)]; omega)
    exact ⟨r, a', s', evNeg (by simp) hE, hr, by omega, by omega⟩
theorem stepOf_ok {q : List Int} (hl : bytes q) (s : Int) {a : Int} (h0 : 0 ≤ a) (h1 : a ≤ 10000) (l : List S35) : ∃ v a' s', Ev (fun k => spec_l1Cur_stepOf.f k q a s l) (v, a', s') ∧ a ≤ a' ∧ a' ≤ a + 10 := by
  unfold spec_l1Cur_stepOf.f
  have go : ∀ (n : Int), 0 ≤ n → n ≤ 20000 → ∃ v a' s', Ev (fun k => spec_l1Cur_stepOf.j0 k n q a s) (v, a', s') ∧ a ≤ a' ∧ a' ≤ a + 10 := by
    intro n n0 n1
    have hw : wrap64 (n + 1) = n + 1 := wrapi (by omega) (by omega)
    obtain ⟨v1, a1, s1, e1, _, h1a⟩ := pick_ok hl s h0 (by omega) (m := n + 1) (by omega)
    obtain ⟨v2, a2, s2, e2, _, h2a⟩ := pick_ok hl s1 (show 0 ≤ a1 by omega) (by omega) (m := n + 1) (by omega)
    obtain ⟨v3, a3, s3, e3, h3a⟩ := among_ok hl s2 (show 0 ≤ a2 by omega) (by omega) (q := [n + 1, (-1)]) (by simp)
    obtain ⟨v4, a4, s4, e4, h4a⟩ := among_ok hl s3 (show 0 ≤ a3 by omega) (by omega) (q := [0, v1, v2, n, v3]) (by simp)
    refine ⟨v4, a4, s4, Ev.step (fun k => spec_l1Cur_stepOf.j0.eq_2 ..) ?_, by omega, by omega⟩
    rw [hw]
    simp only [e1, Option.bind_some, e2, e3, e4]
    exact Ev.now _
  by_cases c : goodSegs l = true
  · have h := good_iff.1 c
    have hb := stps_bd h.2.1
    obtain ⟨v, a', s', hE, hb'⟩ := go (stps l) (by omega) (by omega)
    exact ⟨v, a', s', Ev.bind (stGood_ev l) (evPos c (Ev.bind (stSteps_ev (by omega) h.2.1) hE)), hb'⟩
  · obtain ⟨v, a', s', hE, hb'⟩ := go 1 (by omega) (by omega)
    exact ⟨v, a', s', Ev.bind (stGood_ev l) (evNeg c hE), hb'⟩
-- ** numtext
-- numbers in text
def txb (b : List UInt8) : ByteArray := ⟨b.toArray⟩
theorem txb_size (b : List UInt8) : (txb b).size = b.length := by simp [txb, ByteArray.size]
theorem txb_app (a b : List UInt8) : txb a ++ txb b = txb (a ++ b) := by
  have : (txb a ++ txb b).data = (txb (a ++ b)).data := by simp [txb]
  exact ByteArray.ext this
theorem dig_len : ∀ (n u : Nat), u < 10 ^ (n + 1) → (Go.Lib.decDigits u).length ≤ n + 1
  | 0, u, h => by rw [Go.Lib.decDigits, dif_pos (by simpa using h)]; simp
  | n + 1, u, h => by
    rw [Go.Lib.decDigits]
    split
    · simp
    · have := dig_len n (u / 10) (by rw [Nat.div_lt_iff_lt_mul (by omega)]; rw [Nat.pow_succ] at h; exact h)
      simp; omega
theorem dig_ten {u : Nat} (h : u ≤ 1000000000) : (Go.Lib.decDigits u).length ≤ 10 := dig_len 9 u (by omega)
theorem digit_eq (u : Nat) (h : u < 10) : strOfNums ([(wrap64 (48 + (u : Int))) % 256] : List Int) = txb [UInt8.ofNat (48 + u)] := by
  have e : (wrap64 (48 + (u : Int))) % 256 = ((48 + u : Nat) : Int) := by rw [wrapi (by omega) (by omega)]; omega
  rw [e]
  simp only [strOfNums, List.map_cons, List.map_nil, Int.toNat_natCast]
  rfl
theorem l1Num_ev : ∀ (u : Nat), u ≤ 1000000000 → Ev (fun k => spec_l1Num.f k (u : Int)) (txb (Go.Lib.decDigits u)) := by
  intro u
  induction u using Nat.strongRecOn with
  | ind u ih =>
    intro h
    refine Ev.step (fun k => spec_l1Num.f.eq_2 ..) ?_
    by_cases c : u < 10
    · refine evPos (by omega) (evNow ?_)
      rw [digit_eq u c, Go.Lib.decDigits, dif_pos c]
    · have e1 : wrap64 (Int.tdiv (u : Int) 10) = ((u / 10 : Nat) : Int) := by rw [Int.tdiv_eq_ediv_of_nonneg (by omega), wrapi (by omega) (by omega)]; omega
      have e2 : Int.tmod (u : Int) 10 = ((u % 10 : Nat) : Int) := by rw [Int.tmod_eq_emod_of_nonneg (by omega)]; omega
      have hl := dig_ten (u := u / 10) (by omega)
      rw [e1, e2]
      refine evNeg (by omega) (Ev.bind (ih (u / 10) (by omega) (by omega)) ?_)
      simp only [Option.bind_some]
      rw [digit_eq (u % 10) (by omega)]
      refine evPos (by rw [txb_size, txb_size]; simp; omega) (evNow ?_)
      rw [txb_app]
      conv => rhs; rw [Go.Lib.decDigits, dif_neg c]
theorem itoa_nat (u : Nat) : Go.Lib.itoa (u : Int) = Go.Lib.decDigits u := by
  unfold Go.Lib.itoa
  rw [if_neg (by omega), Int.toNat_natCast]
theorem numOf {x : Int} (h0 : 0 ≤ x) (h1 : x ≤ 1000000000) : Ev (fun k => spec_l1Num.f k x) (txb (Go.Lib.itoa x)) ∧ (Go.Lib.itoa x).length ≤ 10 := by
  have e : x = ((x.toNat : Nat) : Int) := by omega
  rw [e, itoa_nat]
  exact ⟨l1Num_ev x.toNat (by omega), dig_ten (by omega)⟩
def wordsTx (l : List Int) : List UInt8 := Go.Lib.join (l.map Go.Lib.itoa) [32]
theorem words_two (a b : Int) : wordsTx [a, b] = Go.Lib.itoa a ++ 32 :: Go.Lib.itoa b := by simp [wordsTx, Go.Lib.join, List.intercalate, List.intersperse]
theorem itoa_eq {x : Int} (h0 : 0 ≤ x) (h1 : x ≤ 1000000000) : strconv_Itoa.f x = some (txb (Go.Lib.itoa x)) := by
  unfold strconv_Itoa.f
  rw [if_pos (by omega)]; rfl
theorem words_ev (l : List Int) (hl : l.length ≤ 1000) (hb : ∀ x, x ∈ l → 0 ≤ x ∧ x ≤ 1000000000) (hj : (wordsTx l).length ≤ 140737488355328) : Ev (fun k => impl_words.f k l) (txb (wordsTx l)) := by
  unfold impl_words.f
  have go : ∀ (suf pre : List Int), l = pre ++ suf → Ev (fun k => impl_words.l0 k (pre.map fun x => txb (Go.Lib.itoa x)) l (l.length : Int) (pre.length : Int)) (txb (wordsTx l)) := by
    intro suf
    induction suf with
    | nil =>
      intro pre h
      have e : pre = l := by rw [h]; simp
      refine Ev.step (fun k => impl_words.l0.eq_2 ..) (evNeg (rgEnd h) ?_)
      have e2 : (l.map fun x => txb (Go.Lib.itoa x)).map (fun s => s.data.toList) = l.map Go.Lib.itoa := by
        rw [List.map_map]
        exact List.map_congr_left (fun x _ => by simp [txb])
      have ej : strings_Join.f (l.map fun x => txb (Go.Lib.itoa x)) (⟨#[32]⟩ : ByteArray) = some (txb (wordsTx l)) := by
        unfold strings_Join.f
        rw [e2]
        rw [if_pos ⟨by simp; omega, hj⟩]; rfl
      rw [e]
      exact evC ej (Ev.now _)
    | cons x suf ih =>
      intro pre h
      obtain ⟨h1, h2, h3, h4, h5⟩ := rgHead h (by omega) 0
      have hx := hb x (by rw [h]; simp)
      have hpl : pre.length ≤ l.length := by rw [h]; simp
      refine Ev.step (fun k => impl_words.l0.eq_2 ..) (evPos h1 (evPos h2 (evPos h1 ?_)))
      rw [show rd l (pre.length : Int) = x from h4, h3]
      refine evC (itoa_eq hx.1 hx.2) (evPos (by simp; omega) ?_)
      have := ih (pre ++ [x]) h5
      simp only [List.map_append, List.map_cons, List.map_nil] at this
      exact this
  exact go l [] rfl
theorem words2_ev {a b : Int} (ha : 0 ≤ a ∧ a ≤ 1000000000) (hb : 0 ≤ b ∧ b ≤ 1000000000) : Ev (fun k => impl_words.f k [a, b]) (txb (Go.Lib.itoa a ++ 32 :: Go.Lib.itoa b)) := by
  have h1 := (numOf ha.1 ha.2).2
  have h2 := (numOf hb.1 hb.2).2
  rw [← words_two]
  refine words_ev [a, b] (by simp) (fun x hx => ?_) (by rw [words_two]; simp; omega)
  simp at hx
  rcases hx with rfl | rfl
  · exact ha
  · exact hb
-- ** SegmentsText_
def segLine (x : S35) : List UInt8 := (Go.Lib.itoa x.f0 ++ 32 :: Go.Lib.itoa x.f1) ++ [10]
def segLines (l : List S35) : List UInt8 := l.flatMap segLine
def segTextRes (l : List S35) : ByteArray × Bool := if goodSegs l = true then (txb (segLines l), true) else (⟨#[]⟩, false)
theorem segLine_len {x : S35} (h : seg x = true) : (segLine x).length ≤ 22 := by
  have hx := seg_iff.1 h
  have h1 := (numOf (x := x.f0) (by omega) (by omega)).2
  have h2 := (numOf (x := x.f1) (by omega) (by omega)).2
  simp [segLine]; omega
theorem segLines_len : ∀ {l : List S35}, l.all seg = true → (segLines l).length ≤ 22 * l.length
  | [], _ => by simp [segLines]
  | x :: l, h => by
    simp only [List.all_cons, Bool.and_eq_true] at h
    have h1 := segLine_len h.1
    have h2 := segLines_len h.2
    simp only [segLines, List.flatMap_cons, List.length_append, List.length_cons] at h2 ⊢
    omega
theorem segLines_snoc (l : List S35) (x : S35) : segLines (l ++ [x]) = segLines l ++ segLine x := by simp [segLines]
theorem tx1 : (⟨#[32]⟩ : ByteArray) = txb [32] := rfl
theorem tx2 : (⟨#[10]⟩ : ByteArray) = txb [10] := rfl
theorem specSegText_ev (l : List S35) : Ev (fun k => spec_SegmentsText.f k l) (segTextRes l) := by
  unfold spec_SegmentsText.f segTextRes
  refine Ev.bind (stGood_ev l) (evIte (fun c => ?_) (fun _ => Ev.now _))
  have hg := good_iff.1 c
  have go : ∀ (suf pre : List S35), l = pre ++ suf → Ev (fun k => spec_SegmentsText.l0 k (txb (segLines pre)) l (l.length : Int) (pre.length : Int)) (txb (segLines l), true) := by
    intro suf
    induction suf with
    | nil =>
      intro pre h
      refine Ev.step (fun k => spec_SegmentsText.l0.eq_2 ..) (evNeg (rgEnd h) (evNow ?_))
      rw [h]; simp
    | cons x suf ih =>
      intro pre h
      obtain ⟨h1, h2, h3, h4, h5⟩ := rgHead h (by omega) z35
      have hx : seg x = true := List.all_eq_true.1 hg.2.1 x (by rw [h]; simp)
      have hx' := seg_iff.1 hx
      have hp : pre.all seg = true := List.all_eq_true.2 (fun y hy => List.all_eq_true.1 hg.2.1 y (by rw [h]; simp [hy]))
      have hpl : pre.length ≤ 20 := by have := hg.1; rw [h] at this; simp at this; omega
      have l1 := segLines_len hp
      obtain ⟨n1, d1⟩ := numOf (x := x.f0) (by omega) (by omega)
      obtain ⟨n2, d2⟩ := numOf (x := x.f1) (by omega) (by omega)
      refine Ev.step (fun k => spec_SegmentsText.l0.eq_2 ..) ?_
      simp only [h1, h2, h3, rd_T35, h4, if_true, tx1, tx2]
      refine Ev.bind n1 (evPos (by rw [txb_size]; omega) (Ev.bind n2 ?_))
      simp only [txb_app]
      refine evPos (by rw [txb_size, txb_size]; simp; omega) (evPos (by rw [txb_size]; simp; omega) (evPos (by rw [txb_size, txb_size]; simp; omega) ?_))
      have e : segLines pre ++ (Go.Lib.itoa x.f0 ++ [32] ++ Go.Lib.itoa x.f1 ++ [10]) = segLines (pre ++ [x]) := by rw [segLines_snoc]; simp [segLine]
      rw [e]
      exact ih _ h5
  exact go l [] rfl
theorem implSegText_ev (l : List S35) : Ev (fun k => impl_SegmentsText.f k l) (segTextRes l) := by
  unfold impl_SegmentsText.f segTextRes
  refine Ev.bind (areSegs_ev l) (evIte (fun c => ?_) (fun _ => Ev.now _))
  have hg := good_iff.1 c
  have go : ∀ (suf pre : List S35), l = pre ++ suf → Ev (fun k => impl_SegmentsText.l0 k (txb (segLines pre)) l (l.length : Int) (pre.length : Int)) (txb (segLines l), true) := by
    intro suf
    induction suf with
    | nil =>
      intro pre h
      refine Ev.step (fun k => impl_SegmentsText.l0.eq_2 ..) (evNeg (rgEnd h) (evNow ?_))
      rw [h]; simp
    | cons x suf ih =>
      intro pre h
      obtain ⟨h1, h2, h3, h4, h5⟩ := rgHead h (by omega) z35
      have hx : seg x = true := List.all_eq_true.1 hg.2.1 x (by rw [h]; simp)
      have hx' := seg_iff.1 hx
      have hp : pre.all seg = true := List.all_eq_true.2 (fun y hy => List.all_eq_true.1 hg.2.1 y (by rw [h]; simp [hy]))
      have hpl : pre.length ≤ 20 := by have := hg.1; rw [h] at this; simp at this; omega
      have l1 := segLines_len hp
      have w2 := words2_ev (a := x.f0) (b := x.f1) (by omega) (by omega)
      obtain ⟨n1, d1⟩ := numOf (x := x.f0) (by omega) (by omega)
      obtain ⟨n2, d2⟩ := numOf (x := x.f1) (by omega) (by omega)
      refine Ev.step (fun k => impl_SegmentsText.l0.eq_2 ..) ?_
      simp only [h1, h2, h3, rd_T35, h4, if_true, tx2]
      refine Ev.bind w2 (evPos (by rw [txb_size]; simp; omega) ?_)
      simp only [txb_app]
      refine evPos (by rw [txb_size, txb_size]; simp; omega) ?_
      have e : segLines pre ++ (Go.Lib.itoa x.f0 ++ 32 :: Go.Lib.itoa x.f1 ++ [10]) = segLines (pre ++ [x]) := by rw [segLines_snoc]; rfl
      rw [e]
      exact ih _ h5
  exact go l [] rfl
-- ** StepsOf_
def stepsRes (l : List S35) : Int × Bool := if goodSegs l = true then (stps l, true) else (0, false)
theorem implStepsOf_ev (l : List S35) : Ev (fun k => impl_StepsOf.f k l) (stepsRes l) := by
  unfold impl_StepsOf.f stepsRes
  refine Ev.bind (areSegs_ev l) (evIte (fun c => ?_) (fun c => Ev.now _))
  have h := good_iff.1 c
  exact Ev.bind (allSteps_ev (by omega) h.2.1) (Ev.now _)
-- ** PlaceOf_
def placeRes (l : List S35) (s : Int) : Int × Bool := if hasStep l s = true then (plc l s, true) else (0, false)
theorem implPlaceOf_ev (l : List S35) (s : Int) : Ev (fun k => impl_PlaceOf.f k l s) (placeRes l s) := by
  unfold impl_PlaceOf.f placeRes
  refine Ev.bind (areSegs_ev l) (evBy (fun c => Ev.bind (isStepOf_ev s c) ?_) (fun c => evNow (by rw [if_neg (fun q => c (hasStep_iff.1 q).1)])))
  have h := good_iff.1 c
  refine evBy (fun q => ?_) (fun q => evNow (by rw [if_neg (fun q' => q (decide_eq_true (hasStep_iff.1 q').2))]))
  have q' := of_decide_eq_true q
  rw [if_pos (hasStep_iff.2 ⟨c, q'⟩)]
  exact Ev.bind (placeOf_ev (by omega) h.2.1 q'.1 (by omega)) (Ev.now _)
-- ** ErrorAt_
def errRes (l : List S35) (s : Int) : Int × Bool := if hasStep l s = true then (err l s, true) else (0, false)
theorem specErrorAt_ev (l : List S35) (s : Int) : Ev (fun k => spec_ErrorAt.f k l s) (errRes l s) := by
  unfold spec_ErrorAt.f errRes
  refine Ev.bind (stHas_ev l s) (evIte (fun c => ?_) (fun c => Ev.now _))
  obtain ⟨h, h0, h1⟩ := hasStep_iff.1 c
  have h := good_iff.1 h
  exact Ev.bind (stError_ev (by omega) h.2.1 h0 (by omega)) (Ev.now _)
theorem implErrorAt_ev (l : List S35) (s : Int) : Ev (fun k => impl_ErrorAt.f k l s) (errRes l s) := by
  unfold impl_ErrorAt.f errRes
  refine Ev.bind (areSegs_ev l) (evBy (fun c => Ev.bind (isStepOf_ev s c) ?_) (fun c => evNow (by rw [if_neg (fun q => c (hasStep_iff.1 q).1)])))
  have h := good_iff.1 c
  refine evBy (fun q => ?_) (fun q => evNow (by rw [if_neg (fun q' => q (decide_eq_true (hasStep_iff.1 q').2))]))
  have q' := of_decide_eq_true q
  rw [if_pos (hasStep_iff.2 ⟨c, q'⟩)]
  exact Ev.bind (errorAt_ev (by omega) h.2.1 q'.1 (by omega)) (Ev.now _)
-- ** FnSegments
theorem pAbsS_eq {a : Int} (h : -1000000000 ≤ a ∧ a ≤ 1000000000) : laws_pAbs.f a = some (a.natAbs : Int) := by
  unfold laws_pAbs.f
  split
  · rw [wrapi (by omega) (by omega)]; congr 1; omega
  · congr 1; omega
theorem pSameSegs_l0 (l : List S35) (hl : l.length ≤ 1048576) : ∀ (suf pre : List S35), l = pre ++ suf → Ev (fun k => laws_pSameSegments.l0 k l l (l.length : Int) (pre.length : Int)) true := by
  intro suf
  induction suf with
  | nil =>
    intro pre h
    exact Ev.step (fun k => laws_pSameSegments.l0.eq_2 ..) (evNeg (rgEnd h) (Ev.now _))
  | cons x suf ih =>
    intro pre h
    obtain ⟨h1, h2, h3, h4, h5⟩ := rgHead h (by omega) z35
    refine Ev.step (fun k => laws_pSameSegments.l0.eq_2 ..) (evPos h1 (evPos h2 (evPos h1 (evPos h1 (evNeg (by simp) ?_)))))
    simp only [h3]
    exact ih _ h5
theorem pSameSegs_ev (l : List S35) (hl : l.length ≤ 1048576) : Ev (fun k => laws_pSameSegments.f k l l) true := by
  unfold laws_pSameSegments.f
  exact evPos rfl (pSameSegs_l0 l hl l [] rfl)
theorem drawJoin_ok {q : List Int} (hl : bytes q) : ∃ l, Ev (fun k => spec_DrawJoinSegments.f k q) l ∧ l.length ≤ 100 := by
  unfold spec_DrawJoinSegments.f spec_DrawAreSegments.f
  obtain ⟨l, a1, s1, h1, hl1, h1a⟩ := segs_ok hl 0 (a := 0) (by omega) (by omega)
  exact ⟨l, Ev.bind (Ev.bind h1 (Ev.now _)) (Ev.now _), hl1⟩
theorem drawCut_ok {q : List Int} (hl : bytes q) : ∃ l f t, Ev (fun k => spec_DrawCutSegments.f k q) (l, f, t) ∧ l.length ≤ 100 := by
  unfold spec_DrawCutSegments.f
  obtain ⟨l, a1, s1, h1, hl1, h1a⟩ := segs_ok hl 0 (a := 0) (by omega) (by omega)
  obtain ⟨v, a2, s2, h2, h2a⟩ := stepOf_ok hl s1 (show 0 ≤ a1 by omega) (by omega) l
  obtain ⟨u, a3, s3, h3, h3a⟩ := stepOf_ok hl s2 (show 0 ≤ a2 by omega) (by omega) l
  obtain ⟨b, a4, s4, h4, h4a⟩ := one_ok hl s3 (show 0 ≤ a3 by omega) (by omega) (m := 8) (by omega)
  cases b with
  | true => exact ⟨l, v, u, Ev.bind h1 (Ev.bind h2 (Ev.bind h3 (by simp only [h4, Option.bind_some]; exact evPos (by trivial) (Ev.now _)))), hl1⟩
  | false => exact ⟨l, min v u, max v u, Ev.bind h1 (Ev.bind h2 (Ev.bind h3 (by simp only [h4, Option.bind_some, l1Least_eq, l1Most_eq]; exact evNeg (by simp) (Ev.now _)))), hl1⟩
theorem lsegs_j6 {q : List Int} (hq : bytes q) : Ev (fun k => laws_FnSegments.j6 k q) true := by
  obtain ⟨l, f, t, hD, hl⟩ := drawCut_ok (q := q) hq
  have hc : (cutRes l f t).1.length ≤ 1048576 := by have := cutRes_len l f t; omega
  refine Ev.step (fun k => laws_FnSegments.j6.eq_2 ..) (Ev.bind hD (Ev.bind (implCut_ev l f t) (Ev.bind (specCut_ev l f t) (evNeg (by simp) (Ev.bind (pSameSegs_ev _ hc) ?_)))))
  refine Ev.step (fun k => laws_FnSegments.j7.eq_2 ..) (evNeg (by simp) (evBy (fun c => ?_) (fun _ => Ev.now _)))
  have hs : hasStep l f = true ∧ hasStep l t = true ∧ f < t := by
    refine Decidable.byContradiction fun z => ?_
    unfold cutRes at c; rw [if_neg z] at c; simp at c
  have e : cutRes l f t = (cutAll f t 0 l, true) := by unfold cutRes; rw [if_pos hs]
  obtain ⟨g1, g2, g3⟩ := cut_good hs.1 hs.2.1 hs.2.2
  obtain ⟨gl, f0, f1⟩ := hasStep_iff.1 hs.1
  obtain ⟨_, t0, t1⟩ := hasStep_iff.1 hs.2.1
  have hg := good_iff.1 gl
  have b1 := plc_bd (s := f) hg.2.1 f0
  have b2 := plc_bd (s := t) hg.2.1 t0
  rw [e]
  dsimp only
  rw [wrapi (x := t - f) (by omega) (by omega)]
  have p1 : placeRes l f = (plc l f, true) := by unfold placeRes; rw [if_pos hs.1]
  have p2 : placeRes l t = (plc l t, true) := by unfold placeRes; rw [if_pos hs.2.1]
  have p3 : placeRes (cutAll f t 0 l) (t - f) = (plc l t - plc l f, true) := by unfold placeRes; rw [if_pos (hasStep_iff.2 ⟨g1, by omega, by omega⟩), g3]
  have p4 : stepsRes (cutAll f t 0 l) = (t - f, true) := by unfold stepsRes; rw [if_pos g1, g2]
  refine Ev.bind (implPlaceOf_ev _ _) (Ev.bind (implPlaceOf_ev _ _) (Ev.bind (implPlaceOf_ev _ _) (Ev.bind (implStepsOf_ev _) ?_)))
  rw [p1, p2, p3, p4]
  dsimp only
  rw [wrapi (x := plc l t - plc l f) (by omega) (by omega)]
  refine evPos (by first | rfl | trivial) (evPos (by first | rfl | trivial) (evPos (by first | rfl | trivial) (evPos (by first | rfl | trivial) (evPos (by first | rfl | trivial) (evPos (by first | rfl | trivial) (Ev.bind (areSegs_ev _) ?_))))))
  exact evPos g1 (Ev.now _)
theorem stps_snoc (l : List S35) (x : S35) : stps (l ++ [x]) = stps l + x.f0 := by rw [stps_app]; simp [stps]
theorem lsegs_l1 {q : List Int} (h6 : Ev (fun k => laws_FnSegments.j6 k q) true) {l : List S35} (hg : goodSegs l = true) {L H : Int} : ∀ (suf pre : List S35) (lo hi : Int), l = pre ++ suf → -100000000 ≤ lo → lo ≤ 0 → 0 ≤ hi → hi ≤ 100000000 → lohi l lo hi (endsFrom (stps pre) suf) = (L, H) →
    Ev (fun k => laws_FnSegments.l1 k q l (bestOf L H).1 (bestOf L H).2.1 (stps pre) lo hi l (l.length : Int) (pre.length : Int)) true := by
  have g := good_iff.1 hg
  intro suf
  induction suf with
  | nil =>
    intro pre lo hi h k0 k1 k2 k3 hL
    simp only [endsFrom, lohi, Prod.mk.injEq] at hL
    obtain ⟨rfl, rfl⟩ := hL
    have b := best_law (lo := lo) (hi := hi)
    have ob : -200000000 ≤ (bestOf lo hi).1 ∧ (bestOf lo hi).1 ≤ 200000000 := by unfold bestOf; dsimp only; omega
    generalize (bestOf lo hi).1 = o at b ob
    generalize (bestOf lo hi).2.1 = d at b
    refine Ev.step (fun k => laws_FnSegments.l1.eq_2 ..) (evNeg (rgEnd h) ?_)
    rw [wrapi (x := lo + o) (by omega) (by omega), wrapi (x := hi + o) (by omega) (by omega), wrapi (x := hi - lo) (by omega) (by omega), wrapi (x := hi - lo + 1) (by omega) (by omega), wrapi (x := 2 * d) (by omega) (by omega), pAbsS_eq (by omega), pAbsS_eq (by omega)]
    simp only [Option.bind_some]
    exact evNeg (by omega) (evNeg (by omega) (evNeg (by omega) (evNeg (by omega) h6)))
  | cons x suf ih =>
    intro pre lo hi h k0 k1 k2 k3 hL
    obtain ⟨h1, h2, h3, h4, h5⟩ := rgHead h (by omega) z35
    have hx : seg x = true := List.all_eq_true.1 g.2.1 x (by rw [h]; simp)
    have hx' := seg_iff.1 hx
    have hp : pre.all seg = true := List.all_eq_true.2 (fun y hy => List.all_eq_true.1 g.2.1 y (by rw [h]; simp [hy]))
    have hsf : suf.all seg = true := List.all_eq_true.2 (fun y hy => List.all_eq_true.1 g.2.1 y (by rw [h]; simp [hy]))
    have s1 := stps_bd hp
    have s2 := stps_bd hsf
    have st : stps l = stps pre + (x.f0 + stps suf) := by rw [h, stps_app]; rfl
    have eb := err_bd hg (s := stps pre + x.f0) (by omega) (by omega)
    have er : errRes l (stps pre + x.f0) = (err l (stps pre + x.f0), true) := by unfold errRes; rw [if_pos (hasStep_iff.2 ⟨hg, by omega, by omega⟩)]
    simp only [endsFrom, lohi] at hL
    have go := fun lo' hi' a1 a2 a3 a4 a5 => ih (pre ++ [x]) lo' hi' h5 a1 a2 a3 a4 (by rw [stps_snoc]; exact a5)
    rw [stps_snoc] at go
    generalize err l (stps pre + x.f0) = e at eb er hL
    refine Ev.step (fun k => laws_FnSegments.l1.eq_2 ..) (evPos h1 (evPos h2 (evPos h1 ?_)))
    simp only [rd_T35, h4]
    rw [wrapi (x := stps pre + x.f0) (by omega) (by omega)]
    refine Ev.bind (implErrorAt_ev _ _) (Ev.bind (specErrorAt_ev _ _) ?_)
    rw [er]
    refine evPos rfl (evPos rfl (Ev.step (fun k => laws_FnSegments.j5.eq_2 ..) (evNeg (by simp) (evBy (fun c => evNeg (by dsimp only at c ⊢; omega) ?_) (fun c => evBy (fun c' => ?_) (fun c' => ?_))))))
    · dsimp only at c
      simp only [h3]
      exact go e hi (by omega) (by omega) (by omega) (by omega) (by rw [← hL, show min lo e = e by omega, show max hi e = hi by omega])
    · dsimp only at c c'
      simp only [h3]
      exact go lo e (by omega) (by omega) (by omega) (by omega) (by rw [← hL, show min lo e = lo by omega, show max hi e = e by omega])
    · dsimp only at c c'
      simp only [h3]
      exact go lo hi (by omega) (by omega) (by omega) (by omega) (by rw [← hL, show min lo e = lo by omega, show max hi e = hi by omega])
theorem lsegs_l0 {q : List Int} {l J : List S35} {sg : Bool} {o d : Int} (h3 : Ev (fun k => laws_FnSegments.j3 k q l sg o d) true) (hg : goodSegs l = true) (hJ : goodSegs J = true) (he : J = joinAll [] l) : ∀ (suf pre : List S35), J = pre ++ suf →
    Ev (fun k => laws_FnSegments.l0 k q l J J sg o d (stps pre) J (J.length : Int) (pre.length : Int)) true := by
  have g := good_iff.1 hg
  have gJ := good_iff.1 hJ
  have hst : stps J = stps l := by rw [he, joinAll_stps]; simp [stps]
  have hpl : ∀ s, 0 ≤ s → plc J s = plc l s := fun s h0 => by rw [he, joinAll_plc l [] (fun _ h => by simp at h) (nn_seg g.2.1) s h0]; rfl
  have hap : apt J := by rw [he]; exact joinAll_apt l [] (fun p a b q h => by simp at h)
  intro suf
  induction suf with
  | nil =>
    intro pre h
    exact Ev.step (fun k => laws_FnSegments.l0.eq_2 ..) (evNeg (rgEnd h) h3)
  | cons x suf ih =>
    intro pre h
    obtain ⟨h1, h2, h3', h4, h5⟩ := rgHead h (by omega) z35
    have hx : seg x = true := List.all_eq_true.1 gJ.2.1 x (by rw [h]; simp)
    have hx' := seg_iff.1 hx
    have hp : pre.all seg = true := List.all_eq_true.2 (fun y hy => List.all_eq_true.1 gJ.2.1 y (by rw [h]; simp [hy]))
    have hsf : suf.all seg = true := List.all_eq_true.2 (fun y hy => List.all_eq_true.1 gJ.2.1 y (by rw [h]; simp [hy]))
    have s1 := stps_bd hp
    have s2 := stps_bd hsf
    have st : stps J = stps pre + (x.f0 + stps suf) := by rw [h, stps_app]; rfl
    have j2 : ∀ u, Ev (fun k => laws_FnSegments.j2 k q l J J sg o d (stps pre) J (J.length : Int) (pre.length : Int) false x.f0 u) true := fun u => by
      refine Ev.step (fun k => laws_FnSegments.j2.eq_2 ..) (evNeg (by simp) ?_)
      rw [wrapi (x := stps pre + x.f0) (by omega) (by omega)]
      have p1 : placeRes l (stps pre + x.f0) = (plc l (stps pre + x.f0), true) := by unfold placeRes; rw [if_pos (hasStep_iff.2 ⟨hg, by omega, by omega⟩)]
      have p2 : placeRes J (stps pre + x.f0) = (plc l (stps pre + x.f0), true) := by unfold placeRes; rw [if_pos (hasStep_iff.2 ⟨hJ, by omega, by omega⟩), hpl _ (by omega)]
      refine Ev.bind (implPlaceOf_ev _ _) (Ev.bind (implPlaceOf_ev _ _) ?_)
      rw [p1, p2]
      refine evPos rfl (evPos rfl (evPos rfl ?_))
      have := ih (pre ++ [x]) h5
      rw [stps_snoc] at this
      simp only [h3']
      exact this
    refine Ev.step (fun k => laws_FnSegments.l0.eq_2 ..) (evPos h1 (evPos h2 (evPos h1 ?_)))
    simp only [rd_T35, h4]
    refine evBy (fun c => ?_) (fun c => j2 _)
    rcases snocCases pre with rfl | ⟨p, a, rfl⟩
    · simp at c
    have hlen : ((p ++ [a]).length : Int) - 1 = (p.length : Int) := by simp
    rw [wrapi (x := ((p ++ [a]).length : Int) - 1) (by omega) (by omega), hlen]
    have hJl : J.length = p.length + 1 + 1 + suf.length := by rw [h]; simp; omega
    refine evPos (by omega) (evPos (by omega) ?_)
    have hr : J.getD (p.length : Int).toNat z35 = a := by rw [h]; simp
    rw [hr, show (a.f1 == x.f1) = false by have := hap p a x suf (by rw [h]; simp); simpa using this]
    exact j2 _
theorem FnSegments (l0 l1 : List Int) (w0 : Opn.Lst Opn.Byte l0) (w1 : Opn.Lst Opn.Byte l1) : ∃ k, laws_FnSegments.f k l0 l1 = some true := by
  refine Ev.rounds (g := fun k => laws_FnSegments.f k l0 l1) ?_
  unfold laws_FnSegments.f
  obtain ⟨t, ht⟩ : ∃ t, laws_big.f l0 l1 = some t := by
    unfold laws_big.f; split
    · exact ⟨_, rfl⟩
    · exact ⟨_, rfl⟩
  refine evC ht (evBy (fun _ => Ev.now _) (fun _ => ?_))
  obtain ⟨l, hD, hl⟩ := drawJoin_ok (q := l0) w0.2
  have h6 := lsegs_j6 (q := l1) w1.2
  have hjl : (joinRes l).1.length ≤ 1048576 := by have := joinRes_len l; omega
  refine Ev.bind hD (Ev.bind (implJoin_ev l) (Ev.bind (specJoin_ev l) (Ev.bind (implSegText_ev l) (Ev.bind (specSegText_ev l) (Ev.bind (implBest_ev l) (Ev.bind (specBest_ev l) (evNeg (by simp) (Ev.bind (pSameSegs_ev _ hjl) (evPos rfl (evNeg (by simp) (evPos rfl (evNeg (by simp) (evPos rfl (evPos rfl ?_))))))))))))))
  cases g : goodSegs l with
  | false =>
    have e1 : joinRes l = ([], false) := by unfold joinRes; rw [if_neg (by simp [g])]
    have e2 : (segTextRes l).2 = false := by unfold segTextRes; rw [if_neg (by simp [g])]
    have e3 : bestRes l = (0, 0, false) := by unfold bestRes; rw [if_neg (by simp [g])]
    rw [e1, e2, e3]
    refine evNeg (by simp) (evNeg (by simp) (Ev.bind (areSegs_ev l) ?_))
    rw [g]
    exact Ev.step (fun k => laws_FnSegments.j0.eq_2 ..) (evNeg (by simp) (evNeg (by simp) (Ev.step (fun k => laws_FnSegments.j3.eq_2 ..) (evNeg (by simp) h6))))
  | true =>
    have gg := good_iff.1 g
    have e2 : (segTextRes l).2 = true := by unfold segTextRes; rw [if_pos g]
    obtain ⟨L, H, hLH⟩ : ∃ L H, lohi l 0 0 (ends l) = (L, H) := ⟨_, _, rfl⟩
    have e3 : bestRes l = bestOf L H := by unfold bestRes; rw [if_pos g, hLH]
    have e4 : (bestOf L H).2.2 = true := rfl
    have h3 : Ev (fun k => laws_FnSegments.j3 k l1 l true (bestOf L H).1 (bestOf L H).2.1) true := by
      refine Ev.step (fun k => laws_FnSegments.j3.eq_2 ..) (evPos rfl ?_)
      refine lsegs_l1 h6 g l [] 0 0 rfl (by omega) (by omega) (by omega) (by omega) ?_
      have : lohi l 0 0 (ends l) = lohi l 0 0 (endsFrom 0 l) := by simp only [ends, lohi, err_zero gg.2.1]; rfl
      rw [← hLH, this]; rfl
    rw [e2, e3, e4]
    cases gj : goodSegs (joinAll [] l) with
    | false =>
      have e1 : joinRes l = ([], false) := by unfold joinRes; rw [if_pos g, if_neg (by simp [gj])]
      rw [e1]
      refine evNeg (by simp) (evNeg (by simp) (Ev.bind (areSegs_ev l) ?_))
      rw [g]
      exact Ev.step (fun k => laws_FnSegments.j0.eq_2 ..) (evNeg (by simp) (evNeg (by simp) h3))
    | true =>
      have e1 : joinRes l = (joinAll [] l, true) := by unfold joinRes; rw [if_pos g, if_pos gj]
      rw [e1]
      refine evNeg (by simp) (evPos rfl (evPos rfl (Ev.bind (areSegs_ev l) ?_)))
      rw [g]
      exact Ev.step (fun k => laws_FnSegments.j0.eq_2 ..) (evNeg (by simp) (evPos rfl (lsegs_l0 h3 g gj rfl _ [] rfl)))
end Go.Proofs.YtbgbmjagcdnloaaDoor.Pure
