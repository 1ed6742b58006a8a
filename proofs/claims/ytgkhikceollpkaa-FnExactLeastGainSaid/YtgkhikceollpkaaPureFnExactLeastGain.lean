/- The program's LeastGain returns what the reference's returns, for all arguments.: the plain part: what the program computes and what the reference computes agree, for all arguments. No conditions beyond the arguments' own kinds. -/
import Derived.Test.YtgkhikceollpkaaPFnExactLeastGainx0
import Derived.Test.YtgkhikceollpkaaPFnExactLeastGainx1
import Derived.Test.YtgkhikceollpkaaPFnExactLeastGainx2
import Derived.Test.YtgkhikceollpkaaPFnExactLeastGainx3
import Derived.Test.YtgkhikceollpkaaPFnExactLeastGainx4
import Derived.Test.YtgkhikceollpkaaOpn
namespace Go.Proofs.Ytgkhikceollpkaa.Pure
open Go.RowKit Go.Proofs.Ytgkhikceollpkaa.PFnExactLeastGain Go.Proofs.YtgkhikceollpkaaW.PrintWords Go.Proofs.YtgkhikceollpkaaW.PrintLast Go.Proofs.YtgkhikceollpkaaW.PrintMore
-- ** base
theorem wrapi {x : Int} (h0 : -9223372036854775808 ≤ x) (h1 : x ≤ 9223372036854775807) : wrap64 x = x := by unfold wrap64; omega
theorem evPos {α : Type} {c : Prop} [Decidable c] {g f : Nat → Option α} {r : α} (h : c) (e : Ev g r) : Ev (fun k => if c then g k else f k) r := by
  simp only [if_pos h]; exact e
theorem evNeg {α : Type} {c : Prop} [Decidable c] {g f : Nat → Option α} {r : α} (h : ¬ c) (e : Ev f r) : Ev (fun k => if c then g k else f k) r := by
  simp only [if_neg h]; exact e
theorem evNow {α : Type} {r q : α} (h : r = q) : Ev (fun _ => some r) q := by subst h; exact Ev.now r
theorem evEq {α : Type} {g : Nat → Option α} {r q : α} (h : Ev g r) (e : r = q) : Ev g q := e ▸ h
theorem evIte {α : Type} {c : Prop} [Decidable c] {g f : Nat → Option α} {r q : α} (h : c → Ev g r) (h' : ¬ c → Ev f q) : Ev (fun k => if c then g k else f k) (if c then r else q) := by
  by_cases hc : c
  · simp only [if_pos hc]; exact h hc
  · simp only [if_neg hc]; exact h' hc
theorem evBy {α : Type} {c : Prop} [Decidable c] {g f : Nat → Option α} {r : α} (h : c → Ev g r) (h' : ¬ c → Ev f r) : Ev (fun k => if c then g k else f k) r := by
  by_cases hc : c
  · simp only [if_pos hc]; exact h hc
  · simp only [if_neg hc]; exact h' hc
theorem someF {p : Prop} [Decidable p] (h : ¬ p) : some false = some (decide p) := by rw [decide_eq_false h]
theorem someD {p q : Prop} [Decidable p] [Decidable q] (h : p ↔ q) : some (decide p) = some (decide q) := by rw [decide_eq_decide.mpr h]
theorem decD {p q : Prop} [Decidable p] [Decidable q] (h : p ↔ q) : decide p = decide q := decide_eq_decide.mpr h
theorem allBad {α : Type} {p : α → Bool} {x : α} {suf : List α} {q : Bool} (h : p x = false) : false = ((x :: suf).all p && q) := by simp [h]
theorem allGood {α : Type} {p : α → Bool} {x : α} {suf : List α} {q : Bool} (h : p x = true) : (suf.all p && q) = ((x :: suf).all p && q) := by simp [h]
theorem rgEnd {α : Type} {l pre : List α} (h : l = pre ++ []) : ¬ ((pre.length : Int) < (l.length : Int)) := by subst h; simp
theorem rgHead {α : Type} {l pre suf : List α} {x : α} (h : l = pre ++ x :: suf) (hl : l.length ≤ 4611686018427387904) (z : α) :
    (pre.length : Int) < (l.length : Int) ∧ (0 : Int) ≤ (pre.length : Int) ∧ wrap64 ((pre.length : Int) + 1) = ((pre ++ [x]).length : Int) ∧ l.getD (pre.length : Int).toNat z = x ∧ l = (pre ++ [x]) ++ suf := by
  subst h
  simp at hl
  refine ⟨by simp; omega, by omega, ?_, by simp, by simp⟩
  rw [wrapi (by omega) (by omega)]; simp
theorem in_eq (a b c : Int) : spec_l1In.f a b c = some (decide (b ≤ a ∧ a ≤ c)) := by
  unfold spec_l1In.f
  split
  · exact someD (by omega)
  · exact someF (by omega)
theorem mx_eq (a b : Int) : mx a b = max a b := by unfold mx; omega
-- ** ctl
def ctl (b g : Int) : Prop := 0 ≤ b ∧ b ≤ 200 ∧ 1 ≤ g ∧ g ≤ 100
instance (b g : Int) : Decidable (ctl b g) := by unfold ctl; exact inferInstance
theorem tkGood_eq (b g : Int) : spec_tkGood.f b g = some (decide (ctl b g)) := by
  unfold spec_tkGood.f; rw [in_eq, in_eq]; simp only [Option.bind_some]
  by_cases h : 0 ≤ b ∧ b ≤ 200
  · rw [if_pos (decide_eq_true h)]; exact someD (by unfold ctl; omega)
  · rw [if_neg (by simpa using h)]; exact someF (by unfold ctl; omega)
theorem isController_eq (b g : Int) : impl_IsController.f b g = some (decide (ctl b g)) := by
  unfold impl_IsController.f
  repeat' split
  all_goals first | exact someD (by unfold ctl; omega) | exact someF (by unfold ctl; omega)
-- ** move
def off (o : Int) : Prop := -1000 ≤ o ∧ o ≤ 1000
instance (o : Int) : Decidable (off o) := by unfold off; exact inferInstance
theorem tkOffset_eq (o : Int) : spec_tkOffset.f o = some (decide (off o)) := by
  unfold spec_tkOffset.f; rw [in_eq]; rfl
theorem isOffset_eq (o : Int) : impl_isOffset.f o = some (decide (off o)) := by
  unfold impl_isOffset.f
  split
  · exact someD (by unfold off; omega)
  · exact someF (by unfold off; omega)
def mv (b g o d : Int) : Int := if o + d > b then o + d - g else if o + d < -b then o + d + g else o + d
def mvby (b g o d : Int) : Int := if o + d > b then -g else if o + d < -b then g else 0
def far (o : Int) : Prop := -100000 ≤ o ∧ o ≤ 100000
theorem tkStep_eq {b g o d : Int} (h : ctl b g) (ho : far o) (hd : far d) : spec_tkStep.f b g o d = some (mv b g o d, mvby b g o d) := by
  unfold spec_tkStep.f mv mvby; unfold ctl at h; unfold far at ho hd
  rw [wrapi (x := o + d) (by omega) (by omega), wrapi (x := -b) (by omega) (by omega), wrapi (x := -g) (by omega) (by omega), wrapi (x := o + d - g) (by omega) (by omega), wrapi (x := o + d + g) (by omega) (by omega)]
  split
  · rfl
  · split <;> rfl
theorem moved_eq {b g o d : Int} (h : ctl b g) (ho : far o) (hd : far d) : impl_moved.f b g o d = some (mv b g o d) := by
  unfold impl_moved.f mv; unfold ctl at h; unfold far at ho hd
  rw [wrapi (x := o + d) (by omega) (by omega), wrapi (x := -b) (by omega) (by omega), wrapi (x := o + d - g) (by omega) (by omega), wrapi (x := o + d + g) (by omega) (by omega)]
  split
  · rfl
  · split <;> rfl
-- ** drifts
def drf (x : Int) : Bool := decide (-50 ≤ x ∧ x ≤ 50)
theorem areDrifts_l0 (l : List Int) (hl : l.length ≤ 4611686018427387904) : ∀ (suf pre : List Int), l = pre ++ suf →
    Ev (fun k => impl_areDrifts.l0 k l l (l.length : Int) (pre.length : Int)) (suf.all drf && decide (l.length ≤ 100)) := by
  intro suf
  induction suf with
  | nil =>
    intro pre h
    refine Ev.step (fun k => impl_areDrifts.l0.eq_2 ..) ?_
    simp only [rgEnd h, if_false]
    exact evNow (by rw [List.all_nil, Bool.true_and]; exact decD (by omega))
  | cons x suf ih =>
    intro pre h
    obtain ⟨h1, h2, h3, h4, h5⟩ := rgHead h hl 0
    refine Ev.step (fun k => impl_areDrifts.l0.eq_2 ..) ?_
    simp only [h1, h2, h3, rd, h4, if_true]
    refine evBy (fun c => evNow (allBad (decide_eq_false (by omega)))) (fun c => evBy (fun c' => evNow (allBad (decide_eq_false (by omega)))) (fun c' => evEq (ih _ h5) (allGood (decide_eq_true (by omega)))))
theorem areDrifts_ev (l : List Int) (hl : l.length ≤ 4611686018427387904) : Ev (fun k => impl_areDrifts.f k l) (l.all drf && decide (l.length ≤ 100)) :=
  areDrifts_l0 l hl l [] rfl
-- ** run
def offB (o : Int) : Bool := decide (off o)
def run (b g : Int) : Int → List Int → List Int
  | _, [] => []
  | o, d :: ds => mv b g o d :: run b g (mv b g o d) ds
theorem run_length (b g : Int) : ∀ (o : Int) (ds : List Int), (run b g o ds).length = ds.length
  | _, [] => rfl
  | o, d :: ds => by simp [run, run_length b g]
def lessN (b g : Int) : Int → List Int → Int
  | _, [] => 0
  | o, d :: ds => (if mvby b g o d < 0 then 1 else 0) + lessN b g (mv b g o d) ds
def moreN (b g : Int) : Int → List Int → Int
  | _, [] => 0
  | o, d :: ds => (if mvby b g o d > 0 then 1 else 0) + moreN b g (mv b g o d) ds
theorem drf_iff {d : Int} : drf d = true ↔ -50 ≤ d ∧ d ≤ 50 := by simp [drf]
def runRes (b g o : Int) (ds : List Int) : List Int × Bool := if (run b g o ds).all offB = true then (run b g o ds, true) else ([], false)
theorem trackRun_l0 {b g : Int} (hc : ctl b g) (l : List Int) (hl : l.length ≤ 1048576) : ∀ (suf pre : List Int) (o : Int) (acc : List Int), l = pre ++ suf → suf.all drf = true → off o → acc.length = pre.length →
    Ev (fun k => impl_trackRun.l0 k o acc l (l.length : Int) (pre.length : Int) b g) (if (run b g o suf).all offB = true then (acc ++ run b g o suf, true) else ([], false)) := by
  intro suf
  induction suf with
  | nil =>
    intro pre o acc h hs ho ha
    refine Ev.step (fun k => impl_trackRun.l0.eq_2 ..) ?_
    simp only [rgEnd h, if_false]
    exact evNow (by simp [run])
  | cons x suf ih =>
    intro pre o acc h hs ho ha
    obtain ⟨h1, h2, h3, h4, h5⟩ := rgHead h (by omega) 0
    simp only [List.all_cons, Bool.and_eq_true] at hs
    have hx := drf_iff.1 hs.1
    have hf : far o := by unfold off at ho; unfold far; omega
    have hd : far x := by unfold far; omega
    have hp : pre.length ≤ 1048576 := by omega
    refine Ev.step (fun k => impl_trackRun.l0.eq_2 ..) ?_
    simp only [h1, h2, h3, rd, h4, if_true, moved_eq hc hf hd, isOffset_eq, Option.bind_some, decide_eq_true_eq]
    by_cases c : off (mv b g o x)
    · refine evPos c (evPos (by omega) (evEq (ih _ _ _ h5 hs.2 c (by simp [ha])) ?_))
      simp [run, offB, c]
    · refine evNeg c (evNow ?_)
      simp [run, offB, c]
theorem trackRun_ev {b g o : Int} {ds : List Int} (hc : ctl b g) (ho : off o) (hd : ds.all drf = true) (hl : ds.length ≤ 1048576) : Ev (fun k => impl_trackRun.f k b g o ds) (runRes b g o ds) :=
  evEq (trackRun_l0 hc ds hl ds [] o [] rfl hd ho rfl) (by unfold runRes; simp)
def tkRunRes (b g o : Int) (ds : List Int) : List Int × List Int × Bool := if (run b g o ds).all offB = true then (run b g o ds, [lessN b g o ds, moreN b g o ds], true) else ([], [], false)
theorem tkRun_l0 {b g : Int} (hc : ctl b g) (l : List Int) (hl : l.length ≤ 1048576) : ∀ (suf pre : List Int) (o : Int) (acc : List Int) (m0 m1 : Int), l = pre ++ suf → suf.all drf = true → off o → acc.length = pre.length → 0 ≤ m0 → m0 ≤ pre.length → 0 ≤ m1 → m1 ≤ pre.length →
    Ev (fun k => spec_tkRun.l0 k o acc [m0, m1] l (l.length : Int) (pre.length : Int) b g) (if (run b g o suf).all offB = true then (acc ++ run b g o suf, [m0 + lessN b g o suf, m1 + moreN b g o suf], true) else ([], [], false)) := by
  intro suf
  induction suf with
  | nil =>
    intro pre o acc m0 m1 h hs ho ha k0 k1 k2 k3
    refine Ev.step (fun k => spec_tkRun.l0.eq_2 ..) ?_
    simp only [rgEnd h, if_false]
    exact evNow (by simp [run, lessN, moreN])
  | cons x suf ih =>
    intro pre o acc m0 m1 h hs ho ha k0 k1 k2 k3
    obtain ⟨h1, h2, h3, h4, h5⟩ := rgHead h (by omega) 0
    simp only [List.all_cons, Bool.and_eq_true] at hs
    have hx := drf_iff.1 hs.1
    have hf : far o := by unfold off at ho; unfold far; omega
    have hd : far x := by unfold far; omega
    have hp : pre.length ≤ 1048576 := by omega
    have hb : mvby b g o x = -g ∨ mvby b g o x = g ∨ mvby b g o x = 0 := by unfold mvby; omega
    have hg : 1 ≤ g := hc.2.2.1
    refine Ev.step (fun k => spec_tkRun.l0.eq_2 ..) ?_
    simp only [h1, h2, rd, h4, if_true, tkStep_eq hc hf hd, Option.bind_some]
    by_cases b0 : mvby b g o x < 0
    · refine evPos b0 (evPos (by simp) (Ev.step (fun k => spec_tkRun.j1.eq_2 ..) (evNeg (by omega) ?_)))
      simp only [tkOffset_eq, Option.bind_some, decide_eq_true_eq, h3]
      by_cases c : off (mv b g o x)
      · refine evPos c (evPos (by omega) ?_)
        have e : [m0, m1].set (0 : Int).toNat (wrap64 ([m0, m1].getD (0 : Int).toNat 0 + 1)) = [m0 + 1, m1] := by simp; exact wrapi (by omega) (by omega)
        rw [e]
        refine evEq (ih _ _ _ _ _ h5 hs.2 c (by simp [ha]) (by omega) (by simp; omega) (by omega) (by simp; omega)) ?_
        simp [run, offB, c, lessN, moreN, b0, show ¬ mvby b g o x > 0 by omega, Int.add_assoc]
      · refine evNeg c (evNow ?_)
        simp [run, offB, c]
    · refine evNeg b0 (Ev.step (fun k => spec_tkRun.j1.eq_2 ..) ?_)
      simp only [tkOffset_eq, Option.bind_some, decide_eq_true_eq, h3]
      by_cases b1 : mvby b g o x > 0
      · refine evPos b1 (evPos (by simp) ?_)
        by_cases c : off (mv b g o x)
        · refine evPos c (evPos (by omega) ?_)
          have e : [m0, m1].set (1 : Int).toNat (wrap64 (rd [m0, m1] 1 + 1)) = [m0, m1 + 1] := by simp [rd]; exact wrapi (by omega) (by omega)
          rw [e]
          refine evEq (ih _ _ _ _ _ h5 hs.2 c (by simp [ha]) (by omega) (by simp; omega) (by omega) (by simp; omega)) ?_
          simp [run, offB, c, lessN, moreN, b0, b1, Int.add_assoc]
        · refine evNeg c (evNow ?_)
          simp [run, offB, c]
      · refine evNeg b1 ?_
        by_cases c : off (mv b g o x)
        · refine evPos c (evPos (by omega) ?_)
          refine evEq (ih _ _ _ _ _ h5 hs.2 c (by simp [ha]) (by omega) (by simp; omega) (by omega) (by simp; omega)) ?_
          simp [run, offB, c, lessN, moreN, b0, b1]
        · refine evNeg c (evNow ?_)
          simp [run, offB, c]
theorem tkRun_ev {b g o : Int} {ds : List Int} (hc : ctl b g) (ho : off o) (hd : ds.all drf = true) (hl : ds.length ≤ 1048576) : Ev (fun k => spec_tkRun.f k b g o ds) (tkRunRes b g o ds) :=
  evEq (tkRun_l0 hc ds hl ds [] o [] 0 0 rfl hd ho rfl (by omega) (by omega) (by omega) (by omega)) (by unfold tkRunRes; simp)
def asked (b g o : Int) (ds : List Int) : Bool := decide (ctl b g) && (decide (off o) && (ds.all drf && decide (ds.length ≤ 100)))
theorem asked_iff {b g o : Int} {ds : List Int} : asked b g o ds = true ↔ ctl b g ∧ off o ∧ ds.all drf = true ∧ ds.length ≤ 100 := by simp [asked]
theorem isRun_ev (b g o : Int) (ds : List Int) (hl : ds.length ≤ 1048576) : Ev (fun k => impl_isRun.f k b g o ds) (asked b g o ds) := by
  unfold impl_isRun.f asked
  simp only [isController_eq, isOffset_eq, Option.bind_some, decide_eq_true_eq]
  refine evBy (fun c => evBy (fun c' => Ev.bind (areDrifts_ev ds (by omega)) (evNow (by simp [c, c']))) (fun c' => evNow (by simp [c']))) (fun c => evNow (by simp [c]))
theorem l1All_l0 (l : List Int) (hl : l.length ≤ 1048576) : ∀ (suf pre : List Int), l = pre ++ suf →
    Ev (fun k => spec_l1All.l0 k (-50) 50 l (l.length : Int) (pre.length : Int)) (suf.all drf) := by
  intro suf
  induction suf with
  | nil =>
    intro pre h
    refine Ev.step (fun k => spec_l1All.l0.eq_2 ..) ?_
    simp only [rgEnd h, if_false]
    exact evNow (by simp)
  | cons x suf ih =>
    intro pre h
    obtain ⟨h1, h2, h3, h4, h5⟩ := rgHead h (by omega) 0
    refine Ev.step (fun k => spec_l1All.l0.eq_2 ..) ?_
    simp only [h1, h2, h3, rd, h4, if_true, in_eq, Option.bind_some, decide_eq_true_eq]
    refine evBy (fun c => evEq (ih _ h5) ?_) (fun c => evNow ?_)
    · rw [List.all_cons, show drf x = true from drf_iff.2 c]; rfl
    · rw [List.all_cons, show drf x = false from decide_eq_false c]; rfl
theorem tkAsked_ev (b g o : Int) (ds : List Int) : Ev (fun k => spec_tkAsked.f k b g o ds) (asked b g o ds) := by
  unfold spec_tkAsked.f asked
  simp only [tkGood_eq, tkOffset_eq, Option.bind_some, decide_eq_true_eq]
  refine evBy (fun c => evBy (fun c' => evBy (fun c2 => ?_) (fun c2 => evNow (by simp; omega))) (fun c' => evNow (by simp [c']))) (fun c => evNow (by simp [c]))
  exact Ev.bind (l1All_l0 ds (by omega) ds [] rfl) (evNow (by simp [c, c']; omega))
-- ** trackrun
def trackRes (b g o : Int) (ds : List Int) : List Int × Bool := if asked b g o ds = true then runRes b g o ds else ([], false)
theorem implTrackRun_ev (b g o : Int) (ds : List Int) (hl : ds.length ≤ 1048576) : Ev (fun k => impl_TrackRun.f k b g o ds) (trackRes b g o ds) := by
  unfold impl_TrackRun.f trackRes
  refine Ev.bind (isRun_ev b g o ds hl) (evIte (fun c => ?_) (fun c => Ev.now _))
  obtain ⟨h, h1, h2, h3⟩ := asked_iff.1 c
  exact Ev.bind (trackRun_ev h h1 h2 hl) (Ev.now _)
-- ** most
theorem l1Most_eq (a b : Int) : spec_l1Most.f a b = some (max a b) := by
  unfold spec_l1Most.f; split <;> (congr 1; omega)
-- ** abs
theorem l1Abs_eq {o : Int} (h : -1000000000 ≤ o ∧ o ≤ 1000000000) : spec_l1Abs.f o = some (o.natAbs : Int) := by
  unfold spec_l1Abs.f
  rw [wrapi (by omega) (by omega), l1Most_eq]
  simp only [Option.bind_some]; congr 1; omega
-- ** dist
theorem distance_eq {a b : Int} (ha : -1000000000 ≤ a ∧ a ≤ 1000000000) (hb : -1000000000 ≤ b ∧ b ≤ 1000000000) : impl_distance.f a b = some ((a - b).natAbs : Int) := by
  unfold impl_distance.f
  rw [wrapi (by omega) (by omega), wrapi (by omega) (by omega), mx_eq]
  congr 1; omega
-- ** worst
def wst : Int → List Int → Int
  | w, [] => w
  | w, x :: l => wst (max w (x.natAbs : Int)) l
def worstRes (b g o : Int) (ds : List Int) : Int × Bool := if (run b g o ds).all offB = true then (wst (o.natAbs : Int) (run b g o ds), true) else (0, false)
theorem offB_iff {o : Int} : offB o = true ↔ -1000 ≤ o ∧ o ≤ 1000 := decide_eq_true_iff
theorem worstImpl_l0 (l : List Int) (hl : l.length ≤ 1048576) : ∀ (suf pre : List Int) (w : Int), l = pre ++ suf → suf.all offB = true →
    Ev (fun k => impl_WorstOffset.l0 k w l (l.length : Int) (pre.length : Int)) (wst w suf, true) := by
  intro suf
  induction suf with
  | nil =>
    intro pre w h hs
    refine Ev.step (fun k => impl_WorstOffset.l0.eq_2 ..) ?_
    simp only [rgEnd h, if_false]
    exact evNow (by simp [wst])
  | cons x suf ih =>
    intro pre w h hs
    obtain ⟨h1, h2, h3, h4, h5⟩ := rgHead h (by omega) 0
    simp only [List.all_cons, Bool.and_eq_true] at hs
    have hx := offB_iff.1 hs.1
    refine Ev.step (fun k => impl_WorstOffset.l0.eq_2 ..) ?_
    simp only [h1, h2, h3, rd, h4, if_true, distance_eq (a := x) (b := 0) (by omega) (by omega), Option.bind_some, mx_eq, Int.sub_zero]
    exact ih _ _ h5 hs.2
theorem worstSpec_l0 (l : List Int) (hl : l.length ≤ 1048576) : ∀ (suf pre : List Int) (w : Int), l = pre ++ suf → suf.all offB = true →
    Ev (fun k => spec_tkWorst.l0 k w l (l.length : Int) (pre.length : Int)) (wst w suf, true) := by
  intro suf
  induction suf with
  | nil =>
    intro pre w h hs
    refine Ev.step (fun k => spec_tkWorst.l0.eq_2 ..) ?_
    simp only [rgEnd h, if_false]
    exact evNow (by simp [wst])
  | cons x suf ih =>
    intro pre w h hs
    obtain ⟨h1, h2, h3, h4, h5⟩ := rgHead h (by omega) 0
    simp only [List.all_cons, Bool.and_eq_true] at hs
    have hx := offB_iff.1 hs.1
    refine Ev.step (fun k => spec_tkWorst.l0.eq_2 ..) ?_
    simp only [h1, h2, h3, rd, h4, if_true, l1Abs_eq (o := x) (by omega), l1Most_eq, Option.bind_some]
    exact ih _ _ h5 hs.2
theorem tkWorst_ev {b g o : Int} {ds : List Int} (hc : ctl b g) (ho : off o) (hd : ds.all drf = true) (hl : ds.length ≤ 1048576) : Ev (fun k => spec_tkWorst.f k b g o ds) (worstRes b g o ds) := by
  unfold spec_tkWorst.f
  refine Ev.bind (tkRun_ev hc ho hd hl) ?_
  unfold tkRunRes worstRes
  by_cases c : (run b g o ds).all offB = true
  · simp only [if_pos c, if_true]
    unfold off at ho
    simp only [l1Abs_eq (o := o) (by omega), Option.bind_some]
    exact worstSpec_l0 _ (by rw [run_length]; omega) _ [] _ rfl c
  · simp only [if_neg c]
    exact evNeg (by simp) (Ev.now _)
theorem implWorst_ev (b g o : Int) (ds : List Int) (hl : ds.length ≤ 1048576) : Ev (fun k => impl_WorstOffset.f k b g o ds) (if asked b g o ds = true then worstRes b g o ds else (0, false)) := by
  unfold impl_WorstOffset.f
  refine Ev.bind (implTrackRun_ev b g o ds hl) ?_
  unfold trackRes runRes worstRes
  by_cases a : asked b g o ds = true
  · obtain ⟨h, ho, h2, h3⟩ := asked_iff.1 a
    by_cases c : (run b g o ds).all offB = true
    · simp only [if_pos a, if_pos c, if_true]
      unfold off at ho
      simp only [distance_eq (a := o) (b := 0) (by omega) (by omega), Option.bind_some, Int.sub_zero]
      exact worstImpl_l0 _ (by rw [run_length]; omega) _ [] _ rfl c
    · simp only [if_pos a, if_neg c]
      exact evNeg (by simp) (Ev.now _)
  · simp only [if_neg a]
    exact evNeg (by simp) (Ev.now _)
-- ** gain
theorem isLimit_eq (m : Int) : impl_isLimit.f m = some (decide (0 ≤ m ∧ m ≤ 2000)) := by
  unfold impl_isLimit.f
  split
  · exact someD (by omega)
  · exact someF (by omega)
theorem gain_loops {b o lim : Int} {ds : List Int} (ha : asked b 1 o ds = true) : ∀ (d : Nat) (g : Int), g + d = 101 → 1 ≤ g →
    ∃ r, Ev (fun k => spec_LeastGain.l0 k b o ds lim g) r ∧ Ev (fun k => impl_LeastGain.l0 k b o ds lim g) r := by
  obtain ⟨h, ho, h2, h3⟩ := asked_iff.1 ha
  intro d
  induction d with
  | zero =>
    intro g hg h0
    exact ⟨(0, false), Ev.step (fun k => spec_LeastGain.l0.eq_2 ..) (evNeg (by omega) (Ev.now _)), Ev.step (fun k => impl_LeastGain.l0.eq_2 ..) (evNeg (by omega) (Ev.now _))⟩
  | succ d ih =>
    intro g hg h0
    obtain ⟨r, hr, hr'⟩ := ih (g + 1) (by omega) (by omega)
    have hc : ctl b g := by unfold ctl at h ⊢; omega
    have hq : asked b g o ds = true := asked_iff.2 ⟨hc, ho, h2, h3⟩
    have es := tkWorst_ev hc ho h2 (by omega)
    have ei := implWorst_ev b g o ds (by omega)
    rw [if_pos hq] at ei
    have hw : wrap64 (g + 1) = g + 1 := wrapi (by omega) (by omega)
    by_cases c : (worstRes b g o ds).2 = true
    · by_cases c' : (worstRes b g o ds).1 ≤ lim
      · refine ⟨(g, true), Ev.step (fun k => spec_LeastGain.l0.eq_2 ..) (evPos (by omega) (Ev.bind es (evPos c (evPos c' (Ev.now _))))), Ev.step (fun k => impl_LeastGain.l0.eq_2 ..) (evPos (by omega) (Ev.bind ei (evPos c (evPos c' (Ev.now _)))))⟩
      · refine ⟨r, Ev.step (fun k => spec_LeastGain.l0.eq_2 ..) (evPos (by omega) (Ev.bind es (evPos c (evNeg c' ?_)))), Ev.step (fun k => impl_LeastGain.l0.eq_2 ..) (evPos (by omega) (Ev.bind ei (evPos c (evNeg c' ?_))))⟩
        · rw [hw]; exact hr
        · rw [hw]; exact hr'
    · refine ⟨r, Ev.step (fun k => spec_LeastGain.l0.eq_2 ..) (evPos (by omega) (Ev.bind es (evNeg c ?_))), Ev.step (fun k => impl_LeastGain.l0.eq_2 ..) (evPos (by omega) (Ev.bind ei (evNeg c ?_)))⟩
      · rw [hw]; exact hr
      · rw [hw]; exact hr'
theorem gain_both (b o : Int) (ds : List Int) (lim : Int) (hl : ds.length ≤ 1048576) : ∃ r, Ev (fun k => spec_LeastGain.f k b o ds lim) r ∧ Ev (fun k => impl_LeastGain.f k b o ds lim) r := by
  by_cases ha : asked b 1 o ds = true
  · by_cases hm : 0 ≤ lim ∧ lim ≤ 2000
    · obtain ⟨r, h1, h2⟩ := gain_loops (lim := lim) ha 100 1 (by omega) (by omega)
      refine ⟨r, ?_, ?_⟩
      · unfold spec_LeastGain.f
        refine Ev.bind (tkAsked_ev b 1 o ds) (evPos ha ?_)
        simp only [in_eq, decide_eq_true hm, Option.bind_some, Bool.not_true]
        exact Ev.step (fun k => spec_LeastGain.j0.eq_2 ..) (evNeg (by simp) h1)
      · unfold impl_LeastGain.f
        refine Ev.bind (isRun_ev b 1 o ds hl) (evPos ha ?_)
        simp only [isLimit_eq, decide_eq_true hm, Option.bind_some, Bool.not_true]
        exact Ev.step (fun k => impl_LeastGain.j0.eq_2 ..) (evNeg (by simp) h2)
    · refine ⟨(0, false), ?_, ?_⟩
      · unfold spec_LeastGain.f
        refine Ev.bind (tkAsked_ev b 1 o ds) (evPos ha ?_)
        simp only [in_eq, decide_eq_false hm, Option.bind_some, Bool.not_false]
        exact Ev.step (fun k => spec_LeastGain.j0.eq_2 ..) (evPos rfl (Ev.now _))
      · unfold impl_LeastGain.f
        refine Ev.bind (isRun_ev b 1 o ds hl) (evPos ha ?_)
        simp only [isLimit_eq, decide_eq_false hm, Option.bind_some, Bool.not_false]
        exact Ev.step (fun k => impl_LeastGain.j0.eq_2 ..) (evPos rfl (Ev.now _))
  · refine ⟨(0, false), ?_, ?_⟩
    · unfold spec_LeastGain.f
      exact Ev.bind (tkAsked_ev b 1 o ds) (evNeg ha (Ev.step (fun k => spec_LeastGain.j0.eq_2 ..) (evPos rfl (Ev.now _))))
    · unfold impl_LeastGain.f
      exact Ev.bind (isRun_ev b 1 o ds hl) (evNeg ha (Ev.step (fun k => impl_LeastGain.j0.eq_2 ..) (evPos rfl (Ev.now _))))
-- ** lists
theorem setAt {α : Type} (A B : List α) (z v : α) (n : Nat) (h : n = A.length) : (A ++ z :: B).set n v = A ++ v :: B := by subst h; simp
-- ** intlaw
theorem toInt_l0 (l : List Int) (hl : l.length ≤ 1048576) : ∀ (suf pre : List Int), l = pre ++ suf →
    Ev (fun k => laws_toIntS.l0 k l (pre ++ List.replicate suf.length 0) (pre.length : Int)) l := by
  intro suf
  induction suf with
  | nil =>
    intro pre h
    refine Ev.step (fun k => laws_toIntS.l0.eq_2 ..) ?_
    simp only [rgEnd h, if_false]
    exact evNow (by subst h; simp)
  | cons x suf ih =>
    intro pre h
    obtain ⟨h1, h2, h3, h4, h5⟩ := rgHead h (by omega) 0
    refine Ev.step (fun k => laws_toIntS.l0.eq_2 ..) ?_
    simp only [h1, h2, h3, rd, h4, if_true]
    refine evPos (by simp; omega) ?_
    have e : (pre ++ List.replicate (x :: suf).length 0).set (pre.length : Int).toNat x = (pre ++ [x]) ++ List.replicate suf.length 0 := by
      rw [List.length_cons, List.replicate_succ, setAt _ _ _ _ _ (by simp)]
      simp
    rw [e]
    exact ih _ h5
theorem toInt_ev (l : List Int) (hl : l.length ≤ 1048576) : Ev (fun k => laws_toIntS.f k l) l := by
  unfold laws_toIntS.f
  refine evPos (by omega) (evPos (by omega) ?_)
  have := toInt_l0 l hl l [] rfl
  simpa using this
theorem eqInt_l0 (l : List Int) (hl : l.length ≤ 4611686018427387904) : ∀ (suf pre : List Int), l = pre ++ suf → Ev (fun k => laws_eqIntS.l0 k l l (pre.length : Int)) true := by
  intro suf
  induction suf with
  | nil =>
    intro pre h
    refine Ev.step (fun k => laws_eqIntS.l0.eq_2 ..) ?_
    simp only [rgEnd h, if_false]
    exact Ev.now _
  | cons x suf ih =>
    intro pre h
    obtain ⟨h1, h2, h3, h4, h5⟩ := rgHead h hl 0
    refine Ev.step (fun k => laws_eqIntS.l0.eq_2 ..) ?_
    simp only [h1, h2, h3, if_true]
    exact ih _ h5
theorem eqInt_ev (l : List Int) (hl : l.length ≤ 4611686018427387904) : Ev (fun k => laws_eqIntS.f k l l) true := by
  unfold laws_eqIntS.f
  exact evPos rfl (eqInt_l0 l hl l [] rfl)
-- ** FnExactLeastGain
theorem FnExactLeastGain (a0 a1 : Int) (l2 : List Int) (a3 : Int) (_ : Opn.I64 a0) (_ : Opn.I64 a1) (_ : Opn.Lst Opn.I64 l2) (_ : Opn.I64 a3) : ∃ k, laws_FnExactLeastGain.f k a0 a1 l2 a3 = some true := by
  refine Ev.rounds (g := fun k => laws_FnExactLeastGain.f k a0 a1 l2 a3) ?_
  unfold laws_FnExactLeastGain.f
  refine evBy (fun c => Ev.now _) (fun c => ?_)
  have hl : l2.length ≤ 1048576 := by omega
  obtain ⟨r, h1, h2⟩ := gain_both a0 a1 l2 a3 hl
  refine Ev.bind (toInt_ev l2 hl) (Ev.bind h1 (Ev.bind (toInt_ev l2 hl) (Ev.bind h2 ?_)))
  simp only [bne_self_eq_false, if_true]
  exact Ev.step (fun k => laws_FnExactLeastGain.j0.eq_2 ..) (evNeg (by simp) (Ev.bind (toInt_ev l2 hl) (Ev.bind (eqInt_ev l2 (by omega)) (evPos rfl (Ev.now _)))))
end Go.Proofs.Ytgkhikceollpkaa.Pure
