/- For all drawn segments, places grow by rates, steps are found at their places, and the worst error is that of some step. (P17): the plain part: what the program computes and what the reference computes agree, for all arguments. No conditions beyond the arguments' own kinds. -/
import Derived.Test.YtepkedhmbfkenaaPPlx0
import Derived.Test.YtepkedhmbfkenaaPPlx1
import Derived.Test.YtepkedhmbfkenaaPPlx2
import Derived.Test.YtepkedhmbfkenaaPPlx3
import Derived.Test.YtepkedhmbfkenaaPPlx4
import Derived.Test.YtepkedhmbfkenaaPPlx5
import Derived.Test.YtepkedhmbfkenaaPPlx6
import Derived.Test.YtepkedhmbfkenaaPPlx7
import Derived.Test.YtepkedhmbfkenaaPPlx8
import Derived.Test.YtepkedhmbfkenaaPPlx9
import Derived.Test.YtepkedhmbfkenaaOpn
namespace Go.Proofs.Ytepkedhmbfkenaa.Pure
open Go.RowKit Go.Proofs.Ytepkedhmbfkenaa.PPl Go.Proofs.YtepkedhmbfkenaaW.PrintWords Go.Proofs.YtepkedhmbfkenaaW.PrintLast Go.Proofs.YtepkedhmbfkenaaW.PrintMore
-- ** base
theorem wrapi {x : Int} (h0 : -9223372036854775808 ≤ x) (h1 : x ≤ 9223372036854775807) : wrap64 x = x := by unfold wrap64; omega
theorem evPos {α : Type} {c : Prop} [Decidable c] {g f : Nat → Option α} {r : α} (h : c) (e : Ev g r) : Ev (fun k => if c then g k else f k) r := by
  simp only [if_pos h]; exact e
theorem evNeg {α : Type} {c : Prop} [Decidable c] {g f : Nat → Option α} {r : α} (h : ¬ c) (e : Ev f r) : Ev (fun k => if c then g k else f k) r := by
  simp only [if_neg h]; exact e
theorem evC {α β : Type} {o : Option α} {f : Nat → α → Option β} {a : α} {r : β} (h : o = some a) (e : Ev (fun n => f n a) r) : Ev (fun n => o.bind (f n)) r := by
  subst h; exact e
theorem evNow {α : Type} {r q : α} (h : r = q) : Ev (fun _ => some r) q := by subst h; exact Ev.now r
theorem evEq {α : Type} {g : Nat → Option α} {r q : α} (h : Ev g r) (e : r = q) : Ev g q := e ▸ h
theorem evIte {α : Type} {c : Prop} [Decidable c] {g f : Nat → Option α} {r q : α} (h : c → Ev g r) (h' : ¬ c → Ev f q) : Ev (fun k => if c then g k else f k) (if c then r else q) := by
  by_cases hc : c
  · simp only [if_pos hc]; exact h hc
  · simp only [if_neg hc]; exact h' hc
theorem evBy {α : Type} {c : Prop} [Decidable c] {g f : Nat → Option α} {r : α} (h : c → Ev g r) (h' : ¬ c → Ev f r) : Ev (fun k => if c then g k else f k) r := by
  by_cases hc : c
  · simp only [if_pos hc]; exact h hc
  · simp only [if_neg hc]; exact h' hc
theorem someF {p : Prop} [Decidable p] (h : ¬ p) : some false = some (decide p) := by rw [decide_eq_false h]
theorem someD {p q : Prop} [Decidable p] [Decidable q] (h : p ↔ q) : some (decide p) = some (decide q) := by rw [decide_eq_decide.mpr h]
theorem decF {p : Prop} [Decidable p] (h : ¬ p) : false = decide p := by rw [decide_eq_false h]
theorem decD {p q : Prop} [Decidable p] [Decidable q] (h : p ↔ q) : decide p = decide q := decide_eq_decide.mpr h
theorem rgEnd {α : Type} {l pre : List α} (h : l = pre ++ []) : ¬ ((pre.length : Int) < (l.length : Int)) := by subst h; simp
theorem rgHead {α : Type} {l pre suf : List α} {x : α} (h : l = pre ++ x :: suf) (hl : l.length ≤ 4611686018427387904) (z : α) :
    (pre.length : Int) < (l.length : Int) ∧ (0 : Int) ≤ (pre.length : Int) ∧ wrap64 ((pre.length : Int) + 1) = ((pre ++ [x]).length : Int) ∧ l.getD (pre.length : Int).toNat z = x ∧ l = (pre ++ [x]) ++ suf := by
  subst h
  simp at hl
  refine ⟨by simp; omega, by omega, ?_, by simp, by simp⟩
  rw [wrapi (by omega) (by omega)]; simp
theorem in_eq (a b c : Int) : spec_l1In.f a b c = some (decide (b ≤ a ∧ a ≤ c)) := by
  unfold spec_l1In.f
  split
  · exact someD (by omega)
  · exact someF (by omega)
theorem mx_eq (a b : Int) : mx a b = max a b := by unfold mx; omega
theorem mn_eq (a b : Int) : mn a b = min a b := by unfold mn; omega
-- ** draws
theorem and255 (y : Int) : 0 ≤ wrap64 (Go.bits .and .u64 (IntKind.u64.wrap y / 1099511627776) 255) ∧ wrap64 (Go.bits .and .u64 (IntKind.u64.wrap y / 1099511627776) 255) ≤ 255 := by
  have h : 0 ≤ IntKind.u64.wrap y / 1099511627776 ∧ IntKind.u64.wrap y / 1099511627776 < 18446744073709551616 := by rw [IntKind.wrap_u64]; omega
  generalize IntKind.u64.wrap y / 1099511627776 = x at h
  have e := Go.bits_and_u64_nat x.toNat 255 (by omega) (by omega)
  rw [show ((x.toNat : Nat) : Int) = x by omega] at e
  have l : x.toNat &&& 255 ≤ 255 := Nat.and_le_right
  rw [show Go.bits .and .u64 x 255 = ((x.toNat &&& 255 : Nat) : Int) from e, wrapi (by omega) (by omega)]
  omega
def bytes (l : List Int) : Prop := ∀ x, x ∈ l → 0 ≤ x ∧ x ≤ 255
theorem next_ok {l : List Int} (hl : bytes l) {a : Int} (s : Int) (h0 : 0 ≤ a) (h1 : a ≤ 1000000000) : ∃ v s', spec_l1Cur_next.f l a s = some (v, a + 1, s') ∧ 0 ≤ v ∧ v ≤ 255 := by
  unfold spec_l1Cur_next.f
  rw [wrapi (x := a + 1) (by omega) (by omega)]
  by_cases c : a < (l.length : Int)
  · have hr : 0 ≤ rd l a ∧ rd l a ≤ 255 := hl _ (by unfold rd; rw [List.getD_eq_getElem?_getD, List.getElem?_eq_getElem (by omega), Option.getD_some]; exact List.getElem_mem _)
    rw [if_pos c, if_pos h0]
    split
    · exact ⟨_, _, rfl, by rw [wrapi (by omega) (by omega)]; omega⟩
    · exact ⟨_, _, rfl, and255 _⟩
  · rw [if_neg c]
    split
    · exact ⟨_, _, rfl, by omega⟩
    · exact ⟨_, _, rfl, and255 _⟩
theorem pick_ok {l : List Int} (hl : bytes l) {a : Int} (s : Int) (h0 : 0 ≤ a) (h1 : a ≤ 900000000) {m : Int} (hm : m ≤ 65000) : ∃ v a' s', spec_l1Cur_pick.f l a s m = some (v, a', s') ∧ (0 ≤ v ∧ (1 ≤ m → v < m)) ∧ a ≤ a' ∧ a' ≤ a + 2 := by
  unfold spec_l1Cur_pick.f
  by_cases c : m ≤ 1
  · rw [if_pos c]; exact ⟨_, _, _, rfl, by omega⟩
  · rw [if_neg c]
    obtain ⟨v, s', e, hv⟩ := next_ok hl s h0 (by omega)
    rw [e]
    simp only [Option.bind_some]
    by_cases c1 : m > 200
    · obtain ⟨v2, s2, e2, hv2⟩ := next_ok hl s' (show 0 ≤ a + 1 by omega) (by omega)
      rw [if_pos c1, e2]
      simp only [Option.bind_some]
      rw [if_neg (by omega), wrapi (x := v * 256) (by omega) (by omega), wrapi (x := v * 256 + v2) (by omega) (by omega)]
      exact ⟨_, _, _, rfl, ⟨Int.tmod_nonneg _ (by omega), fun _ => Int.tmod_lt_of_pos _ (by omega)⟩, by omega, by omega⟩
    · rw [if_neg c1, if_neg (by omega)]
      exact ⟨_, _, _, rfl, ⟨Int.tmod_nonneg _ (by omega), fun _ => Int.tmod_lt_of_pos _ (by omega)⟩, by omega, by omega⟩
theorem among_ok {l : List Int} (hl : bytes l) {a : Int} (s : Int) (h0 : 0 ≤ a) (h1 : a ≤ 900000000) {q : List Int} (hq : 1 ≤ q.length ∧ q.length ≤ 1000) : ∃ v a' s', spec_l1Cur_among.f l a s q = some (v, a', s') ∧ a ≤ a' ∧ a' ≤ a + 2 := by
  unfold spec_l1Cur_among.f
  obtain ⟨v, a', s', e, hv, ha⟩ := pick_ok hl s h0 h1 (m := (q.length : Int)) (by omega)
  rw [e]
  simp only [Option.bind_some]
  rw [if_pos hv.1, if_pos (hv.2 (by omega))]
  exact ⟨_, _, _, rfl, ha⟩
theorem one_ok {l : List Int} (hl : bytes l) {a : Int} (s : Int) (h0 : 0 ≤ a) (h1 : a ≤ 900000000) {m : Int} (hm : m ≤ 65000) : ∃ v a' s', spec_l1Cur_one.f l a s m = some (v, a', s') ∧ a ≤ a' ∧ a' ≤ a + 2 := by
  unfold spec_l1Cur_one.f
  obtain ⟨v, a', s', e, hv, ha⟩ := pick_ok hl s h0 h1 hm
  rw [e]
  exact ⟨_, _, _, rfl, ha⟩
-- ** seggood
def seg (x : S133) : Bool := decide (1 ≤ x.f0 ∧ x.f0 ≤ 500 ∧ 900 ≤ x.f1 ∧ x.f1 ≤ 1100)
theorem seg_iff {x : S133} : seg x = true ↔ 1 ≤ x.f0 ∧ x.f0 ≤ 500 ∧ 900 ≤ x.f1 ∧ x.f1 ≤ 1100 := by simp [seg]
def stps : List S133 → Int
  | [] => 0
  | x :: l => x.f0 + stps l
theorem stps_bd : ∀ {l : List S133}, l.all seg = true → (l.length : Int) ≤ stps l ∧ stps l ≤ 500 * (l.length : Int)
  | [], _ => by simp [stps]
  | x :: l, h => by
    simp only [List.all_cons, Bool.and_eq_true] at h
    have := stps_bd h.2
    have := seg_iff.1 h.1
    simp only [stps, List.length_cons]; omega
def goodSegs (l : List S133) : Bool := decide (1 ≤ l.length ∧ l.length ≤ 20) && (l.all seg && decide (stps l ≤ 2000))
theorem good_iff {l : List S133} : goodSegs l = true ↔ (1 ≤ l.length ∧ l.length ≤ 20) ∧ l.all seg = true ∧ stps l ≤ 2000 := by simp [goodSegs]
theorem stSteps_l0 (l : List S133) (hl : l.length ≤ 1048576) : ∀ (suf pre : List S133) (a : Int), l = pre ++ suf → suf.all seg = true → 0 ≤ a → a ≤ 500 * (pre.length : Int) →
    Ev (fun k => spec_stSteps.l0 k a l (l.length : Int) (pre.length : Int)) (a + stps suf) := by
  intro suf
  induction suf with
  | nil =>
    intro pre a h hs h0 ha
    refine Ev.step (fun k => spec_stSteps.l0.eq_2 ..) ?_
    simp only [rgEnd h, if_false]
    exact evNow (by simp [stps])
  | cons x suf ih =>
    intro pre a h hs h0 ha
    obtain ⟨h1, h2, h3, h4, h5⟩ := rgHead h (by omega) z133
    simp only [List.all_cons, Bool.and_eq_true] at hs
    have hx := seg_iff.1 hs.1
    have hpl : pre.length ≤ 1048576 := by omega
    refine Ev.step (fun k => spec_stSteps.l0.eq_2 ..) ?_
    simp only [h1, h2, h3, rd_T133, h4, if_true]
    rw [wrapi (by omega) (by omega)]
    exact evEq (ih _ _ h5 hs.2 (by omega) (by simp; omega)) (by simp only [stps]; omega)
theorem stSteps_ev {l : List S133} (hl : l.length ≤ 1048576) (hs : l.all seg = true) : Ev (fun k => spec_stSteps.f k l) (stps l) :=
  evEq (stSteps_l0 l hl l [] 0 rfl hs (by omega) (by simp)) (by simp)
theorem stSegment_eq (x : S133) : spec_stSegment.f x.f0 x.f1 = some (seg x) := by
  unfold spec_stSegment.f; simp only [in_eq, Option.bind_some, decide_eq_true_eq]
  split
  · exact someD (by omega)
  · exact someF (by omega)
theorem stGood_l0 (l : List S133) (hl : l.length ≤ 1048576) : ∀ (suf pre : List S133), l = pre ++ suf → pre.all seg = true →
    Ev (fun k => spec_stGood.l0 k l l (l.length : Int) (pre.length : Int)) (suf.all seg && decide (stps l ≤ 2000)) := by
  intro suf
  induction suf with
  | nil =>
    intro pre h hp
    refine Ev.step (fun k => spec_stGood.l0.eq_2 ..) ?_
    simp only [rgEnd h, if_false]
    refine Ev.bind (stSteps_ev hl (by rw [h]; simpa using hp)) (evNow (by simp))
  | cons x suf ih =>
    intro pre h hp
    obtain ⟨h1, h2, h3, h4, h5⟩ := rgHead h (by omega) z133
    refine Ev.step (fun k => spec_stGood.l0.eq_2 ..) ?_
    simp only [h1, h2, h3, rd_T133, h4, if_true, stSegment_eq, Option.bind_some]
    refine evBy (fun c => evEq (ih _ h5 (by simp at hp ⊢; exact ⟨hp, c⟩)) (by simp [c])) (fun c => evNow (by simp [c]))
theorem stGood_ev (l : List S133) : Ev (fun k => spec_stGood.f k l) (goodSegs l) := by
  unfold spec_stGood.f goodSegs
  simp only [in_eq, Option.bind_some, decide_eq_true_eq]
  refine evBy (fun c => evEq (stGood_l0 l (by omega) l [] rfl rfl) ?_) (fun c => evNow ?_)
  · rw [show decide (1 ≤ l.length ∧ l.length ≤ 20) = true from decide_eq_true (by omega)]; rfl
  · rw [show decide (1 ≤ l.length ∧ l.length ≤ 20) = false from decide_eq_false (by omega)]; rfl
theorem allSteps_l0 (l : List S133) (hl : l.length ≤ 1048576) : ∀ (suf pre : List S133) (a : Int), l = pre ++ suf → suf.all seg = true → 0 ≤ a → a ≤ 500 * (pre.length : Int) →
    Ev (fun k => impl_allSteps.l0 k a l (l.length : Int) (pre.length : Int)) (a + stps suf) := by
  intro suf
  induction suf with
  | nil =>
    intro pre a h hs h0 ha
    refine Ev.step (fun k => impl_allSteps.l0.eq_2 ..) ?_
    simp only [rgEnd h, if_false]
    exact evNow (by simp [stps])
  | cons x suf ih =>
    intro pre a h hs h0 ha
    obtain ⟨h1, h2, h3, h4, h5⟩ := rgHead h (by omega) z133
    simp only [List.all_cons, Bool.and_eq_true] at hs
    have hx := seg_iff.1 hs.1
    have hpl : pre.length ≤ 1048576 := by omega
    refine Ev.step (fun k => impl_allSteps.l0.eq_2 ..) ?_
    simp only [h1, h2, h3, rd_T133, h4, if_true]
    rw [wrapi (by omega) (by omega)]
    exact evEq (ih _ _ h5 hs.2 (by omega) (by simp; omega)) (by simp only [stps]; omega)
theorem allSteps_ev {l : List S133} (hl : l.length ≤ 1048576) (hs : l.all seg = true) : Ev (fun k => impl_allSteps.f k l) (stps l) :=
  evEq (allSteps_l0 l hl l [] 0 rfl hs (by omega) (by simp)) (by simp)
theorem areSegs_l0 (l : List S133) (hl : l.length ≤ 1048576) : ∀ (suf pre : List S133), l = pre ++ suf → pre.all seg = true →
    Ev (fun k => impl_AreSegments.l0 k l l (l.length : Int) (pre.length : Int)) (suf.all seg && decide (stps l ≤ 2000)) := by
  intro suf
  induction suf with
  | nil =>
    intro pre h hp
    refine Ev.step (fun k => impl_AreSegments.l0.eq_2 ..) ?_
    simp only [rgEnd h, if_false]
    refine Ev.bind (allSteps_ev hl (by rw [h]; simpa using hp)) (evNow (by simp))
  | cons x suf ih =>
    intro pre h hp
    obtain ⟨h1, h2, h3, h4, h5⟩ := rgHead h (by omega) z133
    refine Ev.step (fun k => impl_AreSegments.l0.eq_2 ..) ?_
    simp only [h1, h2, h3, rd_T133, h4, if_true]
    have bad : ¬ (1 ≤ x.f0 ∧ x.f0 ≤ 500 ∧ 900 ≤ x.f1 ∧ x.f1 ≤ 1100) → false = ((x :: suf).all seg && decide (stps l ≤ 2000)) := fun c => by
      have : seg x = false := decide_eq_false c
      simp [this]
    refine evBy (fun c => evNow (bad (by omega))) (fun c => evBy (fun c => evNow (bad (by omega))) (fun c => evBy (fun c => evNow (bad (by omega))) (fun c => evBy (fun c => evNow (bad (by omega))) (fun c => ?_))))
    have hx : seg x = true := seg_iff.2 (by omega)
    exact evEq (ih _ h5 (by simp at hp ⊢; exact ⟨hp, hx⟩)) (by simp [hx])
theorem areSegs_ev (l : List S133) : Ev (fun k => impl_AreSegments.f k l) (goodSegs l) := by
  unfold impl_AreSegments.f goodSegs
  refine evBy (fun c => ?_) (fun c => ?_)
  · refine Ev.step (fun k => impl_AreSegments.j0.eq_2 ..) (evPos rfl (evNow ?_))
    rw [show decide (1 ≤ l.length ∧ l.length ≤ 20) = false from decide_eq_false (by omega)]; rfl
  · refine Ev.step (fun k => impl_AreSegments.j0.eq_2 ..) ?_
    simp only [decide_eq_true_eq]
    refine evBy (fun c' => evNow ?_) (fun c' => evEq (areSegs_l0 l (by omega) l [] rfl rfl) ?_)
    · rw [show decide (1 ≤ l.length ∧ l.length ≤ 20) = false from decide_eq_false (by omega)]; rfl
    · rw [show decide (1 ≤ l.length ∧ l.length ≤ 20) = true from decide_eq_true (by omega)]; rfl
-- ** drawseg
theorem segs_l1 (q : List Int) (x7 a s : Int) (h7 : x7 ≤ 100) : ∀ (d : Nat) (x : List S133), x7 - (x.length : Int) ≤ d → x.length ≤ 100 → ∃ r, Ev (fun k => spec_l1Cur_segments.l1 k x x7 q a s) (r, a, s) ∧ r.length ≤ 100 := by
  intro d
  induction d with
  | zero =>
    intro x hx hl
    exact ⟨x, Ev.step (fun k => spec_l1Cur_segments.l1.eq_2 ..) (evNeg (by omega) (Ev.now _)), hl⟩
  | succ d ih =>
    intro x hx hl
    by_cases c : (x.length : Int) < x7
    · obtain ⟨r, h1, h2⟩ := ih (x ++ [⟨2, 1001⟩]) (by simp; omega) (by simp; omega)
      exact ⟨r, Ev.step (fun k => spec_l1Cur_segments.l1.eq_2 ..) (evPos c (evPos (by omega) h1)), h2⟩
    · exact ⟨x, Ev.step (fun k => spec_l1Cur_segments.l1.eq_2 ..) (evNeg c (Ev.now _)), hl⟩
theorem segs_l0 {q : List Int} (hl : bytes q) (n : Int) (hn : 1 ≤ n ∧ n ≤ 20) : ∀ (d : Nat) (x : List S133) (a s : Int), (x.length : Int) + d = n → 0 ≤ a → a + 10 * (d : Int) ≤ 100000 → ∃ r a' s', Ev (fun k => spec_l1Cur_segments.l0 k x n q a s) (r, a', s') ∧ r.length ≤ 100 ∧ a ≤ a' ∧ a' ≤ a + 10 * (d : Int) + 20 := by
  intro d
  induction d with
  | zero =>
    intro x a s hx h0 h1
    obtain ⟨v, a1, s1, e1, hv, h1a⟩ := pick_ok hl s h0 (by omega) (m := n) (by omega)
    have hv2 := hv.2 (by omega)
    obtain ⟨w, a2, s2, e2, hw, h2a⟩ := pick_ok hl s1 (show 0 ≤ a1 by omega) (by omega) (m := 30) (by omega)
    by_cases c0 : w = 0
    · obtain ⟨z, a3, s3, e3, h3a⟩ := among_ok hl s2 (show 0 ≤ a2 by omega) (by omega) (q := [0, 500, 501]) (by simp)
      refine ⟨x.set v.toNat ⟨z, (rd_T133 x v).f1⟩, a3, s3, Ev.step (fun k => spec_l1Cur_segments.l0.eq_2 ..) (evNeg (by omega) ?_), ?_, by omega, by omega⟩
      · simp only [e1, Option.bind_some, e2]
        refine evPos hv.1 (evPos (by omega) (evPos c0 ?_))
        simp only [e3, Option.bind_some]
        exact Ev.now _
      · simp; omega
    · by_cases c1 : w = 1
      · obtain ⟨z, a3, s3, e3, h3a⟩ := among_ok hl s2 (show 0 ≤ a2 by omega) (by omega) (q := [899, 1101]) (by simp)
        refine ⟨x.set v.toNat ⟨(rd_T133 x v).f0, z⟩, a3, s3, Ev.step (fun k => spec_l1Cur_segments.l0.eq_2 ..) (evNeg (by omega) ?_), ?_, by omega, by omega⟩
        · simp only [e1, Option.bind_some, e2]
          refine evPos hv.1 (evPos (by omega) (evNeg c0 (evPos c1 ?_)))
          simp only [e3, Option.bind_some]
          exact Ev.now _
        · simp; omega
      · by_cases c2 : w = 2
        · obtain ⟨z, a3, s3, e3, _, h3a⟩ := pick_ok hl s2 (show 0 ≤ a2 by omega) (by omega) (m := 2) (by omega)
          refine ⟨[⟨500, 1100⟩, ⟨500, 1100⟩, ⟨500, 900⟩, ⟨499, 1000⟩, ⟨wrap64 (1 + z), 1001⟩], a3, s3, Ev.step (fun k => spec_l1Cur_segments.l0.eq_2 ..) (evNeg (by omega) ?_), ?_, by omega, by omega⟩
          · simp only [e1, Option.bind_some, e2]
            refine evPos hv.1 (evPos (by omega) (evNeg c0 (evNeg c1 (evPos c2 ?_))))
            simp only [e3, Option.bind_some]
            exact Ev.now _
          · simp
        · by_cases c3 : w = 3
          · obtain ⟨z, a3, s3, e3, hz, h3a⟩ := pick_ok hl s2 (show 0 ≤ a2 by omega) (by omega) (m := 2) (by omega)
            have hz2 := hz.2 (by omega)
            obtain ⟨r, hE, hr⟩ := segs_l1 q (wrap64 (20 + z)) a3 s3 (by rw [wrapi (by omega) (by omega)]; omega) 100 x (by rw [wrapi (by omega) (by omega)]; omega) (by omega)
            refine ⟨r, a3, s3, Ev.step (fun k => spec_l1Cur_segments.l0.eq_2 ..) (evNeg (by omega) ?_), hr, by omega, by omega⟩
            simp only [e1, Option.bind_some, e2]
            refine evPos hv.1 (evPos (by omega) (evNeg c0 (evNeg c1 (evNeg c2 (evPos c3 ?_)))))
            simp only [e3, Option.bind_some]
            exact hE
          · by_cases c4 : w = 4
            · refine ⟨[], a2, s2, Ev.step (fun k => spec_l1Cur_segments.l0.eq_2 ..) (evNeg (by omega) ?_), by simp, by omega, by omega⟩
              simp only [e1, Option.bind_some, e2]
              exact evPos hv.1 (evPos (by omega) (evNeg c0 (evNeg c1 (evNeg c2 (evNeg c3 (evPos c4 (Ev.now _)))))))
            · refine ⟨x, a2, s2, Ev.step (fun k => spec_l1Cur_segments.l0.eq_2 ..) (evNeg (by omega) ?_), by omega, by omega, by omega⟩
              simp only [e1, Option.bind_some, e2]
              exact evPos hv.1 (evPos (by omega) (evNeg c0 (evNeg c1 (evNeg c2 (evNeg c3 (evNeg c4 (Ev.now _)))))))
  | succ d ih =>
    intro x a s hx h0 h1
    obtain ⟨v1, a1, s1, e1, _, h1a⟩ := pick_ok hl s h0 (by omega) (m := 90) (by omega)
    obtain ⟨v2, a2, s2, e2, h2a⟩ := among_ok hl s1 (show 0 ≤ a1 by omega) (by omega) (q := [1, 10, 10, 40, wrap64 (1 + v1)]) (by simp)
    obtain ⟨v3, a3, s3, e3, _, h3a⟩ := pick_ok hl s2 (show 0 ≤ a2 by omega) (by omega) (m := 201) (by omega)
    obtain ⟨v4, a4, s4, e4, h4a⟩ := among_ok hl s3 (show 0 ≤ a3 by omega) (by omega) (q := [1000, 1000, 1020, 990, 900, 1100, wrap64 (900 + v3)]) (by simp)
    obtain ⟨r, a', s', hE, hr, hb⟩ := ih (x ++ [⟨v2, v4⟩]) a4 s4 (by simp; omega) (by omega) (by omega)
    refine ⟨r, a', s', Ev.step (fun k => spec_l1Cur_segments.l0.eq_2 ..) (evPos (by omega) ?_), hr, by omega, by omega⟩
    simp only [e1, Option.bind_some, e2, e3, e4]
    exact evPos (by omega) hE
theorem segs_ok {q : List Int} (hl : bytes q) (s : Int) {a : Int} (h0 : 0 ≤ a) (h1 : a ≤ 1000) : ∃ r a' s', Ev (fun k => spec_l1Cur_segments.f k q a s) (r, a', s') ∧ r.length ≤ 100 ∧ a ≤ a' ∧ a' ≤ a + 300 := by
  unfold spec_l1Cur_segments.f
  obtain ⟨v1, a1, s1, e1, hv, h1a⟩ := pick_ok hl s h0 (by omega) (m := 5) (by omega)
  obtain ⟨f, a2, s2, e2, h2a⟩ := one_ok hl s1 (show 0 ≤ a1 by omega) (by omega) (m := 20) (by omega)
  have hv2 := hv.2 (by omega)
  simp only [e1, Option.bind_some, e2]
  have go : ∀ (n : Int), 1 ≤ n → n ≤ 20 → ∃ r a' s', Ev (fun k => spec_l1Cur_segments.j0 k [] n q a2 s2) (r, a', s') ∧ r.length ≤ 100 ∧ a2 ≤ a' ∧ a' ≤ a2 + 220 := by
    intro n n0 n1
    obtain ⟨r, a', s', hE, hr, hb⟩ := segs_l0 hl n ⟨n0, n1⟩ n.toNat [] a2 s2 (by simp; omega) (by omega) (by omega)
    exact ⟨r, a', s', Ev.step (fun k => spec_l1Cur_segments.j0.eq_2 ..) hE, hr, by omega, by omega⟩
  cases f with
  | true =>
    obtain ⟨r, a', s', hE, hr, hb⟩ := go 20 (by omega) (by omega)
    exact ⟨r, a', s', evPos rfl hE, hr, by omega, by omega⟩
  | false =>
    obtain ⟨r, a', s', hE, hr, hb⟩ := go (wrap64 (1 + v1)) (by rw [wrapi (by omega) (by omega)]; omega) (by rw [wrapi (by omega) (by omega)]; omega)
    exact ⟨r, a', s', evNeg (by simp) hE, hr, by omega, by omega⟩
theorem stepOf_ok {q : List Int} (hl : bytes q) (s : Int) {a : Int} (h0 : 0 ≤ a) (h1 : a ≤ 10000) (l : List S133) : ∃ v a' s', Ev (fun k => spec_l1Cur_stepOf.f k q a s l) (v, a', s') ∧ a ≤ a' ∧ a' ≤ a + 10 := by
  unfold spec_l1Cur_stepOf.f
  have go : ∀ (n : Int), 0 ≤ n → n ≤ 20000 → ∃ v a' s', Ev (fun k => spec_l1Cur_stepOf.j0 k n q a s) (v, a', s') ∧ a ≤ a' ∧ a' ≤ a + 10 := by
    intro n n0 n1
    have hw : wrap64 (n + 1) = n + 1 := wrapi (by omega) (by omega)
    obtain ⟨v1, a1, s1, e1, _, h1a⟩ := pick_ok hl s h0 (by omega) (m := n + 1) (by omega)
    obtain ⟨v2, a2, s2, e2, _, h2a⟩ := pick_ok hl s1 (show 0 ≤ a1 by omega) (by omega) (m := n + 1) (by omega)
    obtain ⟨v3, a3, s3, e3, h3a⟩ := among_ok hl s2 (show 0 ≤ a2 by omega) (by omega) (q := [n + 1, (-1)]) (by simp)
    obtain ⟨v4, a4, s4, e4, h4a⟩ := among_ok hl s3 (show 0 ≤ a3 by omega) (by omega) (q := [0, v1, v2, n, v3]) (by simp)
    refine ⟨v4, a4, s4, Ev.step (fun k => spec_l1Cur_stepOf.j0.eq_2 ..) ?_, by omega, by omega⟩
    rw [hw]
    simp only [e1, Option.bind_some, e2, e3, e4]
    exact Ev.now _
  by_cases c : goodSegs l = true
  · have h := good_iff.1 c
    have hb := stps_bd h.2.1
    obtain ⟨v, a', s', hE, hb'⟩ := go (stps l) (by omega) (by omega)
    exact ⟨v, a', s', Ev.bind (stGood_ev l) (evPos c (Ev.bind (stSteps_ev (by omega) h.2.1) hE)), hb'⟩
  · obtain ⟨v, a', s', hE, hb'⟩ := go 1 (by omega) (by omega)
    exact ⟨v, a', s', Ev.bind (stGood_ev l) (evNeg c hE), hb'⟩
theorem drawPlace_ok {q : List Int} (hl : bytes q) : ∃ l s, Ev (fun k => spec_DrawPlaceOf.f k q) (l, s) ∧ l.length ≤ 100 := by
  unfold spec_DrawPlaceOf.f
  obtain ⟨l, a1, s1, h1, hl1, h1a⟩ := segs_ok hl 0 (a := 0) (by omega) (by omega)
  obtain ⟨v, a2, s2, h2, h2a⟩ := stepOf_ok hl s1 (show 0 ≤ a1 by omega) (by omega) l
  exact ⟨l, v, Ev.bind h1 (Ev.bind h2 (Ev.now _)), hl1⟩
-- ** place
def plc : List S133 → Int → Int
  | [], _ => 0
  | x :: l, s => min x.f0 s * x.f1 + plc l (s - min x.f0 s)
theorem mulBd {n r : Int} (h0 : 0 ≤ n) (h1 : n ≤ 500) (h2 : 0 ≤ r) (h3 : r ≤ 1100) : 0 ≤ n * r ∧ n * r ≤ 550000 :=
  ⟨Int.mul_nonneg h0 h2, Int.le_trans (Int.mul_le_mul_of_nonneg_right h1 h2) (by omega)⟩
theorem plc_bd : ∀ {l : List S133} {s : Int}, l.all seg = true → 0 ≤ s → 0 ≤ plc l s ∧ plc l s ≤ 550000 * (l.length : Int)
  | [], _, _, _ => by simp [plc]
  | x :: l, s, h, hs => by
    simp only [List.all_cons, Bool.and_eq_true] at h
    have hx := seg_iff.1 h.1
    have := plc_bd (s := s - min x.f0 s) h.2 (by omega)
    have := mulBd (n := min x.f0 s) (r := x.f1) (by omega) (by omega) (by omega) (by omega)
    simp only [plc, List.length_cons]; omega
theorem plc_zero : ∀ {l : List S133}, l.all seg = true → plc l 0 = 0
  | [], _ => rfl
  | x :: l, h => by
    simp only [List.all_cons, Bool.and_eq_true] at h
    have hx := seg_iff.1 h.1
    simp only [plc, show min x.f0 0 = 0 by omega, Int.zero_mul, Int.sub_self, plc_zero h.2]; rfl
theorem l1Least_eq (a b : Int) : spec_l1Least.f a b = some (min a b) := by
  unfold spec_l1Least.f; split <;> (congr 1; omega)
theorem stPlace_l0 (l : List S133) (hl : l.length ≤ 1048576) : ∀ (suf pre : List S133) (s a : Int), l = pre ++ suf → suf.all seg = true → 0 ≤ s → s ≤ 1000000000 → 0 ≤ a → a ≤ 550000 * (pre.length : Int) →
    Ev (fun k => spec_stPlace.l0 k s a l (l.length : Int) (pre.length : Int)) (a + plc suf s) := by
  intro suf
  induction suf with
  | nil =>
    intro pre s a h hs h0 hb ha hc
    refine Ev.step (fun k => spec_stPlace.l0.eq_2 ..) ?_
    simp only [rgEnd h, if_false]
    exact evNow (by simp [plc])
  | cons x suf ih =>
    intro pre s a h hs h0 hb ha hc
    obtain ⟨h1, h2, h3, h4, h5⟩ := rgHead h (by omega) z133
    simp only [List.all_cons, Bool.and_eq_true] at hs
    have hx := seg_iff.1 hs.1
    have hpl : pre.length ≤ 1048576 := by omega
    have hm := mulBd (n := min x.f0 s) (r := x.f1) (by omega) (by omega) (by omega) (by omega)
    refine Ev.step (fun k => spec_stPlace.l0.eq_2 ..) ?_
    simp only [h1, h2, h3, rd_T133, h4, if_true, l1Least_eq, Option.bind_some]
    rw [show min s x.f0 = min x.f0 s by omega, wrapi (x := s - min x.f0 s) (by omega) (by omega), wrapi (x := min x.f0 s * x.f1) (by omega) (by omega), wrapi (x := a + min x.f0 s * x.f1) (by omega) (by omega)]
    exact evEq (ih _ _ _ h5 hs.2 (by omega) (by omega) (by omega) (by simp; omega)) (by simp only [plc]; omega)
theorem stPlace_ev {l : List S133} {s : Int} (hl : l.length ≤ 1048576) (h : l.all seg = true) (h0 : 0 ≤ s) (hb : s ≤ 1000000000) : Ev (fun k => spec_stPlace.f k l s) (plc l s) :=
  evEq (stPlace_l0 l hl l [] s 0 rfl h h0 hb (by omega) (by simp)) (by simp)
theorem placeOf_l0 (l : List S133) (hl : l.length ≤ 1048576) : ∀ (suf pre : List S133) (s a : Int), l = pre ++ suf → suf.all seg = true → 0 ≤ s → s ≤ 1000000000 → 0 ≤ a → a ≤ 550000 * (pre.length : Int) →
    Ev (fun k => impl_placeOf.l0 k s a l (l.length : Int) (pre.length : Int)) (a + plc suf s) := by
  intro suf
  induction suf with
  | nil =>
    intro pre s a h hs h0 hb ha hc
    refine Ev.step (fun k => impl_placeOf.l0.eq_2 ..) ?_
    simp only [rgEnd h, if_false]
    exact evNow (by simp [plc])
  | cons x suf ih =>
    intro pre s a h hs h0 hb ha hc
    obtain ⟨h1, h2, h3, h4, h5⟩ := rgHead h (by omega) z133
    simp only [List.all_cons, Bool.and_eq_true] at hs
    have hx := seg_iff.1 hs.1
    have hpl : pre.length ≤ 1048576 := by omega
    have hm := mulBd (n := min x.f0 s) (r := x.f1) (by omega) (by omega) (by omega) (by omega)
    refine Ev.step (fun k => impl_placeOf.l0.eq_2 ..) ?_
    simp only [h1, h2, h3, rd_T133, h4, if_true, mn_eq]
    rw [wrapi (x := s - min x.f0 s) (by omega) (by omega), wrapi (x := min x.f0 s * x.f1) (by omega) (by omega), wrapi (x := a + min x.f0 s * x.f1) (by omega) (by omega)]
    exact evEq (ih _ _ _ h5 hs.2 (by omega) (by omega) (by omega) (by simp; omega)) (by simp only [plc]; omega)
theorem placeOf_ev {l : List S133} {s : Int} (hl : l.length ≤ 1048576) (h : l.all seg = true) (h0 : 0 ≤ s) (hb : s ≤ 1000000000) : Ev (fun k => impl_placeOf.f k l s) (plc l s) :=
  evEq (placeOf_l0 l hl l [] s 0 rfl h h0 hb (by omega) (by simp)) (by simp)
-- ** errat
def err (l : List S133) (s : Int) : Int := plc l s - 1000 * s
theorem stError_ev {l : List S133} {s : Int} (hl : l.length ≤ 1048576) (h : l.all seg = true) (h0 : 0 ≤ s) (hb : s ≤ 1000000000) : Ev (fun k => spec_stError.f k l s) (err l s) := by
  have := plc_bd (s := s) h h0
  unfold spec_stError.f err
  refine Ev.bind (stPlace_ev hl h h0 hb) ?_
  rw [wrapi (x := 1000 * s) (by omega) (by omega), wrapi (by omega) (by omega)]
  exact Ev.now _
theorem errorAt_ev {l : List S133} {s : Int} (hl : l.length ≤ 1048576) (h : l.all seg = true) (h0 : 0 ≤ s) (hb : s ≤ 1000000000) : Ev (fun k => impl_errorAt.f k l s) (err l s) := by
  have := plc_bd (s := s) h h0
  unfold impl_errorAt.f err
  refine Ev.bind (placeOf_ev hl h h0 hb) ?_
  rw [wrapi (x := 1000 * s) (by omega) (by omega), wrapi (by omega) (by omega)]
  exact Ev.now _
-- ** has
def hasStep (l : List S133) (s : Int) : Bool := goodSegs l && decide (0 ≤ s ∧ s ≤ stps l)
theorem hasStep_iff {l : List S133} {s : Int} : hasStep l s = true ↔ goodSegs l = true ∧ 0 ≤ s ∧ s ≤ stps l := by simp [hasStep]
theorem stHas_ev (l : List S133) (s : Int) : Ev (fun k => spec_stHas.f k l s) (hasStep l s) := by
  unfold spec_stHas.f hasStep
  refine Ev.bind (stGood_ev l) (evBy (fun c => ?_) (fun c => evNow (by simp [c])))
  have h := good_iff.1 c
  refine Ev.bind (stSteps_ev (by omega) h.2.1) ?_
  simp only [in_eq, Option.bind_some]
  exact evNow (by simp [c])
theorem isStepOf_ev {l : List S133} (s : Int) (c : goodSegs l = true) : Ev (fun k => impl_isStepOf.f k l s) (decide (0 ≤ s ∧ s ≤ stps l)) := by
  have h := good_iff.1 c
  unfold impl_isStepOf.f
  refine evBy (fun q => Ev.bind (allSteps_ev (by omega) h.2.1) (evNow (decD (by omega)))) (fun q => evNow (decF (by omega)))
-- ** ends
def endsFrom : Int → List S133 → List Int
  | _, [] => []
  | a, x :: l => (a + x.f0) :: endsFrom (a + x.f0) l
def ends (l : List S133) : List Int := 0 :: endsFrom 0 l
theorem endsFrom_length : ∀ (l : List S133) (a : Int), (endsFrom a l).length = l.length
  | [], _ => rfl
  | x :: l, a => by simp [endsFrom, endsFrom_length l]
theorem endsFrom_bd : ∀ {l : List S133} {a : Int}, l.all seg = true → ∀ s, s ∈ endsFrom a l → a ≤ s ∧ s ≤ a + stps l
  | [], _, _, s, hs => by simp [endsFrom] at hs
  | x :: l, a, h, s, hs => by
    simp only [List.all_cons, Bool.and_eq_true] at h
    have hx := seg_iff.1 h.1
    have hb := stps_bd h.2
    simp only [endsFrom, List.mem_cons] at hs
    simp only [stps]
    rcases hs with r | r
    · omega
    · have := endsFrom_bd h.2 s r
      omega
theorem ends_bd {l : List S133} (hg : goodSegs l = true) : ∀ s, s ∈ ends l → 0 ≤ s ∧ s ≤ 2000 := by
  have h := good_iff.1 hg
  have hb := stps_bd h.2.1
  intro s hs
  simp only [ends, List.mem_cons] at hs
  rcases hs with r | r
  · omega
  · have := endsFrom_bd h.2.1 s r
    omega
theorem ends_length (l : List S133) : (ends l).length = l.length + 1 := by simp [ends, endsFrom_length]
theorem err_zero {l : List S133} (h : l.all seg = true) : err l 0 = 0 := by simp [err, plc_zero h]
theorem err_bd {l : List S133} (hg : goodSegs l = true) {s : Int} (h0 : 0 ≤ s) (h1 : s ≤ 2000) : -100000000 ≤ err l s ∧ err l s ≤ 100000000 := by
  have h := good_iff.1 hg
  have := plc_bd (s := s) h.2.1 h0
  unfold err; omega
theorem stEnds_l0 (l : List S133) (hl : l.length ≤ 1048576) : ∀ (suf pre : List S133) (acc : List Int) (a : Int), l = pre ++ suf → suf.all seg = true → acc.length = pre.length → 0 ≤ a → a ≤ 500 * (pre.length : Int) →
    Ev (fun k => spec_stEnds.l0 k (acc ++ [a]) l (l.length : Int) (pre.length : Int)) (acc ++ [a] ++ endsFrom a suf) := by
  intro suf
  induction suf with
  | nil =>
    intro pre acc a h hs hc h0 ha
    refine Ev.step (fun k => spec_stEnds.l0.eq_2 ..) ?_
    simp only [rgEnd h, if_false]
    exact evNow (by simp [endsFrom])
  | cons x suf ih =>
    intro pre acc a h hs hc h0 ha
    obtain ⟨h1, h2, h3, h4, h5⟩ := rgHead h (by omega) z133
    simp only [List.all_cons, Bool.and_eq_true] at hs
    have hx := seg_iff.1 hs.1
    have hpl : pre.length ≤ 1048576 := by omega
    refine Ev.step (fun k => spec_stEnds.l0.eq_2 ..) ?_
    have e : wrap64 (((acc ++ [a]).length : Int) - 1) = (acc.length : Int) := by simp; rw [wrapi (by omega) (by omega)]
    have e2 : rd (acc ++ [a]) (acc.length : Int) = a := by simp [rd]
    simp only [h1, h2, h3, rd_T133, h4, if_true, e, e2]
    rw [wrapi (x := a + x.f0) (by omega) (by omega)]
    refine evPos (by omega) (evPos (by simp; omega) (evPos (by simp; omega) ?_))
    refine evEq (ih (pre ++ [x]) (acc ++ [a]) (a + x.f0) h5 hs.2 (by simp [hc]) (by omega) (by simp; omega)) ?_
    simp [endsFrom]
theorem stEnds_ev {l : List S133} (hl : l.length ≤ 1048576) (hs : l.all seg = true) : Ev (fun k => spec_stEnds.f k l) (ends l) :=
  evEq (stEnds_l0 l hl l [] [] 0 rfl hs rfl (by omega) (by simp)) (by simp [ends])
theorem errorsOf_l0 (l : List S133) (hg : goodSegs l = true) : ∀ (suf pre : List S133) (er st : List Int) (a : Int), l = pre ++ suf → suf.all seg = true → er.length ≤ pre.length + 1 → st.length ≤ pre.length + 1 → 0 ≤ a → a ≤ 500 * (pre.length : Int) →
    Ev (fun k => impl_errorsOf.l0 k l er st a l (l.length : Int) (pre.length : Int)) (er ++ (endsFrom a suf).map (err l), st ++ endsFrom a suf) := by
  have hgg := good_iff.1 hg
  intro suf
  induction suf with
  | nil =>
    intro pre er st a h hs he ht h0 ha
    refine Ev.step (fun k => impl_errorsOf.l0.eq_2 ..) ?_
    simp only [rgEnd h, if_false]
    exact evNow (by simp [endsFrom])
  | cons x suf ih =>
    intro pre er st a h hs he ht h0 ha
    obtain ⟨h1, h2, h3, h4, h5⟩ := rgHead h (by omega) z133
    simp only [List.all_cons, Bool.and_eq_true] at hs
    have hx := seg_iff.1 hs.1
    have hpl : pre.length ≤ 20 := by omega
    refine Ev.step (fun k => impl_errorsOf.l0.eq_2 ..) ?_
    simp only [h1, h2, h3, rd_T133, h4, if_true]
    rw [wrapi (x := a + x.f0) (by omega) (by omega)]
    refine Ev.bind (errorAt_ev (by omega) hgg.2.1 (show 0 ≤ a + x.f0 by omega) (by omega)) (evPos (by omega) (evPos (by omega) ?_))
    refine evEq (ih (pre ++ [x]) (er ++ [err l (a + x.f0)]) (st ++ [a + x.f0]) (a + x.f0) h5 hs.2 (by simp; omega) (by simp; omega) (by omega) (by simp; omega)) ?_
    simp [endsFrom]
theorem errorsOf_ev {l : List S133} (hg : goodSegs l = true) : Ev (fun k => impl_errorsOf.f k l) ((ends l).map (err l), ends l) := by
  have h := good_iff.1 hg
  exact evEq (errorsOf_l0 l hg l [] [0] [0] 0 rfl h.2.1 (by simp) (by simp) (by omega) (by simp)) (by simp [ends, err_zero h.2.1])
-- ** most
theorem l1Most_eq (a b : Int) : spec_l1Most.f a b = some (max a b) := by
  unfold spec_l1Most.f; split <;> (congr 1; omega)
-- ** abs
theorem l1Abs_eq {o : Int} (h : -1000000000 ≤ o ∧ o ≤ 1000000000) : spec_l1Abs.f o = some (o.natAbs : Int) := by
  unfold spec_l1Abs.f
  rw [wrapi (by omega) (by omega), l1Most_eq]
  simp only [Option.bind_some]; congr 1; omega
-- ** dist
theorem distance_eq {a b : Int} (ha : -1000000000 ≤ a ∧ a ≤ 1000000000) (hb : -1000000000 ≤ b ∧ b ≤ 1000000000) : impl_distance.f a b = some ((a - b).natAbs : Int) := by
  unfold impl_distance.f
  rw [wrapi (by omega) (by omega), wrapi (by omega) (by omega), mx_eq]
  congr 1; omega
-- ** WorstError_
def wfold (l : List S133) : Int → Int → List Int → Int × Int
  | b, w, [] => (b, w)
  | b, w, s :: r => if (w.natAbs : Int) < (err l s).natAbs then wfold l s (err l s) r else wfold l b w r
def worstErr (l : List S133) : Int × Int := wfold l 0 0 (ends l)
def worstErrRes (l : List S133) : Int × Int × Bool := if goodSegs l = true then ((worstErr l).1, (worstErr l).2, true) else (0, 0, false)
theorem worstErrSpec_l0 {l : List S133} (hg : goodSegs l = true) (E : List Int) (hE : ∀ s, s ∈ E → 0 ≤ s ∧ s ≤ 2000) (hl : E.length ≤ 1048576) : ∀ (suf pre : List Int) (b w : Int), E = pre ++ suf → -100000000 ≤ w ∧ w ≤ 100000000 →
    Ev (fun k => spec_WorstError.l0 k l b w E (E.length : Int) (pre.length : Int)) ((wfold l b w suf).1, (wfold l b w suf).2, true) := by
  have h := good_iff.1 hg
  intro suf
  induction suf with
  | nil =>
    intro pre b w he hw
    refine Ev.step (fun k => spec_WorstError.l0.eq_2 ..) ?_
    simp only [rgEnd he, if_false]
    exact evNow (by simp [wfold])
  | cons s suf ih =>
    intro pre b w he hw
    obtain ⟨h1, h2, h3, h4, h5⟩ := rgHead he (by omega) 0
    have hs := hE s (by rw [he]; simp)
    have hb := err_bd hg hs.1 hs.2
    refine Ev.step (fun k => spec_WorstError.l0.eq_2 ..) ?_
    simp only [h1, h2, h3, rd, h4, if_true]
    refine Ev.bind (stError_ev (by omega) h.2.1 hs.1 (by omega)) ?_
    simp only [l1Abs_eq (o := err l s) (by omega), l1Abs_eq (o := w) (by omega), Option.bind_some, wfold]
    refine evBy (fun c => evEq (ih _ _ _ h5 hb) ?_) (fun c => evEq (ih _ _ _ h5 hw) ?_)
    · rw [if_pos (show (w.natAbs : Int) < (err l s).natAbs from c)]
    · rw [if_neg (show ¬ (w.natAbs : Int) < (err l s).natAbs from c)]
theorem specWorstError_ev (l : List S133) : Ev (fun k => spec_WorstError.f k l) (worstErrRes l) := by
  unfold spec_WorstError.f worstErrRes
  refine Ev.bind (stGood_ev l) (evIte (fun c => ?_) (fun c => Ev.now _))
  have h := good_iff.1 c
  refine Ev.bind (stEnds_ev (by omega) h.2.1) ?_
  exact worstErrSpec_l0 c (ends l) (ends_bd c) (by rw [ends_length]; omega) (ends l) [] 0 0 rfl (by omega)
theorem worstErrImpl_l0 {l : List S133} (hg : goodSegs l = true) (E : List Int) (hE : ∀ s, s ∈ E → 0 ≤ s ∧ s ≤ 2000) (hl : E.length ≤ 1048576) : ∀ (suf pre : List Int) (kb : Nat) (b w : Int), E = pre ++ suf → E[kb]? = some b → err l b = w →
    Ev (fun k => impl_WorstError.l0 k (E.map (err l)) E (kb : Int) (E.length : Int) (pre.length : Int)) ((wfold l b w suf).1, (wfold l b w suf).2, true) := by
  intro suf
  induction suf with
  | nil =>
    intro pre kb b w he hk hw
    refine Ev.step (fun k => impl_WorstError.l0.eq_2 ..) ?_
    simp only [rgEnd he, if_false]
    have hlt : kb < E.length := by
      rcases Nat.lt_or_ge kb E.length with r | r
      · exact r
      · rw [List.getElem?_eq_none r] at hk; cases hk
    refine evPos (by omega) (evPos (by omega) (evPos (by simp; omega) (evNow ?_)))
    simp [rd, wfold, hk, hw]
  | cons s suf ih =>
    intro pre kb b w he hk hw
    obtain ⟨h1, h2, h3, h4, h5⟩ := rgHead he (by omega) 0
    have hs := hE s (by rw [he]; simp)
    have hb := err_bd hg hs.1 hs.2
    have hbm := hE b (List.mem_of_getElem? hk)
    have hbb := err_bd hg hbm.1 hbm.2
    have hlt : kb < E.length := by
      rcases Nat.lt_or_ge kb E.length with r | r
      · exact r
      · rw [List.getElem?_eq_none r] at hk; cases hk
    have hget : E[pre.length]? = some s := by rw [he]; simp
    have e1 : rd (E.map (err l)) (pre.length : Int) = err l s := by simp [rd, hget]
    have e2 : rd (E.map (err l)) (kb : Int) = err l b := by simp [rd, hk]
    refine Ev.step (fun k => impl_WorstError.l0.eq_2 ..) ?_
    simp only [h1, h2, h3, e1, e2, List.length_map, if_true, distance_eq (a := err l s) (b := 0) (by omega) (by omega), distance_eq (a := err l b) (b := 0) (by omega) (by omega), Option.bind_some, Int.sub_zero]
    refine evPos (by omega) (evPos (by omega) ?_)
    simp only [wfold]
    refine evBy (fun c => evEq (ih _ pre.length _ _ h5 hget rfl) ?_) (fun c => evEq (ih _ _ _ _ h5 hk hw) ?_)
    · rw [if_pos (show (w.natAbs : Int) < (err l s).natAbs by omega)]
    · rw [if_neg (show ¬ (w.natAbs : Int) < (err l s).natAbs by omega)]
theorem implWorstError_ev (l : List S133) : Ev (fun k => impl_WorstError.f k l) (worstErrRes l) := by
  unfold impl_WorstError.f worstErrRes
  refine Ev.bind (areSegs_ev l) (evIte (fun c => ?_) (fun c => Ev.now _))
  have h := good_iff.1 c
  refine Ev.bind (errorsOf_ev c) ?_
  simp only [List.length_map]
  exact worstErrImpl_l0 c (ends l) (ends_bd c) (by rw [ends_length]; omega) (ends l) [] 0 0 0 rfl (by simp [ends]) (err_zero h.2.1)
-- ** wfoldbd
theorem wfold_bd {l : List S133} (hg : goodSegs l = true) : ∀ (r : List Int) (b w : Int), (∀ s, s ∈ r → 0 ≤ s ∧ s ≤ 2000) → (-1000000000 ≤ w ∧ w ≤ 1000000000) → -1000000000 ≤ (wfold l b w r).2 ∧ (wfold l b w r).2 ≤ 1000000000
  | [], _, _, _, h => h
  | s :: r, b, w, hr, h => by
    have hs := hr s (by simp)
    have he := err_bd hg hs.1 hs.2
    simp only [wfold]
    split
    · exact wfold_bd hg r _ _ (fun x hx => hr x (by simp [hx])) (by omega)
    · exact wfold_bd hg r _ _ (fun x hx => hr x (by simp [hx])) h
-- ** drawplace
theorem drawWithin_ok {q : List Int} (hl : bytes q) : ∃ l m, Ev (fun k => spec_DrawIsWithin.f k q) (l, m) ∧ l.length ≤ 100 := by
  unfold spec_DrawIsWithin.f
  obtain ⟨l, a1, s1, h1, hl1, h1a⟩ := segs_ok hl 0 (a := 0) (by omega) (by omega)
  have no : ∀ (a s : Int), 0 ≤ a → a ≤ 1000 → ∃ m, Ev (fun k => spec_DrawIsWithin.j0 k l false q a s) (l, m) := by
    intro a s h0 h1
    obtain ⟨v2, a2, s2, e2, h2a⟩ := among_ok hl s h0 (by omega) (q := [200001, (-1)]) (by simp)
    obtain ⟨v3, a3, s3, e3, h3a⟩ := among_ok hl s2 (show 0 ≤ a2 by omega) (by omega) (q := [0, 100, 1000, 5000, 200000, v2]) (by simp)
    refine ⟨v3, Ev.step (fun k => spec_DrawIsWithin.j0.eq_2 ..) (evNeg (by simp) ?_)⟩
    simp only [e2, Option.bind_some, e3]
    exact Ev.now _
  by_cases c : goodSegs l = true
  · obtain ⟨f, a2, s2, e2, h2a⟩ := one_ok hl s1 (show 0 ≤ a1 by omega) (by omega) (m := 2) (by omega)
    cases f with
    | false =>
      obtain ⟨m, hm⟩ := no a2 s2 (by omega) (by omega)
      refine ⟨l, m, Ev.bind h1 (Ev.bind (stGood_ev l) (evPos c ?_)), hl1⟩
      simp only [e2, Option.bind_some]
      exact hm
    | true =>
      have hw := (wfold_bd c (ends l) 0 0 (fun s hs => ends_bd c s hs) (by omega))
      obtain ⟨v3, a3, s3, e3, _, h3a⟩ := pick_ok hl s2 (show 0 ≤ a2 by omega) (by omega) (m := 2) (by omega)
      refine ⟨l, max 0 (wrap64 (((worstErr l).2.natAbs : Int) - v3)), Ev.bind h1 (Ev.bind (stGood_ev l) (evPos c ?_)), hl1⟩
      simp only [e2, Option.bind_some]
      refine Ev.step (fun k => spec_DrawIsWithin.j0.eq_2 ..) (evPos rfl (Ev.bind (specWorstError_ev l) ?_))
      unfold worstErrRes; rw [if_pos c]
      dsimp only
      rw [l1Abs_eq (show -1000000000 ≤ (worstErr l).2 ∧ (worstErr l).2 ≤ 1000000000 from hw)]
      simp only [Option.bind_some, e3, l1Most_eq]
      exact Ev.now _
  · obtain ⟨m, hm⟩ := no a1 s1 (by omega) (by omega)
    exact ⟨l, m, Ev.bind h1 (Ev.bind (stGood_ev l) (evNeg c hm)), hl1⟩
theorem drawStepAt_ok {q : List Int} (hl : bytes q) : ∃ l p, Ev (fun k => spec_DrawStepAtPlace.f k q) (l, p) ∧ l.length ≤ 100 := by
  unfold spec_DrawStepAtPlace.f
  obtain ⟨l, a1, s1, h1, hl1, h1a⟩ := segs_ok hl 0 (a := 0) (by omega) (by omega)
  have no : ∀ (a s : Int), 0 ≤ a → a ≤ 1000 → ∃ m, Ev (fun k => spec_DrawStepAtPlace.j0 k l false q a s) (l, m) := by
    intro a s h0 h1
    obtain ⟨v1, a2, s2, e1, _, h2a⟩ := pick_ok hl s h0 (by omega) (m := 60000) (by omega)
    obtain ⟨v2, a3, s3, e2, h3a⟩ := among_ok hl s2 (show 0 ≤ a2 by omega) (by omega) (q := [2200001, (-1)]) (by simp)
    obtain ⟨v3, a4, s4, e3, h4a⟩ := among_ok hl s3 (show 0 ≤ a3 by omega) (by omega) (q := [0, 999, 1000, v1, 2200000, v2]) (by simp)
    refine ⟨v3, Ev.step (fun k => spec_DrawStepAtPlace.j0.eq_2 ..) (evNeg (by simp) ?_)⟩
    simp only [e1, e2, Option.bind_some, e3]
    exact Ev.now _
  by_cases c : goodSegs l = true
  · obtain ⟨f, a2, s2, e2, h2a⟩ := one_ok hl s1 (show 0 ≤ a1 by omega) (by omega) (m := 2) (by omega)
    cases f with
    | false =>
      obtain ⟨m, hm⟩ := no a2 s2 (by omega) (by omega)
      refine ⟨l, m, Ev.bind h1 (Ev.bind (stGood_ev l) (evPos c ?_)), hl1⟩
      simp only [e2, Option.bind_some]
      exact hm
    | true =>
      have h := good_iff.1 c
      have hb := stps_bd h.2.1
      obtain ⟨v3, a3, s3, e3, hv, h3a⟩ := pick_ok hl s2 (show 0 ≤ a2 by omega) (by omega) (m := stps l + 1) (by omega)
      have hv2 := hv.2 (by omega)
      obtain ⟨v4, a4, s4, e4, _, h4a⟩ := pick_ok hl s3 (show 0 ≤ a3 by omega) (by omega) (m := 3) (by omega)
      refine ⟨l, max 0 (wrap64 ((wrap64 (plc l v3 + v4)) - 1)), Ev.bind h1 (Ev.bind (stGood_ev l) (evPos c ?_)), hl1⟩
      simp only [e2, Option.bind_some]
      refine Ev.step (fun k => spec_DrawStepAtPlace.j0.eq_2 ..) (evPos rfl (Ev.bind (stSteps_ev (by omega) h.2.1) ?_))
      rw [wrapi (x := stps l + 1) (by omega) (by omega), e3]
      simp only [Option.bind_some]
      refine Ev.bind (stPlace_ev (by omega) h.2.1 hv.1 (by omega)) ?_
      simp only [Option.bind_some, e4, l1Most_eq]
      exact Ev.now _
  · obtain ⟨m, hm⟩ := no a1 s1 (by omega) (by omega)
    exact ⟨l, m, Ev.bind h1 (Ev.bind (stGood_ev l) (evNeg c hm)), hl1⟩
-- ** IsWithin_
theorem wfold_within (l : List S133) (m : Int) : ∀ (r : List Int) (b w : Int), ((wfold l b w r).2.natAbs : Int) ≤ m ↔ (w.natAbs : Int) ≤ m ∧ ∀ s, s ∈ r → ((err l s).natAbs : Int) ≤ m
  | [], b, w => by simp [wfold]
  | s :: r, b, w => by
    simp only [wfold, List.mem_cons, forall_eq_or_imp]
    split
    · rw [wfold_within l m r]; constructor <;> intro h <;> refine ⟨?_, ?_⟩ <;> first | exact h.2 | (have := h.1; omega) | (refine ⟨h.1, h.2⟩) | exact h.2.2 | exact h.2.1
    · rw [wfold_within l m r]; constructor <;> intro h <;> refine ⟨?_, ?_⟩ <;> first | exact h.1 | (refine ⟨?_, h.2⟩; have := h.1; omega) | exact h.2.2
def within (l : List S133) (m : Int) : Bool := (ends l).all fun s => decide (((err l s).natAbs : Int) ≤ m)
def withinRes (l : List S133) (m : Int) : Bool × Bool := if goodSegs l = true ∧ 0 ≤ m ∧ m ≤ 200000 then (within l m, true) else (false, false)
theorem withinSpec_l0 {l : List S133} (hg : goodSegs l = true) (m : Int) (E : List Int) (hE : ∀ s, s ∈ E → 0 ≤ s ∧ s ≤ 2000) (hl : E.length ≤ 1048576) : ∀ (suf pre : List Int), E = pre ++ suf →
    Ev (fun k => spec_IsWithin.l0 k l m E (E.length : Int) (pre.length : Int)) (suf.all fun s => decide (((err l s).natAbs : Int) ≤ m), true) := by
  have h := good_iff.1 hg
  intro suf
  induction suf with
  | nil =>
    intro pre he
    refine Ev.step (fun k => spec_IsWithin.l0.eq_2 ..) ?_
    simp only [rgEnd he, if_false]
    exact evNow (by simp)
  | cons s suf ih =>
    intro pre he
    obtain ⟨h1, h2, h3, h4, h5⟩ := rgHead he (by omega) 0
    have hs := hE s (by rw [he]; simp)
    have hb := err_bd hg hs.1 hs.2
    refine Ev.step (fun k => spec_IsWithin.l0.eq_2 ..) ?_
    simp only [h1, h2, h3, rd, h4, if_true]
    refine Ev.bind (stError_ev (by omega) h.2.1 hs.1 (by omega)) ?_
    simp only [l1Abs_eq (o := err l s) (by omega), Option.bind_some, List.all_cons]
    refine evBy (fun c => evNow ?_) (fun c => evEq (ih _ h5) ?_)
    · rw [decide_eq_false (show ¬ ((err l s).natAbs : Int) ≤ m by omega)]; rfl
    · rw [decide_eq_true (show ((err l s).natAbs : Int) ≤ m by omega)]; rfl
theorem specIsWithin_ev (l : List S133) (m : Int) : Ev (fun k => spec_IsWithin.f k l m) (withinRes l m) := by
  have bad : ¬ (goodSegs l = true ∧ 0 ≤ m ∧ m ≤ 200000) → Ev (fun k => spec_IsWithin.j0 k l m true) (withinRes l m) := fun h =>
    Ev.step (fun k => spec_IsWithin.j0.eq_2 ..) (evPos rfl (evNow (by unfold withinRes; rw [if_neg h])))
  unfold spec_IsWithin.f
  refine Ev.bind (stGood_ev l) (evBy (fun c => ?_) (fun c => bad (fun q => c q.1)))
  simp only [in_eq, Option.bind_some]
  by_cases q : 0 ≤ m ∧ m ≤ 200000
  · simp only [decide_eq_true q, Bool.not_true]
    refine Ev.step (fun k => spec_IsWithin.j0.eq_2 ..) (evNeg (by simp) ?_)
    have h := good_iff.1 c
    unfold withinRes; rw [if_pos ⟨c, q⟩]
    exact Ev.bind (stEnds_ev (by omega) h.2.1) (withinSpec_l0 c m (ends l) (ends_bd c) (by rw [ends_length]; omega) (ends l) [] rfl)
  · simp only [decide_eq_false q, Bool.not_false]
    exact bad (fun r => q r.2)
theorem implIsWithin_ev (l : List S133) (m : Int) : Ev (fun k => impl_IsWithin.f k l m) (withinRes l m) := by
  have bad : ¬ (goodSegs l = true ∧ 0 ≤ m ∧ m ≤ 200000) → Ev (fun k => impl_IsWithin.j0 k l m true) (withinRes l m) := fun h =>
    Ev.step (fun k => impl_IsWithin.j0.eq_2 ..) (evPos rfl (evNow (by unfold withinRes; rw [if_neg h])))
  unfold impl_IsWithin.f
  refine Ev.bind (areSegs_ev l) (evBy (fun c => evBy (fun q => bad (fun r => by omega)) (fun q => ?_)) (fun c => bad (fun q => c q.1)))
  by_cases q' : m > 200000
  · simp only [decide_eq_true q']
    exact bad (fun r => by omega)
  · simp only [decide_eq_false q']
    refine Ev.step (fun k => impl_IsWithin.j0.eq_2 ..) (evNeg (by simp) ?_)
    refine Ev.bind (implWorstError_ev l) ?_
    have hw := (wfold_within l 100000000 (ends l) 0 0).2 ⟨by simp, fun s hs => by have hs := ends_bd c s hs; have := err_bd c hs.1 hs.2; omega⟩
    unfold worstErrRes; rw [if_pos c]
    have e : (worstErr l).2 = (wfold l 0 0 (ends l)).2 := rfl
    simp only [e, distance_eq (a := (wfold l 0 0 (ends l)).2) (b := 0) (by omega) (by omega), Option.bind_some, Int.sub_zero]
    unfold withinRes; rw [if_pos ⟨c, by omega, by omega⟩]
    refine evNow ?_
    have := wfold_within l m (ends l) 0 0
    congr 1
    unfold within
    rw [Bool.eq_iff_iff]
    simp only [decide_eq_true_eq, List.all_eq_true]
    rw [this]
    constructor
    · exact fun r => r.2
    · exact fun r => ⟨by simp; omega, r⟩
-- ** StepAtPlace_
def sat : List S133 → Int → Int
  | [], _ => 0
  | x :: l, p => if p / x.f1 < x.f0 then p / x.f1 else x.f0 + sat l (p - x.f0 * x.f1)
theorem divBd {p r : Int} (h0 : 0 ≤ p) (hr : 900 ≤ r) : 0 ≤ p / r ∧ (p / r) * r ≤ p ∧ p < (p / r + 1) * r ∧ p / r ≤ p := by
  have e := Int.mul_ediv_add_emod p r
  have m0 := Int.emod_nonneg p (show r ≠ 0 by omega)
  have m1 := Int.emod_lt_of_pos p (show 0 < r by omega)
  have q0 : 0 ≤ p / r := Int.ediv_nonneg h0 (by omega)
  have c : (p / r) * r = r * (p / r) := Int.mul_comm _ _
  refine ⟨q0, by omega, by rw [Int.add_mul, Int.one_mul]; omega, Int.ediv_le_self _ h0⟩
theorem plc_step : ∀ {l : List S133} {s : Int}, l.all seg = true → 0 ≤ s → s < stps l → 900 ≤ plc l (s + 1) - plc l s ∧ plc l (s + 1) - plc l s ≤ 1100
  | [], s, _, h0, h1 => by simp [stps] at h1; omega
  | x :: l, s, h, h0, h1 => by
    simp only [List.all_cons, Bool.and_eq_true] at h
    have hx := seg_iff.1 h.1
    simp only [stps] at h1
    simp only [plc]
    by_cases c : s < x.f0
    · rw [show min x.f0 (s + 1) = s + 1 by omega, show min x.f0 s = s by omega, Int.sub_self, Int.sub_self, Int.add_mul, Int.one_mul]; omega
    · rw [show min x.f0 (s + 1) = x.f0 by omega, show min x.f0 s = x.f0 by omega]
      have := plc_step (s := s - x.f0) h.2 (by omega) (by omega)
      rw [show s + 1 - x.f0 = s - x.f0 + 1 by omega]; omega
theorem plc_mono {l : List S133} (h : l.all seg = true) : ∀ (d : Nat) (s : Int), 0 ≤ s → s + d ≤ stps l → plc l s ≤ plc l (s + d)
  | 0, s, _, _ => by simp
  | d + 1, s, h0, h1 => by
    have := plc_mono h d s h0 (by omega)
    have := plc_step (s := s + d) h (by omega) (by omega)
    rw [show s + ((d + 1 : Nat) : Int) = s + d + 1 by omega]; omega
theorem plc_le {l : List S133} (h : l.all seg = true) {s t : Int} (h0 : 0 ≤ s) (h1 : s ≤ t) (h2 : t ≤ stps l) : plc l s ≤ plc l t := by
  have := plc_mono h (t - s).toNat s h0 (by omega)
  rwa [show s + ((t - s).toNat : Int) = t by omega] at this
theorem sat_bd : ∀ {l : List S133} {p : Int}, l.all seg = true → 0 ≤ p → 0 ≤ sat l p ∧ sat l p ≤ stps l ∧ plc l (sat l p) ≤ p ∧ (sat l p < stps l → p < plc l (sat l p + 1))
  | [], p, _, h0 => by simp [sat, stps, plc, h0]
  | x :: l, p, h, h0 => by
    simp only [List.all_cons, Bool.and_eq_true] at h
    have hx := seg_iff.1 h.1
    have hd := divBd h0 hx.2.2.1
    have hst := stps_bd h.2
    simp only [sat, stps, plc]
    by_cases c : p / x.f1 < x.f0
    · rw [if_pos c, show min x.f0 (p / x.f1) = p / x.f1 by omega, show min x.f0 (p / x.f1 + 1) = p / x.f1 + 1 by omega, Int.sub_self, Int.sub_self]
      have hz := plc_bd (l := l) (s := 0) h.2 (by omega)
      have hz' : plc l 0 = 0 := plc_zero h.2
      omega
    · rw [if_neg c]
      have hm : x.f0 * x.f1 ≤ (p / x.f1) * x.f1 := Int.mul_le_mul_of_nonneg_right (by omega) (by omega)
      have ih := sat_bd (p := p - x.f0 * x.f1) h.2 (by omega)
      rw [show min x.f0 (x.f0 + sat l (p - x.f0 * x.f1)) = x.f0 by omega, show min x.f0 (x.f0 + sat l (p - x.f0 * x.f1) + 1) = x.f0 by omega,
        show x.f0 + sat l (p - x.f0 * x.f1) - x.f0 = sat l (p - x.f0 * x.f1) by omega, show x.f0 + sat l (p - x.f0 * x.f1) + 1 - x.f0 = sat l (p - x.f0 * x.f1) + 1 by omega]
      omega
def satRes (l : List S133) (p : Int) : Int × Bool := if goodSegs l = true ∧ 0 ≤ p ∧ p ≤ 2200000 then (sat l p, true) else (0, false)
theorem satSpec_l0 (l : List S133) (hl : l.length ≤ 20) : ∀ (suf pre : List S133) (p a : Int), l = pre ++ suf → suf.all seg = true → 0 ≤ p → p ≤ 2200000 → 0 ≤ a → a ≤ 500 * (pre.length : Int) →
    Ev (fun k => spec_StepAtPlace.l0 k p a l (l.length : Int) (pre.length : Int)) (a + sat suf p, true) := by
  intro suf
  induction suf with
  | nil =>
    intro pre p a h hs h0 hb ha hc
    refine Ev.step (fun k => spec_StepAtPlace.l0.eq_2 ..) ?_
    simp only [rgEnd h, if_false]
    exact evNow (by simp [sat])
  | cons x suf ih =>
    intro pre p a h hs h0 hb ha hc
    obtain ⟨h1, h2, h3, h4, h5⟩ := rgHead h (by omega) z133
    simp only [List.all_cons, Bool.and_eq_true] at hs
    have hx := seg_iff.1 hs.1
    have hd := divBd h0 hx.2.2.1
    have hpl : pre.length ≤ 20 := by omega
    refine Ev.step (fun k => spec_StepAtPlace.l0.eq_2 ..) ?_
    simp only [h1, h2, h3, rd_T133, h4, if_true]
    refine evNeg (by omega) ?_
    rw [Int.tdiv_eq_ediv_of_nonneg h0, wrapi (x := p / x.f1) (by omega) (by omega), l1Least_eq]
    simp only [Option.bind_some]
    by_cases c : p / x.f1 < x.f0
    · rw [show min (p / x.f1) x.f0 = p / x.f1 by omega]
      refine evPos c (evNow ?_)
      rw [wrapi (by omega) (by omega)]
      simp only [sat, if_pos c]
    · rw [show min (p / x.f1) x.f0 = x.f0 by omega]
      have hm : x.f0 * x.f1 ≤ (p / x.f1) * x.f1 := Int.mul_le_mul_of_nonneg_right (by omega) (by omega)
      have hq := mulBd (n := x.f0) (r := x.f1) (by omega) (by omega) (by omega) (by omega)
      refine evNeg (by omega) ?_
      rw [wrapi (x := x.f0 * x.f1) (by omega) (by omega), wrapi (x := p - x.f0 * x.f1) (by omega) (by omega), wrapi (x := a + x.f0) (by omega) (by omega)]
      refine evEq (ih _ _ _ h5 hs.2 (by omega) (by omega) (by omega) (by simp; omega)) ?_
      simp only [sat, if_neg c]; rw [Int.add_assoc]
theorem specSat_ev (l : List S133) (p : Int) : Ev (fun k => spec_StepAtPlace.f k l p) (satRes l p) := by
  have bad : ¬ (goodSegs l = true ∧ 0 ≤ p ∧ p ≤ 2200000) → Ev (fun k => spec_StepAtPlace.j0 k l p true) (satRes l p) := fun h =>
    Ev.step (fun k => spec_StepAtPlace.j0.eq_2 ..) (evPos rfl (evNow (by unfold satRes; rw [if_neg h])))
  unfold spec_StepAtPlace.f
  refine Ev.bind (stGood_ev l) (evBy (fun c => ?_) (fun c => bad (fun q => c q.1)))
  simp only [in_eq, Option.bind_some]
  by_cases q : 0 ≤ p ∧ p ≤ 2200000
  · simp only [decide_eq_true q, Bool.not_true]
    refine Ev.step (fun k => spec_StepAtPlace.j0.eq_2 ..) (evNeg (by simp) ?_)
    have h := good_iff.1 c
    unfold satRes; rw [if_pos ⟨c, q⟩]
    exact evEq (satSpec_l0 l h.1.2 l [] p 0 rfl h.2.1 q.1 q.2 (by omega) (by simp)) (by simp)
  · simp only [decide_eq_false q, Bool.not_false]
    exact bad (fun r => q r.2)
theorem satImpl_l0 {l : List S133} (hg : goodSegs l = true) {p : Int} (h0 : 0 ≤ p) : ∀ (d : Nat) (lo hi : Int), hi - lo ≤ d → 0 ≤ lo → lo ≤ sat l p → sat l p ≤ hi → hi ≤ stps l →
    Ev (fun k => impl_StepAtPlace.l0 k l p lo hi) (sat l p, true) := by
  have h := good_iff.1 hg
  have hb := sat_bd h.2.1 h0
  intro d
  induction d with
  | zero =>
    intro lo hi hd hl h1 h2 h3
    refine Ev.step (fun k => impl_StepAtPlace.l0.eq_2 ..) (evNeg (by omega) (evNow ?_))
    rw [show lo = sat l p by omega]
  | succ d ih =>
    intro lo hi hd hl h1 h2 h3
    refine Ev.step (fun k => impl_StepAtPlace.l0.eq_2 ..) ?_
    refine evBy (fun c => ?_) (fun c => evNow (by rw [show lo = sat l p by omega]))
    rw [wrapi (x := lo + hi) (by omega) (by omega), wrapi (x := lo + hi + 1) (by omega) (by omega), Int.tdiv_eq_ediv_of_nonneg (by omega), wrapi (x := (lo + hi + 1) / 2) (by omega) (by omega), wrapi (x := (lo + hi + 1) / 2 - 1) (by omega) (by omega)]
    refine Ev.bind (placeOf_ev (by omega) h.2.1 (show 0 ≤ (lo + hi + 1) / 2 by omega) (by omega)) ?_
    refine evBy (fun q => ih _ _ (by omega) (by omega) ?_ h2 h3) (fun q => ih _ _ (by omega) hl h1 ?_ (by omega))
    · rcases Int.lt_or_le (sat l p) ((lo + hi + 1) / 2) with r | r
      · have := plc_le h.2.1 (s := sat l p + 1) (t := (lo + hi + 1) / 2) (by omega) (by omega) (by omega)
        have := hb.2.2.2 (by omega)
        omega
      · exact r
    · rcases Int.lt_or_le (sat l p) ((lo + hi + 1) / 2) with r | r
      · omega
      · have := plc_le h.2.1 (s := (lo + hi + 1) / 2) (t := sat l p) (by omega) (by omega) (by omega)
        omega
theorem implSat_ev (l : List S133) (p : Int) : Ev (fun k => impl_StepAtPlace.f k l p) (satRes l p) := by
  have bad : ¬ (goodSegs l = true ∧ 0 ≤ p ∧ p ≤ 2200000) → Ev (fun k => impl_StepAtPlace.j0 k l p true) (satRes l p) := fun h =>
    Ev.step (fun k => impl_StepAtPlace.j0.eq_2 ..) (evPos rfl (evNow (by unfold satRes; rw [if_neg h])))
  unfold impl_StepAtPlace.f
  refine Ev.bind (areSegs_ev l) (evBy (fun c => evBy (fun q => bad (fun r => by omega)) (fun q => ?_)) (fun c => bad (fun q => c q.1)))
  by_cases q' : p > 2200000
  · simp only [decide_eq_true q']
    exact bad (fun r => by omega)
  · simp only [decide_eq_false q']
    refine Ev.step (fun k => impl_StepAtPlace.j0.eq_2 ..) (evNeg (by simp) ?_)
    have h := good_iff.1 c
    have hb := sat_bd (p := p) h.2.1 (by omega)
    have hs := stps_bd h.2.1
    refine Ev.bind (allSteps_ev (by omega) h.2.1) ?_
    unfold satRes; rw [if_pos ⟨c, by omega, by omega⟩]
    exact satImpl_l0 c (by omega) (stps l).toNat 0 (stps l) (by omega) (by omega) hb.1 hb.2.1 (by omega)
-- ** placemath
theorem plc_low {x : S133} {l : List S133} (h : l.all seg = true) {u : Int} (_ : 0 ≤ u) (h1 : u ≤ x.f0) : plc (x :: l) u = u * x.f1 := by
  simp only [plc]; rw [show min x.f0 u = u by omega, show u - u = 0 by omega, plc_zero h]; omega
theorem plc_high {x : S133} {l : List S133} {u : Int} (h1 : x.f0 ≤ u) : plc (x :: l) u = x.f0 * x.f1 + plc l (u - x.f0) := by
  simp only [plc]; rw [show min x.f0 u = x.f0 by omega]
theorem seg_top (F : Int → Int) : ∀ (l : List S133) (a e0 : Int), l.all seg = true → (∀ s, a ≤ s → s ≤ a + stps l → F s = e0 + plc l (s - a) - 1000 * (s - a)) → ∀ s, a ≤ s → s ≤ a + stps l →
    (∃ t, t ∈ a :: endsFrom a l ∧ t ≤ s ∧ ((F s).natAbs : Int) ≤ (F t).natAbs) ∨ (∃ t, t ∈ a :: endsFrom a l ∧ ((F s).natAbs : Int) < (F t).natAbs)
  | [], a, e0, _, hF, s, h0, h1 => by
    simp only [stps] at h1
    obtain rfl : s = a := by omega
    exact .inl ⟨s, by simp, by omega, by omega⟩
  | x :: l, a, e0, h, hF, s, h0, h1 => by
    simp only [List.all_cons, Bool.and_eq_true] at h
    have hx := seg_iff.1 h.1
    have hb := stps_bd h.2
    simp only [stps] at h1 hF
    by_cases c : s ≤ a + x.f0
    · have e1 := hF s h0 h1
      rw [plc_low h.2 (by omega) (by omega)] at e1
      have e2 := hF a (by omega) (by omega)
      rw [plc_low h.2 (by omega) (by omega)] at e2
      have e3 := hF (a + x.f0) (by omega) (by omega)
      rw [plc_low h.2 (by omega) (by omega)] at e3
      rw [show s - a = s - a from rfl] at e1
      rw [show a - a = 0 by omega, Int.zero_mul] at e2
      rw [show a + x.f0 - a = x.f0 by omega] at e3
      have p1 : (s - a) * x.f1 = (s - a) * (x.f1 - 1000) + 1000 * (s - a) := by rw [Int.mul_sub]; omega
      have p2 : x.f0 * x.f1 = x.f0 * (x.f1 - 1000) + 1000 * x.f0 := by rw [Int.mul_sub]; omega
      rw [p1] at e1; rw [p2] at e3
      have f1 : F s = e0 + (s - a) * (x.f1 - 1000) := by omega
      have f3 : F (a + x.f0) = e0 + x.f0 * (x.f1 - 1000) := by omega
      have f2 : F a = e0 := by omega
      by_cases q : ((F s).natAbs : Int) ≤ (F a).natAbs
      · exact .inl ⟨a, by simp, h0, q⟩
      · by_cases q2 : s = a + x.f0
        · exact .inl ⟨s, by rw [q2]; simp [endsFrom], by omega, by omega⟩
        · refine .inr ⟨a + x.f0, by simp [endsFrom], ?_⟩
          have hu : s - a < x.f0 := by omega
          rcases Int.lt_trichotomy (x.f1 - 1000) 0 with r | r | r
          · have m1 := Int.mul_le_mul_of_nonpos_right (show (0 : Int) ≤ s - a by omega) (show x.f1 - 1000 ≤ 0 by omega)
            have m2 := Int.mul_lt_mul_of_neg_right hu r
            rw [Int.zero_mul] at m1
            rw [f1, f2] at q
            rw [f1, f3]
            generalize (s - a) * (x.f1 - 1000) = A at *
            generalize x.f0 * (x.f1 - 1000) = B at *
            omega
          · rw [f1, f2, r, Int.mul_zero] at q; omega
          · have m1 := Int.mul_le_mul_of_nonneg_right (show (0 : Int) ≤ s - a by omega) (show 0 ≤ x.f1 - 1000 by omega)
            have m2 := Int.mul_lt_mul_of_pos_right hu r
            rw [Int.zero_mul] at m1
            rw [f1, f2] at q
            rw [f1, f3]
            generalize (s - a) * (x.f1 - 1000) = A at *
            generalize x.f0 * (x.f1 - 1000) = B at *
            omega
    · have p2 : x.f0 * x.f1 = x.f0 * (x.f1 - 1000) + 1000 * x.f0 := by rw [Int.mul_sub]; omega
      have ih := seg_top F l (a + x.f0) (e0 + x.f0 * (x.f1 - 1000)) h.2 (fun s' g0 g1 => by
        have e := hF s' (by omega) (by omega)
        rw [plc_high (by omega), p2, show s' - a - x.f0 = s' - (a + x.f0) by omega] at e
        omega) s (by omega) (by omega)
      rcases ih with ⟨t, ht, h⟩ | ⟨t, ht, h⟩
      · exact .inl ⟨t, by simp only [endsFrom]; exact List.mem_cons_of_mem _ ht, h⟩
      · exact .inr ⟨t, by simp only [endsFrom]; exact List.mem_cons_of_mem _ ht, h⟩
theorem wfold_spec (l : List S133) : ∀ (r : List Int) (b w : Int), w = err l b → r.Pairwise (· < ·) → (∀ s, s ∈ r → b < s ∨ (b = s)) → (wfold l b w r).2 = err l (wfold l b w r).1 ∧ (w.natAbs : Int) ≤ (wfold l b w r).2.natAbs ∧ ((w.natAbs : Int) = (wfold l b w r).2.natAbs → (wfold l b w r).1 = b) ∧
    (∀ s, s ∈ r → ((err l s).natAbs : Int) ≤ (wfold l b w r).2.natAbs ∧ (((err l s).natAbs : Int) = (wfold l b w r).2.natAbs → (wfold l b w r).1 ≤ s)) ∧ ((wfold l b w r).1 = b ∨ (wfold l b w r).1 ∈ r)
  | [], b, w, hw, _, _ => ⟨hw, by simp [wfold], fun _ => rfl, by simp, .inl rfl⟩
  | s :: r, b, w, hw, hp, hb => by
    obtain ⟨p1, p2⟩ := List.pairwise_cons.1 hp
    simp only [wfold]
    have hbs := hb s (by simp)
    split
    · rename_i c
      obtain ⟨i1, i2, i3, i4, i5⟩ := wfold_spec l r s (err l s) rfl p2 (fun t ht => .inl (p1 t ht))
      refine ⟨i1, by omega, fun e => by omega, fun t ht => ?_, .inr (i5.elim (fun e => by rw [e]; simp) (fun e => List.mem_cons_of_mem _ e))⟩
      rcases List.mem_cons.1 ht with rfl | ht
      · exact ⟨i2, fun e => by rw [i3 e]; exact Int.le_refl _⟩
      · exact i4 t ht
    · rename_i c
      obtain ⟨i1, i2, i3, i4, i5⟩ := wfold_spec l r b w hw p2 (fun t ht => by have := p1 t ht; omega)
      refine ⟨i1, i2, i3, fun t ht => ?_, i5.imp id (fun e => List.mem_cons_of_mem _ e)⟩
      rcases List.mem_cons.1 ht with rfl | ht
      · refine ⟨by omega, fun e => ?_⟩
        rw [i3 (by omega)]; omega
      · exact i4 t ht
theorem endsFrom_srt : ∀ (l : List S133) (a : Int), l.all seg = true → (a :: endsFrom a l).Pairwise (· < ·)
  | [], a, _ => by simp [endsFrom]
  | x :: l, a, h => by
    simp only [List.all_cons, Bool.and_eq_true] at h
    have hx := seg_iff.1 h.1
    have ih := endsFrom_srt l (a + x.f0) h.2
    simp only [endsFrom]
    refine List.pairwise_cons.2 ⟨fun y hy => ?_, ih⟩
    rcases List.mem_cons.1 hy with rfl | hy
    · omega
    · have := (List.pairwise_cons.1 ih).1 y hy; omega
theorem worst_spec {l : List S133} (hg : goodSegs l = true) : (worstErr l).2 = err l (worstErr l).1 ∧ (0 ≤ (worstErr l).1 ∧ (worstErr l).1 ≤ stps l) ∧ ∀ s, 0 ≤ s → s ≤ stps l → ((err l s).natAbs : Int) ≤ (worstErr l).2.natAbs ∧ (((err l s).natAbs : Int) = (worstErr l).2.natAbs → (worstErr l).1 ≤ s) := by
  have h := (good_iff.1 hg).2.1
  have hs := endsFrom_srt l 0 h
  have hp := List.pairwise_cons.1 hs
  obtain ⟨i1, _, _, i4, i5⟩ := wfold_spec l (ends l) 0 0 (err_zero h).symm hs (fun s q => by
    rcases List.mem_cons.1 q with rfl | q
    · exact .inr rfl
    · exact .inl (hp.1 s q))
  have hb := stps_bd h
  refine ⟨i1, ?_, fun s h0 h1 => ?_⟩
  · rcases i5 with e | e
    · unfold worstErr; rw [e]; omega
    · unfold worstErr
      rcases List.mem_cons.1 e with e | e
      · rw [e]; omega
      · have := endsFrom_bd h _ e; omega
  · have ht := seg_top (err l) l 0 0 h (fun s _ _ => by unfold err; rw [Int.sub_zero]; omega) s h0 (by omega)
    rcases ht with ⟨t, ht, h2, h3⟩ | ⟨t, ht, h3⟩
    · have := i4 t ht
      exact ⟨by unfold worstErr; omega, fun e => by have e' := this.2 (by unfold worstErr at e; omega); unfold worstErr; omega⟩
    · have := i4 t ht
      exact ⟨by unfold worstErr; omega, fun e => by unfold worstErr at e; omega⟩
theorem endsIn {l : List S133} (h : l.all seg = true) : ∀ s, s ∈ ends l → 0 ≤ s ∧ s ≤ stps l := by
  have hb := stps_bd h
  intro s hs
  simp only [ends, List.mem_cons] at hs
  rcases hs with r | r
  · omega
  · have := endsFrom_bd h s r
    omega
-- ** PlaceOf_
def placeRes (l : List S133) (s : Int) : Int × Bool := if hasStep l s = true then (plc l s, true) else (0, false)
theorem specPlaceOf_ev (l : List S133) (s : Int) : Ev (fun k => spec_PlaceOf.f k l s) (placeRes l s) := by
  unfold spec_PlaceOf.f placeRes
  refine Ev.bind (stHas_ev l s) (evIte (fun c => ?_) (fun c => Ev.now _))
  obtain ⟨h, h0, h1⟩ := hasStep_iff.1 c
  have h := good_iff.1 h
  exact Ev.bind (stPlace_ev (by omega) h.2.1 h0 (by omega)) (Ev.now _)
theorem implPlaceOf_ev (l : List S133) (s : Int) : Ev (fun k => impl_PlaceOf.f k l s) (placeRes l s) := by
  unfold impl_PlaceOf.f placeRes
  refine Ev.bind (areSegs_ev l) (evBy (fun c => Ev.bind (isStepOf_ev s c) ?_) (fun c => evNow (by rw [if_neg (fun q => c (hasStep_iff.1 q).1)])))
  have h := good_iff.1 c
  refine evBy (fun q => ?_) (fun q => evNow (by rw [if_neg (fun q' => q (decide_eq_true (hasStep_iff.1 q').2))]))
  have q' := of_decide_eq_true q
  rw [if_pos (hasStep_iff.2 ⟨c, q'⟩)]
  exact Ev.bind (placeOf_ev (by omega) h.2.1 q'.1 (by omega)) (Ev.now _)
-- ** ErrorAt_
def errRes (l : List S133) (s : Int) : Int × Bool := if hasStep l s = true then (err l s, true) else (0, false)
theorem specErrorAt_ev (l : List S133) (s : Int) : Ev (fun k => spec_ErrorAt.f k l s) (errRes l s) := by
  unfold spec_ErrorAt.f errRes
  refine Ev.bind (stHas_ev l s) (evIte (fun c => ?_) (fun c => Ev.now _))
  obtain ⟨h, h0, h1⟩ := hasStep_iff.1 c
  have h := good_iff.1 h
  exact Ev.bind (stError_ev (by omega) h.2.1 h0 (by omega)) (Ev.now _)
theorem implErrorAt_ev (l : List S133) (s : Int) : Ev (fun k => impl_ErrorAt.f k l s) (errRes l s) := by
  unfold impl_ErrorAt.f errRes
  refine Ev.bind (areSegs_ev l) (evBy (fun c => Ev.bind (isStepOf_ev s c) ?_) (fun c => evNow (by rw [if_neg (fun q => c (hasStep_iff.1 q).1)])))
  have h := good_iff.1 c
  refine evBy (fun q => ?_) (fun q => evNow (by rw [if_neg (fun q' => q (decide_eq_true (hasStep_iff.1 q').2))]))
  have q' := of_decide_eq_true q
  rw [if_pos (hasStep_iff.2 ⟨c, q'⟩)]
  exact Ev.bind (errorAt_ev (by omega) h.2.1 q'.1 (by omega)) (Ev.now _)
-- ** StepsOf_
def stepsRes (l : List S133) : Int × Bool := if goodSegs l = true then (stps l, true) else (0, false)
theorem specStepsOf_ev (l : List S133) : Ev (fun k => spec_StepsOf.f k l) (stepsRes l) := by
  unfold spec_StepsOf.f stepsRes
  refine Ev.bind (stGood_ev l) (evIte (fun c => ?_) (fun c => Ev.now _))
  have h := good_iff.1 c
  exact Ev.bind (stSteps_ev (by omega) h.2.1) (Ev.now _)
theorem implStepsOf_ev (l : List S133) : Ev (fun k => impl_StepsOf.f k l) (stepsRes l) := by
  unfold impl_StepsOf.f stepsRes
  refine Ev.bind (areSegs_ev l) (evIte (fun c => ?_) (fun c => Ev.now _))
  have h := good_iff.1 c
  exact Ev.bind (allSteps_ev (by omega) h.2.1) (Ev.now _)
-- ** FnPlaces
theorem pAbs_eq {a : Int} (h : -1000000000 ≤ a ∧ a ≤ 1000000000) : laws_pAbs.f a = some (a.natAbs : Int) := by
  unfold laws_pAbs.f
  split
  · rw [wrapi (by omega) (by omega)]; congr 1; omega
  · congr 1; omega
theorem plc_rate {l : List S133} (h : l.all seg = true) : ∀ (d : Nat), (d : Int) ≤ stps l → 900 * (d : Int) ≤ plc l d ∧ plc l d ≤ 1100 * (d : Int)
  | 0, _ => by simp [plc_zero h]
  | d + 1, hd => by
    have ih := plc_rate h d (by omega)
    have := plc_step (s := (d : Int)) h (by omega) (by omega)
    rw [show ((d + 1 : Nat) : Int) = (d : Int) + 1 by omega]
    omega
theorem plc_rt {l : List S133} (h : l.all seg = true) {s : Int} (h0 : 0 ≤ s) (h1 : s ≤ stps l) : 900 * s ≤ plc l s ∧ plc l s ≤ 1100 * s := by
  have := plc_rate h s.toNat (by omega)
  rwa [show ((s.toNat : Nat) : Int) = s by omega] at this
theorem sat_plc {l : List S133} (h : l.all seg = true) {s : Int} (h0 : 0 ≤ s) (h1 : s ≤ stps l) : sat l (plc l s) = s := by
  have hr := plc_rt h h0 h1
  obtain ⟨b0, b1, b2, b3⟩ := sat_bd (p := plc l s) h (by omega)
  generalize sat l (plc l s) = t at b0 b1 b2 b3
  rcases Int.lt_trichotomy t s with q | q | q
  · have k := b3 (by omega)
    have := plc_le h (s := t + 1) (t := s) (by omega) (by omega) h1
    omega
  · exact q
  · have k := plc_step (s := s) h h0 (by omega)
    have := plc_le h (s := s + 1) (t := t) (by omega) (by omega) b1
    omega
theorem FnPlaces (l0 l1 : List Int) (w0 : Opn.Lst Opn.Byte l0) (w1 : Opn.Lst Opn.Byte l1) : ∃ k, laws_FnPlaces.f k l0 l1 = some true := by
  refine Ev.rounds (g := fun k => laws_FnPlaces.f k l0 l1) ?_
  unfold laws_FnPlaces.f
  obtain ⟨t, ht⟩ : ∃ t, laws_big.f l0 l1 = some t := by
    unfold laws_big.f; split
    · exact ⟨_, rfl⟩
    · exact ⟨_, rfl⟩
  refine evC ht (evBy (fun _ => Ev.now _) (fun _ => ?_))
  obtain ⟨l, s, hD, hl⟩ := drawPlace_ok (q := l0) w0.2
  obtain ⟨u, m, hW, hu⟩ := drawWithin_ok (q := l1) w1.2
  obtain ⟨v, p, hS, hv⟩ := drawStepAt_ok (q := l1) w1.2
  have h6 : Ev (fun k => laws_FnPlaces.j6 k v p (satRes v p).2 (satRes v p).1 false) true := by
    refine Ev.step (fun k => laws_FnPlaces.j6.eq_2 ..) (evNeg (by simp) (evBy (fun c => ?_) (fun _ => Ev.now _)))
    have hg : goodSegs v = true ∧ 0 ≤ p ∧ p ≤ 2200000 := by
      refine Decidable.byContradiction fun q => ?_
      unfold satRes at c; rw [if_neg q] at c; simp at c
    have e : satRes v p = (sat v p, true) := by unfold satRes; rw [if_pos hg]
    rw [e]
    dsimp only
    have h := good_iff.1 hg.1
    obtain ⟨b0, b1, b2, b3⟩ := sat_bd (p := p) h.2.1 hg.2.1
    refine Ev.bind (implPlaceOf_ev _ _) (Ev.bind (implPlaceOf_ev _ _) ?_)
    have e1 : placeRes v (sat v p) = (plc v (sat v p), true) := by unfold placeRes; rw [if_pos (hasStep_iff.2 ⟨hg.1, b0, b1⟩)]
    rw [e1, wrapi (by omega) (by omega)]
    refine evPos rfl (evPos b2 (evBy (fun q => evNow ?_) (fun _ => Ev.now _)))
    have hs : hasStep v (sat v p + 1) = true := by
      refine Decidable.byContradiction fun z => ?_
      unfold placeRes at q; rw [if_neg z] at q; simp at q
    have e2 : placeRes v (sat v p + 1) = (plc v (sat v p + 1), true) := by unfold placeRes; rw [if_pos hs]
    rw [e2]
    have := (hasStep_iff.1 hs).2
    exact decide_eq_true (b3 (by omega))
  have h5 : Ev (fun k => laws_FnPlaces.j5 k l1) true := by
    refine Ev.step (fun k => laws_FnPlaces.j5.eq_2 ..) (Ev.bind hS (Ev.bind (implSat_ev _ _) (Ev.bind (specSat_ev _ _) ?_)))
    simp only [bne_self_eq_false, Bool.false_eq_true, if_false]
    exact h6
  have h3 : Ev (fun k => laws_FnPlaces.j3 k l1) true := by
    refine Ev.step (fun k => laws_FnPlaces.j3.eq_2 ..) (Ev.bind hW (Ev.bind (implIsWithin_ev _ _) (Ev.bind (specIsWithin_ev _ _) ?_)))
    simp only [bne_self_eq_false, Bool.false_eq_true, if_false]
    refine Ev.step (fun k => laws_FnPlaces.j4.eq_2 ..) (evNeg (by simp) (evBy (fun c => ?_) (fun _ => h5)))
    have hg : goodSegs u = true ∧ 0 ≤ m ∧ m ≤ 200000 := by
      refine Decidable.byContradiction fun q => ?_
      unfold withinRes at c; rw [if_neg q] at c; simp at c
    have e : withinRes u m = (within u m, true) := by unfold withinRes; rw [if_pos hg]
    have e' : worstErrRes u = ((worstErr u).1, (worstErr u).2, true) := by unfold worstErrRes; rw [if_pos hg.1]
    have hw := wfold_bd hg.1 (ends u) 0 0 (fun s hs => ends_bd hg.1 s hs) (by omega)
    refine Ev.bind (implWorstError_ev _) (Ev.bind (specWorstError_ev _) ?_)
    rw [e, e']
    dsimp only
    rw [pAbs_eq (show -1000000000 ≤ (worstErr u).2 ∧ (worstErr u).2 ≤ 1000000000 from hw)]
    simp only [Option.bind_some]
    have hx : within u m = decide (((worstErr u).2.natAbs : Int) ≤ m) := by
      unfold within worstErr
      rw [Bool.eq_iff_iff, decide_eq_true_iff, wfold_within u m (ends u) 0 0]
      simp only [List.all_eq_true, decide_eq_true_eq]
      exact ⟨fun q => ⟨by simp; omega, q⟩, fun q => q.2⟩
    rw [hx, bne_self_eq_false]
    exact evPos (by simp) (evPos (by simp) (evPos (by simp) (evNeg (by simp) h5)))
  refine Ev.bind hD (Ev.bind (implPlaceOf_ev _ _) (Ev.bind (specPlaceOf_ev _ _) (Ev.bind (implErrorAt_ev _ _) (Ev.bind (specErrorAt_ev _ _) ?_))))
  simp only [bne_self_eq_false, Bool.false_eq_true, if_false, if_true]
  by_cases c : hasStep l s = true
  · obtain ⟨hg, s0, s1⟩ := hasStep_iff.1 c
    have h := good_iff.1 hg
    have hr := plc_rt h.2.1 s0 s1
    have e1 : placeRes l s = (plc l s, true) := by unfold placeRes; rw [if_pos c]
    have e2 : errRes l s = (err l s, true) := by unfold errRes; rw [if_pos c]
    obtain ⟨w1, w2, w3⟩ := worst_spec hg
    have hwb : -1000000000 ≤ (worstErr l).2 ∧ (worstErr l).2 ≤ 1000000000 := wfold_bd hg (ends l) 0 0 (fun s hs => ends_bd hg s hs) (by omega)
    have hbr := plc_rt h.2.1 w2.1 w2.2
    have hw2 : ((worstErr l).2.natAbs : Int) ≤ 200000 := by rw [w1]; unfold err; omega
    have hob := err_bd hg s0 (show s ≤ 2000 by omega)
    rw [e1, e2]
    dsimp only
    rw [wrapi (x := 1000 * s) (by omega) (by omega), wrapi (x := plc l s - 1000 * s) (by omega) (by omega), show (err l s != plc l s - 1000 * s) = false by unfold err; exact bne_self_eq_false _]
    refine evNeg (by simp) (evPos rfl (Ev.step (fun k => laws_FnPlaces.j0.eq_2 ..) (evNeg (by simp) (evPos rfl ?_))))
    refine Ev.bind (implSat_ev _ _) (Ev.bind (implWorstError_ev _) (Ev.bind (specWorstError_ev _) ?_))
    have e3 : satRes l (plc l s) = (s, true) := by unfold satRes; rw [if_pos ⟨hg, by omega, by omega⟩, sat_plc h.2.1 s0 s1]
    have e4 : worstErrRes l = ((worstErr l).1, (worstErr l).2, true) := by unfold worstErrRes; rw [if_pos hg]
    rw [e3, e4]
    dsimp only
    refine Ev.bind (implErrorAt_ev _ _) ?_
    have e5 : errRes l (worstErr l).1 = ((worstErr l).2, true) := by unfold errRes; rw [if_pos (hasStep_iff.2 ⟨hg, w2⟩), ← w1]
    rw [e5, pAbs_eq hwb]
    simp only [Option.bind_some]
    refine Ev.bind (implIsWithin_ev _ _) ?_
    have hin : within l ((worstErr l).2.natAbs : Int) = true := by
      unfold within
      rw [List.all_eq_true]
      intro x hx
      have hxb := endsIn h.2.1 x hx
      exact decide_eq_true (w3 x hxb.1 hxb.2).1
    have e6 : withinRes l ((worstErr l).2.natAbs : Int) = (true, true) := by unfold withinRes; rw [if_pos ⟨hg, by omega, hw2⟩, hin]
    rw [e6, pAbs_eq (a := err l s) (by omega)]
    simp only [Option.bind_some, if_true]
    obtain ⟨q1, q2⟩ := w3 s s0 s1
    have h1 : Ev (fun k => laws_FnPlaces.j1 k l1 l s (plc l s) false) true := by
      refine Ev.step (fun k => laws_FnPlaces.j1.eq_2 ..) (evNeg (by simp) (Ev.bind (implStepsOf_ev _) (Ev.bind (specStepsOf_ev _) ?_)))
      have e7 : stepsRes l = (stps l, true) := by unfold stepsRes; rw [if_pos hg]
      rw [e7]
      refine evPos rfl (evPos rfl (evPos rfl (Ev.step (fun k => laws_FnPlaces.j2.eq_2 ..) (evNeg (by simp; omega) (evBy (fun z => ?_) (fun _ => h3))))))
      dsimp only at z
      have hst := plc_step (s := s) h.2.1 s0 z
      rw [wrapi (x := s + 1) (by omega) (by omega)]
      refine Ev.bind (implPlaceOf_ev _ _) ?_
      have e8 : placeRes l (s + 1) = (plc l (s + 1), true) := by unfold placeRes; rw [if_pos (hasStep_iff.2 ⟨hg, by omega, by omega⟩)]
      rw [e8]
      dsimp only
      rw [wrapi (x := plc l (s + 1) - plc l s) (by omega) (by omega)]
      exact evPos rfl (evNeg (by omega) (evNeg (by omega) h3))
    refine evNeg (by omega) (evBy (fun z => evNeg (by have := q2 z; omega) ?_) (fun _ => ?_))
    · exact h1
    · exact h1
  · have e1 : placeRes l s = (0, false) := by unfold placeRes; rw [if_neg c]
    have e2 : errRes l s = (0, false) := by unfold errRes; rw [if_neg c]
    rw [e1, e2]
    dsimp only
    exact evNeg (by simp) (evNeg (by simp) (Ev.step (fun k => laws_FnPlaces.j0.eq_2 ..) (evNeg (by simp) (evNeg (by simp) h3))))
end Go.Proofs.Ytepkedhmbfkenaa.Pure
