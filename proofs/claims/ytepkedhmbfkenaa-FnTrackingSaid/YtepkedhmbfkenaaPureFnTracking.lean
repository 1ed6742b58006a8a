/- For every drawn drifts, offsets go on step by step, the worst one is the greatest, and moves are counted. (P18): the plain part: what the program computes and what the reference computes agree, for all arguments. No conditions beyond the arguments' own kinds. -/
import Derived.Test.YtepkedhmbfkenaaPTkx0
import Derived.Test.YtepkedhmbfkenaaPTkx1
import Derived.Test.YtepkedhmbfkenaaPTkx2
import Derived.Test.YtepkedhmbfkenaaPTkx3
import Derived.Test.YtepkedhmbfkenaaPTkx4
import Derived.Test.YtepkedhmbfkenaaPTkx5
import Derived.Test.YtepkedhmbfkenaaPTkx6
import Derived.Test.YtepkedhmbfkenaaOpn
namespace Go.Proofs.Ytepkedhmbfkenaa.Pure
open Go.RowKit Go.Proofs.Ytepkedhmbfkenaa.PTk Go.Proofs.YtepkedhmbfkenaaW.PrintWords Go.Proofs.YtepkedhmbfkenaaW.PrintLast Go.Proofs.YtepkedhmbfkenaaW.PrintMore
-- ** base
theorem wrapi {x : Int} (h0 : -9223372036854775808 ≤ x) (h1 : x ≤ 9223372036854775807) : wrap64 x = x := by unfold wrap64; omega
theorem evPos {α : Type} {c : Prop} [Decidable c] {g f : Nat → Option α} {r : α} (h : c) (e : Ev g r) : Ev (fun k => if c then g k else f k) r := by
  simp only [if_pos h]; exact e
theorem evNeg {α : Type} {c : Prop} [Decidable c] {g f : Nat → Option α} {r : α} (h : ¬ c) (e : Ev f r) : Ev (fun k => if c then g k else f k) r := by
  simp only [if_neg h]; exact e
theorem evC {α β : Type} {o : Option α} {f : Nat → α → Option β} {a : α} {r : β} (h : o = some a) (e : Ev (fun n => f n a) r) : Ev (fun n => o.bind (f n)) r := by
  subst h; exact e
theorem evNow {α : Type} {r q : α} (h : r = q) : Ev (fun _ => some r) q := by subst h; exact Ev.now r
theorem evEq {α : Type} {g : Nat → Option α} {r q : α} (h : Ev g r) (e : r = q) : Ev g q := e ▸ h
theorem evIte {α : Type} {c : Prop} [Decidable c] {g f : Nat → Option α} {r q : α} (h : c → Ev g r) (h' : ¬ c → Ev f q) : Ev (fun k => if c then g k else f k) (if c then r else q) := by
  by_cases hc : c
  · simp only [if_pos hc]; exact h hc
  · simp only [if_neg hc]; exact h' hc
theorem evBy {α : Type} {c : Prop} [Decidable c] {g f : Nat → Option α} {r : α} (h : c → Ev g r) (h' : ¬ c → Ev f r) : Ev (fun k => if c then g k else f k) r := by
  by_cases hc : c
  · simp only [if_pos hc]; exact h hc
  · simp only [if_neg hc]; exact h' hc
theorem someF {p : Prop} [Decidable p] (h : ¬ p) : some false = some (decide p) := by rw [decide_eq_false h]
theorem someD {p q : Prop} [Decidable p] [Decidable q] (h : p ↔ q) : some (decide p) = some (decide q) := by rw [decide_eq_decide.mpr h]
theorem decD {p q : Prop} [Decidable p] [Decidable q] (h : p ↔ q) : decide p = decide q := decide_eq_decide.mpr h
theorem allBad {α : Type} {p : α → Bool} {x : α} {suf : List α} {q : Bool} (h : p x = false) : false = ((x :: suf).all p && q) := by simp [h]
theorem allGood {α : Type} {p : α → Bool} {x : α} {suf : List α} {q : Bool} (h : p x = true) : (suf.all p && q) = ((x :: suf).all p && q) := by simp [h]
theorem rgEnd {α : Type} {l pre : List α} (h : l = pre ++ []) : ¬ ((pre.length : Int) < (l.length : Int)) := by subst h; simp
theorem rgHead {α : Type} {l pre suf : List α} {x : α} (h : l = pre ++ x :: suf) (hl : l.length ≤ 4611686018427387904) (z : α) :
    (pre.length : Int) < (l.length : Int) ∧ (0 : Int) ≤ (pre.length : Int) ∧ wrap64 ((pre.length : Int) + 1) = ((pre ++ [x]).length : Int) ∧ l.getD (pre.length : Int).toNat z = x ∧ l = (pre ++ [x]) ++ suf := by
  subst h
  simp at hl
  refine ⟨by simp; omega, by omega, ?_, by simp, by simp⟩
  rw [wrapi (by omega) (by omega)]; simp
theorem in_eq (a b c : Int) : spec_l1In.f a b c = some (decide (b ≤ a ∧ a ≤ c)) := by
  unfold spec_l1In.f
  split
  · exact someD (by omega)
  · exact someF (by omega)
theorem mx_eq (a b : Int) : mx a b = max a b := by unfold mx; omega
-- ** draws
theorem and255 (y : Int) : 0 ≤ wrap64 (Go.bits .and .u64 (IntKind.u64.wrap y / 1099511627776) 255) ∧ wrap64 (Go.bits .and .u64 (IntKind.u64.wrap y / 1099511627776) 255) ≤ 255 := by
  have h : 0 ≤ IntKind.u64.wrap y / 1099511627776 ∧ IntKind.u64.wrap y / 1099511627776 < 18446744073709551616 := by rw [IntKind.wrap_u64]; omega
  generalize IntKind.u64.wrap y / 1099511627776 = x at h
  have e := Go.bits_and_u64_nat x.toNat 255 (by omega) (by omega)
  rw [show ((x.toNat : Nat) : Int) = x by omega] at e
  have l : x.toNat &&& 255 ≤ 255 := Nat.and_le_right
  rw [show Go.bits .and .u64 x 255 = ((x.toNat &&& 255 : Nat) : Int) from e, wrapi (by omega) (by omega)]
  omega
def bytes (l : List Int) : Prop := ∀ x, x ∈ l → 0 ≤ x ∧ x ≤ 255
theorem next_ok {l : List Int} (hl : bytes l) {a : Int} (s : Int) (h0 : 0 ≤ a) (h1 : a ≤ 1000000000) : ∃ v s', spec_l1Cur_next.f l a s = some (v, a + 1, s') ∧ 0 ≤ v ∧ v ≤ 255 := by
  unfold spec_l1Cur_next.f
  rw [wrapi (x := a + 1) (by omega) (by omega)]
  by_cases c : a < (l.length : Int)
  · have hr : 0 ≤ rd l a ∧ rd l a ≤ 255 := hl _ (by unfold rd; rw [List.getD_eq_getElem?_getD, List.getElem?_eq_getElem (by omega), Option.getD_some]; exact List.getElem_mem _)
    rw [if_pos c, if_pos h0]
    split
    · exact ⟨_, _, rfl, by rw [wrapi (by omega) (by omega)]; omega⟩
    · exact ⟨_, _, rfl, and255 _⟩
  · rw [if_neg c]
    split
    · exact ⟨_, _, rfl, by omega⟩
    · exact ⟨_, _, rfl, and255 _⟩
theorem pick_ok {l : List Int} (hl : bytes l) {a : Int} (s : Int) (h0 : 0 ≤ a) (h1 : a ≤ 900000000) {m : Int} (hm : m ≤ 65000) : ∃ v a' s', spec_l1Cur_pick.f l a s m = some (v, a', s') ∧ (0 ≤ v ∧ (1 ≤ m → v < m)) ∧ a ≤ a' ∧ a' ≤ a + 2 := by
  unfold spec_l1Cur_pick.f
  by_cases c : m ≤ 1
  · rw [if_pos c]; exact ⟨_, _, _, rfl, by omega⟩
  · rw [if_neg c]
    obtain ⟨v, s', e, hv⟩ := next_ok hl s h0 (by omega)
    rw [e]
    simp only [Option.bind_some]
    by_cases c1 : m > 200
    · obtain ⟨v2, s2, e2, hv2⟩ := next_ok hl s' (show 0 ≤ a + 1 by omega) (by omega)
      rw [if_pos c1, e2]
      simp only [Option.bind_some]
      rw [if_neg (by omega), wrapi (x := v * 256) (by omega) (by omega), wrapi (x := v * 256 + v2) (by omega) (by omega)]
      exact ⟨_, _, _, rfl, ⟨Int.tmod_nonneg _ (by omega), fun _ => Int.tmod_lt_of_pos _ (by omega)⟩, by omega, by omega⟩
    · rw [if_neg c1, if_neg (by omega)]
      exact ⟨_, _, _, rfl, ⟨Int.tmod_nonneg _ (by omega), fun _ => Int.tmod_lt_of_pos _ (by omega)⟩, by omega, by omega⟩
theorem among_ok {l : List Int} (hl : bytes l) {a : Int} (s : Int) (h0 : 0 ≤ a) (h1 : a ≤ 900000000) {q : List Int} (hq : 1 ≤ q.length ∧ q.length ≤ 1000) : ∃ v a' s', spec_l1Cur_among.f l a s q = some (v, a', s') ∧ a ≤ a' ∧ a' ≤ a + 2 := by
  unfold spec_l1Cur_among.f
  obtain ⟨v, a', s', e, hv, ha⟩ := pick_ok hl s h0 h1 (m := (q.length : Int)) (by omega)
  rw [e]
  simp only [Option.bind_some]
  rw [if_pos hv.1, if_pos (hv.2 (by omega))]
  exact ⟨_, _, _, rfl, ha⟩
theorem one_ok {l : List Int} (hl : bytes l) {a : Int} (s : Int) (h0 : 0 ≤ a) (h1 : a ≤ 900000000) {m : Int} (hm : m ≤ 65000) : ∃ v a' s', spec_l1Cur_one.f l a s m = some (v, a', s') ∧ a ≤ a' ∧ a' ≤ a + 2 := by
  unfold spec_l1Cur_one.f
  obtain ⟨v, a', s', e, hv, ha⟩ := pick_ok hl s h0 h1 hm
  rw [e]
  exact ⟨_, _, _, rfl, ha⟩
theorem controller_ok {l : List Int} (hl : bytes l) {a : Int} (s : Int) (h0 : 0 ≤ a) (h1 : a ≤ 800000000) : ∃ b g a' s', spec_l1Cur_controller.f l a s = some (b, g, a', s') ∧ a ≤ a' ∧ a' ≤ a + 12 := by
  unfold spec_l1Cur_controller.f
  obtain ⟨v1, a1, s1, e1, _, h1a⟩ := pick_ok hl s h0 (by omega) (m := 60) (by omega)
  rw [e1]; simp only [Option.bind_some]
  obtain ⟨v2, a2, s2, e2, h2a⟩ := among_ok hl s1 (show 0 ≤ a1 by omega) (by omega) (q := [0, 5, 20, v1, 200]) (by simp)
  rw [e2]; simp only [Option.bind_some]
  obtain ⟨v3, a3, s3, e3, _, h3a⟩ := pick_ok hl s2 (show 0 ≤ a2 by omega) (by omega) (m := 60) (by omega)
  rw [e3]; simp only [Option.bind_some]
  obtain ⟨v4, a4, s4, e4, h4a⟩ := among_ok hl s3 (show 0 ≤ a3 by omega) (by omega) (q := [1, 5, 20, wrap64 (1 + v3), 100]) (by simp)
  rw [e4]; simp only [Option.bind_some]
  obtain ⟨v5, a5, s5, e5, _, h5a⟩ := pick_ok hl s4 (show 0 ≤ a4 by omega) (by omega) (m := 24) (by omega)
  rw [e5]; simp only [Option.bind_some]
  by_cases c : v5 = 0
  · obtain ⟨v6, a6, s6, e6, h6a⟩ := among_ok hl s5 (show 0 ≤ a5 by omega) (by omega) (q := [(-1), 201]) (by simp)
    rw [if_pos c, e6]
    exact ⟨v6, v4, a6, s6, rfl, by omega, by omega⟩
  · by_cases c' : v5 = 1
    · obtain ⟨v6, a6, s6, e6, h6a⟩ := among_ok hl s5 (show 0 ≤ a5 by omega) (by omega) (q := [0, 101]) (by simp)
      rw [if_neg c, if_pos c', e6]
      exact ⟨v2, v6, a6, s6, rfl, by omega, by omega⟩
    · rw [if_neg c, if_neg c']
      exact ⟨v2, v4, a5, s5, rfl, by omega, by omega⟩
theorem offset_ok {l : List Int} (hl : bytes l) {a : Int} (s : Int) (h0 : 0 ≤ a) (h1 : a ≤ 800000000) : ∃ o a' s', spec_l1Cur_offset.f l a s = some (o, a', s') ∧ a ≤ a' ∧ a' ≤ a + 6 := by
  unfold spec_l1Cur_offset.f
  obtain ⟨v1, a1, s1, e1, _, h1a⟩ := pick_ok hl s h0 (by omega) (m := 200) (by omega)
  rw [e1]; simp only [Option.bind_some]
  obtain ⟨v2, a2, s2, e2, h2a⟩ := among_ok hl s1 (show 0 ≤ a1 by omega) (by omega) (q := [1001, (-1001)]) (by simp)
  rw [e2]; simp only [Option.bind_some]
  obtain ⟨v3, a3, s3, e3, h3a⟩ := among_ok hl s2 (show 0 ≤ a2 by omega) (by omega) (q := [0, 0, 5, (-20), wrap64 (v1 - 100), 1000, (-1000), v2]) (by simp)
  rw [e3]
  exact ⟨v3, a3, s3, rfl, by omega, by omega⟩
theorem drifts_j2 {l : List Int} (hl : bytes l) {a : Int} (s : Int) (h0 : 0 ≤ a) (h1 : a ≤ 700000000) (x : List Int) (n : Int) (hx : (x.length : Int) = n) (hn : n ≤ 200) (f : Bool) (hf : f = true → 0 < n) : ∃ r a' s', Ev (fun k => spec_l1Cur_drifts.j2 k x n f l a s) (r, a', s') ∧ r.length = x.length := by
  cases f with
  | false => exact ⟨x, a, s, Ev.step (fun k => spec_l1Cur_drifts.j2.eq_2 ..) (evNeg (by simp) (Ev.now _)), rfl⟩
  | true =>
    have hp := hf rfl
    obtain ⟨v1, a1, s1, e1, hv, h1a⟩ := pick_ok hl s h0 (by omega) (m := n) (by omega)
    obtain ⟨v2, a2, s2, e2, h2a⟩ := among_ok hl s1 (show 0 ≤ a1 by omega) (by omega) (q := [51, (-51)]) (by simp)
    have hv2 := hv.2 (by omega)
    refine ⟨x.set v1.toNat v2, a2, s2, Ev.step (fun k => spec_l1Cur_drifts.j2.eq_2 ..) (evPos rfl ?_), by simp⟩
    simp only [e1, Option.bind_some, e2]
    exact evPos hv.1 (evPos (by omega) (Ev.now _))
theorem drifts_l0 {l : List Int} (hl : bytes l) (n one : Int) (hn : n ≤ 200) : ∀ (d : Nat) (x : List Int) (a s : Int), (x.length : Int) + d = n → 0 ≤ a → a + 10 * (d : Int) ≤ 600000000 → ∃ r a' s', Ev (fun k => spec_l1Cur_drifts.l0 k x n one l a s) (r, a', s') ∧ (r.length : Int) = n := by
  intro d
  induction d with
  | zero =>
    intro x a s hx h0 h1
    by_cases c : n > 0
    · obtain ⟨f, a1, s1, e1, h1a⟩ := one_ok hl s h0 (by omega) (m := 24) (by omega)
      obtain ⟨r, a', s', hE, hr⟩ := drifts_j2 hl s1 (show 0 ≤ a1 by omega) (by omega) x n (by omega) hn f (fun _ => by omega)
      refine ⟨r, a', s', Ev.step (fun k => spec_l1Cur_drifts.l0.eq_2 ..) (evNeg (by omega) (evPos c ?_)), by omega⟩
      simp only [e1, Option.bind_some]
      exact hE
    · obtain ⟨r, a', s', hE, hr⟩ := drifts_j2 hl s h0 (by omega) x n (by omega) hn false (fun q => by simp at q)
      exact ⟨r, a', s', Ev.step (fun k => spec_l1Cur_drifts.l0.eq_2 ..) (evNeg (by omega) (evNeg c hE)), by omega⟩
  | succ d ih =>
    intro x a s hx h0 h1
    obtain ⟨v1, a1, s1, e1, _, h1a⟩ := pick_ok hl s h0 (by omega) (m := 101) (by omega)
    obtain ⟨v2, a2, s2, e2, h2a⟩ := among_ok hl s1 (show 0 ≤ a1 by omega) (by omega) (q := [one, one, 0, wrap64 (-one), wrap64 (v1 - 50)]) (by simp)
    obtain ⟨r, a', s', hE, hr⟩ := ih (x ++ [v2]) a2 s2 (by simp; omega) (by omega) (by omega)
    refine ⟨r, a', s', Ev.step (fun k => spec_l1Cur_drifts.l0.eq_2 ..) (evPos (by omega) ?_), hr⟩
    simp only [e1, Option.bind_some, e2]
    exact evPos (by omega) hE
theorem drifts_ok {l : List Int} (hl : bytes l) {a : Int} (s : Int) (h0 : 0 ≤ a) (h1 : a ≤ 1000) : ∃ r a' s', Ev (fun k => spec_l1Cur_drifts.f k l a s) (r, a', s') ∧ r.length ≤ 200 := by
  unfold spec_l1Cur_drifts.f
  obtain ⟨v1, a1, s1, e1, hv1, h1a⟩ := pick_ok hl s h0 (by omega) (m := 12) (by omega)
  obtain ⟨f, a2, s2, e2, h2a⟩ := one_ok hl s1 (show 0 ≤ a1 by omega) (by omega) (m := 20) (by omega)
  simp only [e1, Option.bind_some, e2]
  have hv := hv1.2 (by omega)
  have go : ∀ (n a s : Int), 0 ≤ n → n ≤ 200 → 0 ≤ a → a ≤ 2000 → ∃ r a' s', Ev (fun k => spec_l1Cur_drifts.j0 k [] n l a s) (r, a', s') ∧ r.length ≤ 200 := by
    intro n a s hn0 hn h0 h1
    obtain ⟨v3, a3, s3, e3, h3a⟩ := among_ok hl s h0 (by omega) (q := [3, 10, (-10), 50]) (by simp)
    obtain ⟨r, a', s', hE, hr⟩ := drifts_l0 hl n v3 hn n.toNat [] a3 s3 (by simp; omega) (by omega) (by omega)
    refine ⟨r, a', s', Ev.step (fun k => spec_l1Cur_drifts.j0.eq_2 ..) ?_, by omega⟩
    simp only [e3, Option.bind_some]
    exact hE
  cases f with
  | true =>
    obtain ⟨v3, a3, s3, e3, hv3, h3a⟩ := pick_ok hl s2 (show 0 ≤ a2 by omega) (by omega) (m := 2) (by omega)
    have := hv3.2 (by omega)
    obtain ⟨r, a', s', hE, hr⟩ := go (wrap64 (100 + v3)) a3 s3 (by rw [wrapi (by omega) (by omega)]; omega) (by rw [wrapi (by omega) (by omega)]; omega) (by omega) (by omega)
    refine ⟨r, a', s', evPos rfl ?_, hr⟩
    simp only [e3, Option.bind_some]
    exact hE
  | false =>
    obtain ⟨r, a', s', hE, hr⟩ := go v1 a2 s2 (by omega) (by omega) (by omega) (by omega)
    exact ⟨r, a', s', evNeg (by simp) hE, hr⟩
theorem drawRun_ok {l : List Int} (hl : bytes l) : ∃ b g o ds, Ev (fun k => spec_DrawTrackRun.f k l) (b, g, o, ds) ∧ ds.length ≤ 200 := by
  unfold spec_DrawTrackRun.f
  obtain ⟨b, g, a1, s1, e1, h1a⟩ := controller_ok hl 0 (a := 0) (by omega) (by omega)
  rw [e1]; simp only [Option.bind_some]
  obtain ⟨o, a2, s2, e2, h2a⟩ := offset_ok hl s1 (show 0 ≤ a1 by omega) (by omega)
  rw [e2]; simp only [Option.bind_some]
  obtain ⟨r, a', s', hE, hr⟩ := drifts_ok hl s2 (show 0 ≤ a2 by omega) (by omega)
  exact ⟨b, g, o, r, Ev.bind hE (Ev.now _), hr⟩
theorem drawStep_ok {l : List Int} (hl : bytes l) : ∃ b g o d, spec_DrawTrackStep.f l = some (b, g, o, d) := by
  unfold spec_DrawTrackStep.f
  obtain ⟨b, g, a1, s1, e1, h1a⟩ := controller_ok hl 0 (a := 0) (by omega) (by omega)
  rw [e1]; simp only [Option.bind_some]
  obtain ⟨o, a2, s2, e2, h2a⟩ := offset_ok hl s1 (show 0 ≤ a1 by omega) (by omega)
  rw [e2]; simp only [Option.bind_some]
  obtain ⟨v1, a3, s3, e3, _, h3a⟩ := pick_ok hl s2 (show 0 ≤ a2 by omega) (by omega) (m := 101) (by omega)
  rw [e3]; simp only [Option.bind_some]
  obtain ⟨v2, a4, s4, e4, h4a⟩ := among_ok hl s3 (show 0 ≤ a3 by omega) (by omega) (q := [51, (-51)]) (by simp)
  rw [e4]; simp only [Option.bind_some]
  obtain ⟨v3, a5, s5, e5, h5a⟩ := among_ok hl s4 (show 0 ≤ a4 by omega) (by omega) (q := [0, 1, (-5), wrap64 (v1 - 50), 50, v2]) (by simp)
  rw [e5]
  exact ⟨_, _, _, _, rfl⟩
theorem drawSettles_ok {l : List Int} (hl : bytes l) : ∃ b g o, spec_DrawSettlesAfter.f l = some (b, g, o) := by
  unfold spec_DrawSettlesAfter.f
  obtain ⟨b, g, a1, s1, e1, h1a⟩ := controller_ok hl 0 (a := 0) (by omega) (by omega)
  rw [e1]; simp only [Option.bind_some]
  obtain ⟨o, a2, s2, e2, h2a⟩ := offset_ok hl s1 (show 0 ≤ a1 by omega) (by omega)
  rw [e2]
  exact ⟨_, _, _, rfl⟩
-- ** ctl
def ctl (b g : Int) : Prop := 0 ≤ b ∧ b ≤ 200 ∧ 1 ≤ g ∧ g ≤ 100
instance (b g : Int) : Decidable (ctl b g) := by unfold ctl; exact inferInstance
theorem tkGood_eq (b g : Int) : spec_tkGood.f b g = some (decide (ctl b g)) := by
  unfold spec_tkGood.f; rw [in_eq, in_eq]; simp only [Option.bind_some]
  by_cases h : 0 ≤ b ∧ b ≤ 200
  · rw [if_pos (decide_eq_true h)]; exact someD (by unfold ctl; omega)
  · rw [if_neg (by simpa using h)]; exact someF (by unfold ctl; omega)
theorem isController_eq (b g : Int) : impl_IsController.f b g = some (decide (ctl b g)) := by
  unfold impl_IsController.f
  repeat' split
  all_goals first | exact someD (by unfold ctl; omega) | exact someF (by unfold ctl; omega)
-- ** move
def off (o : Int) : Prop := -1000 ≤ o ∧ o ≤ 1000
instance (o : Int) : Decidable (off o) := by unfold off; exact inferInstance
theorem tkOffset_eq (o : Int) : spec_tkOffset.f o = some (decide (off o)) := by
  unfold spec_tkOffset.f; rw [in_eq]; rfl
theorem isOffset_eq (o : Int) : impl_isOffset.f o = some (decide (off o)) := by
  unfold impl_isOffset.f
  split
  · exact someD (by unfold off; omega)
  · exact someF (by unfold off; omega)
def mv (b g o d : Int) : Int := if o + d > b then o + d - g else if o + d < -b then o + d + g else o + d
def mvby (b g o d : Int) : Int := if o + d > b then -g else if o + d < -b then g else 0
def far (o : Int) : Prop := -100000 ≤ o ∧ o ≤ 100000
theorem tkStep_eq {b g o d : Int} (h : ctl b g) (ho : far o) (hd : far d) : spec_tkStep.f b g o d = some (mv b g o d, mvby b g o d) := by
  unfold spec_tkStep.f mv mvby; unfold ctl at h; unfold far at ho hd
  rw [wrapi (x := o + d) (by omega) (by omega), wrapi (x := -b) (by omega) (by omega), wrapi (x := -g) (by omega) (by omega), wrapi (x := o + d - g) (by omega) (by omega), wrapi (x := o + d + g) (by omega) (by omega)]
  split
  · rfl
  · split <;> rfl
theorem moved_eq {b g o d : Int} (h : ctl b g) (ho : far o) (hd : far d) : impl_moved.f b g o d = some (mv b g o d) := by
  unfold impl_moved.f mv; unfold ctl at h; unfold far at ho hd
  rw [wrapi (x := o + d) (by omega) (by omega), wrapi (x := -b) (by omega) (by omega), wrapi (x := o + d - g) (by omega) (by omega), wrapi (x := o + d + g) (by omega) (by omega)]
  split
  · rfl
  · split <;> rfl
-- ** drifts
def drf (x : Int) : Bool := decide (-50 ≤ x ∧ x ≤ 50)
theorem areDrifts_l0 (l : List Int) (hl : l.length ≤ 4611686018427387904) : ∀ (suf pre : List Int), l = pre ++ suf →
    Ev (fun k => impl_areDrifts.l0 k l l (l.length : Int) (pre.length : Int)) (suf.all drf && decide (l.length ≤ 100)) := by
  intro suf
  induction suf with
  | nil =>
    intro pre h
    refine Ev.step (fun k => impl_areDrifts.l0.eq_2 ..) ?_
    simp only [rgEnd h, if_false]
    exact evNow (by rw [List.all_nil, Bool.true_and]; exact decD (by omega))
  | cons x suf ih =>
    intro pre h
    obtain ⟨h1, h2, h3, h4, h5⟩ := rgHead h hl 0
    refine Ev.step (fun k => impl_areDrifts.l0.eq_2 ..) ?_
    simp only [h1, h2, h3, rd, h4, if_true]
    refine evBy (fun c => evNow (allBad (decide_eq_false (by omega)))) (fun c => evBy (fun c' => evNow (allBad (decide_eq_false (by omega)))) (fun c' => evEq (ih _ h5) (allGood (decide_eq_true (by omega)))))
theorem areDrifts_ev (l : List Int) (hl : l.length ≤ 4611686018427387904) : Ev (fun k => impl_areDrifts.f k l) (l.all drf && decide (l.length ≤ 100)) :=
  areDrifts_l0 l hl l [] rfl
-- ** run
def offB (o : Int) : Bool := decide (off o)
def run (b g : Int) : Int → List Int → List Int
  | _, [] => []
  | o, d :: ds => mv b g o d :: run b g (mv b g o d) ds
theorem run_length (b g : Int) : ∀ (o : Int) (ds : List Int), (run b g o ds).length = ds.length
  | _, [] => rfl
  | o, d :: ds => by simp [run, run_length b g]
def lessN (b g : Int) : Int → List Int → Int
  | _, [] => 0
  | o, d :: ds => (if mvby b g o d < 0 then 1 else 0) + lessN b g (mv b g o d) ds
def moreN (b g : Int) : Int → List Int → Int
  | _, [] => 0
  | o, d :: ds => (if mvby b g o d > 0 then 1 else 0) + moreN b g (mv b g o d) ds
theorem lessN_bd (b g : Int) : ∀ (o : Int) (ds : List Int), 0 ≤ lessN b g o ds ∧ lessN b g o ds ≤ ds.length
  | _, [] => by simp [lessN]
  | o, d :: ds => by have := lessN_bd b g (mv b g o d) ds; simp only [lessN, List.length_cons]; split <;> omega
theorem moreN_bd (b g : Int) : ∀ (o : Int) (ds : List Int), 0 ≤ moreN b g o ds ∧ moreN b g o ds ≤ ds.length
  | _, [] => by simp [moreN]
  | o, d :: ds => by have := moreN_bd b g (mv b g o d) ds; simp only [moreN, List.length_cons]; split <;> omega
theorem drf_iff {d : Int} : drf d = true ↔ -50 ≤ d ∧ d ≤ 50 := by simp [drf]
def runRes (b g o : Int) (ds : List Int) : List Int × Bool := if (run b g o ds).all offB = true then (run b g o ds, true) else ([], false)
theorem trackRun_l0 {b g : Int} (hc : ctl b g) (l : List Int) (hl : l.length ≤ 1048576) : ∀ (suf pre : List Int) (o : Int) (acc : List Int), l = pre ++ suf → suf.all drf = true → off o → acc.length = pre.length →
    Ev (fun k => impl_trackRun.l0 k o acc l (l.length : Int) (pre.length : Int) b g) (if (run b g o suf).all offB = true then (acc ++ run b g o suf, true) else ([], false)) := by
  intro suf
  induction suf with
  | nil =>
    intro pre o acc h hs ho ha
    refine Ev.step (fun k => impl_trackRun.l0.eq_2 ..) ?_
    simp only [rgEnd h, if_false]
    exact evNow (by simp [run])
  | cons x suf ih =>
    intro pre o acc h hs ho ha
    obtain ⟨h1, h2, h3, h4, h5⟩ := rgHead h (by omega) 0
    simp only [List.all_cons, Bool.and_eq_true] at hs
    have hx := drf_iff.1 hs.1
    have hf : far o := by unfold off at ho; unfold far; omega
    have hd : far x := by unfold far; omega
    have hp : pre.length ≤ 1048576 := by omega
    refine Ev.step (fun k => impl_trackRun.l0.eq_2 ..) ?_
    simp only [h1, h2, h3, rd, h4, if_true, moved_eq hc hf hd, isOffset_eq, Option.bind_some, decide_eq_true_eq]
    by_cases c : off (mv b g o x)
    · refine evPos c (evPos (by omega) (evEq (ih _ _ _ h5 hs.2 c (by simp [ha])) ?_))
      simp [run, offB, c]
    · refine evNeg c (evNow ?_)
      simp [run, offB, c]
theorem trackRun_ev {b g o : Int} {ds : List Int} (hc : ctl b g) (ho : off o) (hd : ds.all drf = true) (hl : ds.length ≤ 1048576) : Ev (fun k => impl_trackRun.f k b g o ds) (runRes b g o ds) :=
  evEq (trackRun_l0 hc ds hl ds [] o [] rfl hd ho rfl) (by unfold runRes; simp)
def tkRunRes (b g o : Int) (ds : List Int) : List Int × List Int × Bool := if (run b g o ds).all offB = true then (run b g o ds, [lessN b g o ds, moreN b g o ds], true) else ([], [], false)
theorem tkRun_l0 {b g : Int} (hc : ctl b g) (l : List Int) (hl : l.length ≤ 1048576) : ∀ (suf pre : List Int) (o : Int) (acc : List Int) (m0 m1 : Int), l = pre ++ suf → suf.all drf = true → off o → acc.length = pre.length → 0 ≤ m0 → m0 ≤ pre.length → 0 ≤ m1 → m1 ≤ pre.length →
    Ev (fun k => spec_tkRun.l0 k o acc [m0, m1] l (l.length : Int) (pre.length : Int) b g) (if (run b g o suf).all offB = true then (acc ++ run b g o suf, [m0 + lessN b g o suf, m1 + moreN b g o suf], true) else ([], [], false)) := by
  intro suf
  induction suf with
  | nil =>
    intro pre o acc m0 m1 h hs ho ha k0 k1 k2 k3
    refine Ev.step (fun k => spec_tkRun.l0.eq_2 ..) ?_
    simp only [rgEnd h, if_false]
    exact evNow (by simp [run, lessN, moreN])
  | cons x suf ih =>
    intro pre o acc m0 m1 h hs ho ha k0 k1 k2 k3
    obtain ⟨h1, h2, h3, h4, h5⟩ := rgHead h (by omega) 0
    simp only [List.all_cons, Bool.and_eq_true] at hs
    have hx := drf_iff.1 hs.1
    have hf : far o := by unfold off at ho; unfold far; omega
    have hd : far x := by unfold far; omega
    have hp : pre.length ≤ 1048576 := by omega
    have hb : mvby b g o x = -g ∨ mvby b g o x = g ∨ mvby b g o x = 0 := by unfold mvby; omega
    have hg : 1 ≤ g := hc.2.2.1
    refine Ev.step (fun k => spec_tkRun.l0.eq_2 ..) ?_
    simp only [h1, h2, rd, h4, if_true, tkStep_eq hc hf hd, Option.bind_some]
    by_cases b0 : mvby b g o x < 0
    · refine evPos b0 (evPos (by simp) (Ev.step (fun k => spec_tkRun.j1.eq_2 ..) (evNeg (by omega) ?_)))
      simp only [tkOffset_eq, Option.bind_some, decide_eq_true_eq, h3]
      by_cases c : off (mv b g o x)
      · refine evPos c (evPos (by omega) ?_)
        have e : [m0, m1].set (0 : Int).toNat (wrap64 ([m0, m1].getD (0 : Int).toNat 0 + 1)) = [m0 + 1, m1] := by simp; exact wrapi (by omega) (by omega)
        rw [e]
        refine evEq (ih _ _ _ _ _ h5 hs.2 c (by simp [ha]) (by omega) (by simp; omega) (by omega) (by simp; omega)) ?_
        simp [run, offB, c, lessN, moreN, b0, show ¬ mvby b g o x > 0 by omega, Int.add_assoc]
      · refine evNeg c (evNow ?_)
        simp [run, offB, c]
    · refine evNeg b0 (Ev.step (fun k => spec_tkRun.j1.eq_2 ..) ?_)
      simp only [tkOffset_eq, Option.bind_some, decide_eq_true_eq, h3]
      by_cases b1 : mvby b g o x > 0
      · refine evPos b1 (evPos (by simp) ?_)
        by_cases c : off (mv b g o x)
        · refine evPos c (evPos (by omega) ?_)
          have e : [m0, m1].set (1 : Int).toNat (wrap64 (rd [m0, m1] 1 + 1)) = [m0, m1 + 1] := by simp [rd]; exact wrapi (by omega) (by omega)
          rw [e]
          refine evEq (ih _ _ _ _ _ h5 hs.2 c (by simp [ha]) (by omega) (by simp; omega) (by omega) (by simp; omega)) ?_
          simp [run, offB, c, lessN, moreN, b0, b1, Int.add_assoc]
        · refine evNeg c (evNow ?_)
          simp [run, offB, c]
      · refine evNeg b1 ?_
        by_cases c : off (mv b g o x)
        · refine evPos c (evPos (by omega) ?_)
          refine evEq (ih _ _ _ _ _ h5 hs.2 c (by simp [ha]) (by omega) (by simp; omega) (by omega) (by simp; omega)) ?_
          simp [run, offB, c, lessN, moreN, b0, b1]
        · refine evNeg c (evNow ?_)
          simp [run, offB, c]
theorem tkRun_ev {b g o : Int} {ds : List Int} (hc : ctl b g) (ho : off o) (hd : ds.all drf = true) (hl : ds.length ≤ 1048576) : Ev (fun k => spec_tkRun.f k b g o ds) (tkRunRes b g o ds) :=
  evEq (tkRun_l0 hc ds hl ds [] o [] 0 0 rfl hd ho rfl (by omega) (by omega) (by omega) (by omega)) (by unfold tkRunRes; simp)
def asked (b g o : Int) (ds : List Int) : Bool := decide (ctl b g) && (decide (off o) && (ds.all drf && decide (ds.length ≤ 100)))
theorem asked_iff {b g o : Int} {ds : List Int} : asked b g o ds = true ↔ ctl b g ∧ off o ∧ ds.all drf = true ∧ ds.length ≤ 100 := by simp [asked]
theorem isRun_ev (b g o : Int) (ds : List Int) (hl : ds.length ≤ 1048576) : Ev (fun k => impl_isRun.f k b g o ds) (asked b g o ds) := by
  unfold impl_isRun.f asked
  simp only [isController_eq, isOffset_eq, Option.bind_some, decide_eq_true_eq]
  refine evBy (fun c => evBy (fun c' => Ev.bind (areDrifts_ev ds (by omega)) (evNow (by simp [c, c']))) (fun c' => evNow (by simp [c']))) (fun c => evNow (by simp [c]))
theorem l1All_l0 (l : List Int) (hl : l.length ≤ 1048576) : ∀ (suf pre : List Int), l = pre ++ suf →
    Ev (fun k => spec_l1All.l0 k (-50) 50 l (l.length : Int) (pre.length : Int)) (suf.all drf) := by
  intro suf
  induction suf with
  | nil =>
    intro pre h
    refine Ev.step (fun k => spec_l1All.l0.eq_2 ..) ?_
    simp only [rgEnd h, if_false]
    exact evNow (by simp)
  | cons x suf ih =>
    intro pre h
    obtain ⟨h1, h2, h3, h4, h5⟩ := rgHead h (by omega) 0
    refine Ev.step (fun k => spec_l1All.l0.eq_2 ..) ?_
    simp only [h1, h2, h3, rd, h4, if_true, in_eq, Option.bind_some, decide_eq_true_eq]
    refine evBy (fun c => evEq (ih _ h5) ?_) (fun c => evNow ?_)
    · rw [List.all_cons, show drf x = true from drf_iff.2 c]; rfl
    · rw [List.all_cons, show drf x = false from decide_eq_false c]; rfl
theorem tkAsked_ev (b g o : Int) (ds : List Int) : Ev (fun k => spec_tkAsked.f k b g o ds) (asked b g o ds) := by
  unfold spec_tkAsked.f asked
  simp only [tkGood_eq, tkOffset_eq, Option.bind_some, decide_eq_true_eq]
  refine evBy (fun c => evBy (fun c' => evBy (fun c2 => ?_) (fun c2 => evNow (by simp; omega))) (fun c' => evNow (by simp [c']))) (fun c => evNow (by simp [c]))
  exact Ev.bind (l1All_l0 ds (by omega) ds [] rfl) (evNow (by simp [c, c']; omega))
-- ** trackrun
def trackRes (b g o : Int) (ds : List Int) : List Int × Bool := if asked b g o ds = true then runRes b g o ds else ([], false)
theorem implTrackRun_ev (b g o : Int) (ds : List Int) (hl : ds.length ≤ 1048576) : Ev (fun k => impl_TrackRun.f k b g o ds) (trackRes b g o ds) := by
  unfold impl_TrackRun.f trackRes
  refine Ev.bind (isRun_ev b g o ds hl) (evIte (fun c => ?_) (fun c => Ev.now _))
  obtain ⟨h, h1, h2, h3⟩ := asked_iff.1 c
  exact Ev.bind (trackRun_ev h h1 h2 hl) (Ev.now _)
-- ** most
theorem l1Most_eq (a b : Int) : spec_l1Most.f a b = some (max a b) := by
  unfold spec_l1Most.f; split <;> (congr 1; omega)
-- ** abs
theorem l1Abs_eq {o : Int} (h : -1000000000 ≤ o ∧ o ≤ 1000000000) : spec_l1Abs.f o = some (o.natAbs : Int) := by
  unfold spec_l1Abs.f
  rw [wrapi (by omega) (by omega), l1Most_eq]
  simp only [Option.bind_some]; congr 1; omega
-- ** dist
theorem distance_eq {a b : Int} (ha : -1000000000 ≤ a ∧ a ≤ 1000000000) (hb : -1000000000 ≤ b ∧ b ≤ 1000000000) : impl_distance.f a b = some ((a - b).natAbs : Int) := by
  unfold impl_distance.f
  rw [wrapi (by omega) (by omega), wrapi (by omega) (by omega), mx_eq]
  congr 1; omega
-- ** worst
def wst : Int → List Int → Int
  | w, [] => w
  | w, x :: l => wst (max w (x.natAbs : Int)) l
def worstRes (b g o : Int) (ds : List Int) : Int × Bool := if (run b g o ds).all offB = true then (wst (o.natAbs : Int) (run b g o ds), true) else (0, false)
theorem offB_iff {o : Int} : offB o = true ↔ -1000 ≤ o ∧ o ≤ 1000 := decide_eq_true_iff
theorem worstImpl_l0 (l : List Int) (hl : l.length ≤ 1048576) : ∀ (suf pre : List Int) (w : Int), l = pre ++ suf → suf.all offB = true →
    Ev (fun k => impl_WorstOffset.l0 k w l (l.length : Int) (pre.length : Int)) (wst w suf, true) := by
  intro suf
  induction suf with
  | nil =>
    intro pre w h hs
    refine Ev.step (fun k => impl_WorstOffset.l0.eq_2 ..) ?_
    simp only [rgEnd h, if_false]
    exact evNow (by simp [wst])
  | cons x suf ih =>
    intro pre w h hs
    obtain ⟨h1, h2, h3, h4, h5⟩ := rgHead h (by omega) 0
    simp only [List.all_cons, Bool.and_eq_true] at hs
    have hx := offB_iff.1 hs.1
    refine Ev.step (fun k => impl_WorstOffset.l0.eq_2 ..) ?_
    simp only [h1, h2, h3, rd, h4, if_true, distance_eq (a := x) (b := 0) (by omega) (by omega), Option.bind_some, mx_eq, Int.sub_zero]
    exact ih _ _ h5 hs.2
theorem worstSpec_l0 (l : List Int) (hl : l.length ≤ 1048576) : ∀ (suf pre : List Int) (w : Int), l = pre ++ suf → suf.all offB = true →
    Ev (fun k => spec_tkWorst.l0 k w l (l.length : Int) (pre.length : Int)) (wst w suf, true) := by
  intro suf
  induction suf with
  | nil =>
    intro pre w h hs
    refine Ev.step (fun k => spec_tkWorst.l0.eq_2 ..) ?_
    simp only [rgEnd h, if_false]
    exact evNow (by simp [wst])
  | cons x suf ih =>
    intro pre w h hs
    obtain ⟨h1, h2, h3, h4, h5⟩ := rgHead h (by omega) 0
    simp only [List.all_cons, Bool.and_eq_true] at hs
    have hx := offB_iff.1 hs.1
    refine Ev.step (fun k => spec_tkWorst.l0.eq_2 ..) ?_
    simp only [h1, h2, h3, rd, h4, if_true, l1Abs_eq (o := x) (by omega), l1Most_eq, Option.bind_some]
    exact ih _ _ h5 hs.2
theorem tkWorst_ev {b g o : Int} {ds : List Int} (hc : ctl b g) (ho : off o) (hd : ds.all drf = true) (hl : ds.length ≤ 1048576) : Ev (fun k => spec_tkWorst.f k b g o ds) (worstRes b g o ds) := by
  unfold spec_tkWorst.f
  refine Ev.bind (tkRun_ev hc ho hd hl) ?_
  unfold tkRunRes worstRes
  by_cases c : (run b g o ds).all offB = true
  · simp only [if_pos c, if_true]
    unfold off at ho
    simp only [l1Abs_eq (o := o) (by omega), Option.bind_some]
    exact worstSpec_l0 _ (by rw [run_length]; omega) _ [] _ rfl c
  · simp only [if_neg c]
    exact evNeg (by simp) (Ev.now _)
theorem implWorst_ev (b g o : Int) (ds : List Int) (hl : ds.length ≤ 1048576) : Ev (fun k => impl_WorstOffset.f k b g o ds) (if asked b g o ds = true then worstRes b g o ds else (0, false)) := by
  unfold impl_WorstOffset.f
  refine Ev.bind (implTrackRun_ev b g o ds hl) ?_
  unfold trackRes runRes worstRes
  by_cases a : asked b g o ds = true
  · obtain ⟨h, ho, h2, h3⟩ := asked_iff.1 a
    by_cases c : (run b g o ds).all offB = true
    · simp only [if_pos a, if_pos c, if_true]
      unfold off at ho
      simp only [distance_eq (a := o) (b := 0) (by omega) (by omega), Option.bind_some, Int.sub_zero]
      exact worstImpl_l0 _ (by rw [run_length]; omega) _ [] _ rfl c
    · simp only [if_pos a, if_neg c]
      exact evNeg (by simp) (Ev.now _)
  · simp only [if_neg a]
    exact evNeg (by simp) (Ev.now _)
-- ** moves
def movesRes (b g o : Int) (ds : List Int) : Int × Int × Bool := if asked b g o ds = true ∧ (run b g o ds).all offB = true then (lessN b g o ds, moreN b g o ds, true) else (0, 0, false)
theorem moves_l0 {b g : Int} (hc : ctl b g) (rl dl : List Int) (hl : dl.length ≤ 1048576) (hrl : rl.length = dl.length) : ∀ (suf dpre rpre : List Int) (o m0 m1 : Int), dl = dpre ++ suf → rl = rpre ++ run b g o suf → rpre.length = dpre.length →
    suf.all drf = true → off o → (run b g o suf).all offB = true → 0 ≤ m0 → m0 ≤ dpre.length → 0 ≤ m1 → m1 ≤ dpre.length →
    Ev (fun k => impl_MovesMade.l0 k o dl m0 m1 rl (rl.length : Int) (rpre.length : Int)) (m0 + lessN b g o suf, m1 + moreN b g o suf, true) := by
  intro suf
  induction suf with
  | nil =>
    intro dpre rpre o m0 m1 hd hr hp hs ho hall k0 k1 k2 k3
    refine Ev.step (fun k => impl_MovesMade.l0.eq_2 ..) ?_
    simp only [run] at hr
    simp only [rgEnd hr, if_false]
    exact evNow (by simp [lessN, moreN])
  | cons x suf ih =>
    intro dpre rpre o m0 m1 hd hr hp hs ho hall k0 k1 k2 k3
    simp only [run] at hr hall
    simp only [List.all_cons, Bool.and_eq_true] at hs hall
    obtain ⟨h1, h2, h3, h4, h5⟩ := rgHead hr (by omega) 0
    obtain ⟨g1, g2, g3, g4, g5⟩ := rgHead hd (by omega) 0
    have hx := drf_iff.1 hs.1
    have hn : off (mv b g o x) := by simpa [offB] using hall.1
    have hpl : dpre.length ≤ 1048576 := by omega
    have e : (rpre.length : Int) = (dpre.length : Int) := by omega
    have hlt : (rpre.length : Int) < (dl.length : Int) := by omega
    have hrd : dl.getD (rpre.length : Int).toNat 0 = x := by rw [e]; exact g4
    refine Ev.step (fun k => impl_MovesMade.l0.eq_2 ..) ?_
    simp only [h1, h2, h3, hlt, rd, h4, hrd, if_true]
    have hg : 1 ≤ g := hc.2.2.1
    unfold off at ho
    rw [wrapi (x := o + x) (by omega) (by omega)]
    have hgo := fun m0' m1' a b' c d => ih (dpre ++ [x]) (rpre ++ [mv b g o x]) (mv b g o x) m0' m1' g5 h5 (by simp [hp]) hs.2 hn hall.2 a b' c d
    refine evBy (fun c => ?_) (fun c => evBy (fun c' => ?_) (fun c' => ?_))
    · rw [wrapi (x := m0 + 1) (by omega) (by omega)]
      have : mvby b g o x < 0 := by unfold mv at c; unfold mvby; omega
      refine evEq (hgo _ _ (by omega) (by simp; omega) (by omega) (by simp; omega)) ?_
      simp [lessN, moreN, this, show ¬ mvby b g o x > 0 by omega, Int.add_assoc]
    · rw [wrapi (x := m1 + 1) (by omega) (by omega)]
      have : mvby b g o x > 0 := by unfold mv at c c'; unfold mvby; omega
      refine evEq (hgo _ _ (by omega) (by simp; omega) (by omega) (by simp; omega)) ?_
      simp [lessN, moreN, this, show ¬ mvby b g o x < 0 by omega, Int.add_assoc]
    · have : mvby b g o x = 0 := by unfold mv at c c'; unfold mvby; omega
      refine evEq (hgo _ _ (by omega) (by simp; omega) (by omega) (by simp; omega)) ?_
      simp [lessN, moreN, this]
theorem implMoves_ev (b g o : Int) (ds : List Int) (hl : ds.length ≤ 1048576) : Ev (fun k => impl_MovesMade.f k b g o ds) (movesRes b g o ds) := by
  unfold impl_MovesMade.f
  refine Ev.bind (implTrackRun_ev b g o ds hl) ?_
  unfold trackRes runRes movesRes
  by_cases a : asked b g o ds = true
  · obtain ⟨h, ho, h2, h3⟩ := asked_iff.1 a
    by_cases c : (run b g o ds).all offB = true
    · simp only [if_pos a, if_pos c, if_pos (And.intro a c), if_true]
      exact evEq (moves_l0 h _ ds hl (run_length ..) ds [] [] o 0 0 rfl rfl rfl h2 ho c (by omega) (by simp) (by omega) (by simp)) (by simp)
    · simp only [if_pos a, if_neg c, if_neg (fun q => c (And.right q))]
      exact evNeg (by simp) (Ev.now _)
  · simp only [if_neg a, if_neg (fun q => a (And.left q))]
    exact evNeg (by simp) (Ev.now _)
theorem specMoves_ev (b g o : Int) (ds : List Int) : Ev (fun k => spec_MovesMade.f k b g o ds) (movesRes b g o ds) := by
  unfold spec_MovesMade.f
  refine Ev.bind (tkAsked_ev b g o ds) ?_
  unfold movesRes
  by_cases a : asked b g o ds = true
  · obtain ⟨h, ho, h2, h3⟩ := asked_iff.1 a
    refine evPos a (Ev.bind (tkRun_ev h ho h2 (by omega)) ?_)
    unfold tkRunRes
    by_cases c : (run b g o ds).all offB = true
    · simp only [if_pos c, if_pos (And.intro a c), if_true]
      refine evPos (by simp) (evPos (by simp) (evNow ?_))
      simp [rd]
    · simp only [if_neg c, if_neg (fun q => c (And.right q))]
      exact evNeg (by simp) (Ev.now _)
  · refine evNeg a (evNow ?_)
    rw [if_neg (fun q => a (And.left q))]
-- ** FnExactSettlesAfter
def cyc (b g o : Int) : Prop := (o > b ∧ o - g < -b) ∨ (o < -b ∧ o + g > b)
instance (b g o : Int) : Decidable (cyc b g o) := by unfold cyc; exact inferInstance
def settle (b g : Int) : Nat → Int → Int → Int × Bool
  | 0, _, n => (n, true)
  | d + 1, o, n => if (o.natAbs : Int) ≤ b then (n, true) else if cyc b g o then (0, false) else settle b g d (mv b g o 0) (n + 1)
theorem settle_cyc {b g M : Int} (h : ctl b g) (hM : 2000 ≤ M ∧ M ≤ 100000) {L : Nat → Int → Int → Option (Int × Bool)}
    (hL : ∀ k o n, far o → L (k + 1) o n = if n ≤ M then (if (o.natAbs : Int) ≤ b then some (n, true) else L k (mv b g o 0) (wrap64 (n + 1))) else some (0, false)) :
    ∀ (e : Nat) (o n : Int), n + e = M + 1 → 0 ≤ n → cyc b g o → Ev (fun k => L k o n) (0, false) := by
  intro e
  induction e with
  | zero =>
    intro o n hn h0 hc
    refine Ev.step (fun k => hL k o n (by unfold far; unfold cyc at hc; unfold ctl at h; omega)) (evNeg (by omega) (Ev.now _))
  | succ e ih =>
    intro o n hn h0 hc
    refine Ev.step (fun k => hL k o n (by unfold far; unfold cyc at hc; unfold ctl at h; omega)) (evPos (by omega) (evNeg (by unfold cyc at hc; unfold ctl at h; omega) ?_))
    rw [wrapi (by omega) (by omega)]
    refine ih _ _ (by omega) (by omega) ?_
    unfold cyc at hc ⊢; unfold mv; unfold ctl at h; omega
theorem settle_loop {b g M : Int} (h : ctl b g) (hM : 2000 ≤ M ∧ M ≤ 100000) {L : Nat → Int → Int → Option (Int × Bool)}
    (hL : ∀ k o n, far o → L (k + 1) o n = if n ≤ M then (if (o.natAbs : Int) ≤ b then some (n, true) else L k (mv b g o 0) (wrap64 (n + 1))) else some (0, false)) :
    ∀ (d : Nat) (o n : Int), (o.natAbs : Int) ≤ d → d ≤ 1000 → 0 ≤ n → n + d ≤ 2000 → Ev (fun k => L k o n) (settle b g d o n) := by
  intro d
  induction d with
  | zero =>
    intro o n ho hd h0 hn
    refine Ev.step (fun k => hL k o n (by unfold far; omega)) (evPos (by omega) (evPos (by unfold ctl at h; omega) (Ev.now _)))
  | succ d ih =>
    intro o n ho hd h0 hn
    refine Ev.step (fun k => hL k o n (by unfold far; omega)) (evPos (by omega) ?_)
    unfold settle
    refine evIte (fun _ => Ev.now _) (fun hb => ?_)
    rw [wrapi (by omega) (by omega)]
    by_cases hc : cyc b g o
    · rw [if_pos hc]
      refine settle_cyc h hM hL (M + 1 - (n + 1)).toNat _ _ (by omega) (by omega) ?_
      unfold cyc at hc ⊢; unfold mv; unfold ctl at h; omega
    · rw [if_neg hc]
      refine ih _ _ ?_ (by omega) (by omega) (by omega)
      unfold cyc at hc; unfold mv; unfold ctl at h; omega
def settles (b g o : Int) : Int × Bool := if ctl b g ∧ off o then settle b g 1000 o 0 else (0, false)
theorem specSettles_ev (b g o : Int) : Ev (fun k => spec_SettlesAfter.f k b g o) (settles b g o) := by
  have bad : ¬ (ctl b g ∧ off o) → Ev (fun k => spec_SettlesAfter.j0 k o true b g) (settles b g o) := fun h =>
    Ev.step (fun k => spec_SettlesAfter.j0.eq_2 ..) (evPos rfl (evNow (by unfold settles; rw [if_neg h])))
  unfold spec_SettlesAfter.f
  simp only [tkGood_eq, tkOffset_eq, Option.bind_some, decide_eq_true_eq]
  refine evBy (fun h => ?_) (fun h => bad (fun q => h q.1))
  by_cases h1 : off o
  · simp only [decide_eq_true h1, Bool.not_true]
    refine Ev.step (fun k => spec_SettlesAfter.j0.eq_2 ..) (evNeg (by simp) ?_)
    unfold settles; rw [if_pos ⟨h, h1⟩]
    refine settle_loop (M := 2000) h (by omega) (L := fun k o n => spec_SettlesAfter.l0 k o n b g) (fun k o n ho => ?_) 1000 o 0 (by unfold off at h1; omega) (by omega) (by omega) (by omega)
    rw [spec_SettlesAfter.l0]
    rw [l1Abs_eq (by unfold far at ho; omega), tkStep_eq h ho (by unfold far; omega)]
    rfl
  · simp only [decide_eq_false h1, Bool.not_false]
    exact bad (fun q => h1 q.2)
theorem implSettles_ev (b g o : Int) : Ev (fun k => impl_SettlesAfter.f k b g o) (settles b g o) := by
  have bad : ¬ (ctl b g ∧ off o) → Ev (fun k => impl_SettlesAfter.j0 k o true b g) (settles b g o) := fun h =>
    Ev.step (fun k => impl_SettlesAfter.j0.eq_2 ..) (evPos rfl (evNow (by unfold settles; rw [if_neg h])))
  unfold impl_SettlesAfter.f
  simp only [isController_eq, isOffset_eq, Option.bind_some, decide_eq_true_eq]
  refine evBy (fun h => ?_) (fun h => bad (fun q => h q.1))
  by_cases h1 : off o
  · simp only [decide_eq_true h1, Bool.not_true]
    refine Ev.step (fun k => impl_SettlesAfter.j0.eq_2 ..) (evNeg (by simp) ?_)
    unfold settles; rw [if_pos ⟨h, h1⟩]
    refine settle_loop (M := 2100) h (by omega) (L := fun k o n => impl_SettlesAfter.l0 k o n b g) (fun k o n ho => ?_) 1000 o 0 (by unfold off at h1; omega) (by omega) (by omega) (by omega)
    rw [impl_SettlesAfter.l0]
    rw [distance_eq (by unfold far at ho; omega) (by omega), moved_eq h ho (by unfold far; omega), Int.sub_zero]
    rfl
  · simp only [decide_eq_false h1, Bool.not_false]
    exact bad (fun q => h1 q.2)
-- ** trackmath
def sm : List Int → Int
  | [] => 0
  | d :: ds => d + sm ds
theorem mv_by (b g o d : Int) : mv b g o d = o + d + mvby b g o d := by
  unfold mv mvby; split
  · omega
  · split <;> omega
def lst : Int → List Int → Int
  | o, [] => o
  | _, x :: l => lst x l
theorem run_end {b g : Int} (hg : 1 ≤ g) : ∀ (ds : List Int) (o : Int), lst o (run b g o ds) = o + sm ds + (moreN b g o ds - lessN b g o ds) * g
  | [], o => by simp [run, lst, sm, moreN, lessN]
  | d :: ds, o => by
    have ih := run_end (b := b) hg ds (mv b g o d)
    simp only [run, lst, sm, moreN, lessN]
    rw [ih, mv_by]
    have hb : mvby b g o d = -g ∨ mvby b g o d = g ∨ mvby b g o d = 0 := by unfold mvby; omega
    generalize moreN b g (o + d + mvby b g o d) ds = M
    generalize lessN b g (o + d + mvby b g o d) ds = L
    rcases hb with e | e | e
    · rw [e, if_neg (show ¬ -g > 0 by omega), if_pos (show -g < 0 by omega), show (0 + M - (1 + L)) = M - L - 1 by omega, Int.sub_mul (M - L) 1 g, Int.one_mul]; omega
    · rw [e, if_pos (show g > 0 by omega), if_neg (show ¬ g < 0 by omega), show (1 + M - (0 + L)) = M - L + 1 by omega, Int.add_mul (M - L) 1 g, Int.one_mul]; omega
    · rw [e]
      simp only [show ¬ ((0 : Int) > 0) by omega, if_false]
      rw [show (0 + M - (0 + L)) = M - L by omega]; omega
def St (b : Int) : Int → List Int → Prop
  | _, [] => True
  | now, x :: l => b < (now.natAbs : Int) ∧ (l = [] → (x.natAbs : Int) ≤ b) ∧ St b x l
theorem settle_run {b g : Int} (h : ctl b g) : ∀ (d : Nat) (o n m : Int), settle b g d o n = (m, true) → (o.natAbs : Int) ≤ d → d ≤ 1000 → n ≤ m ∧ (m = n → (o.natAbs : Int) ≤ b) ∧ (run b g o (List.replicate (m - n).toNat 0)).all offB = true ∧ St b o (run b g o (List.replicate (m - n).toNat 0)) := by
  intro d
  induction d with
  | zero =>
    intro o n m hs ho hd
    obtain rfl : n = m := by simpa [settle] using hs
    refine ⟨by omega, fun _ => by unfold ctl at h; omega, ?_, ?_⟩
    · simp [run]
    · simp [run, St]
  | succ d ih =>
    intro o n m hs ho hd
    unfold settle at hs
    by_cases c : (o.natAbs : Int) ≤ b
    · rw [if_pos c] at hs
      obtain rfl : n = m := by simpa using hs
      refine ⟨by omega, fun _ => c, ?_, ?_⟩
      · simp [run]
      · simp [run, St]
    · rw [if_neg c] at hs
      by_cases c' : cyc b g o
      · rw [if_pos c'] at hs; simp at hs
      · rw [if_neg c'] at hs
        have hlt : ((mv b g o 0).natAbs : Int) ≤ d := by unfold cyc at c'; unfold mv; unfold ctl at h; omega
        obtain ⟨i1, i2, i3, i4⟩ := ih _ _ _ hs hlt (by omega)
        have e : (m - n).toNat = (m - (n + 1)).toNat + 1 := by omega
        rw [e, List.replicate_succ]
        simp only [run, List.all_cons, St]
        refine ⟨by omega, fun q => by omega, ?_, by omega, fun q => i2 ?_, i4⟩
        · rw [i3, Bool.and_true]; exact decide_eq_true (by unfold off; omega)
        · have := congrArg List.length q
          rw [run_length] at this; simp at this; omega
-- ** FnExactTrackRun
theorem specTrackRun_ev (b g o : Int) (ds : List Int) : Ev (fun k => spec_TrackRun.f k b g o ds) (trackRes b g o ds) := by
  unfold spec_TrackRun.f trackRes
  refine Ev.bind (tkAsked_ev b g o ds) (evIte (fun c => ?_) (fun c => Ev.now _))
  obtain ⟨h, h1, h2, h3⟩ := asked_iff.1 c
  refine Ev.bind (tkRun_ev h h1 h2 (by omega)) (evNow ?_)
  unfold tkRunRes runRes; split <;> rfl
theorem trackRes_len (b g o : Int) (ds : List Int) : (trackRes b g o ds).1.length ≤ ds.length := by
  unfold trackRes runRes
  split
  · split
    · simp [run_length]
    · simp
  · simp
-- ** FnExactWorstOffset
theorem specWorst_ev (b g o : Int) (ds : List Int) : Ev (fun k => spec_WorstOffset.f k b g o ds) (if asked b g o ds = true then worstRes b g o ds else (0, false)) := by
  unfold spec_WorstOffset.f
  refine Ev.bind (tkAsked_ev b g o ds) (evIte (fun c => ?_) (fun c => Ev.now _))
  obtain ⟨h, h1, h2, h3⟩ := asked_iff.1 c
  exact Ev.bind (tkWorst_ev h h1 h2 (by omega)) (Ev.now _)
-- ** FnExactTrackStep
def stp (b g o d : Int) : Int × Bool := if ctl b g ∧ off o ∧ (-50 ≤ d ∧ d ≤ 50) ∧ off (mv b g o d) then (mv b g o d, true) else (0, false)
theorem specStep_ev (b g o d : Int) : Ev (fun k => spec_TrackStep.f k b g o d) (stp b g o d) := by
  have bad : ¬ (ctl b g ∧ off o ∧ (-50 ≤ d ∧ d ≤ 50)) → Ev (fun k => spec_TrackStep.j0 k o d true b g) (stp b g o d) := fun h =>
    Ev.step (fun k => spec_TrackStep.j0.eq_2 ..) (evPos rfl (evNow (by unfold stp; rw [if_neg (fun q => h ⟨q.1, q.2.1, q.2.2.1⟩)])))
  unfold spec_TrackStep.f
  simp only [tkGood_eq, tkOffset_eq, in_eq, Option.bind_some, decide_eq_true_eq]
  refine evBy (fun h => evBy (fun h1 => ?_) (fun h1 => bad (fun q => h1 q.2.1))) (fun h => bad (fun q => h q.1))
  by_cases h2 : -50 ≤ d ∧ d ≤ 50
  · simp only [decide_eq_true h2, Bool.not_true]
    refine Ev.step (fun k => spec_TrackStep.j0.eq_2 ..) (evNeg (by simp) ?_)
    have ho : far o := by unfold off at h1; unfold far; omega
    have hd : far d := by unfold far; omega
    simp only [tkStep_eq h ho hd, tkOffset_eq, Option.bind_some, decide_eq_true_eq]
    refine evBy (fun h3 => evNow ?_) (fun h3 => evNow ?_)
    · unfold stp; rw [if_pos ⟨h, h1, h2, h3⟩]
    · unfold stp; rw [if_neg (fun q => h3 q.2.2.2)]
  · simp only [decide_eq_false h2, Bool.not_false]
    exact bad (fun q => h2 q.2.2)
theorem implStep_ev (b g o d : Int) : Ev (fun k => impl_TrackStep.f k b g o d) (stp b g o d) := by
  unfold impl_TrackStep.f
  simp only [isController_eq, isOffset_eq, Option.bind_some, decide_eq_true_eq]
  refine evBy (fun h => evBy (fun h1 => Ev.bind (areDrifts_ev [d] (by simp)) ?_) (fun h1 => evNow ?_)) (fun h => evNow ?_)
  · by_cases h2 : -50 ≤ d ∧ d ≤ 50
    · have ho : far o := by unfold off at h1; unfold far; omega
      have hd : far d := by unfold far; omega
      refine evPos (by simp [drf]; omega) ?_
      simp only [moved_eq h ho hd, isOffset_eq, Option.bind_some, decide_eq_true_eq]
      refine evBy (fun h3 => evNow ?_) (fun h3 => evNow ?_)
      · unfold stp; rw [if_pos ⟨h, h1, h2, h3⟩]
      · unfold stp; rw [if_neg (fun q => h3 q.2.2.2)]
    · refine evNeg (by simp [drf]; omega) (evNow ?_)
      unfold stp; rw [if_neg (fun q => h2 q.2.2.1)]
  · unfold stp; rw [if_neg (fun q => h1 q.2.1)]
  · unfold stp; rw [if_neg (fun q => h q.1)]
-- ** FnTracking
theorem qInts_l0 (l : List Int) (hl : l.length ≤ 1048576) : ∀ (suf pre : List Int), l = pre ++ suf → Ev (fun k => laws_qInts.l0 k l l (l.length : Int) (pre.length : Int)) true := by
  intro suf
  induction suf with
  | nil =>
    intro pre h
    exact Ev.step (fun k => laws_qInts.l0.eq_2 ..) (evNeg (rgEnd h) (Ev.now _))
  | cons x suf ih =>
    intro pre h
    obtain ⟨h1, h2, h3, h4, h5⟩ := rgHead h (by omega) 0
    refine Ev.step (fun k => laws_qInts.l0.eq_2 ..) ?_
    simp only [h1, h2, h3, if_true]
    exact ih _ h5
theorem qInts_ev {l : List Int} (hl : l.length ≤ 1048576) : Ev (fun k => laws_qInts.f k l l) true := by
  unfold laws_qInts.f; exact evPos rfl (qInts_l0 l hl l [] rfl)
theorem qAbs_eq {a : Int} (h : -1000000000 ≤ a ∧ a ≤ 1000000000) : laws_qAbs.f a = some (a.natAbs : Int) := by
  unfold laws_qAbs.f
  split
  · rw [wrapi (by omega) (by omega)]; congr 1; omega
  · congr 1; omega
theorem run_small {b g : Int} : ∀ {ds : List Int} {o : Int}, (run b g o ds).all offB = true → ∀ x, x ∈ run b g o ds → -1000 ≤ x ∧ x ≤ 1000 := by
  intro ds o h x hx
  exact offB_iff.1 (List.all_eq_true.1 h x hx)
theorem fin_l1 {b g : Int} (hc : ctl b g) (o w lo hi : Int) (ds rl : List Int) (hd : ds.length ≤ 100) (ho : off o) (hlo : -100 ≤ lo ∧ lo ≤ 100) (hhi : -100 ≤ hi ∧ hi ≤ 100) : ∀ (suf dpre rpre : List Int) (now far sum : Int), ds = dpre ++ suf → rl = rpre ++ run b g now suf → rpre.length = dpre.length →
    suf.all drf = true → off now → (run b g now suf).all offB = true → -5000 ≤ sum → sum ≤ 5000 → -50 * (dpre.length : Int) ≤ sum → sum ≤ 50 * (dpre.length : Int) → wst far (run b g now suf) = w → lst now (run b g now suf) = o + (sum + sm suf) + (hi - lo) * g →
    Ev (fun k => laws_FnTracking.l1 k o ds rl w lo hi now far sum ds (ds.length : Int) (dpre.length : Int) b g) true := by
  have hc' := hc
  unfold ctl at hc'
  have hpr : -20000 ≤ (hi - lo) * g ∧ (hi - lo) * g ≤ 20000 := by
    have h1 := Int.mul_le_mul_of_nonneg_right (show hi - lo ≤ 200 by omega) (show 0 ≤ g by omega)
    have h2 := Int.mul_le_mul_of_nonneg_right (show -200 ≤ hi - lo by omega) (show 0 ≤ g by omega)
    omega
  intro suf
  induction suf with
  | nil =>
    intro dpre rpre now far sum hds hrl hp _ hn _ s0 s1 s2 s3 hw he
    simp only [run, wst, lst, sm] at hw he hrl
    refine Ev.step (fun k => laws_FnTracking.l1.eq_2 ..) (evNeg (rgEnd hds) (evPos (by rw [hrl, hds]; simp; omega) (evPos hw (evNow ?_))))
    unfold off at ho
    rw [wrapi (x := hi - lo) (by omega) (by omega), wrapi (x := (hi - lo) * g) (by omega) (by omega), wrapi (x := o + sum) (by omega) (by omega), wrapi (x := o + sum + (hi - lo) * g) (by omega) (by omega), beq_iff_eq]
    omega
  | cons d suf ih =>
    intro dpre rpre now far sum hds hrl hp hs hn hall s0 s1 s2 s3 hw he
    simp only [run] at hrl hall hw he
    simp only [List.all_cons, Bool.and_eq_true] at hs hall
    simp only [wst, lst, sm] at hw he
    obtain ⟨h1, h2, h3, h4, h5⟩ := rgHead hds (by omega) 0
    obtain ⟨g1, g2, g3, g4, g5⟩ := rgHead hrl (by rw [hrl]; simp [run_length]; rw [hds] at hd; simp at hd; omega) 0
    have hdl : dpre.length + (suf.length + 1) ≤ 100 := by rw [hds] at hd; simpa using hd
    have hx := drf_iff.1 hs.1
    have hm := offB_iff.1 hall.1
    have e : (dpre.length : Int) = (rpre.length : Int) := by omega
    have hlt : (dpre.length : Int) < (rl.length : Int) := by omega
    have hst : stp b g now d = (mv b g now d, true) := by unfold stp; rw [if_pos ⟨hc, hn, hx, hm⟩]
    have hrd : rd rl (dpre.length : Int) = mv b g now d := by rw [e]; exact g4
    refine Ev.step (fun k => laws_FnTracking.l1.eq_2 ..) (evPos h1 (evPos h2 (evPos h1 ?_)))
    rw [show rd ds (dpre.length : Int) = d from h4]
    refine Ev.bind (implStep_ev b g now d) ?_
    rw [hst]
    refine evPos rfl (evPos hlt ?_)
    rw [hrd, bne_self_eq_false]
    refine Ev.step (fun k => laws_FnTracking.j6.eq_2 ..) (evNeg (by simp) (evPos h2 (evPos hlt ?_)))
    rw [hrd, qAbs_eq (by omega), h3, wrapi (x := sum + d) (by omega) (by omega)]
    simp only [Option.bind_some]
    have next := fun far' (hf : wst far' (run b g (mv b g now d) suf) = w) => ih (dpre ++ [d]) (rpre ++ [mv b g now d]) (mv b g now d) far' (sum + d) h5 g5 (by simp [hp]) hs.2 hm hall.2 (by omega) (by omega) (by simp; omega) (by simp; omega) hf (by omega)
    refine evBy (fun c => next _ (by rw [← hw, show max far ((mv b g now d).natAbs : Int) = ((mv b g now d).natAbs : Int) by omega])) (fun c => next _ (by rw [← hw, show max far ((mv b g now d).natAbs : Int) = far by omega]))
theorem set_l0 {o : Int} {ds rl : List Int} {b g : Int} {w lo hi : Int} {ok : Bool} (hj : Ev (fun k => laws_FnTracking.j4 k o ds ok rl w lo hi b g) true) (b2 g2 n : Int) (hb : 0 ≤ b2) (l : List Int) (hl : (l.length : Int) = n) (hn : n ≤ 1000) : ∀ (suf pre : List Int) (now : Int), l = pre ++ suf → St b2 now suf → -1000 ≤ now ∧ now ≤ 1000 → (∀ x, x ∈ suf → -1000 ≤ x ∧ x ≤ 1000) →
    Ev (fun k => laws_FnTracking.l0 k o ds ok rl w lo hi n now l (l.length : Int) (pre.length : Int) b g b2 g2) true := by
  intro suf
  induction suf with
  | nil =>
    intro pre now h _ _ _
    exact Ev.step (fun k => laws_FnTracking.l0.eq_2 ..) (evNeg (rgEnd h) hj)
  | cons x suf ih =>
    intro pre now h hS hnw hx
    obtain ⟨h1, h2, h3, h4, h5⟩ := rgHead h (by omega) 0
    obtain ⟨q1, q2, q3⟩ := hS
    have hxx := hx x (by simp)
    have hlen : (l.length : Int) = (pre.length : Int) + ((suf.length : Int) + 1) := by rw [h]; simp
    refine Ev.step (fun k => laws_FnTracking.l0.eq_2 ..) (evPos h1 (evPos h2 (evPos h1 ?_)))
    rw [qAbs_eq (by omega), show rd l (pre.length : Int) = x from h4, qAbs_eq (by omega), h3]
    simp only [Option.bind_some]
    have next := ih (pre ++ [x]) x h5 q3 hxx (fun y hy => hx y (by simp [hy]))
    refine evNeg (by omega) (evBy (fun c => evNeg ?_ next) (fun _ => next))
    have : suf = [] := List.eq_nil_of_length_eq_zero (by simp at c; omega)
    have := q2 this
    omega
theorem zeros_drf : ∀ n : Nat, (List.replicate n (0 : Int)).all drf = true
  | 0 => rfl
  | n + 1 => by rw [List.replicate_succ, List.all_cons, zeros_drf n]; rfl
theorem track_j0 {o : Int} {ds rl : List Int} {b g : Int} {w lo hi : Int} {ok : Bool} (hj : Ev (fun k => laws_FnTracking.j4 k o ds ok rl w lo hi b g) true) (b2 g2 o2 : Int) :
    Ev (fun k => laws_FnTracking.j0 k o ds ok rl w lo hi o2 (settles b2 g2 o2).2 (settles b2 g2 o2).1 false b g b2 g2) true := by
  have no : ∀ n : Int, Ev (fun k => laws_FnTracking.j1 k o ds ok rl w lo hi o2 n false b g b2 g2) true := fun n => Ev.step (fun k => laws_FnTracking.j1.eq_2 ..) (evNeg (by simp) hj)
  refine Ev.step (fun k => laws_FnTracking.j0.eq_2 ..) (evNeg (by simp) (evBy (fun c => ?_) (fun _ => no _)))
  by_cases c1 : (settles b2 g2 o2).1 ≤ 100
  · rw [decide_eq_true c1]
    have hs : ctl b2 g2 ∧ off o2 := by
      refine Decidable.byContradiction fun q => ?_
      unfold settles at c; rw [if_neg q] at c; simp at c
    have he : settle b2 g2 1000 o2 0 = ((settles b2 g2 o2).1, true) := by
      have e : settles b2 g2 o2 = settle b2 g2 1000 o2 0 := by unfold settles; rw [if_pos hs]
      rw [← c, e]
    generalize (settles b2 g2 o2).1 = n at he c1
    have ho := hs.2
    unfold off at ho
    obtain ⟨n0, _, hall, hS⟩ := settle_run hs.1 1000 o2 0 n he (by omega) (by omega)
    rw [Int.sub_zero] at hall hS
    have hk : asked b2 g2 o2 (List.replicate n.toNat 0) = true := asked_iff.2 ⟨hs.1, hs.2, zeros_drf _, by simp; omega⟩
    have ht : trackRes b2 g2 o2 (List.replicate n.toNat 0) = (run b2 g2 o2 (List.replicate n.toNat 0), true) := by
      unfold trackRes runRes; rw [if_pos hk, if_pos hall]
    have hlen : (run b2 g2 o2 (List.replicate n.toNat 0)).length = n.toNat := by rw [run_length]; simp
    refine Ev.step (fun k => laws_FnTracking.j1.eq_2 ..) (evPos rfl (evPos n0 (evPos (by omega) ?_)))
    simp only [Option.bind_some]
    refine Ev.bind (implTrackRun_ev b2 g2 o2 _ (by simp; omega)) (Ev.bind (specTrackRun_ev b2 g2 o2 _) ?_)
    rw [ht]
    refine evPos rfl (evPos rfl (Ev.bind (qInts_ev (by rw [hlen]; omega)) (Ev.step (fun k => laws_FnTracking.j2.eq_2 ..) (evNeg (by simp) ?_))))
    have hb := hs.1
    unfold ctl at hb
    exact set_l0 hj b2 g2 n (by omega) _ (by rw [hlen]; omega) (by omega) _ [] o2 rfl hS ho (run_small hall)
  · rw [decide_eq_false c1]; exact no _
theorem FnTracking (l0 l1 : List Int) (w0 : Opn.Lst Opn.Byte l0) (w1 : Opn.Lst Opn.Byte l1) : ∃ k, laws_FnTracking.f k l0 l1 = some true := by
  refine Ev.rounds (g := fun k => laws_FnTracking.f k l0 l1) ?_
  unfold laws_FnTracking.f
  refine evBy (fun _ => Ev.now _) (fun _ => ?_)
  obtain ⟨b, g, o, ds, hD, hds⟩ := drawRun_ok (l := l0) w0.2
  obtain ⟨b1, g1, o1, d1, hS⟩ := drawStep_ok (l := l1) w1.2
  obtain ⟨b2, g2, o2, hT⟩ := drawSettles_ok (l := l1) w1.2
  have hl : ds.length ≤ 1048576 := by omega
  refine Ev.bind hD (Ev.bind (implTrackRun_ev b g o ds hl) (Ev.bind (specTrackRun_ev b g o ds) (Ev.bind (implWorst_ev b g o ds hl) (Ev.bind (specWorst_ev b g o ds) (Ev.bind (implMoves_ev b g o ds hl) (Ev.bind (specMoves_ev b g o ds) (evC hS (Ev.bind (implStep_ev b1 g1 o1 d1) (Ev.bind (specStep_ev b1 g1 o1 d1) (evC hT (Ev.bind (implSettles_ev b2 g2 o2) (Ev.bind (specSettles_ev b2 g2 o2) ?_))))))))))))
  have htl := trackRes_len b g o ds
  simp only [bne_self_eq_false, Bool.false_eq_true, if_false, if_true]
  refine Ev.bind (qInts_ev (by omega)) (evPos rfl ?_)
  by_cases a : asked b g o ds = true ∧ (run b g o ds).all offB = true
  · obtain ⟨hc, ho, h2, h3⟩ := asked_iff.1 a.1
    have e1 : trackRes b g o ds = (run b g o ds, true) := by unfold trackRes runRes; rw [if_pos a.1, if_pos a.2]
    have e2 : (if asked b g o ds = true then worstRes b g o ds else (0, false)) = (wst (o.natAbs : Int) (run b g o ds), true) := by unfold worstRes; rw [if_pos a.1, if_pos a.2]
    have e3 : movesRes b g o ds = (lessN b g o ds, moreN b g o ds, true) := by unfold movesRes; rw [if_pos a]
    rw [e1, e2, e3]
    have b1 := lessN_bd b g o ds
    have b2' := moreN_bd b g o ds
    have hg : 1 ≤ g := hc.2.2.1
    have hj : Ev (fun k => laws_FnTracking.j4 k o ds true (run b g o ds) (wst (o.natAbs : Int) (run b g o ds)) (lessN b g o ds) (moreN b g o ds) b g) true := by
      refine Ev.step (fun k => laws_FnTracking.j4.eq_2 ..) (evPos rfl ?_)
      have ho' := ho
      unfold off at ho'
      rw [qAbs_eq (by omega)]
      simp only [Option.bind_some]
      exact fin_l1 hc o _ _ _ ds _ h3 ho (by omega) (by omega) ds [] [] o _ 0 rfl rfl rfl h2 ho a.2 (by omega) (by omega) (by simp) (by simp) rfl (by rw [run_end hg]; omega)
    refine evNeg (by simp) ?_
    exact track_j0 hj b2 g2 o2
  · have e1 : trackRes b g o ds = ([], false) := by
      unfold trackRes runRes
      by_cases q : asked b g o ds = true
      · rw [if_pos q, if_neg (fun z => a ⟨q, z⟩)]
      · rw [if_neg q]
    have e2 : (if asked b g o ds = true then worstRes b g o ds else (0, false)) = (0, false) := by
      unfold worstRes
      by_cases q : asked b g o ds = true
      · rw [if_pos q, if_neg (fun z => a ⟨q, z⟩)]
      · rw [if_neg q]
    have e3 : movesRes b g o ds = (0, 0, false) := by unfold movesRes; rw [if_neg a]
    rw [e1, e2, e3]
    have hj : Ev (fun k => laws_FnTracking.j4 k o ds false [] 0 0 0 b g) true := Ev.step (fun k => laws_FnTracking.j4.eq_2 ..) (evNeg (by simp) (Ev.now _))
    refine evNeg (by simp) ?_
    exact track_j0 hj b2 g2 o2
end Go.Proofs.Ytepkedhmbfkenaa.Pure
