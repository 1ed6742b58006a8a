/- For every drawn controllers, reached offsets stay within the safe bound, least gains keep a limit, and drifts that drive it out do. (P18): the plain part: what the program computes and what the reference computes agree, for all arguments. No conditions beyond the arguments' own kinds. -/
import Derived.Test.YtepkedhmbfkenaaPTbx0
import Derived.Test.YtepkedhmbfkenaaPTbx1
import Derived.Test.YtepkedhmbfkenaaPTbx2
import Derived.Test.YtepkedhmbfkenaaPTbx3
import Derived.Test.YtepkedhmbfkenaaPTbx4
import Derived.Test.YtepkedhmbfkenaaPTbx5
import Derived.Test.YtepkedhmbfkenaaPTbx6
import Derived.Test.YtepkedhmbfkenaaPTbx7
import Derived.Test.YtepkedhmbfkenaaPTbx8
import Derived.Test.YtepkedhmbfkenaaPTbx9
import Derived.Test.YtepkedhmbfkenaaPTbx10
import Derived.Test.YtepkedhmbfkenaaPTbx11
import Derived.Test.YtepkedhmbfkenaaPTbx12
import Derived.Test.YtepkedhmbfkenaaPTbx13
import Derived.Test.YtepkedhmbfkenaaPTbx14
import Derived.Test.YtepkedhmbfkenaaOpn
namespace Go.Proofs.Ytepkedhmbfkenaa.Pure
open Go.RowKit Go.Proofs.Ytepkedhmbfkenaa.PTb Go.Proofs.YtepkedhmbfkenaaW.PrintWords Go.Proofs.YtepkedhmbfkenaaW.PrintLast Go.Proofs.YtepkedhmbfkenaaW.PrintMore
-- ** base
theorem wrapi {x : Int} (h0 : -9223372036854775808 ≤ x) (h1 : x ≤ 9223372036854775807) : wrap64 x = x := by unfold wrap64; omega
theorem evPos {α : Type} {c : Prop} [Decidable c] {g f : Nat → Option α} {r : α} (h : c) (e : Ev g r) : Ev (fun k => if c then g k else f k) r := by
  simp only [if_pos h]; exact e
theorem evNeg {α : Type} {c : Prop} [Decidable c] {g f : Nat → Option α} {r : α} (h : ¬ c) (e : Ev f r) : Ev (fun k => if c then g k else f k) r := by
  simp only [if_neg h]; exact e
theorem evC {α β : Type} {o : Option α} {f : Nat → α → Option β} {a : α} {r : β} (h : o = some a) (e : Ev (fun n => f n a) r) : Ev (fun n => o.bind (f n)) r := by
  subst h; exact e
theorem evNow {α : Type} {r q : α} (h : r = q) : Ev (fun _ => some r) q := by subst h; exact Ev.now r
theorem evEq {α : Type} {g : Nat → Option α} {r q : α} (h : Ev g r) (e : r = q) : Ev g q := e ▸ h
theorem evIte {α : Type} {c : Prop} [Decidable c] {g f : Nat → Option α} {r q : α} (h : c → Ev g r) (h' : ¬ c → Ev f q) : Ev (fun k => if c then g k else f k) (if c then r else q) := by
  by_cases hc : c
  · simp only [if_pos hc]; exact h hc
  · simp only [if_neg hc]; exact h' hc
theorem evBy {α : Type} {c : Prop} [Decidable c] {g f : Nat → Option α} {r : α} (h : c → Ev g r) (h' : ¬ c → Ev f r) : Ev (fun k => if c then g k else f k) r := by
  by_cases hc : c
  · simp only [if_pos hc]; exact h hc
  · simp only [if_neg hc]; exact h' hc
theorem someF {p : Prop} [Decidable p] (h : ¬ p) : some false = some (decide p) := by rw [decide_eq_false h]
theorem someD {p q : Prop} [Decidable p] [Decidable q] (h : p ↔ q) : some (decide p) = some (decide q) := by rw [decide_eq_decide.mpr h]
theorem decT {p : Prop} [Decidable p] (h : p) : true = decide p := by rw [decide_eq_true h]
theorem decD {p q : Prop} [Decidable p] [Decidable q] (h : p ↔ q) : decide p = decide q := decide_eq_decide.mpr h
theorem allBad {α : Type} {p : α → Bool} {x : α} {suf : List α} {q : Bool} (h : p x = false) : false = ((x :: suf).all p && q) := by simp [h]
theorem allGood {α : Type} {p : α → Bool} {x : α} {suf : List α} {q : Bool} (h : p x = true) : (suf.all p && q) = ((x :: suf).all p && q) := by simp [h]
theorem rgEnd {α : Type} {l pre : List α} (h : l = pre ++ []) : ¬ ((pre.length : Int) < (l.length : Int)) := by subst h; simp
theorem rgHead {α : Type} {l pre suf : List α} {x : α} (h : l = pre ++ x :: suf) (hl : l.length ≤ 4611686018427387904) (z : α) :
    (pre.length : Int) < (l.length : Int) ∧ (0 : Int) ≤ (pre.length : Int) ∧ wrap64 ((pre.length : Int) + 1) = ((pre ++ [x]).length : Int) ∧ l.getD (pre.length : Int).toNat z = x ∧ l = (pre ++ [x]) ++ suf := by
  subst h
  simp at hl
  refine ⟨by simp; omega, by omega, ?_, by simp, by simp⟩
  rw [wrapi (by omega) (by omega)]; simp
theorem in_eq (a b c : Int) : spec_l1In.f a b c = some (decide (b ≤ a ∧ a ≤ c)) := by
  unfold spec_l1In.f
  split
  · exact someD (by omega)
  · exact someF (by omega)
theorem mx_eq (a b : Int) : mx a b = max a b := by unfold mx; omega
-- ** qints
theorem qInts_l0 (l : List Int) (hl : l.length ≤ 1048576) : ∀ (suf pre : List Int), l = pre ++ suf → Ev (fun k => laws_qInts.l0 k l l (l.length : Int) (pre.length : Int)) true := by
  intro suf
  induction suf with
  | nil =>
    intro pre h
    exact Ev.step (fun k => laws_qInts.l0.eq_2 ..) (evNeg (rgEnd h) (Ev.now _))
  | cons x suf ih =>
    intro pre h
    obtain ⟨h1, h2, h3, h4, h5⟩ := rgHead h (by omega) 0
    refine Ev.step (fun k => laws_qInts.l0.eq_2 ..) ?_
    simp only [h1, h2, h3, if_true]
    exact ih _ h5
theorem qInts_ev {l : List Int} (hl : l.length ≤ 1048576) : Ev (fun k => laws_qInts.f k l l) true := by
  unfold laws_qInts.f; exact evPos rfl (qInts_l0 l hl l [] rfl)
theorem qAbs_eq {a : Int} (h : -1000000000 ≤ a ∧ a ≤ 1000000000) : laws_qAbs.f a = some (a.natAbs : Int) := by
  unfold laws_qAbs.f
  split
  · rw [wrapi (by omega) (by omega)]; congr 1; omega
  · congr 1; omega
-- ** draws
theorem and255 (y : Int) : 0 ≤ wrap64 (Go.bits .and .u64 (IntKind.u64.wrap y / 1099511627776) 255) ∧ wrap64 (Go.bits .and .u64 (IntKind.u64.wrap y / 1099511627776) 255) ≤ 255 := by
  have h : 0 ≤ IntKind.u64.wrap y / 1099511627776 ∧ IntKind.u64.wrap y / 1099511627776 < 18446744073709551616 := by rw [IntKind.wrap_u64]; omega
  generalize IntKind.u64.wrap y / 1099511627776 = x at h
  have e := Go.bits_and_u64_nat x.toNat 255 (by omega) (by omega)
  rw [show ((x.toNat : Nat) : Int) = x by omega] at e
  have l : x.toNat &&& 255 ≤ 255 := Nat.and_le_right
  rw [show Go.bits .and .u64 x 255 = ((x.toNat &&& 255 : Nat) : Int) from e, wrapi (by omega) (by omega)]
  omega
def bytes (l : List Int) : Prop := ∀ x, x ∈ l → 0 ≤ x ∧ x ≤ 255
theorem next_ok {l : List Int} (hl : bytes l) {a : Int} (s : Int) (h0 : 0 ≤ a) (h1 : a ≤ 1000000000) : ∃ v s', spec_l1Cur_next.f l a s = some (v, a + 1, s') ∧ 0 ≤ v ∧ v ≤ 255 := by
  unfold spec_l1Cur_next.f
  rw [wrapi (x := a + 1) (by omega) (by omega)]
  by_cases c : a < (l.length : Int)
  · have hr : 0 ≤ rd l a ∧ rd l a ≤ 255 := hl _ (by unfold rd; rw [List.getD_eq_getElem?_getD, List.getElem?_eq_getElem (by omega), Option.getD_some]; exact List.getElem_mem _)
    rw [if_pos c, if_pos h0]
    split
    · exact ⟨_, _, rfl, by rw [wrapi (by omega) (by omega)]; omega⟩
    · exact ⟨_, _, rfl, and255 _⟩
  · rw [if_neg c]
    split
    · exact ⟨_, _, rfl, by omega⟩
    · exact ⟨_, _, rfl, and255 _⟩
theorem pick_ok {l : List Int} (hl : bytes l) {a : Int} (s : Int) (h0 : 0 ≤ a) (h1 : a ≤ 900000000) {m : Int} (hm : m ≤ 65000) : ∃ v a' s', spec_l1Cur_pick.f l a s m = some (v, a', s') ∧ (0 ≤ v ∧ (1 ≤ m → v < m)) ∧ a ≤ a' ∧ a' ≤ a + 2 := by
  unfold spec_l1Cur_pick.f
  by_cases c : m ≤ 1
  · rw [if_pos c]; exact ⟨_, _, _, rfl, by omega⟩
  · rw [if_neg c]
    obtain ⟨v, s', e, hv⟩ := next_ok hl s h0 (by omega)
    rw [e]
    simp only [Option.bind_some]
    by_cases c1 : m > 200
    · obtain ⟨v2, s2, e2, hv2⟩ := next_ok hl s' (show 0 ≤ a + 1 by omega) (by omega)
      rw [if_pos c1, e2]
      simp only [Option.bind_some]
      rw [if_neg (by omega), wrapi (x := v * 256) (by omega) (by omega), wrapi (x := v * 256 + v2) (by omega) (by omega)]
      exact ⟨_, _, _, rfl, ⟨Int.tmod_nonneg _ (by omega), fun _ => Int.tmod_lt_of_pos _ (by omega)⟩, by omega, by omega⟩
    · rw [if_neg c1, if_neg (by omega)]
      exact ⟨_, _, _, rfl, ⟨Int.tmod_nonneg _ (by omega), fun _ => Int.tmod_lt_of_pos _ (by omega)⟩, by omega, by omega⟩
theorem among_ok {l : List Int} (hl : bytes l) {a : Int} (s : Int) (h0 : 0 ≤ a) (h1 : a ≤ 900000000) {q : List Int} (hq : 1 ≤ q.length ∧ q.length ≤ 1000) : ∃ v a' s', spec_l1Cur_among.f l a s q = some (v, a', s') ∧ a ≤ a' ∧ a' ≤ a + 2 := by
  unfold spec_l1Cur_among.f
  obtain ⟨v, a', s', e, hv, ha⟩ := pick_ok hl s h0 h1 (m := (q.length : Int)) (by omega)
  rw [e]
  simp only [Option.bind_some]
  rw [if_pos hv.1, if_pos (hv.2 (by omega))]
  exact ⟨_, _, _, rfl, ha⟩
theorem one_ok {l : List Int} (hl : bytes l) {a : Int} (s : Int) (h0 : 0 ≤ a) (h1 : a ≤ 900000000) {m : Int} (hm : m ≤ 65000) : ∃ v a' s', spec_l1Cur_one.f l a s m = some (v, a', s') ∧ a ≤ a' ∧ a' ≤ a + 2 := by
  unfold spec_l1Cur_one.f
  obtain ⟨v, a', s', e, hv, ha⟩ := pick_ok hl s h0 h1 hm
  rw [e]
  exact ⟨_, _, _, rfl, ha⟩
theorem controller_ok {l : List Int} (hl : bytes l) {a : Int} (s : Int) (h0 : 0 ≤ a) (h1 : a ≤ 800000000) : ∃ b g a' s', spec_l1Cur_controller.f l a s = some (b, g, a', s') ∧ a ≤ a' ∧ a' ≤ a + 12 := by
  unfold spec_l1Cur_controller.f
  obtain ⟨v1, a1, s1, e1, _, h1a⟩ := pick_ok hl s h0 (by omega) (m := 60) (by omega)
  rw [e1]; simp only [Option.bind_some]
  obtain ⟨v2, a2, s2, e2, h2a⟩ := among_ok hl s1 (show 0 ≤ a1 by omega) (by omega) (q := [0, 5, 20, v1, 200]) (by simp)
  rw [e2]; simp only [Option.bind_some]
  obtain ⟨v3, a3, s3, e3, _, h3a⟩ := pick_ok hl s2 (show 0 ≤ a2 by omega) (by omega) (m := 60) (by omega)
  rw [e3]; simp only [Option.bind_some]
  obtain ⟨v4, a4, s4, e4, h4a⟩ := among_ok hl s3 (show 0 ≤ a3 by omega) (by omega) (q := [1, 5, 20, wrap64 (1 + v3), 100]) (by simp)
  rw [e4]; simp only [Option.bind_some]
  obtain ⟨v5, a5, s5, e5, _, h5a⟩ := pick_ok hl s4 (show 0 ≤ a4 by omega) (by omega) (m := 24) (by omega)
  rw [e5]; simp only [Option.bind_some]
  by_cases c : v5 = 0
  · obtain ⟨v6, a6, s6, e6, h6a⟩ := among_ok hl s5 (show 0 ≤ a5 by omega) (by omega) (q := [(-1), 201]) (by simp)
    rw [if_pos c, e6]
    exact ⟨v6, v4, a6, s6, rfl, by omega, by omega⟩
  · by_cases c' : v5 = 1
    · obtain ⟨v6, a6, s6, e6, h6a⟩ := among_ok hl s5 (show 0 ≤ a5 by omega) (by omega) (q := [0, 101]) (by simp)
      rw [if_neg c, if_pos c', e6]
      exact ⟨v2, v6, a6, s6, rfl, by omega, by omega⟩
    · rw [if_neg c, if_neg c']
      exact ⟨v2, v4, a5, s5, rfl, by omega, by omega⟩
theorem offset_ok {l : List Int} (hl : bytes l) {a : Int} (s : Int) (h0 : 0 ≤ a) (h1 : a ≤ 800000000) : ∃ o a' s', spec_l1Cur_offset.f l a s = some (o, a', s') ∧ a ≤ a' ∧ a' ≤ a + 6 := by
  unfold spec_l1Cur_offset.f
  obtain ⟨v1, a1, s1, e1, _, h1a⟩ := pick_ok hl s h0 (by omega) (m := 200) (by omega)
  rw [e1]; simp only [Option.bind_some]
  obtain ⟨v2, a2, s2, e2, h2a⟩ := among_ok hl s1 (show 0 ≤ a1 by omega) (by omega) (q := [1001, (-1001)]) (by simp)
  rw [e2]; simp only [Option.bind_some]
  obtain ⟨v3, a3, s3, e3, h3a⟩ := among_ok hl s2 (show 0 ≤ a2 by omega) (by omega) (q := [0, 0, 5, (-20), wrap64 (v1 - 100), 1000, (-1000), v2]) (by simp)
  rw [e3]
  exact ⟨v3, a3, s3, rfl, by omega, by omega⟩
-- ** draws2
theorem greatest_ok {l : List Int} (hl : bytes l) {a : Int} (s : Int) (h0 : 0 ≤ a) (h1 : a ≤ 800000000) : ∃ m a' s', spec_l1Cur_greatestDrift.f l a s = some (m, a', s') ∧ a ≤ a' ∧ a' ≤ a + 6 := by
  unfold spec_l1Cur_greatestDrift.f
  obtain ⟨v1, a1, s1, e1, _, h1a⟩ := pick_ok hl s h0 (by omega) (m := 51) (by omega)
  rw [e1]; simp only [Option.bind_some]
  obtain ⟨v2, a2, s2, e2, h2a⟩ := among_ok hl s1 (show 0 ≤ a1 by omega) (by omega) (q := [51, (-1)]) (by simp)
  rw [e2]; simp only [Option.bind_some]
  obtain ⟨v3, a3, s3, e3, h3a⟩ := among_ok hl s2 (show 0 ≤ a2 by omega) (by omega) (q := [0, 1, 3, 10, v1, 50, v2]) (by simp)
  rw [e3]
  exact ⟨v3, a3, s3, rfl, by omega, by omega⟩
theorem drawSafe_ok {l : List Int} (hl : bytes l) : ∃ b g m, spec_DrawSafeBound.f l = some (b, g, m) := by
  unfold spec_DrawSafeBound.f
  obtain ⟨b, g, a1, s1, e1, h1a⟩ := controller_ok hl 0 (a := 0) (by omega) (by omega)
  rw [e1]; simp only [Option.bind_some]
  obtain ⟨o, a2, s2, e2, h2a⟩ := greatest_ok hl s1 (show 0 ≤ a1 by omega) (by omega)
  rw [e2]
  exact ⟨_, _, _, rfl⟩
theorem drawIs_ok {l : List Int} (hl : bytes l) : ∃ b g, spec_DrawIsController.f l = some (b, g) := by
  unfold spec_DrawIsController.f
  obtain ⟨b, g, a1, s1, e1, h1a⟩ := controller_ok hl 0 (a := 0) (by omega) (by omega)
  rw [e1]
  exact ⟨_, _, rfl⟩
theorem drawDriven_ok {l : List Int} (hl : bytes l) : ∃ b g m lim, spec_DrawDrivenOut.f l = some (b, g, m, lim) := by
  unfold spec_DrawDrivenOut.f
  obtain ⟨b, g, a1, s1, e1, h1a⟩ := controller_ok hl 0 (a := 0) (by omega) (by omega)
  rw [e1]; simp only [Option.bind_some]
  obtain ⟨o, a2, s2, e2, h2a⟩ := greatest_ok hl s1 (show 0 ≤ a1 by omega) (by omega)
  rw [e2]; simp only [Option.bind_some]
  obtain ⟨v1, a3, s3, e3, _, h3a⟩ := pick_ok hl s2 (show 0 ≤ a2 by omega) (by omega) (m := 100) (by omega)
  rw [e3]; simp only [Option.bind_some]
  obtain ⟨v2, a4, s4, e4, h4a⟩ := among_ok hl s3 (show 0 ≤ a3 by omega) (by omega) (q := [2001, (-1)]) (by simp)
  rw [e4]; simp only [Option.bind_some]
  obtain ⟨v3, a5, s5, e5, h5a⟩ := among_ok hl s4 (show 0 ≤ a4 by omega) (by omega) (q := [0, 5, 20, v1, 2000, v2]) (by simp)
  rw [e5]
  exact ⟨_, _, _, _, rfl⟩
theorem driftsB_j2 {l : List Int} (hl : bytes l) {a : Int} (s : Int) (h0 : 0 ≤ a) (h1 : a ≤ 700000000) (x : List Int) (n : Int) (hx : (x.length : Int) = n) (hn : n ≤ 200) (f : Bool) (hf : f = true → 0 < n) : ∃ r a' s', Ev (fun k => spec_l1Cur_drifts.j2 k x n f l a s) (r, a', s') ∧ r.length = x.length ∧ a ≤ a' ∧ a' ≤ a + 4 := by
  cases f with
  | false => exact ⟨x, a, s, Ev.step (fun k => spec_l1Cur_drifts.j2.eq_2 ..) (evNeg (by simp) (Ev.now _)), rfl, by omega, by omega⟩
  | true =>
    have hp := hf rfl
    obtain ⟨v1, a1, s1, e1, hv, h1a⟩ := pick_ok hl s h0 (by omega) (m := n) (by omega)
    obtain ⟨v2, a2, s2, e2, h2a⟩ := among_ok hl s1 (show 0 ≤ a1 by omega) (by omega) (q := [51, (-51)]) (by simp)
    have hv2 := hv.2 (by omega)
    refine ⟨x.set v1.toNat v2, a2, s2, Ev.step (fun k => spec_l1Cur_drifts.j2.eq_2 ..) (evPos rfl ?_), by simp, by omega, by omega⟩
    simp only [e1, Option.bind_some, e2]
    exact evPos hv.1 (evPos (by omega) (Ev.now _))
theorem driftsB_l0 {l : List Int} (hl : bytes l) (n one : Int) (hn : n ≤ 200) : ∀ (d : Nat) (x : List Int) (a s : Int), (x.length : Int) + d = n → 0 ≤ a → a + 10 * (d : Int) ≤ 600000000 → ∃ r a' s', Ev (fun k => spec_l1Cur_drifts.l0 k x n one l a s) (r, a', s') ∧ (r.length : Int) = n ∧ a ≤ a' ∧ a' ≤ a + 10 * (d : Int) + 10 := by
  intro d
  induction d with
  | zero =>
    intro x a s hx h0 h1
    by_cases c : n > 0
    · obtain ⟨f, a1, s1, e1, h1a⟩ := one_ok hl s h0 (by omega) (m := 24) (by omega)
      obtain ⟨r, a', s', hE, hr, hb⟩ := driftsB_j2 hl s1 (show 0 ≤ a1 by omega) (by omega) x n (by omega) hn f (fun _ => by omega)
      refine ⟨r, a', s', Ev.step (fun k => spec_l1Cur_drifts.l0.eq_2 ..) (evNeg (by omega) (evPos c ?_)), by omega, by omega, by omega⟩
      simp only [e1, Option.bind_some]
      exact hE
    · obtain ⟨r, a', s', hE, hr, hb⟩ := driftsB_j2 hl s h0 (by omega) x n (by omega) hn false (fun q => by simp at q)
      exact ⟨r, a', s', Ev.step (fun k => spec_l1Cur_drifts.l0.eq_2 ..) (evNeg (by omega) (evNeg c hE)), by omega, by omega, by omega⟩
  | succ d ih =>
    intro x a s hx h0 h1
    obtain ⟨v1, a1, s1, e1, _, h1a⟩ := pick_ok hl s h0 (by omega) (m := 101) (by omega)
    obtain ⟨v2, a2, s2, e2, h2a⟩ := among_ok hl s1 (show 0 ≤ a1 by omega) (by omega) (q := [one, one, 0, wrap64 (-one), wrap64 (v1 - 50)]) (by simp)
    obtain ⟨r, a', s', hE, hr, hb⟩ := ih (x ++ [v2]) a2 s2 (by simp; omega) (by omega) (by omega)
    refine ⟨r, a', s', Ev.step (fun k => spec_l1Cur_drifts.l0.eq_2 ..) (evPos (by omega) ?_), hr, by omega, by omega⟩
    simp only [e1, Option.bind_some, e2]
    exact evPos (by omega) hE
theorem driftsB_ok {l : List Int} (hl : bytes l) {a : Int} (s : Int) (h0 : 0 ≤ a) (h1 : a ≤ 1000) : ∃ r a' s', Ev (fun k => spec_l1Cur_drifts.f k l a s) (r, a', s') ∧ r.length ≤ 200 ∧ a ≤ a' ∧ a' ≤ a + 5000 := by
  unfold spec_l1Cur_drifts.f
  obtain ⟨v1, a1, s1, e1, hv1, h1a⟩ := pick_ok hl s h0 (by omega) (m := 12) (by omega)
  obtain ⟨f, a2, s2, e2, h2a⟩ := one_ok hl s1 (show 0 ≤ a1 by omega) (by omega) (m := 20) (by omega)
  simp only [e1, Option.bind_some, e2]
  have hv := hv1.2 (by omega)
  have go : ∀ (n a s : Int), 0 ≤ n → n ≤ 200 → 0 ≤ a → a ≤ 2000 → ∃ r a' s', Ev (fun k => spec_l1Cur_drifts.j0 k [] n l a s) (r, a', s') ∧ r.length ≤ 200 ∧ a ≤ a' ∧ a' ≤ a + 2100 := by
    intro n a s hn0 hn h0 h1
    obtain ⟨v3, a3, s3, e3, h3a⟩ := among_ok hl s h0 (by omega) (q := [3, 10, (-10), 50]) (by simp)
    obtain ⟨r, a', s', hE, hr, hb⟩ := driftsB_l0 hl n v3 hn n.toNat [] a3 s3 (by simp; omega) (by omega) (by omega)
    refine ⟨r, a', s', Ev.step (fun k => spec_l1Cur_drifts.j0.eq_2 ..) ?_, by omega, by omega, by omega⟩
    simp only [e3, Option.bind_some]
    exact hE
  cases f with
  | true =>
    obtain ⟨v3, a3, s3, e3, hv3, h3a⟩ := pick_ok hl s2 (show 0 ≤ a2 by omega) (by omega) (m := 2) (by omega)
    have := hv3.2 (by omega)
    obtain ⟨r, a', s', hE, hr, hb⟩ := go (wrap64 (100 + v3)) a3 s3 (by rw [wrapi (by omega) (by omega)]; omega) (by rw [wrapi (by omega) (by omega)]; omega) (by omega) (by omega)
    refine ⟨r, a', s', evPos rfl ?_, hr, by omega, by omega⟩
    simp only [e3, Option.bind_some]
    exact hE
  | false =>
    obtain ⟨r, a', s', hE, hr, hb⟩ := go v1 a2 s2 (by omega) (by omega) (by omega) (by omega)
    exact ⟨r, a', s', evNeg (by simp) hE, hr, by omega, by omega⟩
theorem drawGain_ok {l : List Int} (hl : bytes l) : ∃ b o ds lim, Ev (fun k => spec_DrawLeastGain.f k l) (b, o, ds, lim) ∧ ds.length ≤ 200 := by
  unfold spec_DrawLeastGain.f
  obtain ⟨b, g, a1, s1, e1, h1a⟩ := controller_ok hl 0 (a := 0) (by omega) (by omega)
  rw [e1]; simp only [Option.bind_some]
  obtain ⟨o, a2, s2, e2, h2a⟩ := offset_ok hl s1 (show 0 ≤ a1 by omega) (by omega)
  rw [e2]; simp only [Option.bind_some]
  obtain ⟨r, a3, s3, hE, hr, hb⟩ := driftsB_ok hl s2 (show 0 ≤ a2 by omega) (by omega)
  obtain ⟨v1, a4, s4, e4, _, h4a⟩ := pick_ok hl s3 (show 0 ≤ a3 by omega) (by omega) (m := 200) (by omega)
  obtain ⟨v2, a5, s5, e5, h5a⟩ := among_ok hl s4 (show 0 ≤ a4 by omega) (by omega) (q := [2001, (-1)]) (by simp)
  obtain ⟨v3, a6, s6, e6, h6a⟩ := among_ok hl s5 (show 0 ≤ a5 by omega) (by omega) (q := [0, 10, 30, v1, 1000, 2000, v2]) (by simp)
  refine ⟨b, o, r, v3, Ev.bind hE ?_, hr⟩
  simp only [e4, Option.bind_some, e5, e6]
  exact Ev.now _
-- ** ctl
def ctl (b g : Int) : Prop := 0 ≤ b ∧ b ≤ 200 ∧ 1 ≤ g ∧ g ≤ 100
instance (b g : Int) : Decidable (ctl b g) := by unfold ctl; exact inferInstance
theorem tkGood_eq (b g : Int) : spec_tkGood.f b g = some (decide (ctl b g)) := by
  unfold spec_tkGood.f; rw [in_eq, in_eq]; simp only [Option.bind_some]
  by_cases h : 0 ≤ b ∧ b ≤ 200
  · rw [if_pos (decide_eq_true h)]; exact someD (by unfold ctl; omega)
  · rw [if_neg (by simpa using h)]; exact someF (by unfold ctl; omega)
theorem isController_eq (b g : Int) : impl_IsController.f b g = some (decide (ctl b g)) := by
  unfold impl_IsController.f
  repeat' split
  all_goals first | exact someD (by unfold ctl; omega) | exact someF (by unfold ctl; omega)
-- ** most
theorem l1Most_eq (a b : Int) : spec_l1Most.f a b = some (max a b) := by
  unfold spec_l1Most.f; split <;> (congr 1; omega)
-- ** bound
theorem isMostDrift_eq (m : Int) : impl_isMostDrift.f m = some (decide (0 ≤ m ∧ m ≤ 50)) := by
  unfold impl_isMostDrift.f
  split
  · exact someD (by omega)
  · exact someF (by omega)
theorem tkMost_eq (b g m : Int) : spec_tkMost.f b g m = some (decide (ctl b g ∧ 0 ≤ m ∧ m ≤ 50)) := by
  unfold spec_tkMost.f; simp only [tkGood_eq, in_eq, Option.bind_some, decide_eq_true_eq]
  split
  · rename_i h; exact someD (by simp only [h, true_and])
  · rename_i h; exact someF (fun q => h q.1)
theorem tkBound_eq (b g : Int) (h : ctl b g) : spec_tkBound.f b g = some (max b (g - b - 1)) := by
  unfold spec_tkBound.f; unfold ctl at h; rw [wrapi (x := g - b) (by omega) (by omega), wrapi (by omega) (by omega), l1Most_eq]; rfl
def safe (b g m : Int) : Int × Bool := if ctl b g ∧ 0 ≤ m ∧ m ≤ 50 ∧ m ≤ g then (max b (g - b - 1), true) else (0, false)
theorem specSafe_eq (b g m : Int) : spec_SafeBound.f b g m = some (safe b g m) := by
  unfold spec_SafeBound.f safe; simp only [tkMost_eq, Option.bind_some, decide_eq_true_eq]
  by_cases h : ctl b g ∧ 0 ≤ m ∧ m ≤ 50
  · rw [if_pos h]
    by_cases h2 : g < m
    · rw [if_pos h2, if_neg (fun q => by have := q.2.2.2; omega)]
    · rw [if_neg h2, if_pos ⟨h.1, h.2.1, h.2.2, by omega⟩, tkBound_eq _ _ h.1]; rfl
  · rw [if_neg h, if_neg (fun q => h ⟨q.1, q.2.1, q.2.2.1⟩)]
theorem implSafe_eq (b g m : Int) : impl_SafeBound.f b g m = some (safe b g m) := by
  unfold impl_SafeBound.f safe; simp only [isController_eq, isMostDrift_eq, Option.bind_some, decide_eq_true_eq]
  by_cases h : ctl b g
  · rw [if_pos h]
    by_cases h1 : 0 ≤ m ∧ m ≤ 50
    · rw [if_pos h1]
      by_cases h2 : g < m
      · rw [if_pos h2, if_neg (fun q => by have := q.2.2.2; omega)]
      · rw [if_neg h2, if_pos ⟨h, h1.1, h1.2, by omega⟩, mx_eq]
        unfold ctl at h
        rw [wrapi (x := g - b) (by omega) (by omega), wrapi (by omega) (by omega)]
    · rw [if_neg h1, if_neg (fun q => h1 ⟨q.2.1, q.2.2.1⟩)]
  · rw [if_neg h, if_neg (fun q => h q.1)]
-- ** move
def off (o : Int) : Prop := -1000 ≤ o ∧ o ≤ 1000
instance (o : Int) : Decidable (off o) := by unfold off; exact inferInstance
theorem tkOffset_eq (o : Int) : spec_tkOffset.f o = some (decide (off o)) := by
  unfold spec_tkOffset.f; rw [in_eq]; rfl
theorem isOffset_eq (o : Int) : impl_isOffset.f o = some (decide (off o)) := by
  unfold impl_isOffset.f
  split
  · exact someD (by unfold off; omega)
  · exact someF (by unfold off; omega)
def mv (b g o d : Int) : Int := if o + d > b then o + d - g else if o + d < -b then o + d + g else o + d
def mvby (b g o d : Int) : Int := if o + d > b then -g else if o + d < -b then g else 0
def far (o : Int) : Prop := -100000 ≤ o ∧ o ≤ 100000
theorem tkStep_eq {b g o d : Int} (h : ctl b g) (ho : far o) (hd : far d) : spec_tkStep.f b g o d = some (mv b g o d, mvby b g o d) := by
  unfold spec_tkStep.f mv mvby; unfold ctl at h; unfold far at ho hd
  rw [wrapi (x := o + d) (by omega) (by omega), wrapi (x := -b) (by omega) (by omega), wrapi (x := -g) (by omega) (by omega), wrapi (x := o + d - g) (by omega) (by omega), wrapi (x := o + d + g) (by omega) (by omega)]
  split
  · rfl
  · split <;> rfl
theorem moved_eq {b g o d : Int} (h : ctl b g) (ho : far o) (hd : far d) : impl_moved.f b g o d = some (mv b g o d) := by
  unfold impl_moved.f mv; unfold ctl at h; unfold far at ho hd
  rw [wrapi (x := o + d) (by omega) (by omega), wrapi (x := -b) (by omega) (by omega), wrapi (x := o + d - g) (by omega) (by omega), wrapi (x := o + d + g) (by omega) (by omega)]
  split
  · rfl
  · split <;> rfl
-- ** abs
theorem l1Abs_eq {o : Int} (h : -1000000000 ≤ o ∧ o ≤ 1000000000) : spec_l1Abs.f o = some (o.natAbs : Int) := by
  unfold spec_l1Abs.f
  rw [wrapi (by omega) (by omega), l1Most_eq]
  simp only [Option.bind_some]; congr 1; omega
-- ** dist
theorem distance_eq {a b : Int} (ha : -1000000000 ≤ a ∧ a ≤ 1000000000) (hb : -1000000000 ≤ b ∧ b ≤ 1000000000) : impl_distance.f a b = some ((a - b).natAbs : Int) := by
  unfold impl_distance.f
  rw [wrapi (by omega) (by omega), wrapi (by omega) (by omega), mx_eq]
  congr 1; omega
-- ** put
def put : List Int → Int → List Int
  | [], n => [n]
  | a :: l, n => if a < n then a :: put l n else if a = n then a :: l else n :: a :: l
theorem l1Put_l0 (l : List Int) (n : Int) (hl : l.length ≤ 1048576) : ∀ (suf pre : List Int), l = pre ++ suf → Ev (fun k => spec_l1Put.l0 k l n (pre.length : Int)) (pre ++ put suf n) := by
  intro suf
  induction suf with
  | nil =>
    intro pre h
    have hp : pre.length ≤ 1048576 := by rw [h] at hl; simpa using hl
    have hL : l.length = pre.length := by rw [h]; simp
    have e1 : l.take (pre.length : Int).toNat = pre := by rw [h]; simp
    have e2 : l.drop (pre.length : Int).toNat = [] := by rw [h]; simp
    refine Ev.step (fun k => spec_l1Put.l0.eq_2 ..) ?_
    simp only [rgEnd h, if_false, Option.bind_some, e1, e2]
    repeat' first | (refine evPos (by first | omega | (simp; omega)) ?_)
    exact evNow (by simp [put])
  | cons x suf ih =>
    intro pre h
    obtain ⟨h1, h2, h3, h4, h5⟩ := rgHead h (by omega) 0
    have hp : pre.length + (suf.length + 1) ≤ 1048576 := by rw [h] at hl; simpa using hl
    have hL : l.length = pre.length + (suf.length + 1) := by rw [h]; simp
    have e1 : l.take (pre.length : Int).toNat = pre := by rw [h]; simp
    have e2 : l.drop (pre.length : Int).toNat = x :: suf := by rw [h]; simp
    refine Ev.step (fun k => spec_l1Put.l0.eq_2 ..) ?_
    simp only [h1, h2, h3, rd, h4, if_true, Option.bind_some, e1, e2]
    refine evBy (fun c => evEq (ih _ h5) (by simp [put, c])) (fun c => evBy (fun c' => evNow (by rw [h]; simp [put, c'])) (fun c' => ?_))
    repeat' first | (refine evPos (by first | omega | (simp; omega)) ?_)
    exact evNow (by simp [put, c, c'])
theorem l1Put_ev {l : List Int} (hl : l.length ≤ 1048576) (n : Int) : Ev (fun k => spec_l1Put.f k l n) (put l n) := by
  unfold spec_l1Put.f; exact l1Put_l0 l n hl l [] rfl
-- ** compact
theorem put_mem (x : Int) : ∀ (l : List Int) (n : Int), x ∈ put l n ↔ x = n ∨ x ∈ l
  | [], n => by simp [put]
  | a :: l, n => by
    have := put_mem x l n
    simp only [put]; split
    · simp only [List.mem_cons, this]
      constructor
      · rintro (h | h | h)
        · exact .inr (.inl h)
        · exact .inl h
        · exact .inr (.inr h)
      · rintro (h | h | h)
        · exact .inr (.inl h)
        · exact .inl h
        · exact .inr (.inr h)
    · split
      · rename_i e; subst e; simp
      · simp
theorem put_srt : ∀ (l : List Int) (n : Int), l.Pairwise (· < ·) → (put l n).Pairwise (· < ·)
  | [], n, _ => by simp [put]
  | a :: l, n, h => by
    obtain ⟨h1, h2⟩ := List.pairwise_cons.1 h
    have ih := put_srt l n h2
    simp only [put]; split
    · rename_i c
      refine List.pairwise_cons.2 ⟨fun x hx => ?_, ih⟩
      rcases (put_mem x l n).1 hx with rfl | q
      · exact c
      · exact h1 x q
    · split
      · exact h
      · rename_i c c'
        refine List.pairwise_cons.2 ⟨fun x hx => ?_, h⟩
        rcases List.mem_cons.1 hx with rfl | q
        · omega
        · have := h1 x q; omega
-- ** FnExactReachedOffset
def mxa (l : List Int) : Int := l.foldl (fun m x => max m (x.natAbs : Int)) 0
theorem mxa_snoc (l : List Int) (x : Int) : mxa (l ++ [x]) = max (mxa l) (x.natAbs : Int) := by simp [mxa]
theorem bget_put (M : List (Int × Bool)) (k t : Int) : Mp.mget false (Mp.mput M k true) t = if t = k then true else Mp.mget false M t := by
  induction M with
  | nil => simp [Mp.mput, Mp.mget]
  | cons q M ih =>
    by_cases c : k = q.1
    · subst c; by_cases e : t = q.1 <;> simp [Mp.mput, Mp.mget, e]
    · by_cases e : t = q.1
      · simp [Mp.mput, Mp.mget, c, e, Ne.symm c]
      · simp [Mp.mput, Mp.mget, c, e, ih]
theorem count_set : ∀ (l : List Bool) (i : Nat), l[i]? = some false → (l.set i true).count false + 1 = l.count false
  | [], i, h => by simp at h
  | a :: l, 0, h => by simp at h; subst h; simp
  | a :: l, i + 1, h => by
    have ih := count_set l i (by simpa using h)
    simp only [List.set_cons_succ, List.count_cons]; omega
structure Inv (B : Int) (L : List Int) (met : List Bool) (M : List (Int × Bool)) : Prop where
  len : (met.length : Int) = 2 * B + 1
  mem : ∀ x, x ∈ L → -B ≤ x ∧ x ≤ B
  hmet : ∀ x, -B ≤ x → x ≤ B → met.getD (x + B).toNat false = decide (x ∈ L)
  map : ∀ x, -B ≤ x → x ≤ B → Mp.mget false M x = decide (x ∈ L)
  cnt : L.length + met.count false = met.length
theorem inv_add {B y : Int} {L : List Int} {met : List Bool} {M : List (Int × Bool)} (h : Inv B L met M) (h0 : -B ≤ y) (h1 : y ≤ B) (hy : y ∉ L) : Inv B (L ++ [y]) (met.set (y + B).toNat true) (Mp.mput M y true) := by
  have hl := h.len
  have hm := h.hmet y h0 h1
  have hlt : (y + B).toNat < met.length := by omega
  rw [decide_eq_false hy, List.getD_eq_getElem?_getD, List.getElem?_eq_getElem hlt, Option.getD_some] at hm
  refine ⟨by simpa using h.len, fun x hx => ?_, fun x hx0 hx1 => ?_, fun x hx0 hx1 => ?_, ?_⟩
  · rcases List.mem_append.1 hx with q | q
    · exact h.mem x q
    · rw [List.mem_singleton.1 q]; exact ⟨h0, h1⟩
  · rw [List.getD_eq_getElem?_getD, List.getElem?_set]
    by_cases c : x = y
    · subst c; rw [if_pos rfl, if_pos hlt]; simp
    · rw [if_neg (by omega), ← List.getD_eq_getElem?_getD, h.hmet x hx0 hx1]
      exact decD (by simp [c])
  · rw [bget_put]
    by_cases c : x = y
    · subst c; simp
    · rw [if_neg c, h.map x hx0 hx1]; exact decD (by simp [c])
  · have := count_set met _ (by rw [List.getElem?_eq_getElem hlt, hm])
    have := h.cnt
    simp; omega
theorem inv0 {B : Int} (hB : 0 ≤ B ∧ B ≤ 1000) : Inv B [0] ((List.replicate (2 * B + 1).toNat false).set B.toNat true) (Mp.mput [] 0 true) := by
  have h0 : Inv B [] (List.replicate (2 * B + 1).toNat false) [] := ⟨by simp; omega, by simp, fun x _ _ => by simp [List.getD_eq_getElem?_getD, List.getElem?_replicate]; split <;> rfl, fun x _ _ => by simp [Mp.mget], by simp⟩
  have := inv_add h0 (y := 0) (by omega) (by omega) (by simp)
  simpa using this
-- ** limit
theorem isLimit_eq (m : Int) : impl_isLimit.f m = some (decide (0 ≤ m ∧ m ≤ 2000)) := by
  unfold impl_isLimit.f
  split
  · exact someD (by omega)
  · exact someF (by omega)
-- ** driven
theorem srt_len {b : Int} : ∀ (l : List Int) (a : Int), l.Pairwise (· < ·) → (∀ x, x ∈ l → a ≤ x ∧ x ≤ b) → (l.length : Int) ≤ max 0 (b - a + 1)
  | [], a, _, _ => by simp; omega
  | x :: l, a, h, hb => by
    obtain ⟨h1, h2⟩ := List.pairwise_cons.1 h
    have hx := hb x (by simp)
    have ih := srt_len l (x + 1) h2 (fun y hy => ⟨by have := h1 y hy; omega, (hb y (by simp [hy])).2⟩)
    simp; omega
def okO (b g : Int) (n : Nat) (o : Int) : Prop := (o.natAbs : Int) ≤ 50 * n ∨ ((o.natAbs : Int) < g ∧ b < 50)
theorem okO_mv {b g o d : Int} {n : Nat} (h : ctl b g) (hd : -50 ≤ d ∧ d ≤ 50) (ho : okO b g n o) : okO b g (n + 1) (mv b g o d) := by
  unfold okO at ho ⊢; unfold mv; unfold ctl at h
  rcases ho with ho | ho
  · by_cases n0 : n = 0
    · subst n0; split
      · omega
      · split <;> omega
    · have : 1 ≤ n := by omega
      split
      · omega
      · split <;> omega
  · split
    · omega
    · split <;> omega
theorem okO_small {b g o : Int} {n : Nat} (h : ctl b g) (ho : okO b g n o) (hn : n ≤ 20) : -1000 ≤ o ∧ o ≤ 1000 := by
  unfold okO at ho; unfold ctl at h; omega
def exd (b g lim : Int) (e : S108) : List Int → List S108 → List Int → List Int ⊕ List S108 × List Int
  | [], nx, mt => .inr (nx, mt)
  | d :: ds, nx, mt => if lim < ((mv b g e.f0 d).natAbs : Int) then .inl (e.f1 ++ [d]) else if mv b g e.f0 d ∈ mt then exd b g lim e ds nx mt else exd b g lim e ds (nx ++ [⟨mv b g e.f0 d, e.f1 ++ [d]⟩]) (put mt (mv b g e.f0 d))
def exl (b g m lim : Int) : List S108 → List S108 → List Int → List Int ⊕ List S108 × List Int
  | [], nx, mt => .inr (nx, mt)
  | e :: l, nx, mt => match exd b g lim e [-m, 0, m] nx mt with
    | .inl r => .inl r
    | .inr p => exl b g m lim l p.1 p.2
def fin (R : List S108 → List Int → List Int × Bool) : List Int ⊕ List S108 × List Int → List Int × Bool
  | .inl r => (r, true)
  | .inr p => R p.1 p.2
def lev (b g m lim : Int) : Nat → List S108 → List Int → List Int × Bool
  | 0, _, _ => ([], false)
  | _ + 1, [], _ => ([], false)
  | n + 1, e :: l, mt => fin (lev b g m lim n) (exl b g m lim (e :: l) [] mt)
theorem fin_exl (b g m lim : Int) (R : List S108 → List Int → List Int × Bool) (e : S108) (l nx : List S108) (mt : List Int) : fin R (exl b g m lim (e :: l) nx mt) = fin (fun a c => fin R (exl b g m lim l a c)) (exd b g lim e [-m, 0, m] nx mt) := by
  simp only [exl]; cases exd b g lim e [-m, 0, m] nx mt <;> rfl
def okL (b g : Int) (n : Nat) (l : List S108) : Prop := ∀ e, e ∈ l → okO b g n e.f0 ∧ e.f1.length = n
theorem okL_snoc {b g : Int} {n : Nat} {l : List S108} {e : S108} (h : okL b g n l) (he : okO b g n e.f0 ∧ e.f1.length = n) : okL b g n (l ++ [e]) := by
  intro x hx
  rcases List.mem_append.1 hx with q | q
  · exact h x q
  · rw [List.mem_singleton.1 q]; exact he
structure Mt (lim : Int) (mt : List Int) : Prop where
  srt : mt.Pairwise (· < ·)
  bd : ∀ x, x ∈ mt → -1000 ≤ x ∧ x ≤ 1000 ∧ (x.natAbs : Int) ≤ lim
theorem mt_len {lim : Int} {mt : List Int} (h : Mt lim mt) : mt.length ≤ 2001 := by
  have := srt_len mt (-1000) (b := 1000) h.srt (fun x hx => ⟨(h.bd x hx).1, (h.bd x hx).2.1⟩)
  omega
theorem mt_put {lim y : Int} {mt : List Int} (h : Mt lim mt) (h0 : -1000 ≤ y ∧ y ≤ 1000) (h1 : ¬ lim < (y.natAbs : Int)) : Mt lim (put mt y) :=
  ⟨put_srt mt y h.srt, fun x hx => by
    rcases (put_mem x mt y).1 hx with rfl | q
    · omega
    · exact h.bd x q⟩
theorem put_new : ∀ (l : List Int) (n : Int), n ∉ l → (put l n).length = l.length + 1
  | [], n, _ => by simp [put]
  | a :: l, n, h => by
    simp only [List.mem_cons, not_or] at h
    have ih := put_new l n h.2
    simp only [put]; split
    · simp [ih]
    · rw [if_neg (fun e => h.1 e.symm)]; simp
def Sn (M : List (Int × Bool)) (mt : List Int) : Prop := ∀ t, Mp.mget false M t = decide (t ∈ mt)
theorem sn_put {M : List (Int × Bool)} {mt : List Int} {y : Int} (h : Sn M mt) : Sn (Mp.mput M y true) (put mt y) := by
  intro t
  rw [bget_put, h t]
  by_cases c : t = y
  · subst c; rw [if_pos rfl]; exact decT ((put_mem _ _ _).2 (.inl rfl))
  · rw [if_neg c]; exact decD (by rw [put_mem]; simp [c])
theorem clone_eq {l : List Int} (hl : l.length ≤ 1048576) : slices_Clone_int_int.f l = some l := by
  unfold slices_Clone_int_int.f; simp only [Option.bind_some, List.nil_append, List.length_nil]; rw [if_pos (by omega)]
theorem own_eq {l : List Int} (hl : l.length ≤ 1048576) : spec_l1Own.f l = some l := by
  unfold spec_l1Own.f; simp only [Option.bind_some, List.nil_append, List.length_nil]; rw [if_pos (by omega)]
structure Iv (b g lim : Int) (n : Nat) (nx : List S108) (mt : List Int) (M : List (Int × Bool)) : Prop where
  ok : okL b g n nx
  hmt : Mt lim mt
  sn : Sn M mt
  len : nx.length ≤ mt.length
theorem impl_l2 {b g m lim : Int} (hc : ctl b g) (hm : 0 ≤ m ∧ m ≤ 50) {n : Nat} (hn : n + 1 ≤ 20) (list : List S108) (i : Int) (e : S108) (he : okO b g n e.f0 ∧ e.f1.length = n) (R : List S108 → List Int → List Int × Bool)
    (hR : ∀ nx' mt' M', Iv b g lim (n + 1) nx' mt' M' → Ev (fun k => impl_DrivenOut.l1 k m lim nx' list (list.length : Int) (wrap64 (i + 1)) b g M') (R nx' mt')) :
    ∀ (ds pre : List Int) (nx : List S108) (mt : List Int) (M : List (Int × Bool)), [-m, 0, m] = pre ++ ds → Iv b g lim (n + 1) nx mt M →
    Ev (fun k => impl_DrivenOut.l2 k m lim nx list (list.length : Int) i [-m, 0, m] (([-m, 0, m] : List Int).length : Int) (pre.length : Int) b g M e.f0 e.f1) (fin R (exd b g lim e ds nx mt)) := by
  intro ds
  induction ds with
  | nil =>
    intro pre nx mt M h hI
    refine Ev.step (fun k => impl_DrivenOut.l2.eq_2 ..) ?_
    exact evNeg (rgEnd h) (hR nx mt M hI)
  | cons d ds ih =>
    intro pre nx mt M h hI
    obtain ⟨h1, h2, h3, h4, h5⟩ := rgHead h (by simp) 0
    have hd : -50 ≤ d ∧ d ≤ 50 := by
      have : d ∈ ([-m, 0, m] : List Int) := by rw [h]; simp
      simp at this; omega
    have hy := okO_mv hc hd he.1
    have hy' := okO_small hc hy hn
    have ho := okO_small hc he.1 (by omega)
    have hl := mt_len hI.hmt
    have hln := hI.len
    have hel := he.2
    have ih' := fun nx mt M => ih (pre ++ [d]) nx mt M h5
    refine Ev.step (fun k => impl_DrivenOut.l2.eq_2 ..) ?_
    simp only [h1, h2, rd, h4, if_true, moved_eq hc (show far e.f0 by unfold far; omega) (show far d by unfold far; omega), isOffset_eq, Option.bind_some, decide_eq_true_eq]
    refine evPos hy' (Ev.step (fun k => impl_DrivenOut.j5.eq_2 ..) ?_)
    rw [hI.sn]
    by_cases c : mv b g e.f0 d ∈ mt
    · have hb := hI.hmt.bd _ c
      rw [decide_eq_true c]
      simp only [exd]
      rw [if_neg (by omega), if_pos c, h3]
      exact evPos (by simp) (ih' nx mt M hI)
    · rw [decide_eq_false c, clone_eq (by omega), distance_eq (by omega) (by omega), h3]
      simp only [Option.bind_some, exd, Int.sub_zero]
      refine evNeg (by simp) (evPos (by omega) ?_)
      by_cases q : lim < ((mv b g e.f0 d).natAbs : Int)
      · rw [if_pos q]; exact evPos q (Ev.now _)
      · rw [if_neg q, if_neg c]
        refine evNeg q (evPos (by omega) (ih' _ _ _ ⟨okL_snoc hI.ok ⟨hy, by simp; omega⟩, mt_put hI.hmt hy' q, sn_put hI.sn, ?_⟩))
        rw [put_new _ _ c]; simp; omega
theorem impl_l1 {b g m lim : Int} (hc : ctl b g) (hm : 0 ≤ m ∧ m ≤ 50) {n : Nat} (hn : n + 1 ≤ 20) (list : List S108) (hll : list.length ≤ 2001) (hlist : okL b g n list) (R : List S108 → List Int → List Int × Bool)
    (hR : ∀ nx' mt' M', Iv b g lim (n + 1) nx' mt' M' → Ev (fun k => impl_DrivenOut.l0 k m lim nx' b g M') (R nx' mt')) :
    ∀ (l pre nx : List S108) (mt : List Int) (M : List (Int × Bool)), list = pre ++ l → Iv b g lim (n + 1) nx mt M →
    Ev (fun k => impl_DrivenOut.l1 k m lim nx list (list.length : Int) (pre.length : Int) b g M) (fin R (exl b g m lim l nx mt)) := by
  intro l
  induction l with
  | nil =>
    intro pre nx mt M h hI
    refine Ev.step (fun k => impl_DrivenOut.l1.eq_2 ..) ?_
    exact evNeg (rgEnd h) (hR nx mt M hI)
  | cons e l ih =>
    intro pre nx mt M h hI
    obtain ⟨h1, h2, h3, h4, h5⟩ := rgHead h (by omega) z108
    refine Ev.step (fun k => impl_DrivenOut.l1.eq_2 ..) ?_
    simp only [h1, h2, rd_T108, h4, if_true, Option.bind_some]
    rw [wrapi (x := -m) (by omega) (by omega), fin_exl]
    refine impl_l2 hc hm hn list _ e (hlist e (by rw [h]; simp)) _ (fun nx' mt' M' hI' => ?_) [-m, 0, m] [] nx mt M rfl hI
    rw [h3]
    exact ih _ nx' mt' M' h5 hI'
theorem impl_l0 {b g m lim : Int} (hc : ctl b g) (hm : 0 ≤ m ∧ m ≤ 50) : ∀ (N n : Nat) (cur : List S108) (mt : List Int) (M : List (Int × Bool)), N + n = 20 → Iv b g lim n cur mt M → Ev (fun k => impl_DrivenOut.l0 k m lim cur b g M) (lev b g m lim N cur mt) := by
  intro N
  induction N with
  | zero =>
    intro n cur mt M hN hI
    refine Ev.step (fun k => impl_DrivenOut.l0.eq_2 ..) ?_
    cases cur with
    | nil => exact evNeg (by simp) (Ev.step (fun k => impl_DrivenOut.j2.eq_2 ..) (evNeg (by simp) (Ev.now _)))
    | cons e l =>
      have he := (hI.ok e (by simp)).2
      refine evPos (by simp) (evPos (by simp) (Ev.step (fun k => impl_DrivenOut.j2.eq_2 ..) (evNeg ?_ (Ev.now _))))
      simp [rd_T108]; omega
  | succ N ih =>
    intro n cur mt M hN hI
    refine Ev.step (fun k => impl_DrivenOut.l0.eq_2 ..) ?_
    cases cur with
    | nil => exact evNeg (by simp) (Ev.step (fun k => impl_DrivenOut.j2.eq_2 ..) (evNeg (by simp) (Ev.now _)))
    | cons e l =>
      have he := (hI.ok e (by simp)).2
      have hl := mt_len hI.hmt
      have hln := hI.len
      refine evPos (by simp) (evPos (by simp) (Ev.step (fun k => impl_DrivenOut.j2.eq_2 ..) (evPos ?_ ?_)))
      · simp [rd_T108]; omega
      · exact impl_l1 hc hm (by omega) (e :: l) (by omega) hI.ok _ (fun nx' mt' M' h => ih (n + 1) nx' mt' M' (by omega) h) (e :: l) [] [] mt M rfl ⟨fun _ h => by simp at h, hI.hmt, hI.sn, by simp⟩
theorem l1Has_l0 (l : List Int) (x : Int) (hl : l.length ≤ 1048576) : ∀ (suf pre : List Int), l = pre ++ suf → Ev (fun k => spec_l1Has.l0 k x l (l.length : Int) (pre.length : Int)) (decide (x ∈ suf)) := by
  intro suf
  induction suf with
  | nil =>
    intro pre h
    exact Ev.step (fun k => spec_l1Has.l0.eq_2 ..) (evNeg (rgEnd h) (evNow (by simp)))
  | cons y suf ih =>
    intro pre h
    obtain ⟨h1, h2, h3, h4, h5⟩ := rgHead h (by omega) 0
    refine Ev.step (fun k => spec_l1Has.l0.eq_2 ..) ?_
    simp only [h1, h2, h3, rd, h4, if_true]
    refine evBy (fun c => evNow (decT (by rw [c]; simp))) (fun c => evEq (ih _ h5) (decD (by simp [Ne.symm c])))
theorem l1Has_ev {l : List Int} (hl : l.length ≤ 1048576) (x : Int) : Ev (fun k => spec_l1Has.f k l x) (decide (x ∈ l)) := by
  unfold spec_l1Has.f; exact l1Has_l0 l x hl l [] rfl
structure Jv (b g lim : Int) (n : Nat) (q : Nat) (nx : List S108) (mt : List Int) : Prop where
  ok : okL b g n nx
  hmt : Mt lim mt
  len : q + nx.length ≤ mt.length
theorem qAt {α : Type} (f : S108 → α) (z : α) (P : List S108) (e : S108) (B : List S108) : ((P ++ e :: B).map f).getD P.length z = f e := by simp
theorem spec_l1 {b g m lim : Int} (hc : ctl b g) (hm : 0 ≤ m ∧ m ≤ 50) {n : Nat} (hn : n + 1 ≤ 20) (P rest : List S108) (e : S108) (he : okO b g n e.f0 ∧ e.f1.length = n) (R : List S108 → List Int → List Int × Bool)
    (hR : ∀ nx' mt', Jv b g lim (n + 1) (P.length + 1 + rest.length) nx' mt' → Ev (fun k => spec_DrivenOut.l0 k m lim ((P ++ e :: (rest ++ nx')).map (·.f0)) ((P ++ e :: (rest ++ nx')).map (·.f1)) mt' (wrap64 ((P.length : Int) + 1)) b g) (R nx' mt')) :
    ∀ (ds pre : List Int) (nx : List S108) (mt : List Int), [-m, 0, m] = pre ++ ds → Jv b g lim (n + 1) (P.length + 1 + rest.length) nx mt →
    Ev (fun k => spec_DrivenOut.l1 k m lim ((P ++ e :: (rest ++ nx)).map (·.f0)) ((P ++ e :: (rest ++ nx)).map (·.f1)) mt (P.length : Int) [-m, 0, m] (([-m, 0, m] : List Int).length : Int) (pre.length : Int) b g) (fin R (exd b g lim e ds nx mt)) := by
  intro ds
  induction ds with
  | nil =>
    intro pre nx mt h hI
    exact Ev.step (fun k => spec_DrivenOut.l1.eq_2 ..) (evNeg (rgEnd h) (hR nx mt hI))
  | cons d ds ih =>
    intro pre nx mt h hI
    obtain ⟨h1, h2, h3, h4, h5⟩ := rgHead h (by simp) 0
    have hd : -50 ≤ d ∧ d ≤ 50 := by
      have : d ∈ ([-m, 0, m] : List Int) := by rw [h]; simp
      simp at this; omega
    have hy := okO_mv hc hd he.1
    have hy' := okO_small hc hy hn
    have ho := okO_small hc he.1 (by omega)
    have hl := mt_len hI.hmt
    have hln := hI.len
    have hel := he.2
    have ih' := fun nx mt => ih (pre ++ [d]) nx mt h5
    have r0 : rd ((P ++ e :: (rest ++ nx)).map (·.f0)) (P.length : Int) = e.f0 := by unfold rd; rw [Int.toNat_natCast]; exact qAt (·.f0) 0 P e _
    have r1 : rd_L1 ((P ++ e :: (rest ++ nx)).map (·.f1)) (P.length : Int) = e.f1 := by unfold rd_L1; rw [Int.toNat_natCast]; exact qAt (·.f1) [] P e _
    have r2 : rd ([-m, 0, m] : List Int) (pre.length : Int) = d := h4
    have k0 : (P.length : Int) < (((P ++ e :: (rest ++ nx)).map (·.f0)).length : Int) := by simp; omega
    have k1 : (P.length : Int) < (((P ++ e :: (rest ++ nx)).map (·.f1)).length : Int) := by simp; omega
    refine Ev.step (fun k => spec_DrivenOut.l1.eq_2 ..) (evPos h1 (evPos h2 (evPos h1 (evPos (by omega) (evPos k0 ?_)))))
    rw [r0, r1, r2, tkStep_eq hc (show far e.f0 by unfold far; omega) (show far d by unfold far; omega), h3]
    simp only [Option.bind_some]
    rw [l1Abs_eq (by omega), own_eq (by omega)]
    simp only [Option.bind_some, exd]
    by_cases q : lim < ((mv b g e.f0 d).natAbs : Int)
    · rw [if_pos q]; exact evPos q (evPos k1 (evPos (by omega) (Ev.now _)))
    · rw [if_neg q]
      refine evNeg q (Ev.bind (l1Has_ev (by omega) _) ?_)
      by_cases c : mv b g e.f0 d ∈ mt
      · rw [if_pos c, decide_eq_true c]
        exact evPos rfl (ih' nx mt hI)
      · rw [if_neg c, decide_eq_false c]
        refine evNeg (by simp) (Ev.bind (l1Put_ev (by omega) _) (evPos (by simp; omega) (evPos k1 (evPos (by omega) (evPos (by simp; omega) ?_)))))
        have := ih' (nx ++ [⟨mv b g e.f0 d, e.f1 ++ [d]⟩]) (put mt (mv b g e.f0 d)) ⟨okL_snoc hI.ok ⟨hy, by simp; omega⟩, mt_put hI.hmt hy' q, by rw [put_new _ _ c]; simp; omega⟩
        simpa using this
theorem spec_l0 {b g m lim : Int} (hc : ctl b g) (hm : 0 ≤ m ∧ m ≤ 50) : ∀ (N n : Nat) (P cur : List S108) (mt : List Int), N + n = 20 → Jv b g lim n P.length cur mt → Ev (fun k => spec_DrivenOut.l0 k m lim ((P ++ cur).map (·.f0)) ((P ++ cur).map (·.f1)) mt (P.length : Int) b g) (lev b g m lim N cur mt) := by
  have stop : ∀ (n : Nat) (P cur : List S108) (mt : List Int), (cur = [] ∨ n = 20) → Jv b g lim n P.length cur mt → Ev (fun k => spec_DrivenOut.l0 k m lim ((P ++ cur).map (·.f0)) ((P ++ cur).map (·.f1)) mt (P.length : Int) b g) ([], false) := by
    intro n P cur mt hN hI
    refine Ev.step (fun k => spec_DrivenOut.l0.eq_2 ..) ?_
    cases cur with
    | nil => exact evNeg (by simp) (Ev.now _)
    | cons e l =>
      have he := (hI.ok e (by simp)).2
      have r1 : rd_L1 ((P ++ e :: l).map (·.f1)) (P.length : Int) = e.f1 := by unfold rd_L1; rw [Int.toNat_natCast]; exact qAt (·.f1) [] P e _
      refine evPos (by simp; omega) (evPos (by omega) (evPos (by simp; omega) ?_))
      rw [r1]
      refine evPos ?_ (Ev.now _)
      rcases hN with hN | hN
      · simp at hN
      · omega
  intro N
  induction N with
  | zero =>
    intro n P cur mt hN hI
    exact stop n P cur mt (.inr (by omega)) hI
  | succ N ih =>
    intro n P cur mt hN hI
    have go : ∀ (l P nx : List S108) (mt : List Int), okL b g n l → Jv b g lim (n + 1) (P.length + l.length) nx mt → Ev (fun k => spec_DrivenOut.l0 k m lim ((P ++ (l ++ nx)).map (·.f0)) ((P ++ (l ++ nx)).map (·.f1)) mt (P.length : Int) b g) (fin (lev b g m lim N) (exl b g m lim l nx mt)) := by
      intro l
      induction l with
      | nil =>
        intro P nx mt _ hJ
        simp only [exl, fin, List.nil_append]
        exact ih (n + 1) P nx mt (by omega) hJ
      | cons e l ihl =>
        intro P nx mt hok hJ
        have he := hok e (by simp)
        have hl := mt_len hJ.hmt
        have hln := hJ.len
        simp at hln
        have r1 : rd_L1 ((P ++ (e :: l ++ nx)).map (·.f1)) (P.length : Int) = e.f1 := by unfold rd_L1; rw [Int.toNat_natCast]; exact qAt (·.f1) [] P e _
        refine Ev.step (fun k => spec_DrivenOut.l0.eq_2 ..) (evPos (by simp; omega) (evPos (by omega) (evPos (by simp; omega) ?_)))
        rw [r1]
        refine evNeg (by omega) ?_
        simp only [Option.bind_some]
        rw [wrapi (x := -m) (by omega) (by omega), fin_exl]
        refine spec_l1 hc hm (by omega) P l e he _ (fun nx' mt' hJ' => ?_) [-m, 0, m] [] nx mt rfl ⟨hJ.ok, hJ.hmt, by omega⟩
        rw [wrapi (by omega) (by omega)]
        have := ihl (P ++ [e]) nx' mt' (fun x hx => hok x (by simp [hx])) ⟨hJ'.ok, hJ'.hmt, by have := hJ'.len; simp; omega⟩
        simpa using this
    cases cur with
    | nil => exact stop n P [] mt (.inl rfl) hI
    | cons e l =>
      have := go (e :: l) P [] mt hI.ok ⟨fun _ h => by simp at h, hI.hmt, by simpa using hI.len⟩
      simpa [lev] using this
def drvOk (b g m lim : Int) : Prop := ctl b g ∧ (0 ≤ m ∧ m ≤ 50) ∧ (0 ≤ lim ∧ lim ≤ 2000) ∧ m ≠ 0
instance (b g m lim : Int) : Decidable (drvOk b g m lim) := by unfold drvOk; exact inferInstance
def drvRes (b g m lim : Int) : List Int × Bool := if drvOk b g m lim then lev b g m lim 20 [⟨0, []⟩] [0] else ([], false)
theorem mt0 {lim : Int} (h : 0 ≤ lim) : Mt lim [0] := ⟨by simp, fun x hx => by simp at hx; subst hx; omega⟩
theorem ok0 {b g : Int} : okL b g 0 [⟨0, []⟩] := fun e he => by rw [List.mem_singleton.1 he]; exact ⟨.inl (by simp), rfl⟩
theorem specDrv_ev (b g m lim : Int) : Ev (fun k => spec_DrivenOut.f k b g m lim) (drvRes b g m lim) := by
  have bad : ∀ {z : Bool}, z = true → ¬ drvOk b g m lim → Ev (fun k => spec_DrivenOut.j0 k m lim z b g) (drvRes b g m lim) := fun hz h =>
    Ev.step (fun k => spec_DrivenOut.j0.eq_2 ..) (evPos hz (evNow (by unfold drvRes; rw [if_neg h])))
  unfold spec_DrivenOut.f
  simp only [tkMost_eq, in_eq, Option.bind_some, decide_eq_true_eq]
  refine evBy (fun c => evBy (fun c1 => ?_) (fun c1 => bad rfl (fun q => c1 q.2.2.1))) (fun c => bad rfl (fun q => c ⟨q.1, q.2.1⟩))
  by_cases c2 : m = 0
  · exact bad (by simp [c2]) (fun q => q.2.2.2 c2)
  · refine Ev.step (fun k => spec_DrivenOut.j0.eq_2 ..) (evNeg (by simpa using c2) ?_)
    unfold drvRes; rw [if_pos ⟨c.1, c.2, c1, c2⟩]
    exact spec_l0 c.1 c.2 20 0 [] [⟨0, []⟩] [0] rfl ⟨ok0, mt0 c1.1, by simp⟩
theorem implDrv_ev (b g m lim : Int) : Ev (fun k => impl_DrivenOut.f k b g m lim) (drvRes b g m lim) := by
  have bad : ∀ {z : Bool}, z = true → ¬ drvOk b g m lim → Ev (fun k => impl_DrivenOut.j0 k m lim z b g) (drvRes b g m lim) := fun hz h =>
    Ev.step (fun k => impl_DrivenOut.j0.eq_2 ..) (evPos hz (evNow (by unfold drvRes; rw [if_neg h])))
  unfold impl_DrivenOut.f
  simp only [isController_eq, isMostDrift_eq, isLimit_eq, Option.bind_some, decide_eq_true_eq]
  refine evBy (fun c => evBy (fun c1 => evBy (fun c2 => ?_) (fun c2 => bad rfl (fun q => c2 q.2.2.1))) (fun c1 => bad rfl (fun q => c1 q.2.1))) (fun c => bad rfl (fun q => c q.1))
  by_cases c3 : m = 0
  · exact bad (by simp [c3]) (fun q => q.2.2.2 c3)
  · refine Ev.step (fun k => impl_DrivenOut.j0.eq_2 ..) (evNeg (by simpa using c3) ?_)
    unfold drvRes; rw [if_pos ⟨c, c1, c2, c3⟩]
    exact impl_l0 c c1 20 0 [⟨0, []⟩] [0] _ rfl ⟨ok0, mt0 c2.1, fun t => by rw [bget_put]; by_cases z : t = 0 <;> simp [z, Mp.mget], by simp⟩
theorem exd_len (b g lim : Int) (e : S108) : ∀ (ds : List Int) (nx : List S108) (mt r : List Int), exd b g lim e ds nx mt = .inl r → r.length = e.f1.length + 1
  | [], _, _, _, h => by simp [exd] at h
  | d :: ds, nx, mt, r, h => by
    simp only [exd] at h
    split at h
    · injection h with h; rw [← h]; simp
    · split at h
      · exact exd_len b g lim e ds _ _ r h
      · exact exd_len b g lim e ds _ _ r h
-- ** drifts
def drf (x : Int) : Bool := decide (-50 ≤ x ∧ x ≤ 50)
theorem areDrifts_l0 (l : List Int) (hl : l.length ≤ 4611686018427387904) : ∀ (suf pre : List Int), l = pre ++ suf →
    Ev (fun k => impl_areDrifts.l0 k l l (l.length : Int) (pre.length : Int)) (suf.all drf && decide (l.length ≤ 100)) := by
  intro suf
  induction suf with
  | nil =>
    intro pre h
    refine Ev.step (fun k => impl_areDrifts.l0.eq_2 ..) ?_
    simp only [rgEnd h, if_false]
    exact evNow (by rw [List.all_nil, Bool.true_and]; exact decD (by omega))
  | cons x suf ih =>
    intro pre h
    obtain ⟨h1, h2, h3, h4, h5⟩ := rgHead h hl 0
    refine Ev.step (fun k => impl_areDrifts.l0.eq_2 ..) ?_
    simp only [h1, h2, h3, rd, h4, if_true]
    refine evBy (fun c => evNow (allBad (decide_eq_false (by omega)))) (fun c => evBy (fun c' => evNow (allBad (decide_eq_false (by omega)))) (fun c' => evEq (ih _ h5) (allGood (decide_eq_true (by omega)))))
theorem areDrifts_ev (l : List Int) (hl : l.length ≤ 4611686018427387904) : Ev (fun k => impl_areDrifts.f k l) (l.all drf && decide (l.length ≤ 100)) :=
  areDrifts_l0 l hl l [] rfl
-- ** run
def offB (o : Int) : Bool := decide (off o)
def run (b g : Int) : Int → List Int → List Int
  | _, [] => []
  | o, d :: ds => mv b g o d :: run b g (mv b g o d) ds
theorem run_length (b g : Int) : ∀ (o : Int) (ds : List Int), (run b g o ds).length = ds.length
  | _, [] => rfl
  | o, d :: ds => by simp [run, run_length b g]
def lessN (b g : Int) : Int → List Int → Int
  | _, [] => 0
  | o, d :: ds => (if mvby b g o d < 0 then 1 else 0) + lessN b g (mv b g o d) ds
def moreN (b g : Int) : Int → List Int → Int
  | _, [] => 0
  | o, d :: ds => (if mvby b g o d > 0 then 1 else 0) + moreN b g (mv b g o d) ds
theorem drf_iff {d : Int} : drf d = true ↔ -50 ≤ d ∧ d ≤ 50 := by simp [drf]
def runRes (b g o : Int) (ds : List Int) : List Int × Bool := if (run b g o ds).all offB = true then (run b g o ds, true) else ([], false)
theorem trackRun_l0 {b g : Int} (hc : ctl b g) (l : List Int) (hl : l.length ≤ 1048576) : ∀ (suf pre : List Int) (o : Int) (acc : List Int), l = pre ++ suf → suf.all drf = true → off o → acc.length = pre.length →
    Ev (fun k => impl_trackRun.l0 k o acc l (l.length : Int) (pre.length : Int) b g) (if (run b g o suf).all offB = true then (acc ++ run b g o suf, true) else ([], false)) := by
  intro suf
  induction suf with
  | nil =>
    intro pre o acc h hs ho ha
    refine Ev.step (fun k => impl_trackRun.l0.eq_2 ..) ?_
    simp only [rgEnd h, if_false]
    exact evNow (by simp [run])
  | cons x suf ih =>
    intro pre o acc h hs ho ha
    obtain ⟨h1, h2, h3, h4, h5⟩ := rgHead h (by omega) 0
    simp only [List.all_cons, Bool.and_eq_true] at hs
    have hx := drf_iff.1 hs.1
    have hf : far o := by unfold off at ho; unfold far; omega
    have hd : far x := by unfold far; omega
    have hp : pre.length ≤ 1048576 := by omega
    refine Ev.step (fun k => impl_trackRun.l0.eq_2 ..) ?_
    simp only [h1, h2, h3, rd, h4, if_true, moved_eq hc hf hd, isOffset_eq, Option.bind_some, decide_eq_true_eq]
    by_cases c : off (mv b g o x)
    · refine evPos c (evPos (by omega) (evEq (ih _ _ _ h5 hs.2 c (by simp [ha])) ?_))
      simp [run, offB, c]
    · refine evNeg c (evNow ?_)
      simp [run, offB, c]
theorem trackRun_ev {b g o : Int} {ds : List Int} (hc : ctl b g) (ho : off o) (hd : ds.all drf = true) (hl : ds.length ≤ 1048576) : Ev (fun k => impl_trackRun.f k b g o ds) (runRes b g o ds) :=
  evEq (trackRun_l0 hc ds hl ds [] o [] rfl hd ho rfl) (by unfold runRes; simp)
def tkRunRes (b g o : Int) (ds : List Int) : List Int × List Int × Bool := if (run b g o ds).all offB = true then (run b g o ds, [lessN b g o ds, moreN b g o ds], true) else ([], [], false)
theorem tkRun_l0 {b g : Int} (hc : ctl b g) (l : List Int) (hl : l.length ≤ 1048576) : ∀ (suf pre : List Int) (o : Int) (acc : List Int) (m0 m1 : Int), l = pre ++ suf → suf.all drf = true → off o → acc.length = pre.length → 0 ≤ m0 → m0 ≤ pre.length → 0 ≤ m1 → m1 ≤ pre.length →
    Ev (fun k => spec_tkRun.l0 k o acc [m0, m1] l (l.length : Int) (pre.length : Int) b g) (if (run b g o suf).all offB = true then (acc ++ run b g o suf, [m0 + lessN b g o suf, m1 + moreN b g o suf], true) else ([], [], false)) := by
  intro suf
  induction suf with
  | nil =>
    intro pre o acc m0 m1 h hs ho ha k0 k1 k2 k3
    refine Ev.step (fun k => spec_tkRun.l0.eq_2 ..) ?_
    simp only [rgEnd h, if_false]
    exact evNow (by simp [run, lessN, moreN])
  | cons x suf ih =>
    intro pre o acc m0 m1 h hs ho ha k0 k1 k2 k3
    obtain ⟨h1, h2, h3, h4, h5⟩ := rgHead h (by omega) 0
    simp only [List.all_cons, Bool.and_eq_true] at hs
    have hx := drf_iff.1 hs.1
    have hf : far o := by unfold off at ho; unfold far; omega
    have hd : far x := by unfold far; omega
    have hp : pre.length ≤ 1048576 := by omega
    have hb : mvby b g o x = -g ∨ mvby b g o x = g ∨ mvby b g o x = 0 := by unfold mvby; omega
    have hg : 1 ≤ g := hc.2.2.1
    refine Ev.step (fun k => spec_tkRun.l0.eq_2 ..) ?_
    simp only [h1, h2, rd, h4, if_true, tkStep_eq hc hf hd, Option.bind_some]
    by_cases b0 : mvby b g o x < 0
    · refine evPos b0 (evPos (by simp) (Ev.step (fun k => spec_tkRun.j1.eq_2 ..) (evNeg (by omega) ?_)))
      simp only [tkOffset_eq, Option.bind_some, decide_eq_true_eq, h3]
      by_cases c : off (mv b g o x)
      · refine evPos c (evPos (by omega) ?_)
        have e : [m0, m1].set (0 : Int).toNat (wrap64 ([m0, m1].getD (0 : Int).toNat 0 + 1)) = [m0 + 1, m1] := by simp; exact wrapi (by omega) (by omega)
        rw [e]
        refine evEq (ih _ _ _ _ _ h5 hs.2 c (by simp [ha]) (by omega) (by simp; omega) (by omega) (by simp; omega)) ?_
        simp [run, offB, c, lessN, moreN, b0, show ¬ mvby b g o x > 0 by omega, Int.add_assoc]
      · refine evNeg c (evNow ?_)
        simp [run, offB, c]
    · refine evNeg b0 (Ev.step (fun k => spec_tkRun.j1.eq_2 ..) ?_)
      simp only [tkOffset_eq, Option.bind_some, decide_eq_true_eq, h3]
      by_cases b1 : mvby b g o x > 0
      · refine evPos b1 (evPos (by simp) ?_)
        by_cases c : off (mv b g o x)
        · refine evPos c (evPos (by omega) ?_)
          have e : [m0, m1].set (1 : Int).toNat (wrap64 (rd [m0, m1] 1 + 1)) = [m0, m1 + 1] := by simp [rd]; exact wrapi (by omega) (by omega)
          rw [e]
          refine evEq (ih _ _ _ _ _ h5 hs.2 c (by simp [ha]) (by omega) (by simp; omega) (by omega) (by simp; omega)) ?_
          simp [run, offB, c, lessN, moreN, b0, b1, Int.add_assoc]
        · refine evNeg c (evNow ?_)
          simp [run, offB, c]
      · refine evNeg b1 ?_
        by_cases c : off (mv b g o x)
        · refine evPos c (evPos (by omega) ?_)
          refine evEq (ih _ _ _ _ _ h5 hs.2 c (by simp [ha]) (by omega) (by simp; omega) (by omega) (by simp; omega)) ?_
          simp [run, offB, c, lessN, moreN, b0, b1]
        · refine evNeg c (evNow ?_)
          simp [run, offB, c]
theorem tkRun_ev {b g o : Int} {ds : List Int} (hc : ctl b g) (ho : off o) (hd : ds.all drf = true) (hl : ds.length ≤ 1048576) : Ev (fun k => spec_tkRun.f k b g o ds) (tkRunRes b g o ds) :=
  evEq (tkRun_l0 hc ds hl ds [] o [] 0 0 rfl hd ho rfl (by omega) (by omega) (by omega) (by omega)) (by unfold tkRunRes; simp)
def asked (b g o : Int) (ds : List Int) : Bool := decide (ctl b g) && (decide (off o) && (ds.all drf && decide (ds.length ≤ 100)))
theorem asked_iff {b g o : Int} {ds : List Int} : asked b g o ds = true ↔ ctl b g ∧ off o ∧ ds.all drf = true ∧ ds.length ≤ 100 := by simp [asked]
theorem isRun_ev (b g o : Int) (ds : List Int) (hl : ds.length ≤ 1048576) : Ev (fun k => impl_isRun.f k b g o ds) (asked b g o ds) := by
  unfold impl_isRun.f asked
  simp only [isController_eq, isOffset_eq, Option.bind_some, decide_eq_true_eq]
  refine evBy (fun c => evBy (fun c' => Ev.bind (areDrifts_ev ds (by omega)) (evNow (by simp [c, c']))) (fun c' => evNow (by simp [c']))) (fun c => evNow (by simp [c]))
theorem l1All_l0 (l : List Int) (hl : l.length ≤ 1048576) : ∀ (suf pre : List Int), l = pre ++ suf →
    Ev (fun k => spec_l1All.l0 k (-50) 50 l (l.length : Int) (pre.length : Int)) (suf.all drf) := by
  intro suf
  induction suf with
  | nil =>
    intro pre h
    refine Ev.step (fun k => spec_l1All.l0.eq_2 ..) ?_
    simp only [rgEnd h, if_false]
    exact evNow (by simp)
  | cons x suf ih =>
    intro pre h
    obtain ⟨h1, h2, h3, h4, h5⟩ := rgHead h (by omega) 0
    refine Ev.step (fun k => spec_l1All.l0.eq_2 ..) ?_
    simp only [h1, h2, h3, rd, h4, if_true, in_eq, Option.bind_some, decide_eq_true_eq]
    refine evBy (fun c => evEq (ih _ h5) ?_) (fun c => evNow ?_)
    · rw [List.all_cons, show drf x = true from drf_iff.2 c]; rfl
    · rw [List.all_cons, show drf x = false from decide_eq_false c]; rfl
theorem tkAsked_ev (b g o : Int) (ds : List Int) : Ev (fun k => spec_tkAsked.f k b g o ds) (asked b g o ds) := by
  unfold spec_tkAsked.f asked
  simp only [tkGood_eq, tkOffset_eq, Option.bind_some, decide_eq_true_eq]
  refine evBy (fun c => evBy (fun c' => evBy (fun c2 => ?_) (fun c2 => evNow (by simp; omega))) (fun c' => evNow (by simp [c']))) (fun c => evNow (by simp [c]))
  exact Ev.bind (l1All_l0 ds (by omega) ds [] rfl) (evNow (by simp [c, c']; omega))
-- ** trackrun
def trackRes (b g o : Int) (ds : List Int) : List Int × Bool := if asked b g o ds = true then runRes b g o ds else ([], false)
theorem implTrackRun_ev (b g o : Int) (ds : List Int) (hl : ds.length ≤ 1048576) : Ev (fun k => impl_TrackRun.f k b g o ds) (trackRes b g o ds) := by
  unfold impl_TrackRun.f trackRes
  refine Ev.bind (isRun_ev b g o ds hl) (evIte (fun c => ?_) (fun c => Ev.now _))
  obtain ⟨h, h1, h2, h3⟩ := asked_iff.1 c
  exact Ev.bind (trackRun_ev h h1 h2 hl) (Ev.now _)
-- ** worst
def wst : Int → List Int → Int
  | w, [] => w
  | w, x :: l => wst (max w (x.natAbs : Int)) l
def worstRes (b g o : Int) (ds : List Int) : Int × Bool := if (run b g o ds).all offB = true then (wst (o.natAbs : Int) (run b g o ds), true) else (0, false)
theorem offB_iff {o : Int} : offB o = true ↔ -1000 ≤ o ∧ o ≤ 1000 := decide_eq_true_iff
theorem worstImpl_l0 (l : List Int) (hl : l.length ≤ 1048576) : ∀ (suf pre : List Int) (w : Int), l = pre ++ suf → suf.all offB = true →
    Ev (fun k => impl_WorstOffset.l0 k w l (l.length : Int) (pre.length : Int)) (wst w suf, true) := by
  intro suf
  induction suf with
  | nil =>
    intro pre w h hs
    refine Ev.step (fun k => impl_WorstOffset.l0.eq_2 ..) ?_
    simp only [rgEnd h, if_false]
    exact evNow (by simp [wst])
  | cons x suf ih =>
    intro pre w h hs
    obtain ⟨h1, h2, h3, h4, h5⟩ := rgHead h (by omega) 0
    simp only [List.all_cons, Bool.and_eq_true] at hs
    have hx := offB_iff.1 hs.1
    refine Ev.step (fun k => impl_WorstOffset.l0.eq_2 ..) ?_
    simp only [h1, h2, h3, rd, h4, if_true, distance_eq (a := x) (b := 0) (by omega) (by omega), Option.bind_some, mx_eq, Int.sub_zero]
    exact ih _ _ h5 hs.2
theorem worstSpec_l0 (l : List Int) (hl : l.length ≤ 1048576) : ∀ (suf pre : List Int) (w : Int), l = pre ++ suf → suf.all offB = true →
    Ev (fun k => spec_tkWorst.l0 k w l (l.length : Int) (pre.length : Int)) (wst w suf, true) := by
  intro suf
  induction suf with
  | nil =>
    intro pre w h hs
    refine Ev.step (fun k => spec_tkWorst.l0.eq_2 ..) ?_
    simp only [rgEnd h, if_false]
    exact evNow (by simp [wst])
  | cons x suf ih =>
    intro pre w h hs
    obtain ⟨h1, h2, h3, h4, h5⟩ := rgHead h (by omega) 0
    simp only [List.all_cons, Bool.and_eq_true] at hs
    have hx := offB_iff.1 hs.1
    refine Ev.step (fun k => spec_tkWorst.l0.eq_2 ..) ?_
    simp only [h1, h2, h3, rd, h4, if_true, l1Abs_eq (o := x) (by omega), l1Most_eq, Option.bind_some]
    exact ih _ _ h5 hs.2
theorem tkWorst_ev {b g o : Int} {ds : List Int} (hc : ctl b g) (ho : off o) (hd : ds.all drf = true) (hl : ds.length ≤ 1048576) : Ev (fun k => spec_tkWorst.f k b g o ds) (worstRes b g o ds) := by
  unfold spec_tkWorst.f
  refine Ev.bind (tkRun_ev hc ho hd hl) ?_
  unfold tkRunRes worstRes
  by_cases c : (run b g o ds).all offB = true
  · simp only [if_pos c, if_true]
    unfold off at ho
    simp only [l1Abs_eq (o := o) (by omega), Option.bind_some]
    exact worstSpec_l0 _ (by rw [run_length]; omega) _ [] _ rfl c
  · simp only [if_neg c]
    exact evNeg (by simp) (Ev.now _)
theorem implWorst_ev (b g o : Int) (ds : List Int) (hl : ds.length ≤ 1048576) : Ev (fun k => impl_WorstOffset.f k b g o ds) (if asked b g o ds = true then worstRes b g o ds else (0, false)) := by
  unfold impl_WorstOffset.f
  refine Ev.bind (implTrackRun_ev b g o ds hl) ?_
  unfold trackRes runRes worstRes
  by_cases a : asked b g o ds = true
  · obtain ⟨h, ho, h2, h3⟩ := asked_iff.1 a
    by_cases c : (run b g o ds).all offB = true
    · simp only [if_pos a, if_pos c, if_true]
      unfold off at ho
      simp only [distance_eq (a := o) (b := 0) (by omega) (by omega), Option.bind_some, Int.sub_zero]
      exact worstImpl_l0 _ (by rw [run_length]; omega) _ [] _ rfl c
    · simp only [if_pos a, if_neg c]
      exact evNeg (by simp) (Ev.now _)
  · simp only [if_neg a]
    exact evNeg (by simp) (Ev.now _)
-- ** trackmath
def lst : Int → List Int → Int
  | o, [] => o
  | _, x :: l => lst x l
-- ** FnExactTrackRun
theorem specTrackRun_ev (b g o : Int) (ds : List Int) : Ev (fun k => spec_TrackRun.f k b g o ds) (trackRes b g o ds) := by
  unfold spec_TrackRun.f trackRes
  refine Ev.bind (tkAsked_ev b g o ds) (evIte (fun c => ?_) (fun c => Ev.now _))
  obtain ⟨h, h1, h2, h3⟩ := asked_iff.1 c
  refine Ev.bind (tkRun_ev h h1 h2 (by omega)) (evNow ?_)
  unfold tkRunRes runRes; split <;> rfl
-- ** trackbounds
def Cl (b g m : Int) (i : Nat) (L : List Int) : Prop := ∀ j x, j < i → L[j]? = some x → ∀ d, -m ≤ d → d ≤ m → mv b g x d ∈ L
theorem cl_add {b g m : Int} {i : Nat} {L : List Int} (y : Int) (hi : i ≤ L.length) (h : Cl b g m i L) : Cl b g m i (L ++ [y]) := by
  intro j x hj hx d h0 h1
  rw [List.getElem?_append_left (by omega)] at hx
  exact List.mem_append_left _ (h j x hj hx d h0 h1)
theorem reachC {b g m B : Int} (hc : ctl b g) (hm : 0 ≤ m ∧ m ≤ 50 ∧ m ≤ g) (hB : B = max b (g - b - 1)) : ∀ (n i : Nat) (L : List Int) (met : List Bool) (M : List (Int × Bool)), i + n = met.length → Inv B L met M → i ≤ L.length → 0 ∈ L → Cl b g m i L →
    ∃ Lf, Ev (fun k => spec_ReachedOffset.l0 k m B met L (mxa L) (i : Int) b g) (mxa Lf, true) ∧ Ev (fun k => impl_ReachedOffset.l0 k m L (mxa (L.take i)) (i : Int) b g M) (mxa Lf, true) ∧ 0 ∈ Lf ∧ (∀ x, x ∈ Lf → -B ≤ x ∧ x ≤ B) ∧ (∀ x, x ∈ Lf → ∀ d, -m ≤ d → d ≤ m → mv b g x d ∈ Lf) := by
  have hc' := hc
  unfold ctl at hc'
  have fin : ∀ (L : List Int) (met : List Bool) (M : List (Int × Bool)), Inv B L met M → 0 ∈ L → Cl b g m L.length L →
      ∃ Lf, Ev (fun k => spec_ReachedOffset.l0 k m B met L (mxa L) (L.length : Int) b g) (mxa Lf, true) ∧ Ev (fun k => impl_ReachedOffset.l0 k m L (mxa (L.take L.length)) (L.length : Int) b g M) (mxa Lf, true) ∧ 0 ∈ Lf ∧ (∀ x, x ∈ Lf → -B ≤ x ∧ x ≤ B) ∧ (∀ x, x ∈ Lf → ∀ d, -m ≤ d → d ≤ m → mv b g x d ∈ Lf) := by
    intro L met M hI h0 hC
    refine ⟨L, Ev.step (fun k => spec_ReachedOffset.l0.eq_2 ..) (evNeg (by omega) (Ev.now _)), Ev.step (fun k => impl_ReachedOffset.l0.eq_2 ..) (evNeg (by omega) (evNow (by rw [List.take_length]))), h0, hI.mem, fun x hx d h1 h2 => ?_⟩
    obtain ⟨j, hj, e⟩ := List.mem_iff_getElem.1 hx
    exact hC j x hj (by rw [List.getElem?_eq_getElem hj, e]) d h1 h2
  intro n
  induction n with
  | zero =>
    intro i L met M hi hI hL h0 hC
    have hcn := hI.cnt
    obtain rfl : i = L.length := by omega
    exact fin L met M hI h0 hC
  | succ n ih =>
    intro i L met M hi hI hL hz hC
    by_cases c : i < L.length
    · have hcn := hI.cnt
      have hln := hI.len
      have inner : ∀ (q : Nat) (d : Int) (L : List Int) (met : List Bool) (M : List (Int × Bool)), d + (q : Int) = m + 1 → -m ≤ d → i + (n + 1) = met.length → Inv B L met M → i < L.length → 0 ∈ L → Cl b g m i L → (∀ d', -m ≤ d' → d' < d → mv b g (rd L (i : Int)) d' ∈ L) →
          ∃ Lf, Ev (fun k => spec_ReachedOffset.l1 k m B met L (mxa L) (i : Int) d b g) (mxa Lf, true) ∧ Ev (fun k => impl_ReachedOffset.l1 k m L (mxa (L.take (i + 1))) (i : Int) d b g M) (mxa Lf, true) ∧ 0 ∈ Lf ∧ (∀ x, x ∈ Lf → -B ≤ x ∧ x ≤ B) ∧ (∀ x, x ∈ Lf → ∀ d, -m ≤ d → d ≤ m → mv b g x d ∈ Lf) := by
        intro q
        induction q with
        | zero =>
          intro d L met M hd hd0 hi hI hL hz hC hD
          have hC' : Cl b g m (i + 1) L := by
            intro j x hj hx d' h1 h2
            by_cases e : j < i
            · exact hC j x e hx d' h1 h2
            · obtain rfl : j = i := by omega
              have := hD d' h1 (by omega)
              unfold rd at this
              rw [List.getD_eq_getElem?_getD, Int.toNat_natCast, hx, Option.getD_some] at this
              exact this
          obtain ⟨Lf, h1, h2, h3⟩ := ih (i + 1) L met M (by omega) hI (by omega) hz hC'
          have hln := hI.len
          have e : wrap64 ((i : Int) + 1) = ((i + 1 : Nat) : Int) := by rw [wrapi (by omega) (by omega)]; omega
          exact ⟨Lf, Ev.step (fun k => spec_ReachedOffset.l1.eq_2 ..) (evNeg (by omega) (by rw [e]; exact h1)), Ev.step (fun k => impl_ReachedOffset.l1.eq_2 ..) (evNeg (by omega) (by rw [e]; exact h2)), h3⟩
        | succ q ihq =>
          intro d L met M hd hd0 hi hI hL hz hC hD
          have hln := hI.len
          have hcn := hI.cnt
          have hx := hI.mem (rd L (i : Int)) (by unfold rd; rw [List.getD_eq_getElem?_getD, List.getElem?_eq_getElem (by omega), Option.getD_some]; exact List.getElem_mem _)
          have hy : -B ≤ mv b g (rd L (i : Int)) d ∧ mv b g (rd L (i : Int)) d ≤ B := by
            unfold mv; split
            · omega
            · split <;> omega
          have s1 := tkStep_eq (o := rd L (i : Int)) (d := d) hc (by unfold far; omega) (by unfold far; omega)
          have s2 := moved_eq (o := rd L (i : Int)) (d := d) hc (by unfold far; omega) (by unfold far; omega)
          have hmet := hI.hmet _ hy.1 hy.2
          have hmap := hI.map _ hy.1 hy.2
          have ed : wrap64 (d + 1) = d + 1 := wrapi (by omega) (by omega)
          have ew : wrap64 (mv b g (rd L (i : Int)) d + B) = mv b g (rd L (i : Int)) d + B := wrapi (by omega) (by omega)
          by_cases cy : mv b g (rd L (i : Int)) d ∈ L
          · obtain ⟨Lf, h1, h2, h3⟩ := ihq (d + 1) L met M (by omega) (by omega) hi hI hL hz hC (fun d' q1 q2 => by
              by_cases e : d' < d
              · exact hD d' q1 e
              · obtain rfl : d' = d := by omega
                exact cy)
            rw [decide_eq_true cy] at hmet hmap
            refine ⟨Lf, Ev.step (fun k => spec_ReachedOffset.l1.eq_2 ..) (evPos (by omega) (evPos (by omega) (evPos (by omega) ?_))), Ev.step (fun k => impl_ReachedOffset.l1.eq_2 ..) (evPos (by omega) (evPos (by omega) (evPos (by omega) ?_))), h3⟩
            · rw [s1]; simp only [Option.bind_some]; rw [ew, ed]
              exact evPos (by omega) (evPos (by omega) (evPos (by unfold rdOf; exact hmet) h1))
            · rw [s2]; simp only [Option.bind_some]; rw [ed]
              exact evPos hmap h2
          · have er : rd (L ++ [mv b g (rd L (i : Int)) d]) (i : Int) = rd L (i : Int) := by
              unfold rd
              rw [List.getD_eq_getElem?_getD, List.getD_eq_getElem?_getD, List.getElem?_append_left (by omega)]
            obtain ⟨Lf, h1, h2, h3⟩ := ihq (d + 1) (L ++ [mv b g (rd L (i : Int)) d]) (met.set (mv b g (rd L (i : Int)) d + B).toNat true) (Mp.mput M (mv b g (rd L (i : Int)) d) true) (by omega) (by omega) (by simpa using hi) (inv_add hI hy.1 hy.2 cy) (by simp; omega) (List.mem_append_left _ hz) (cl_add _ (by omega) hC) (fun d' q1 q2 => by
              rw [er]
              by_cases e : d' < d
              · exact List.mem_append_left _ (hD d' q1 e)
              · obtain rfl : d' = d := by omega
                simp)
            rw [decide_eq_false cy] at hmet hmap
            rw [mxa_snoc] at h1
            rw [List.take_append_of_le_length (by omega)] at h2
            refine ⟨Lf, Ev.step (fun k => spec_ReachedOffset.l1.eq_2 ..) (evPos (by omega) (evPos (by omega) (evPos (by omega) ?_))), Ev.step (fun k => impl_ReachedOffset.l1.eq_2 ..) (evPos (by omega) (evPos (by omega) (evPos (by omega) ?_))), h3⟩
            · rw [s1]; simp only [Option.bind_some]; rw [ew, ed]
              refine evPos (by omega) (evPos (by omega) (evNeg (by unfold rdOf; rw [hmet]; simp) (evPos (by omega) ?_)))
              rw [l1Abs_eq (by omega)]
              simp only [l1Most_eq, Option.bind_some]
              exact h1
            · rw [s2]; simp only [Option.bind_some]; rw [ed]
              exact evNeg (by rw [hmap]; simp) (evPos (by omega) h2)
      obtain ⟨Lf, h1, h2, h3⟩ := inner (2 * m + 1).toNat (-m) L met M (by omega) (by omega) hi hI c hz hC (fun d' q1 q2 => by omega)
      have hx := hI.mem (rd L (i : Int)) (by unfold rd; rw [List.getD_eq_getElem?_getD, List.getElem?_eq_getElem (by omega), Option.getD_some]; exact List.getElem_mem _)
      have et : mxa (L.take (i + 1)) = max (mxa (L.take i)) ((rd L (i : Int)).natAbs : Int) := by
        rw [List.take_add_one, List.getElem?_eq_getElem c, Option.toList_some, mxa_snoc]
        unfold rd; rw [List.getD_eq_getElem?_getD, Int.toNat_natCast, List.getElem?_eq_getElem c, Option.getD_some]
      rw [et] at h2
      refine ⟨Lf, Ev.step (fun k => spec_ReachedOffset.l0.eq_2 ..) (evPos (by omega) ?_), Ev.step (fun k => impl_ReachedOffset.l0.eq_2 ..) (evPos (by omega) (evPos (by omega) ?_)), h3⟩
      · rw [wrapi (x := -m) (by omega) (by omega)]; exact h1
      · rw [distance_eq (by omega) (by omega), wrapi (x := -m) (by omega) (by omega)]
        simp only [mx_eq, Option.bind_some, Int.sub_zero]
        exact h2
    · obtain rfl : i = L.length := by omega
      exact fin L met M hI hz hC
theorem mxa_le : ∀ (l : List Int) (x : Int), x ∈ l → (x.natAbs : Int) ≤ mxa l := by
  have key : ∀ (l : List Int) (m : Int), m ≤ l.foldl (fun m x => max m (x.natAbs : Int)) m ∧ ∀ x, x ∈ l → (x.natAbs : Int) ≤ l.foldl (fun m x => max m (x.natAbs : Int)) m := by
    intro l
    induction l with
    | nil => intro m; simp
    | cons a l ih =>
      intro m
      obtain ⟨h1, h2⟩ := ih (max m (a.natAbs : Int))
      refine ⟨by simp only [List.foldl_cons]; omega, fun x hx => ?_⟩
      simp only [List.foldl_cons]
      rcases List.mem_cons.1 hx with rfl | q
      · omega
      · exact h2 x q
  intro l x hx
  exact (key l 0).2 x hx
theorem mxa_bd (B : Int) : ∀ (l : List Int), 0 ≤ B → (∀ x, x ∈ l → -B ≤ x ∧ x ≤ B) → 0 ≤ mxa l ∧ mxa l ≤ B := by
  have key : ∀ (l : List Int) (m : Int), 0 ≤ m → m ≤ B → (∀ x, x ∈ l → -B ≤ x ∧ x ≤ B) → 0 ≤ l.foldl (fun m x => max m (x.natAbs : Int)) m ∧ l.foldl (fun m x => max m (x.natAbs : Int)) m ≤ B := by
    intro l
    induction l with
    | nil => intro m h0 h1 _; exact ⟨h0, h1⟩
    | cons a l ih =>
      intro m h0 h1 h
      have := h a (by simp)
      exact ih (max m (a.natAbs : Int)) (by omega) (by omega) (fun x hx => h x (by simp [hx]))
  intro l hB h
  exact key l 0 (by omega) hB h
def rok (b g m : Int) : Prop := ctl b g ∧ 0 ≤ m ∧ m ≤ 50 ∧ m ≤ g
instance (b g m : Int) : Decidable (rok b g m) := by unfold rok; exact inferInstance
theorem bothC (b g m : Int) : ∃ r : Int × Bool, Ev (fun k => spec_ReachedOffset.f k b g m) r ∧ Ev (fun k => impl_ReachedOffset.f k b g m) r ∧
    (rok b g m → r.2 = true ∧ 0 ≤ r.1 ∧ r.1 ≤ max b (g - b - 1) ∧ ∃ C : Int → Prop, C 0 ∧ (∀ x, C x → (x.natAbs : Int) ≤ r.1) ∧ (∀ x, C x → ∀ d, -m ≤ d → d ≤ m → C (mv b g x d))) ∧ (¬ rok b g m → r = (0, false)) := by
  unfold spec_ReachedOffset.f impl_ReachedOffset.f
  simp only [tkMost_eq, isController_eq, isMostDrift_eq, Option.bind_some, decide_eq_true_eq]
  by_cases hc : ctl b g
  · by_cases hm : 0 ≤ m ∧ m ≤ 50
    · by_cases hg : g < m
      · exact ⟨(0, false), evPos ⟨hc, hm⟩ (Ev.step (fun k => spec_ReachedOffset.j0.eq_2 ..) (evPos (by simpa using hg) (Ev.now _))), evPos hc (evPos hm (Ev.step (fun k => impl_ReachedOffset.j0.eq_2 ..) (evPos (by simpa using hg) (Ev.now _)))), fun q => absurd q.2.2.2 (by omega), fun _ => rfl⟩
      · have hc' := hc
        unfold ctl at hc'
        have hI := inv0 (B := max b (g - b - 1)) (by omega)
        obtain ⟨Lf, h1, h2, h3, h4, h5⟩ := reachC hc ⟨hm.1, hm.2, by omega⟩ rfl (2 * max b (g - b - 1) + 1).toNat 0 [0] _ _ (by simp) hI (by simp) (by simp) (fun j x hj => by omega)
        refine ⟨(mxa Lf, true), evPos ⟨hc, hm⟩ (Ev.step (fun k => spec_ReachedOffset.j0.eq_2 ..) (evNeg (by simpa using hg) ?_)), evPos hc (evPos hm (Ev.step (fun k => impl_ReachedOffset.j0.eq_2 ..) (evNeg (by simpa using hg) h2))), fun _ => ?_, fun q => absurd ⟨hc, hm.1, hm.2, by omega⟩ q⟩
        · rw [tkBound_eq b g hc]
          simp only [Option.bind_some]
          rw [wrapi (x := 2 * max b (g - b - 1)) (by omega) (by omega), wrapi (x := 2 * max b (g - b - 1) + 1) (by omega) (by omega)]
          refine evPos (by omega) (evPos (by omega) (evPos (by omega) (evPos (by simp; omega) ?_)))
          exact h1
        · have hb := mxa_bd (max b (g - b - 1)) Lf (by omega) h4
          exact ⟨rfl, hb.1, hb.2, fun x => x ∈ Lf, h3, fun x hx => mxa_le Lf x hx, h5⟩
    · exact ⟨(0, false), evNeg (fun q => hm q.2) (Ev.step (fun k => spec_ReachedOffset.j0.eq_2 ..) (evPos rfl (Ev.now _))), evPos hc (evNeg hm (Ev.step (fun k => impl_ReachedOffset.j0.eq_2 ..) (evPos rfl (Ev.now _)))), fun q => absurd ⟨q.2.1, q.2.2.1⟩ hm, fun _ => rfl⟩
  · exact ⟨(0, false), evNeg (fun q => hc q.1) (Ev.step (fun k => spec_ReachedOffset.j0.eq_2 ..) (evPos rfl (Ev.now _))), evNeg hc (Ev.step (fun k => impl_ReachedOffset.j0.eq_2 ..) (evPos rfl (Ev.now _))), fun q => absurd q.1 hc, fun _ => rfl⟩
-- the least gain
def good (b o : Int) (ds : List Int) (lim g : Int) : Prop := (worstRes b g o ds).2 = true ∧ (worstRes b g o ds).1 ≤ lim
theorem gain_loopsC {b o lim : Int} {ds : List Int} (ha : asked b 1 o ds = true) : ∀ (d : Nat) (g : Int), g + d = 101 → 1 ≤ g →
    ∃ r : Int × Bool, Ev (fun k => spec_LeastGain.l0 k b o ds lim g) r ∧ Ev (fun k => impl_LeastGain.l0 k b o ds lim g) r ∧ (r.2 = true → g ≤ r.1 ∧ r.1 ≤ 100 ∧ good b o ds lim r.1 ∧ ∀ q, g ≤ q → q < r.1 → ¬ good b o ds lim q) := by
  obtain ⟨h, ho, h2, h3⟩ := asked_iff.1 ha
  intro d
  induction d with
  | zero =>
    intro g hg h0
    exact ⟨(0, false), Ev.step (fun k => spec_LeastGain.l0.eq_2 ..) (evNeg (by omega) (Ev.now _)), Ev.step (fun k => impl_LeastGain.l0.eq_2 ..) (evNeg (by omega) (Ev.now _)), fun q => by simp at q⟩
  | succ d ih =>
    intro g hg h0
    obtain ⟨r, hr, hr', hp⟩ := ih (g + 1) (by omega) (by omega)
    have hc : ctl b g := by unfold ctl at h ⊢; omega
    have hq : asked b g o ds = true := asked_iff.2 ⟨hc, ho, h2, h3⟩
    have es := tkWorst_ev hc ho h2 (by omega)
    have ei := implWorst_ev b g o ds (by omega)
    rw [if_pos hq] at ei
    have hw : wrap64 (g + 1) = g + 1 := wrapi (by omega) (by omega)
    by_cases c : (worstRes b g o ds).2 = true
    · by_cases c' : (worstRes b g o ds).1 ≤ lim
      · exact ⟨(g, true), Ev.step (fun k => spec_LeastGain.l0.eq_2 ..) (evPos (by omega) (Ev.bind es (evPos c (evPos c' (Ev.now _))))), Ev.step (fun k => impl_LeastGain.l0.eq_2 ..) (evPos (by omega) (Ev.bind ei (evPos c (evPos c' (Ev.now _))))), fun _ => ⟨by omega, by omega, ⟨c, c'⟩, fun q h1 h2 => by simp at h2; omega⟩⟩
      · refine ⟨r, Ev.step (fun k => spec_LeastGain.l0.eq_2 ..) (evPos (by omega) (Ev.bind es (evPos c (evNeg c' ?_)))), Ev.step (fun k => impl_LeastGain.l0.eq_2 ..) (evPos (by omega) (Ev.bind ei (evPos c (evNeg c' ?_)))), fun q => ?_⟩
        · rw [hw]; exact hr
        · rw [hw]; exact hr'
        · obtain ⟨p1, p2, p3, p4⟩ := hp q
          refine ⟨by omega, p2, p3, fun z z1 z2 => ?_⟩
          by_cases e : z = g
          · subst e; exact fun y => c' y.2
          · exact p4 z (by omega) z2
    · refine ⟨r, Ev.step (fun k => spec_LeastGain.l0.eq_2 ..) (evPos (by omega) (Ev.bind es (evNeg c ?_))), Ev.step (fun k => impl_LeastGain.l0.eq_2 ..) (evPos (by omega) (Ev.bind ei (evNeg c ?_))), fun q => ?_⟩
      · rw [hw]; exact hr
      · rw [hw]; exact hr'
      · obtain ⟨p1, p2, p3, p4⟩ := hp q
        refine ⟨by omega, p2, p3, fun z z1 z2 => ?_⟩
        by_cases e : z = g
        · subst e; exact fun y => c y.1
        · exact p4 z (by omega) z2
theorem gain_bothC (b o : Int) (ds : List Int) (lim : Int) (hl : ds.length ≤ 1048576) : ∃ r : Int × Bool, Ev (fun k => spec_LeastGain.f k b o ds lim) r ∧ Ev (fun k => impl_LeastGain.f k b o ds lim) r ∧ (r.2 = true → asked b 1 o ds = true ∧ 1 ≤ r.1 ∧ r.1 ≤ 100 ∧ good b o ds lim r.1 ∧ ∀ q, 1 ≤ q → q < r.1 → ¬ good b o ds lim q) := by
  by_cases ha : asked b 1 o ds = true
  · by_cases hm : 0 ≤ lim ∧ lim ≤ 2000
    · obtain ⟨r, h1, h2, hp⟩ := gain_loopsC (lim := lim) ha 100 1 (by omega) (by omega)
      refine ⟨r, ?_, ?_, fun q => ⟨ha, hp q⟩⟩
      · unfold spec_LeastGain.f
        refine Ev.bind (tkAsked_ev b 1 o ds) (evPos ha ?_)
        simp only [in_eq, decide_eq_true hm, Option.bind_some, Bool.not_true]
        exact Ev.step (fun k => spec_LeastGain.j0.eq_2 ..) (evNeg (by simp) h1)
      · unfold impl_LeastGain.f
        refine Ev.bind (isRun_ev b 1 o ds hl) (evPos ha ?_)
        simp only [isLimit_eq, decide_eq_true hm, Option.bind_some, Bool.not_true]
        exact Ev.step (fun k => impl_LeastGain.j0.eq_2 ..) (evNeg (by simp) h2)
    · refine ⟨(0, false), ?_, ?_, fun q => by simp at q⟩
      · unfold spec_LeastGain.f
        refine Ev.bind (tkAsked_ev b 1 o ds) (evPos ha ?_)
        simp only [in_eq, decide_eq_false hm, Option.bind_some, Bool.not_false]
        exact Ev.step (fun k => spec_LeastGain.j0.eq_2 ..) (evPos rfl (Ev.now _))
      · unfold impl_LeastGain.f
        refine Ev.bind (isRun_ev b 1 o ds hl) (evPos ha ?_)
        simp only [isLimit_eq, decide_eq_false hm, Option.bind_some, Bool.not_false]
        exact Ev.step (fun k => impl_LeastGain.j0.eq_2 ..) (evPos rfl (Ev.now _))
  · refine ⟨(0, false), ?_, ?_, fun q => by simp at q⟩
    · unfold spec_LeastGain.f
      exact Ev.bind (tkAsked_ev b 1 o ds) (evNeg ha (Ev.step (fun k => spec_LeastGain.j0.eq_2 ..) (evPos rfl (Ev.now _))))
    · unfold impl_LeastGain.f
      exact Ev.bind (isRun_ev b 1 o ds hl) (evNeg ha (Ev.step (fun k => impl_LeastGain.j0.eq_2 ..) (evPos rfl (Ev.now _))))
-- the drifts that drive it out: what is known of each element of a level
theorem run_snoc (b g : Int) (d : Int) : ∀ (ds : List Int) (o : Int), run b g o (ds ++ [d]) = run b g o ds ++ [mv b g (lst o (run b g o ds)) d]
  | [], o => rfl
  | x :: ds, o => by simp only [List.cons_append, run, lst]; rw [run_snoc b g d ds]
theorem lst_snoc (x : Int) : ∀ (l : List Int) (o : Int), lst o (l ++ [x]) = x
  | [], _ => rfl
  | y :: l, o => by simp only [List.cons_append, lst]; exact lst_snoc x l y
structure Pa (b g m lim : Int) (e : S108) : Prop where
  lst : lst 0 (run b g 0 e.f1) = e.f0
  drf : ∀ x, x ∈ e.f1 → x = -m ∨ x = 0 ∨ x = m
  low : ∀ n, n ∈ run b g 0 e.f1 → (n.natAbs : Int) ≤ lim
structure Out (b g m lim : Int) (n : Nat) (r : List Int) : Prop where
  ex : ∃ e : S108, ∃ d, r = e.f1 ++ [d] ∧ Pa b g m lim e ∧ okO b g n e.f0 ∧ e.f1.length = n ∧ (d = -m ∨ d = 0 ∨ d = m) ∧ lim < ((mv b g e.f0 d).natAbs : Int)
theorem pa_snoc {b g m lim : Int} {e : S108} {d : Int} (h : Pa b g m lim e) (hd : d = -m ∨ d = 0 ∨ d = m) (hl : ¬ lim < ((mv b g e.f0 d).natAbs : Int)) : Pa b g m lim ⟨mv b g e.f0 d, e.f1 ++ [d]⟩ := by
  refine ⟨?_, fun x hx => ?_, fun n hn => ?_⟩
  · show lst 0 (run b g 0 (e.f1 ++ [d])) = mv b g e.f0 d
    rw [run_snoc, lst_snoc, h.lst]
  · have hx : x ∈ e.f1 ++ [d] := hx
    rcases List.mem_append.1 hx with q | q
    · exact h.drf x q
    · rw [List.mem_singleton.1 q]; exact hd
  · have hn : n ∈ run b g 0 (e.f1 ++ [d]) := hn
    rw [run_snoc, h.lst] at hn
    rcases List.mem_append.1 hn with q | q
    · exact h.low n q
    · rw [List.mem_singleton.1 q]; omega
def PaL (b g m lim : Int) (n : Nat) (l : List S108) : Prop := ∀ e, e ∈ l → Pa b g m lim e ∧ okO b g n e.f0 ∧ e.f1.length = n
theorem exd_pa {b g m lim : Int} (hc : ctl b g) (hm : 0 ≤ m ∧ m ≤ 50) {n : Nat} {e : S108} (he : Pa b g m lim e ∧ okO b g n e.f0 ∧ e.f1.length = n) : ∀ (ds : List Int), (∀ d, d ∈ ds → d = -m ∨ d = 0 ∨ d = m) → ∀ (nx : List S108) (mt : List Int), PaL b g m lim (n + 1) nx →
    (∀ r, exd b g lim e ds nx mt = .inl r → Out b g m lim n r) ∧ (∀ p, exd b g lim e ds nx mt = .inr p → PaL b g m lim (n + 1) p.1)
  | [], _, nx, mt, hn => ⟨fun r h => by simp [exd] at h, fun p h => by simp only [exd] at h; injection h with h; subst h; exact hn⟩
  | d :: ds, hd, nx, mt, hn => by
    have hd1 := hd d (by simp)
    have ih := exd_pa hc hm he ds (fun x hx => hd x (by simp [hx]))
    simp only [exd]
    by_cases q : lim < ((mv b g e.f0 d).natAbs : Int)
    · rw [if_pos q]
      exact ⟨fun r h => by injection h with h; exact ⟨e, d, h.symm, he.1, he.2.1, he.2.2, hd1, q⟩, fun p h => by cases h⟩
    · rw [if_neg q]
      by_cases c : mv b g e.f0 d ∈ mt
      · rw [if_pos c]; exact ih nx mt hn
      · rw [if_neg c]
        refine ih _ _ (fun x hx => ?_)
        rcases List.mem_append.1 hx with z | z
        · exact hn x z
        · rw [List.mem_singleton.1 z]
          exact ⟨pa_snoc he.1 hd1 q, okO_mv hc (by omega) he.2.1, by simp [he.2.2]⟩
theorem exl_pa {b g m lim : Int} (hc : ctl b g) (hm : 0 ≤ m ∧ m ≤ 50) {n : Nat} : ∀ (l nx : List S108) (mt : List Int), PaL b g m lim n l → PaL b g m lim (n + 1) nx →
    (∀ r, exl b g m lim l nx mt = .inl r → Out b g m lim n r) ∧ (∀ p, exl b g m lim l nx mt = .inr p → PaL b g m lim (n + 1) p.1)
  | [], nx, mt, _, hn => ⟨fun r h => by simp [exl] at h, fun p h => by simp only [exl] at h; injection h with h; subst h; exact hn⟩
  | e :: l, nx, mt, hl, hn => by
    obtain ⟨h1, h2⟩ := exd_pa hc hm (hl e (by simp)) [-m, 0, m] (fun d hd => by simpa using hd) nx mt hn
    simp only [exl]
    cases c : exd b g lim e [-m, 0, m] nx mt with
    | inl r => exact ⟨fun r' h => by injection h with h; subst h; exact h1 r c, fun p h => by cases h⟩
    | inr p => exact exl_pa hc hm l p.1 p.2 (fun x hx => hl x (by simp [hx])) (h2 p c)
theorem lev_pa {b g m lim : Int} (hc : ctl b g) (hm : 0 ≤ m ∧ m ≤ 50) : ∀ (N n : Nat) (cur : List S108) (mt : List Int), N + n = 20 → PaL b g m lim n cur → (lev b g m lim N cur mt).2 = true → ∃ n', n' < 20 ∧ Out b g m lim n' (lev b g m lim N cur mt).1
  | 0, _, _, _, _, _, h => by simp [lev] at h
  | _ + 1, _, [], _, _, _, h => by simp [lev] at h
  | N + 1, n, e :: l, mt, hN, hp, h => by
    obtain ⟨h1, h2⟩ := exl_pa hc hm (e :: l) [] mt hp (fun _ q => by simp at q)
    simp only [lev] at h ⊢
    cases c : exl b g m lim (e :: l) [] mt with
    | inl r => simp only [fin]; exact ⟨n, by omega, h1 r c⟩
    | inr p => rw [c] at h; simp only [fin] at h ⊢; exact lev_pa hc hm N (n + 1) p.1 p.2 (by omega) (h2 p c) h
-- where all that can be reached is low, nothing drives it out
theorem exd_low {b g m lim : Int} {C : Int → Prop} (h1 : ∀ x, C x → (x.natAbs : Int) ≤ lim) (h2 : ∀ x, C x → ∀ d, -m ≤ d → d ≤ m → C (mv b g x d)) {e : S108} (he : C e.f0) : ∀ (ds : List Int), (∀ d, d ∈ ds → -m ≤ d ∧ d ≤ m) → ∀ (nx : List S108) (mt : List Int), (∀ x, x ∈ nx → C x.f0) → ∃ p, exd b g lim e ds nx mt = .inr p ∧ ∀ x, x ∈ p.1 → C x.f0
  | [], _, nx, mt, hn => ⟨(nx, mt), rfl, hn⟩
  | d :: ds, hd, nx, mt, hn => by
    have hd1 := hd d (by simp)
    have ih := exd_low h1 h2 he ds (fun x hx => hd x (by simp [hx]))
    have hC := h2 _ he d hd1.1 hd1.2
    have hL := h1 _ hC
    simp only [exd]
    rw [if_neg (by omega)]
    by_cases c : mv b g e.f0 d ∈ mt
    · rw [if_pos c]; exact ih nx mt hn
    · rw [if_neg c]
      refine ih _ _ (fun x hx => ?_)
      rcases List.mem_append.1 hx with z | z
      · exact hn x z
      · rw [List.mem_singleton.1 z]; exact hC
theorem exl_low {b g m lim : Int} (hm : 0 ≤ m) {C : Int → Prop} (h1 : ∀ x, C x → (x.natAbs : Int) ≤ lim) (h2 : ∀ x, C x → ∀ d, -m ≤ d → d ≤ m → C (mv b g x d)) : ∀ (l nx : List S108) (mt : List Int), (∀ x, x ∈ l → C x.f0) → (∀ x, x ∈ nx → C x.f0) → ∃ p, exl b g m lim l nx mt = .inr p ∧ ∀ x, x ∈ p.1 → C x.f0
  | [], nx, mt, _, hn => ⟨(nx, mt), rfl, hn⟩
  | e :: l, nx, mt, hl, hn => by
    obtain ⟨p, hp, hp'⟩ := exd_low h1 h2 (hl e (by simp)) [-m, 0, m] (fun d hd => by simp at hd; omega) nx mt hn
    simp only [exl, hp]
    exact exl_low hm h1 h2 l p.1 p.2 (fun x hx => hl x (by simp [hx])) hp'
theorem lev_low {b g m lim : Int} (hm : 0 ≤ m) {C : Int → Prop} (h1 : ∀ x, C x → (x.natAbs : Int) ≤ lim) (h2 : ∀ x, C x → ∀ d, -m ≤ d → d ≤ m → C (mv b g x d)) : ∀ (N : Nat) (cur : List S108) (mt : List Int), (∀ x, x ∈ cur → C x.f0) → (lev b g m lim N cur mt).2 = false
  | 0, _, _, _ => rfl
  | _ + 1, [], _, _ => rfl
  | N + 1, e :: l, mt, h => by
    obtain ⟨p, hp, hp'⟩ := exl_low hm h1 h2 (e :: l) [] mt h (fun _ q => by simp at q)
    simp only [lev, hp, fin]
    exact lev_low hm h1 h2 N p.1 p.2 hp'
theorem drv_low {b g m lim : Int} {C : Int → Prop} (h0 : C 0) (h1 : ∀ x, C x → (x.natAbs : Int) ≤ lim) (h2 : ∀ x, C x → ∀ d, -m ≤ d → d ≤ m → C (mv b g x d)) : (drvRes b g m lim).2 = false := by
  unfold drvRes
  split
  · rename_i h
    exact lev_low h.2.1.1 h1 h2 20 _ _ (fun x hx => by rw [List.mem_singleton.1 hx]; exact h0)
  · rfl
theorem drv_out {b g m lim : Int} (h : (drvRes b g m lim).2 = true) : drvOk b g m lim ∧ ∃ n, n < 20 ∧ Out b g m lim n (drvRes b g m lim).1 := by
  unfold drvRes at h ⊢
  by_cases c : drvOk b g m lim
  · rw [if_pos c] at h ⊢
    refine ⟨c, lev_pa c.1 c.2.1 20 0 _ _ rfl (fun e he => ?_) h⟩
    rw [List.mem_singleton.1 he]
    exact ⟨⟨rfl, fun x hx => by simp at hx, fun n hn => by simp [run] at hn⟩, .inl (by simp), rfl⟩
  · rw [if_neg c] at h; simp at h
-- ** FnExactWorstOffset
theorem specWorst_ev (b g o : Int) (ds : List Int) : Ev (fun k => spec_WorstOffset.f k b g o ds) (if asked b g o ds = true then worstRes b g o ds else (0, false)) := by
  unfold spec_WorstOffset.f
  refine Ev.bind (tkAsked_ev b g o ds) (evIte (fun c => ?_) (fun c => Ev.now _))
  obtain ⟨h, h1, h2, h3⟩ := asked_iff.1 c
  exact Ev.bind (tkWorst_ev h h1 h2 (by omega)) (Ev.now _)
-- ** FnExactDrivenOut
theorem exd_nx (b g lim : Int) (e : S108) : ∀ (ds : List Int) (nx : List S108) (mt : List Int) (p : List S108 × List Int), exd b g lim e ds nx mt = .inr p → (∀ x, x ∈ nx → x.f1.length = e.f1.length + 1) → ∀ x, x ∈ p.1 → x.f1.length = e.f1.length + 1
  | [], nx, mt, p, h, hn => by
    simp only [exd] at h; injection h with h; subst h; exact hn
  | d :: ds, nx, mt, p, h, hn => by
    simp only [exd] at h
    split at h
    · cases h
    · split at h
      · exact exd_nx b g lim e ds _ _ p h hn
      · refine exd_nx b g lim e ds _ _ p h (fun x hx => ?_)
        rcases List.mem_append.1 hx with q | q
        · exact hn x q
        · rw [List.mem_singleton.1 q]; simp
theorem exl_len (b g m lim : Int) (n : Nat) : ∀ (l nx : List S108) (mt : List Int), (∀ x, x ∈ l → x.f1.length = n) → (∀ x, x ∈ nx → x.f1.length = n + 1) → (∀ r, exl b g m lim l nx mt = .inl r → r.length = n + 1) ∧ (∀ p, exl b g m lim l nx mt = .inr p → ∀ x, x ∈ p.1 → x.f1.length = n + 1)
  | [], nx, mt, _, hn => ⟨fun r h => by simp [exl] at h, fun p h => by simp only [exl] at h; injection h with h; subst h; exact hn⟩
  | e :: l, nx, mt, hl, hn => by
    have he := hl e (by simp)
    simp only [exl]
    cases c : exd b g lim e [-m, 0, m] nx mt with
    | inl r =>
      have := exd_len b g lim e _ nx mt r c
      exact ⟨fun r' h => by injection h with h; subst h; omega, fun p h => by cases h⟩
    | inr p => exact exl_len b g m lim n l p.1 p.2 (fun x hx => hl x (by simp [hx])) (fun x hx => by rw [exd_nx b g lim e _ nx mt p c (fun x hx => by rw [hn x hx, he]) x hx, he])
theorem lev_len (b g m lim : Int) : ∀ (N n : Nat) (cur : List S108) (mt : List Int), N + n = 20 → (∀ x, x ∈ cur → x.f1.length = n) → (lev b g m lim N cur mt).1.length ≤ 20
  | 0, _, _, _, _, _ => by simp [lev]
  | _ + 1, _, [], _, _, _ => by simp [lev]
  | N + 1, n, e :: l, mt, hN, h => by
    obtain ⟨h1, h2⟩ := exl_len b g m lim n (e :: l) [] mt h (fun _ q => by simp at q)
    simp only [lev]
    cases c : exl b g m lim (e :: l) [] mt with
    | inl r => have := h1 r c; simp only [fin]; omega
    | inr p => exact lev_len b g m lim N (n + 1) p.1 p.2 (by omega) (h2 p c)
theorem drvRes_len (b g m lim : Int) : (drvRes b g m lim).1.length ≤ 20 := by
  unfold drvRes; split
  · exact lev_len b g m lim 20 0 _ _ rfl (fun x hx => by rw [List.mem_singleton.1 hx]; rfl)
  · simp
-- ** runsmall
theorem run_small {b g : Int} : ∀ {ds : List Int} {o : Int}, (run b g o ds).all offB = true → ∀ x, x ∈ run b g o ds → -1000 ≤ x ∧ x ≤ 1000 := by
  intro ds o h x hx
  exact offB_iff.1 (List.all_eq_true.1 h x hx)
-- ** FnTrackBounds
theorem run_ok {b g : Int} (hc : ctl b g) : ∀ (ds : List Int) (o : Int) (k : Nat), okO b g k o → (∀ d, d ∈ ds → -50 ≤ d ∧ d ≤ 50) → k + ds.length ≤ 20 → (run b g o ds).all offB = true
  | [], _, _, _, _, _ => rfl
  | d :: ds, o, k, ho, hd, hk => by
    have h1 := okO_mv hc (hd d (by simp)) ho
    simp only [List.length_cons] at hk
    simp only [run, List.all_cons, Bool.and_eq_true]
    exact ⟨offB_iff.2 (okO_small hc h1 (by omega)), run_ok hc ds _ _ h1 (fun x hx => hd x (by simp [hx])) (by omega)⟩
def Lf (lim : Int) : List Int → Prop
  | [] => True
  | x :: s => (lim < (x.natAbs : Int) ↔ s = []) ∧ (-1000 ≤ x ∧ x ≤ 1000) ∧ Lf lim s
theorem lf_of {lim z : Int} (hz : lim < (z.natAbs : Int)) : ∀ (K : List Int), (∀ n, n ∈ K → (n.natAbs : Int) ≤ lim) → (∀ n, n ∈ K ++ [z] → -1000 ≤ n ∧ n ≤ 1000) → Lf lim (K ++ [z])
  | [], _, h => ⟨by simp [hz], h z (by simp), trivial⟩
  | x :: K, h, hs => by
    have := h x (by simp)
    exact ⟨by simp; omega, hs x (by simp), lf_of hz K (fun n hn => h n (by simp [hn])) (fun n hn => hs n (by simp at hn ⊢; exact .inr hn))⟩
theorem tb_l0 {m lim yb yg : Int} (R kn : List Int) (hR : ∀ x, x ∈ R → x = -m ∨ x = 0 ∨ x = m) (hm : 0 ≤ m ∧ m ≤ 50) (hl : kn.length = R.length) (hk : kn.length ≤ 1000) (hs : (safe yb yg m).2 = true → lim < (safe yb yg m).1) : ∀ (suf pre : List Int), kn = pre ++ suf → Lf lim suf →
    Ev (fun k => laws_FnTrackBounds.l0 k m lim R kn kn (kn.length : Int) (pre.length : Int) yb yg) true := by
  intro suf
  induction suf with
  | nil =>
    intro pre h _
    refine Ev.step (fun k => laws_FnTrackBounds.l0.eq_2 ..) (evNeg (rgEnd h) (evC (implSafe_eq _ _ _) (evC (specSafe_eq _ _ _) ?_)))
    refine evPos (by simp) (evPos rfl (evBy (fun c => evNow (decide_eq_true (hs c))) (fun _ => Ev.now _)))
  | cons x suf ih =>
    intro pre h hL
    obtain ⟨h1, h2, h3, h4, h5⟩ := rgHead h (by omega) 0
    obtain ⟨q1, q2, q3⟩ := hL
    have hlen : (kn.length : Int) = (pre.length : Int) + ((suf.length : Int) + 1) := by rw [h]; simp
    have hlt : pre.length < R.length := by omega
    have hmem : rd R (pre.length : Int) ∈ R := by unfold rd; rw [List.getD_eq_getElem?_getD, Int.toNat_natCast, List.getElem?_eq_getElem hlt, Option.getD_some]; exact List.getElem_mem _
    have hv := hR _ hmem
    refine Ev.step (fun k => laws_FnTrackBounds.l0.eq_2 ..) (evPos h1 (evPos h2 (evPos h1 ?_)))
    rw [show rd kn (pre.length : Int) = x from h4, qAbs_eq (by omega), qAbs_eq (by omega)]
    simp only [Option.bind_some]
    have next := ih (pre ++ [x]) h5 q3
    rw [← h3] at next
    have e1 : ((decide ((x.natAbs : Int) > lim)) != (wrap64 ((pre.length : Int) + 1) == (kn.length : Int))) = false := by
      rw [wrapi (by omega) (by omega)]
      by_cases c : suf = []
      · have := q1.2 c
        subst c
        rw [decide_eq_true (by omega)]
        simp at hlen
        rw [hlen]; simp
      · have h0 : ¬ lim < (x.natAbs : Int) := fun z => c (q1.1 z)
        have : 0 < suf.length := List.length_pos_iff.2 c
        rw [decide_eq_false (by omega)]
        have : ((pre.length : Int) + 1 == (kn.length : Int)) = false := by rw [beq_eq_false_iff_ne]; omega
        rw [this]; rfl
    rw [e1]
    refine evNeg (by simp) (evPos (by omega) (evBy (fun _ => next) (fun c => evPos (by omega) next)))
theorem safe_ok {b g m : Int} (h : rok b g m) : safe b g m = (max b (g - b - 1), true) := if_pos h
theorem safe_no {b g m : Int} (h : ¬ rok b g m) : safe b g m = (0, false) := if_neg h
theorem FnTrackBounds (l0 l1 : List Int) (w0 : Opn.Lst Opn.Byte l0) (w1 : Opn.Lst Opn.Byte l1) : ∃ k, laws_FnTrackBounds.f k l0 l1 = some true := by
  refine Ev.rounds (g := fun k => laws_FnTrackBounds.f k l0 l1) ?_
  unfold laws_FnTrackBounds.f
  refine evBy (fun _ => Ev.now _) (fun _ => ?_)
  obtain ⟨b, g, m, hS⟩ := drawSafe_ok (l := l0) w0.2
  obtain ⟨gb, o, ds, lim, hG, hds⟩ := drawGain_ok (l := l1) w1.2
  obtain ⟨yb, yg, ym, yl, hD⟩ := drawDriven_ok (l := l1) w1.2
  obtain ⟨cb, cg, hC⟩ := drawIs_ok (l := l1) w1.2
  obtain ⟨r, hr1, hr2, hr3, hr4⟩ := bothC b g m
  obtain ⟨q, hq1, hq2, hq3⟩ := gain_bothC gb o ds lim (by omega)
  refine evC hS (evC (implSafe_eq _ _ _) (evC (specSafe_eq _ _ _) (Ev.bind hr2 (Ev.bind hr1 (Ev.bind hG (Ev.bind hq2 (Ev.bind hq1 (evC hD (Ev.bind (implDrv_ev _ _ _ _) (Ev.bind (specDrv_ev _ _ _ _) (evC hC ?_)))))))))))
  have hdl := drvRes_len yb yg ym yl
  simp only [bne_self_eq_false, Bool.false_eq_true, if_false, if_true]
  refine Ev.bind (qInts_ev (by omega)) (evPos rfl ?_)
  have hsame : r.2 = (safe b g m).2 := by
    by_cases c : rok b g m
    · rw [(hr3 c).1, safe_ok c]
    · rw [hr4 c, safe_no c]
  refine evNeg (by simp [hsame]) (evC (isController_eq _ _) (evC (show spec_IsController.f cb cg = some (decide (ctl cb cg)) from by unfold spec_IsController.f; rw [tkGood_eq]; rfl) ?_))
  -- the last part: drifts that drive it out
  have h4 : Ev (fun k => laws_FnTrackBounds.j4 k ym yl (drvRes yb yg ym yl).1 (drvRes yb yg ym yl).2 (drvRes yb yg ym yl).1 yb yg) true := by
    refine Ev.step (fun k => laws_FnTrackBounds.j4.eq_2 ..) (evBy (fun c => ?_) (fun _ => Ev.now _))
    obtain ⟨hok, n, hn, ⟨e, d, hR, hP, hO, hl, hd, hout⟩⟩ := drv_out c
    have hc := hok.1
    have hm := hok.2.1
    have hmem : ∀ x, x ∈ (drvRes yb yg ym yl).1 → x = -ym ∨ x = 0 ∨ x = ym := by
      intro x hx
      rw [hR] at hx
      rcases List.mem_append.1 hx with z | z
      · exact hP.drf x z
      · rw [List.mem_singleton.1 z]; exact hd
    have hlen : (drvRes yb yg ym yl).1.length = n + 1 := by rw [hR]; simp [hl]
    have hall : (run yb yg 0 (drvRes yb yg ym yl).1).all offB = true := run_ok hc _ 0 0 (.inl (by simp)) (fun x hx => by have := hmem x hx; omega) (by omega)
    have hask : asked yb yg 0 (drvRes yb yg ym yl).1 = true := asked_iff.2 ⟨hc, by unfold off; omega, List.all_eq_true.2 (fun x hx => drf_iff.2 (by have := hmem x hx; omega)), by omega⟩
    have ht : trackRes yb yg 0 (drvRes yb yg ym yl).1 = (run yb yg 0 (drvRes yb yg ym yl).1, true) := by unfold trackRes runRes; rw [if_pos hask, if_pos hall]
    have hrl : (run yb yg 0 (drvRes yb yg ym yl).1).length = n + 1 := by rw [run_length, hlen]
    refine Ev.bind (implTrackRun_ev _ _ _ _ (by omega)) (Ev.bind (specTrackRun_ev _ _ _ _) ?_)
    rw [ht]
    show Ev (fun k => _) true
    dsimp only
    refine evPos rfl (evPos rfl (Ev.bind (qInts_ev (by omega)) (evPos rfl (evNeg (by omega) (Ev.step (fun k => laws_FnTrackBounds.j5.eq_2 ..) (evNeg (by simp; omega) ?_))))))
    refine tb_l0 _ _ hmem hm (by rw [run_length]) (by omega) (fun hs => ?_) _ [] rfl ?_
    · by_cases k : rok yb yg ym
      · rw [safe_ok k]
        unfold rok at k
        refine Decidable.byContradiction fun hB => ?_
        have hB' : max yb (yg - yb - 1) ≤ yl := by simp only at hB; omega
        have hc' := hc
        unfold ctl at hc'
        have := drv_low (b := yb) (g := yg) (m := ym) (lim := yl) (C := fun x => -(max yb (yg - yb - 1)) ≤ x ∧ x ≤ max yb (yg - yb - 1)) (by omega) (fun x hx => by omega) (fun x hx d h0 h1 => by
          unfold mv; split
          · omega
          · split <;> omega)
        rw [c] at this; simp at this
      · rw [safe_no k] at hs; simp at hs
    · rw [hR, run_snoc, hP.lst] at hall ⊢
      exact lf_of hout _ hP.low (fun n hn => run_small (b := yb) (g := yg) (ds := e.f1 ++ [d]) (o := 0) (by rw [run_snoc, hP.lst]; exact hall) n (by rw [run_snoc, hP.lst]; exact hn))
  have h2 : Ev (fun k => laws_FnTrackBounds.j2 k gb o ds lim q.2 q.1 ym yl (drvRes yb yg ym yl).1 (drvRes yb yg ym yl).2 (drvRes yb yg ym yl).1 yb yg) true := by
    refine Ev.step (fun k => laws_FnTrackBounds.j2.eq_2 ..) (evBy (fun c => ?_) (fun _ => h4))
    obtain ⟨ha, g1, g2, hgood, hleast⟩ := hq3 c
    obtain ⟨hc1, ho, hd2, hd3⟩ := asked_iff.1 ha
    have hask : ∀ z, 1 ≤ z → z ≤ 100 → asked gb z o ds = true := fun z z1 z2 => asked_iff.2 ⟨by unfold ctl at hc1 ⊢; omega, ho, hd2, hd3⟩
    refine Ev.bind (implWorst_ev gb q.1 o ds (by omega)) ?_
    rw [if_pos (hask _ g1 g2)]
    refine evPos hgood.1 (Ev.step (fun k => laws_FnTrackBounds.j3.eq_2 ..) (evNeg (by have := hgood.2; simp; omega) (evBy (fun c1 => ?_) (fun _ => h4))))
    rw [wrapi (by omega) (by omega)]
    have hno := hleast (q.1 - 1) (by omega) (by omega)
    refine Ev.bind (implWorst_ev gb (q.1 - 1) o ds (by omega)) (Ev.bind (specWorst_ev gb (q.1 - 1) o ds) ?_)
    rw [if_pos (hask _ (by omega) (by omega))]
    refine evNeg (by simp) (evPos rfl (evBy (fun c2 => evNeg (fun c3 => hno ⟨c2, c3⟩) h4) (fun _ => h4)))
  refine Ev.step (fun k => laws_FnTrackBounds.j0.eq_2 ..) (evNeg (by simp) (evBy (fun c => ?_) (fun _ => h2)))
  have hrok : rok b g m := by
    refine Decidable.byContradiction fun z => ?_
    rw [safe_no z] at c; simp at c
  obtain ⟨p1, p2, p3, C, p4, p5, p6⟩ := hr3 hrok
  have es := safe_ok hrok
  rw [es]
  refine evNeg (by simp only; omega) (Ev.step (fun k => laws_FnTrackBounds.j1.eq_2 ..) (evNeg (by simp; omega) (Ev.bind (implDrv_ev _ _ _ _) (evNeg ?_ h2))))
  rw [drv_low p4 p5 p6]; simp
end Go.Proofs.Ytepkedhmbfkenaa.Pure
