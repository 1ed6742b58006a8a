/- The program's ReachedOffset returns what the reference's returns, for all arguments.: the plain part: what the program computes and what the reference computes agree, for all arguments. No conditions beyond the arguments' own kinds. -/
import Derived.Test.YtepkedhmbfkenaaPExx0
import Derived.Test.YtepkedhmbfkenaaPExx1
import Derived.Test.YtepkedhmbfkenaaPExx17
import Derived.Test.YtepkedhmbfkenaaPExx18
import Derived.Test.YtepkedhmbfkenaaPExx19
import Derived.Test.YtepkedhmbfkenaaPExx20
import Derived.Test.YtepkedhmbfkenaaOpn
namespace Go.Proofs.Ytepkedhmbfkenaa.Pure
open Go.RowKit Go.Proofs.Ytepkedhmbfkenaa.PEx Go.Proofs.YtepkedhmbfkenaaW.PrintWords Go.Proofs.YtepkedhmbfkenaaW.PrintLast Go.Proofs.YtepkedhmbfkenaaW.PrintMore
-- ** base
theorem wrapi {x : Int} (h0 : -9223372036854775808 ≤ x) (h1 : x ≤ 9223372036854775807) : wrap64 x = x := by unfold wrap64; omega
theorem evPos {α : Type} {c : Prop} [Decidable c] {g f : Nat → Option α} {r : α} (h : c) (e : Ev g r) : Ev (fun k => if c then g k else f k) r := by
  simp only [if_pos h]; exact e
theorem evNeg {α : Type} {c : Prop} [Decidable c] {g f : Nat → Option α} {r : α} (h : ¬ c) (e : Ev f r) : Ev (fun k => if c then g k else f k) r := by
  simp only [if_neg h]; exact e
theorem evNow {α : Type} {r q : α} (h : r = q) : Ev (fun _ => some r) q := by subst h; exact Ev.now r
theorem someF {p : Prop} [Decidable p] (h : ¬ p) : some false = some (decide p) := by rw [decide_eq_false h]
theorem someD {p q : Prop} [Decidable p] [Decidable q] (h : p ↔ q) : some (decide p) = some (decide q) := by rw [decide_eq_decide.mpr h]
theorem decD {p q : Prop} [Decidable p] [Decidable q] (h : p ↔ q) : decide p = decide q := decide_eq_decide.mpr h
theorem in_eq (a b c : Int) : spec_l1In.f a b c = some (decide (b ≤ a ∧ a ≤ c)) := by
  unfold spec_l1In.f
  split
  · exact someD (by omega)
  · exact someF (by omega)
theorem mx_eq (a b : Int) : mx a b = max a b := by unfold mx; omega
-- ** ctl
def ctl (b g : Int) : Prop := 0 ≤ b ∧ b ≤ 200 ∧ 1 ≤ g ∧ g ≤ 100
instance (b g : Int) : Decidable (ctl b g) := by unfold ctl; exact inferInstance
theorem tkGood_eq (b g : Int) : spec_tkGood.f b g = some (decide (ctl b g)) := by
  unfold spec_tkGood.f; rw [in_eq, in_eq]; simp only [Option.bind_some]
  by_cases h : 0 ≤ b ∧ b ≤ 200
  · rw [if_pos (decide_eq_true h)]; exact someD (by unfold ctl; omega)
  · rw [if_neg (by simpa using h)]; exact someF (by unfold ctl; omega)
theorem isController_eq (b g : Int) : impl_IsController.f b g = some (decide (ctl b g)) := by
  unfold impl_IsController.f
  repeat' split
  all_goals first | exact someD (by unfold ctl; omega) | exact someF (by unfold ctl; omega)
-- ** most
theorem l1Most_eq (a b : Int) : spec_l1Most.f a b = some (max a b) := by
  unfold spec_l1Most.f; split <;> (congr 1; omega)
-- ** bound
theorem isMostDrift_eq (m : Int) : impl_isMostDrift.f m = some (decide (0 ≤ m ∧ m ≤ 50)) := by
  unfold impl_isMostDrift.f
  split
  · exact someD (by omega)
  · exact someF (by omega)
theorem tkMost_eq (b g m : Int) : spec_tkMost.f b g m = some (decide (ctl b g ∧ 0 ≤ m ∧ m ≤ 50)) := by
  unfold spec_tkMost.f; simp only [tkGood_eq, in_eq, Option.bind_some, decide_eq_true_eq]
  split
  · rename_i h; exact someD (by simp only [h, true_and])
  · rename_i h; exact someF (fun q => h q.1)
theorem tkBound_eq (b g : Int) (h : ctl b g) : spec_tkBound.f b g = some (max b (g - b - 1)) := by
  unfold spec_tkBound.f; unfold ctl at h; rw [wrapi (x := g - b) (by omega) (by omega), wrapi (by omega) (by omega), l1Most_eq]; rfl
-- ** move
def mv (b g o d : Int) : Int := if o + d > b then o + d - g else if o + d < -b then o + d + g else o + d
def mvby (b g o d : Int) : Int := if o + d > b then -g else if o + d < -b then g else 0
def far (o : Int) : Prop := -100000 ≤ o ∧ o ≤ 100000
theorem tkStep_eq {b g o d : Int} (h : ctl b g) (ho : far o) (hd : far d) : spec_tkStep.f b g o d = some (mv b g o d, mvby b g o d) := by
  unfold spec_tkStep.f mv mvby; unfold ctl at h; unfold far at ho hd
  rw [wrapi (x := o + d) (by omega) (by omega), wrapi (x := -b) (by omega) (by omega), wrapi (x := -g) (by omega) (by omega), wrapi (x := o + d - g) (by omega) (by omega), wrapi (x := o + d + g) (by omega) (by omega)]
  split
  · rfl
  · split <;> rfl
theorem moved_eq {b g o d : Int} (h : ctl b g) (ho : far o) (hd : far d) : impl_moved.f b g o d = some (mv b g o d) := by
  unfold impl_moved.f mv; unfold ctl at h; unfold far at ho hd
  rw [wrapi (x := o + d) (by omega) (by omega), wrapi (x := -b) (by omega) (by omega), wrapi (x := o + d - g) (by omega) (by omega), wrapi (x := o + d + g) (by omega) (by omega)]
  split
  · rfl
  · split <;> rfl
-- ** abs
theorem l1Abs_eq {o : Int} (h : -1000000000 ≤ o ∧ o ≤ 1000000000) : spec_l1Abs.f o = some (o.natAbs : Int) := by
  unfold spec_l1Abs.f
  rw [wrapi (by omega) (by omega), l1Most_eq]
  simp only [Option.bind_some]; congr 1; omega
-- ** dist
theorem distance_eq {a b : Int} (ha : -1000000000 ≤ a ∧ a ≤ 1000000000) (hb : -1000000000 ≤ b ∧ b ≤ 1000000000) : impl_distance.f a b = some ((a - b).natAbs : Int) := by
  unfold impl_distance.f
  rw [wrapi (by omega) (by omega), wrapi (by omega) (by omega), mx_eq]
  congr 1; omega
-- ** FnExactReachedOffset
def mxa (l : List Int) : Int := l.foldl (fun m x => max m (x.natAbs : Int)) 0
theorem mxa_snoc (l : List Int) (x : Int) : mxa (l ++ [x]) = max (mxa l) (x.natAbs : Int) := by simp [mxa]
theorem bget_put (M : List (Int × Bool)) (k t : Int) : Mp.mget false (Mp.mput M k true) t = if t = k then true else Mp.mget false M t := by
  induction M with
  | nil => simp [Mp.mput, Mp.mget]
  | cons q M ih =>
    by_cases c : k = q.1
    · subst c; by_cases e : t = q.1 <;> simp [Mp.mput, Mp.mget, e]
    · by_cases e : t = q.1
      · simp [Mp.mput, Mp.mget, c, e, Ne.symm c]
      · simp [Mp.mput, Mp.mget, c, e, ih]
theorem count_set : ∀ (l : List Bool) (i : Nat), l[i]? = some false → (l.set i true).count false + 1 = l.count false
  | [], i, h => by simp at h
  | a :: l, 0, h => by simp at h; subst h; simp
  | a :: l, i + 1, h => by
    have ih := count_set l i (by simpa using h)
    simp only [List.set_cons_succ, List.count_cons]; omega
structure Inv (B : Int) (L : List Int) (met : List Bool) (M : List (Int × Bool)) : Prop where
  len : (met.length : Int) = 2 * B + 1
  mem : ∀ x, x ∈ L → -B ≤ x ∧ x ≤ B
  hmet : ∀ x, -B ≤ x → x ≤ B → met.getD (x + B).toNat false = decide (x ∈ L)
  map : ∀ x, -B ≤ x → x ≤ B → Mp.mget false M x = decide (x ∈ L)
  cnt : L.length + met.count false = met.length
theorem inv_add {B y : Int} {L : List Int} {met : List Bool} {M : List (Int × Bool)} (h : Inv B L met M) (h0 : -B ≤ y) (h1 : y ≤ B) (hy : y ∉ L) : Inv B (L ++ [y]) (met.set (y + B).toNat true) (Mp.mput M y true) := by
  have hl := h.len
  have hm := h.hmet y h0 h1
  have hlt : (y + B).toNat < met.length := by omega
  rw [decide_eq_false hy, List.getD_eq_getElem?_getD, List.getElem?_eq_getElem hlt, Option.getD_some] at hm
  refine ⟨by simpa using h.len, fun x hx => ?_, fun x hx0 hx1 => ?_, fun x hx0 hx1 => ?_, ?_⟩
  · rcases List.mem_append.1 hx with q | q
    · exact h.mem x q
    · rw [List.mem_singleton.1 q]; exact ⟨h0, h1⟩
  · rw [List.getD_eq_getElem?_getD, List.getElem?_set]
    by_cases c : x = y
    · subst c; rw [if_pos rfl, if_pos hlt]; simp
    · rw [if_neg (by omega), ← List.getD_eq_getElem?_getD, h.hmet x hx0 hx1]
      exact decD (by simp [c])
  · rw [bget_put]
    by_cases c : x = y
    · subst c; simp
    · rw [if_neg c, h.map x hx0 hx1]; exact decD (by simp [c])
  · have := count_set met _ (by rw [List.getElem?_eq_getElem hlt, hm])
    have := h.cnt
    simp; omega
theorem reach {b g m B : Int} (hc : ctl b g) (hm : 0 ≤ m ∧ m ≤ 50 ∧ m ≤ g) (hB : B = max b (g - b - 1)) : ∀ (n i : Nat) (L : List Int) (met : List Bool) (M : List (Int × Bool)), i + n = met.length → Inv B L met M → i ≤ L.length →
    ∃ r : Int, Ev (fun k => spec_ReachedOffset.l0 k m B met L (mxa L) (i : Int) b g) (r, true) ∧ Ev (fun k => impl_ReachedOffset.l0 k m L (mxa (L.take i)) (i : Int) b g M) (r, true) := by
  have hc' := hc
  unfold ctl at hc'
  intro n
  induction n with
  | zero =>
    intro i L met M hi hI hL
    have hcn := hI.cnt
    have e : i = L.length := by omega
    subst e
    refine ⟨mxa L, Ev.step (fun k => spec_ReachedOffset.l0.eq_2 ..) (evNeg (by omega) (Ev.now _)), Ev.step (fun k => impl_ReachedOffset.l0.eq_2 ..) (evNeg (by omega) (evNow (by rw [List.take_length])))⟩
  | succ n ih =>
    intro i L met M hi hI hL
    by_cases c : i < L.length
    · have hcn := hI.cnt
      have hln := hI.len
      have inner : ∀ (q : Nat) (d : Int) (L : List Int) (met : List Bool) (M : List (Int × Bool)), d + (q : Int) = m + 1 → -m ≤ d → i + (n + 1) = met.length → Inv B L met M → i < L.length →
          ∃ r : Int, Ev (fun k => spec_ReachedOffset.l1 k m B met L (mxa L) (i : Int) d b g) (r, true) ∧ Ev (fun k => impl_ReachedOffset.l1 k m L (mxa (L.take (i + 1))) (i : Int) d b g M) (r, true) := by
        intro q
        induction q with
        | zero =>
          intro d L met M hd hd0 hi hI hL
          obtain ⟨r, h1, h2⟩ := ih (i + 1) L met M (by omega) hI (by omega)
          have hln := hI.len
          have e : wrap64 ((i : Int) + 1) = ((i + 1 : Nat) : Int) := by rw [wrapi (by omega) (by omega)]; omega
          refine ⟨r, Ev.step (fun k => spec_ReachedOffset.l1.eq_2 ..) (evNeg (by omega) (by rw [e]; exact h1)), Ev.step (fun k => impl_ReachedOffset.l1.eq_2 ..) (evNeg (by omega) (by rw [e]; exact h2))⟩
        | succ q ihq =>
          intro d L met M hd hd0 hi hI hL
          have hln := hI.len
          have hcn := hI.cnt
          have hx := hI.mem (rd L (i : Int)) (by unfold rd; rw [List.getD_eq_getElem?_getD, List.getElem?_eq_getElem (by omega), Option.getD_some]; exact List.getElem_mem _)
          have hy : -B ≤ mv b g (rd L (i : Int)) d ∧ mv b g (rd L (i : Int)) d ≤ B := by
            unfold mv; split
            · omega
            · split <;> omega
          have s1 := tkStep_eq (o := rd L (i : Int)) (d := d) hc (by unfold far; omega) (by unfold far; omega)
          have s2 := moved_eq (o := rd L (i : Int)) (d := d) hc (by unfold far; omega) (by unfold far; omega)
          have hmet := hI.hmet _ hy.1 hy.2
          have hmap := hI.map _ hy.1 hy.2
          have ed : wrap64 (d + 1) = d + 1 := wrapi (by omega) (by omega)
          have ew : wrap64 (mv b g (rd L (i : Int)) d + B) = mv b g (rd L (i : Int)) d + B := wrapi (by omega) (by omega)
          by_cases cy : mv b g (rd L (i : Int)) d ∈ L
          · obtain ⟨r, h1, h2⟩ := ihq (d + 1) L met M (by omega) (by omega) hi hI hL
            rw [decide_eq_true cy] at hmet hmap
            refine ⟨r, Ev.step (fun k => spec_ReachedOffset.l1.eq_2 ..) (evPos (by omega) (evPos (by omega) (evPos (by omega) ?_))), Ev.step (fun k => impl_ReachedOffset.l1.eq_2 ..) (evPos (by omega) (evPos (by omega) (evPos (by omega) ?_)))⟩
            · rw [s1]; simp only [Option.bind_some]; rw [ew, ed]
              exact evPos (by omega) (evPos (by omega) (evPos (by unfold rdOf; exact hmet) h1))
            · rw [s2]; simp only [Option.bind_some]; rw [ed]
              exact evPos hmap h2
          · obtain ⟨r, h1, h2⟩ := ihq (d + 1) (L ++ [mv b g (rd L (i : Int)) d]) (met.set (mv b g (rd L (i : Int)) d + B).toNat true) (Mp.mput M (mv b g (rd L (i : Int)) d) true) (by omega) (by omega) (by simpa using hi) (inv_add hI hy.1 hy.2 cy) (by simp; omega)
            rw [decide_eq_false cy] at hmet hmap
            rw [mxa_snoc] at h1
            rw [List.take_append_of_le_length (by omega)] at h2
            refine ⟨r, Ev.step (fun k => spec_ReachedOffset.l1.eq_2 ..) (evPos (by omega) (evPos (by omega) (evPos (by omega) ?_))), Ev.step (fun k => impl_ReachedOffset.l1.eq_2 ..) (evPos (by omega) (evPos (by omega) (evPos (by omega) ?_)))⟩
            · rw [s1]; simp only [Option.bind_some]; rw [ew, ed]
              refine evPos (by omega) (evPos (by omega) (evNeg (by unfold rdOf; rw [hmet]; simp) (evPos (by omega) ?_)))
              rw [l1Abs_eq (by omega)]
              simp only [l1Most_eq, Option.bind_some]
              exact h1
            · rw [s2]; simp only [Option.bind_some]; rw [ed]
              exact evNeg (by rw [hmap]; simp) (evPos (by omega) h2)
      obtain ⟨r, h1, h2⟩ := inner (2 * m + 1).toNat (-m) L met M (by omega) (by omega) hi hI c
      have hx := hI.mem (rd L (i : Int)) (by unfold rd; rw [List.getD_eq_getElem?_getD, List.getElem?_eq_getElem (by omega), Option.getD_some]; exact List.getElem_mem _)
      have et : mxa (L.take (i + 1)) = max (mxa (L.take i)) ((rd L (i : Int)).natAbs : Int) := by
        rw [List.take_add_one, List.getElem?_eq_getElem c, Option.toList_some, mxa_snoc]
        unfold rd; rw [List.getD_eq_getElem?_getD, Int.toNat_natCast, List.getElem?_eq_getElem c, Option.getD_some]
      rw [et] at h2
      refine ⟨r, Ev.step (fun k => spec_ReachedOffset.l0.eq_2 ..) (evPos (by omega) ?_), Ev.step (fun k => impl_ReachedOffset.l0.eq_2 ..) (evPos (by omega) (evPos (by omega) ?_))⟩
      · rw [wrapi (x := -m) (by omega) (by omega)]; exact h1
      · rw [distance_eq (by omega) (by omega), wrapi (x := -m) (by omega) (by omega)]
        simp only [mx_eq, Option.bind_some, Int.sub_zero]
        exact h2
    · have e : i = L.length := by omega
      subst e
      refine ⟨mxa L, Ev.step (fun k => spec_ReachedOffset.l0.eq_2 ..) (evNeg (by omega) (Ev.now _)), Ev.step (fun k => impl_ReachedOffset.l0.eq_2 ..) (evNeg (by omega) (evNow (by rw [List.take_length])))⟩
theorem inv0 {B : Int} (hB : 0 ≤ B ∧ B ≤ 1000) : Inv B [0] ((List.replicate (2 * B + 1).toNat false).set B.toNat true) (Mp.mput [] 0 true) := by
  have h0 : Inv B [] (List.replicate (2 * B + 1).toNat false) [] := ⟨by simp; omega, by simp, fun x _ _ => by simp [List.getD_eq_getElem?_getD, List.getElem?_replicate]; split <;> rfl, fun x _ _ => by simp [Mp.mget], by simp⟩
  have := inv_add h0 (y := 0) (by omega) (by omega) (by simp)
  simpa using this
theorem both {b g m : Int} : ∃ r : Int × Bool, Ev (fun k => spec_ReachedOffset.f k b g m) r ∧ Ev (fun k => impl_ReachedOffset.f k b g m) r := by
  unfold spec_ReachedOffset.f impl_ReachedOffset.f
  simp only [tkMost_eq, isController_eq, isMostDrift_eq, Option.bind_some, decide_eq_true_eq]
  by_cases hc : ctl b g
  · by_cases hm : 0 ≤ m ∧ m ≤ 50
    · by_cases hg : g < m
      · refine ⟨(0, false), evPos ⟨hc, hm⟩ (Ev.step (fun k => spec_ReachedOffset.j0.eq_2 ..) (evPos (by simpa using hg) (Ev.now _))), evPos hc (evPos hm (Ev.step (fun k => impl_ReachedOffset.j0.eq_2 ..) (evPos (by simpa using hg) (Ev.now _))))⟩
      · have hc' := hc
        unfold ctl at hc'
        have hI := inv0 (B := max b (g - b - 1)) (by omega)
        obtain ⟨r, h1, h2⟩ := reach hc ⟨hm.1, hm.2, by omega⟩ rfl (2 * max b (g - b - 1) + 1).toNat 0 [0] _ _ (by simp) hI (by simp)
        refine ⟨(r, true), evPos ⟨hc, hm⟩ (Ev.step (fun k => spec_ReachedOffset.j0.eq_2 ..) (evNeg (by simpa using hg) ?_)), evPos hc (evPos hm (Ev.step (fun k => impl_ReachedOffset.j0.eq_2 ..) (evNeg (by simpa using hg) h2)))⟩
        rw [tkBound_eq b g hc]
        simp only [Option.bind_some]
        rw [wrapi (x := 2 * max b (g - b - 1)) (by omega) (by omega), wrapi (x := 2 * max b (g - b - 1) + 1) (by omega) (by omega)]
        refine evPos (by omega) (evPos (by omega) (evPos (by omega) (evPos (by simp; omega) ?_)))
        exact h1
    · refine ⟨(0, false), evNeg (fun q => hm q.2) (Ev.step (fun k => spec_ReachedOffset.j0.eq_2 ..) (evPos rfl (Ev.now _))), evPos hc (evNeg hm (Ev.step (fun k => impl_ReachedOffset.j0.eq_2 ..) (evPos rfl (Ev.now _))))⟩
  · refine ⟨(0, false), evNeg (fun q => hc q.1) (Ev.step (fun k => spec_ReachedOffset.j0.eq_2 ..) (evPos rfl (Ev.now _))), evNeg hc (Ev.step (fun k => impl_ReachedOffset.j0.eq_2 ..) (evPos rfl (Ev.now _)))⟩
theorem FnExactReachedOffset (a0_0 a0_1 a1 : Int) (_ : Opn.I64 a0_0) (_ : Opn.I64 a0_1) (_ : Opn.I64 a1) : ∃ k, laws_FnExactReachedOffset.f k a0_0 a0_1 a1 = some true := by
  refine Ev.rounds (g := fun k => laws_FnExactReachedOffset.f k a0_0 a0_1 a1) ?_
  unfold laws_FnExactReachedOffset.f laws_toController.f
  simp only [Option.bind_some]
  obtain ⟨r, h1, h2⟩ := @both a0_0 a0_1 a1
  refine Ev.bind h1 (Ev.bind h2 (evPos rfl ?_))
  simp only [bne_self_eq_false]
  exact evNeg (by simp) (Ev.now _)
end Go.Proofs.Ytepkedhmbfkenaa.Pure
