-- PRINTED BY print.sh 35421559b90ae4d0a3588c463048766b98c2df88dd9212a6774a882060cdf62d: not written by this session
import Derived.Test.YtkfledgkhgcicaaGreatWLast
import Derived.Test.YtkfledgkhgcicaaGreatWWords
namespace Go.Proofs.YtkfledgkhgcicaaGreatW.PrintLast
open Go.Proofs.YtkfledgkhgcicaaGreatW.PrintWords (z8)
def q3t (md : Region.Mode) (o : Oper) : List Nat := (o.after.toList.filter (fun e => Region.binds md e)).map (fun e => e.on)
def q7h (md : Region.Mode) (ops : Array Oper) (i : Nat) (oi : Oper) : List Nat := (List.range ops.size).filter fun j => !(j == i) && match ops[j]? with
  | some oj => !(oj.after.any (fun e => Region.binds md e && e.on == i) || oi.apart ops oj)
  | none => false
def I5 (md : Region.Mode) (ops : Array Oper) : Bool × List (List Nat × List Nat) := (Region.noSelect ops, (List.range ops.size).map fun i => match ops[i]? with
  | some o => (q3t md o, q7h md ops i o)
  | none => ([], []))
def q2q (T : List (List Nat × List Nat)) (l : List Bool) (i : Nat) : Bool := !l.getD i true && match T[i]? with
  | some r => r.1.all (fun j => l.getD j false)
  | none => false
def q4o (T : List (List Nat × List Nat)) (l : List Bool) : List Nat := (List.range T.length).filter (q2q T l)
def q7c (T : List (List Nat × List Nat)) (l : List Bool) (i : Nat) : Bool := match T[i]? with
  | some r => r.2.all (fun j => l.getD j true)
  | none => false
def q5x (T : List (List Nat × List Nat)) (l : List Bool) : Bool := (List.range T.length).all fun j => !l.getD j false || match T[j]? with
  | some r => r.1.all (fun k => l.getD k false)
  | none => true
def q4t (T : List (List Nat × List Nat)) (i : Nat) : Nat → Nat → Bool
  | 0, _ => false
  | fuel + 1, d => match T[d]? with
    | some r => r.1.any fun j => j == i || q4t T i fuel j
    | none => false
def lastT (T : List (List Nat × List Nat)) (l : List Bool) (ds : List Nat) (i : Nat) : Bool := ds.all fun d => l.getD d true || q4t T i T.length d
section
variable {md : Region.Mode} {ops : Array Oper} {T : Bool × List (List Nat × List Nat)} {l l' li lj lk : Array Bool} {ds : List Nat} {i j k : Nat}
theorem gd (l : Array Bool) (j : Nat) (b : Bool) : l.getD j b = l.toList.getD j b := by simp [Array.getD_eq_getD_getElem?, List.getD_eq_getElem?_getD]
theorem q8g (o : Oper) (p : Nat → Bool) : o.after.all (fun e => !Region.binds md e || p e.on) = (q3t md o).all p := by
  unfold q3t
  rw [← Array.all_toList]
  induction o.after.toList with
  | nil => rfl
  | cons e r ih =>
    rw [List.all_cons, ih, List.filter_cons]
    cases h : Region.binds md e <;> simp
theorem v4e (o : Oper) (p : Nat → Bool) : o.after.any (fun e => Region.binds md e && p e.on) = (q3t md o).any p := by
  unfold q3t
  rw [← Array.any_toList]
  induction o.after.toList with
  | nil => rfl
  | cons e r ih =>
    rw [List.any_cons, ih, List.filter_cons]
    cases h : Region.binds md e <;> simp
theorem q38 : (I5 md ops).2.length = ops.size := by simp [I5]
theorem q4c {o : Oper} (h : ops[i]? = some o) : (I5 md ops).2[i]? = some (q3t md o, q7h md ops i o) := by
  have hi := (Array.getElem?_eq_some_iff.1 h).1
  unfold I5
  rw [List.getElem?_map, List.getElem?_range hi, Option.map_some, h]
theorem q4g (h : ops[i]? = none) : (I5 md ops).2[i]? = none := by
  have hi : ops.size ≤ i := Array.getElem?_eq_none_iff.1 h
  exact List.getElem?_eq_none (by rw [q38]; exact hi)
theorem v2m : q2q (I5 md ops).2 l.toList i = (!l.getD i true && ((ops[i]?).map (·.after.all fun e => !Region.binds md e || l.getD e.on false)).getD false) := by
  unfold q2q
  rw [gd]
  cases h : ops[i]? with
  | none => rw [q4g h]; rfl
  | some o =>
    rw [q4c h]
    simp only [Option.map_some, Option.getD_some]
    rw [← q8g]
    simp only [gd]
theorem ready_eq : Region.ready md ops l = q4o (I5 md ops).2 l.toList := by
  unfold Region.ready q4o
  rw [q38]
  refine List.filter_congr (fun i _ => ?_)
  rw [v2m]
theorem free_eq : Region.free md ops l i = q7c (I5 md ops).2 l.toList i := by
  unfold Region.free q7c
  cases h : ops[i]? with
  | none => rw [q4g h]
  | some oi =>
    rw [q4c h]
    simp only [q7h]
    rw [List.all_filter]
    congr 1
    funext j
    rw [gd]
    cases hj : ops[j]? with
    | none => cases (j == i) <;> cases (l.toList.getD j true) <;> simp
    | some oj =>
      cases (j == i) <;> cases (l.toList.getD j true) <;> cases (oj.after.any (fun e => Region.binds md e && e.on == i) || oi.apart ops oj) <;> simp_all
theorem v4k : Region.q4q md ops l = q5x (I5 md ops).2 l.toList := by
  unfold Region.q4q q5x
  rw [q38]
  congr 1
  funext j
  rw [gd]
  cases h : ops[j]? with
  | none => rw [q4g h]
  | some o =>
    rw [q4c h]
    simp only
    rw [← q8g]
    simp only [gd]
theorem q9q : ∀ (fuel d : Nat), Region.q1q md ops i fuel d = q4t (I5 md ops).2 i fuel d
  | 0, _ => rfl
  | fuel + 1, d => by
    unfold Region.q1q q4t
    cases h : ops[d]? with
    | none => rw [q4g h]
    | some o =>
      rw [q4c h]
      simp only
      rw [← v4e]
      congr 1
      funext e
      rw [q9q fuel]
theorem v7e : Region.lastB md ops l ds i = lastT (I5 md ops).2 l.toList ds i := by
  unfold Region.lastB lastT
  rw [q38]
  congr 1
  funext d
  rw [gd, q9q]
theorem q69 (h : q2q T.2 l.toList i = true) (hT : I5 md ops = T) : (Region.ready md ops l).contains i = true := by
  subst hT
  rw [ready_eq]
  unfold q4o
  rw [List.contains_iff_mem, List.mem_filter, List.mem_range]
  refine ⟨?_, h⟩
  unfold q2q at h
  rw [Bool.and_eq_true] at h
  cases hq : (I5 md ops).2[i]? with
  | none => rw [hq] at h; simp at h
  | some r => exact (List.getElem?_eq_some_iff.1 hq).1
theorem q5s (h : (l.toList.set i true == l'.toList) = true) : (l.setIfInBounds i true == l') = true := by
  rw [beq_iff_eq] at h ⊢
  apply Array.ext'
  rw [Array.toList_setIfInBounds]
  exact h
def v8g (T : Bool × List (List Nat × List Nat)) (l l' : List Bool) (i : Nat) : Bool := T.1 && q7c T.2 l i && q2q T.2 l i && (l.set i true == l')
theorem v3z (hT : I5 md ops = T) (h : v8g T l.toList l'.toList i = true) : q7k md ops l l' i = true := by
  simp only [v8g, Bool.and_eq_true] at h
  obtain ⟨⟨⟨h1, h2⟩, h3⟩, h4⟩ := h
  have h5 := q69 h3 hT
  have h6 := q5s h4
  subst hT
  simp only [q7k, Bool.and_eq_true]
  exact ⟨⟨⟨h1, by rw [free_eq]; exact h2⟩, h5⟩, h6⟩
def v2i (T : Bool × List (List Nat × List Nat)) (ds : List Nat) (l l' : List Bool) (i : Nat) : Bool := T.1 && q7c T.2 l i && q2q T.2 l i && q5x T.2 l && lastT T.2 l ds i && (l.set i true == l')
theorem v7n (hT : I5 md ops = T) (h : v2i T ds l.toList l'.toList i = true) : takeB md ops ds l l' i = true := by
  simp only [v2i, Bool.and_eq_true] at h
  obtain ⟨⟨⟨⟨⟨h1, h2⟩, h3⟩, h4⟩, h5⟩, h6⟩ := h
  have h7 := q69 h3 hT
  have h8 := q5s h6
  subst hT
  simp only [takeB, Bool.and_eq_true]
  exact ⟨⟨⟨⟨⟨h1, by rw [free_eq]; exact h2⟩, h7⟩, by rw [v4k]; exact h4⟩, by rw [v7e]; exact h5⟩, h8⟩
theorem K3 (hT : I5 md ops = T) (h : (q4o T.2 l.toList == [i] && l.toList.set i true == l'.toList) = true) : q4v md ops l l' i = true := by
  simp only [Bool.and_eq_true] at h
  obtain ⟨h1, h2⟩ := h
  subst hT
  simp only [q4v, Bool.and_eq_true]
  exact ⟨by rw [ready_eq]; exact h1, q5s h2⟩
theorem q3y (hT : I5 md ops = T) (h : (q4o T.2 l.toList == [i, j] && l.toList.set i true == li.toList && l.toList.set j true == lj.toList) = true) : (Region.ready md ops l == [i, j] && l.setIfInBounds i true == li && l.setIfInBounds j true == lj) = true := by
  simp only [Bool.and_eq_true] at h ⊢
  obtain ⟨⟨h1, h2⟩, h3⟩ := h
  subst hT
  exact ⟨⟨by rw [ready_eq]; exact h1, q5s h2⟩, q5s h3⟩
theorem U0 (hT : I5 md ops = T) (h : (q4o T.2 l.toList == []) = true) : (Region.ready md ops l == []) = true := by
  subst hT
  rw [ready_eq]
  exact h
def upM (B : List Nat) (d : Nat) : List Nat → Nat
  | [] => 0
  | n :: r => (2 ^ n ||| (if n < d then B.getD n 0 else 0)) ||| upM B d r
def q04 (T : List (List Nat × List Nat)) (B : List Nat) : Bool := (List.range T.length).all fun d => match T[d]? with
  | some r => (B.getD d 0 ||| upM B d r.1) == upM B d r.1
  | none => false
theorem v2b {B : List Nat} {d i : Nat} : ∀ {ns : List Nat}, (upM B d ns).testBit i = true → ∃ n ∈ ns, n = i ∨ (n < d ∧ (B.getD n 0).testBit i = true)
  | [], h => by simp [upM] at h
  | n :: r, h => by
    unfold upM at h
    rw [Nat.testBit_or, Nat.testBit_or, Bool.or_eq_true, Bool.or_eq_true] at h
    rcases h with (h | h) | h
    · rw [Nat.testBit_two_pow] at h
      exact ⟨n, List.mem_cons_self, .inl (by simpa using h)⟩
    · by_cases hn : n < d
      · rw [if_pos hn] at h
        exact ⟨n, List.mem_cons_self, .inr ⟨hn, h⟩⟩
      · rw [if_neg hn] at h
        simp at h
    · obtain ⟨m, hm, h2⟩ := v2b h
      exact ⟨m, List.mem_cons_of_mem _ hm, h2⟩
theorem q8j {T : List (List Nat × List Nat)} {B : List Nat} (hB : q04 T B = true) : ∀ (fuel d : Nat), d < fuel → d < T.length → (B.getD d 0).testBit i = true → q4t T i fuel d = true
  | 0, d, h, _, _ => by omega
  | fuel + 1, d, h, hd, hb => by
    have h1 := List.all_eq_true.1 hB d (List.mem_range.2 hd)
    cases hr : T[d]? with
    | none => rw [hr] at h1; simp at h1
    | some r =>
      rw [hr] at h1
      simp only [beq_iff_eq] at h1
      have h2 : (upM B d r.1).testBit i = true := by rw [← h1, Nat.testBit_or, hb, Bool.true_or]
      obtain ⟨n, hn, h3⟩ := v2b h2
      unfold q4t
      rw [hr]
      simp only
      rw [List.any_eq_true]
      refine ⟨n, hn, ?_⟩
      rcases h3 with rfl | ⟨h4, h5⟩
      · simp
      · rw [q8j hB fuel n (by omega) (by omega) h5, Bool.or_true]
def v6s (T : List (List Nat × List Nat)) (B : List Nat) (l : List Bool) (ds : List Nat) (i : Nat) : Bool := ds.all fun d => l.getD d true || (decide (d < T.length) && (B.getD d 0).testBit i)
def v6u (T : Bool × List (List Nat × List Nat)) (B : List Nat) (ds : List Nat) (l l' : List Bool) (i : Nat) : Bool := T.1 && q7c T.2 l i && q2q T.2 l i && q5x T.2 l && v6s T.2 B l ds i && (l.set i true == l')
theorem Z9 {B : List Nat} (hT : I5 md ops = T) (hB : q04 T.2 B = true) (h : v6u T B ds l.toList l'.toList i = true) : takeB md ops ds l l' i = true := by
  refine v7n hT ?_
  simp only [v6u, v2i, Bool.and_eq_true] at h ⊢
  obtain ⟨⟨⟨⟨⟨h1, h2⟩, h3⟩, h4⟩, h5⟩, h6⟩ := h
  refine ⟨⟨⟨⟨⟨h1, h2⟩, h3⟩, h4⟩, ?_⟩, h6⟩
  unfold v6s at h5
  unfold lastT
  rw [List.all_eq_true] at h5 ⊢
  intro d hd
  have h7 := h5 d hd
  rw [Bool.or_eq_true, Bool.and_eq_true, decide_eq_true_eq] at h7
  rcases h7 with h7 | ⟨h8, h9⟩
  · rw [h7, Bool.true_or]
  · rw [q8j hB _ d h8 h8 h9, Bool.or_true]
theorem H6 {P : Program} {Q : Exit → Act → World → Prop} {S : World → Prop} {n : Nat} {a : Act} {w : World} {B : List Nat} (hT : I5 md ops = T) (hB : q04 T.2 B = true) (h : z8 (I5 md ops = T) → z8 (q04 T.2 B = true) → Z4 P md ops Q S ds n l a w) : Z4 P md ops Q S ds n l a w := h ⟨hT⟩ ⟨hB⟩
end
def q39 : Code → Nat → Option (Array Oper)
  | .region id ops _, k => if id == k then some ops else none
  | .seq a b, k => match q39 a k with
    | some o => some o
    | none => q39 b k
  | .cond _ a b, k => match q39 a k with
    | some o => some o
    | none => q39 b k
  | .block _ c, k => q39 c k
  | .loop c, k => q39 c k
  | .scope c, k => q39 c k
  | .rangeFunc _ _ a b, k => match q39 a k with
    | some o => some o
    | none => q39 b k
  | _, _ => none
def opsOf (f : Func) (k : Nat) : Array Oper := ((f.body.bind fun c => q39 c k)).getD #[]
end Go.Proofs.YtkfledgkhgcicaaGreatW.PrintLast

