/- slices.SortFunc with slices.Compare at rows of whole numbers, told in the print's words: a row of rows, apart from each other, sorted by its rows' numbers. -/
import Derived.Test.YtkfledgkhgcicaaGreatWWords
import Derived.Test.YtkfledgkhgcicaaGreatWApart
import Derived.Test.YtkfledgkhgcicaaGreatWKept
import Derived.Test.YtkfledgkhgcicaaGreatProg
import Derived.Shelf.SlSortCmp.NoneTotal
import Derived.Ground.SlsfProg
import Derived.Sort.OwnSorted
import Derived.WalkKit
namespace Go.Proofs
open Go.Shelf
def Tryz.q8i : Go.Shelf.Ren := ⟨fun | 6 => 48 | 15 => 67 | 14 => 66 | 28 => 82 | 29 => 83 | 20 => 74 | 21 => 75 | 22 => 76 | 23 => 77 | 24 => 78 | 25 => 79 | 26 => 80 | 27 => 81 | 46 => 97 | 47 => 98 | 48 => 99 | 49 => 100 | 50 => 101 | 57 => 112 | n => n, fun | 22 => 26 | 24 => 33 | 25 => 68 | 3 => 3 | 39 => 80 | 0 => 0 | 53 => 99 | 55 => 56 | 4 => 4 | 46 => 93 | 45 => 92 | 50 => 31 | 5 => 5 | 9 => 9 | 66 => 107 | 70 => 111 | 76 => 118 | 77 => 119 | n => n, fun | n => n⟩
theorem Tryz.q36 : Go.Proofs.SlLaysF.n6 Tryz.prog Tryz.q8i := {
  mixed := by kernel_rfl
  f6 := ⟨Tryz.f48.name, by decide, Tryz.func48.trans (congrArg some (by kernel_rfl))⟩
  f14 := ⟨Tryz.f66.name, by decide, Tryz.func66.trans (congrArg some (by kernel_rfl))⟩
  f15 := Tryz.func67.trans (congrArg some (by kernel_rfl))
  f20 := ⟨Tryz.f74.name, by decide, Tryz.func74.trans (congrArg some (by kernel_rfl))⟩
  f21 := ⟨Tryz.f75.name, by decide, Tryz.func75.trans (congrArg some (by kernel_rfl))⟩
  f22 := ⟨Tryz.f76.name, by decide, Tryz.func76.trans (congrArg some (by kernel_rfl))⟩
  f23 := ⟨Tryz.f77.name, by decide, Tryz.func77.trans (congrArg some (by kernel_rfl))⟩
  f24 := ⟨Tryz.f78.name, by decide, Tryz.func78.trans (congrArg some (by kernel_rfl))⟩
  f25 := ⟨Tryz.f79.name, by decide, Tryz.func79.trans (congrArg some (by kernel_rfl))⟩
  f26 := ⟨Tryz.f80.name, by decide, Tryz.func80.trans (congrArg some (by kernel_rfl))⟩
  f27 := ⟨Tryz.f81.name, by decide, Tryz.func81.trans (congrArg some (by kernel_rfl))⟩
  f28 := Tryz.func82.trans (congrArg some (by kernel_rfl))
  f29 := Tryz.func83.trans (congrArg some (by kernel_rfl))
  f46 := ⟨Tryz.f97.name, by decide, Tryz.func97.trans (congrArg some (by kernel_rfl))⟩
  f47 := Tryz.func98.trans (congrArg some (by kernel_rfl))
  f48 := Tryz.func99.trans (congrArg some (by kernel_rfl))
  f49 := ⟨Tryz.f100.name, by decide, Tryz.func100.trans (congrArg some (by kernel_rfl))⟩
  f50 := ⟨Tryz.f101.name, by decide, Tryz.func101.trans (congrArg some (by kernel_rfl))⟩
  f57 := ⟨Tryz.f112.name, by decide, Tryz.func112.trans (congrArg some (by kernel_rfl))⟩
  t0 := Tryz.underlying0
  a0 := Tryz.isAgg0
  z0 := Tryz.sizeOf0
  v0 := Tryz.zeroValue0
  t3 := Tryz.underlying3
  a3 := Tryz.isAgg3
  z3 := Tryz.sizeOf3
  v3 := Tryz.zeroValue3
  t4 := Tryz.underlying4
  a4 := Tryz.isAgg4
  z4 := Tryz.sizeOf4
  v4 := Tryz.zeroValue4
  t5 := Tryz.underlying5
  a5 := Tryz.isAgg5
  z5 := Tryz.sizeOf5
  v5 := Tryz.zeroValue5
  t9 := Tryz.underlying9
  a9 := Tryz.isAgg9
  z9 := Tryz.sizeOf9
  v9 := Tryz.zeroValue9
  t22 := Tryz.underlying26
  a22 := Tryz.isAgg26
  z22 := Tryz.sizeOf26
  v22 := Tryz.zeroValue26
  a24 := Tryz.isAgg33
  z24 := Tryz.sizeOf33
  t25 := Tryz.underlying68
  a25 := Tryz.isAgg68
  z25 := Tryz.sizeOf68
  v25 := Tryz.zeroValue68
  t39 := Tryz.underlying80
  a39 := Tryz.isAgg80
  z39 := Tryz.sizeOf80
  v39 := Tryz.zeroValue80
  t45 := Tryz.underlying92
  a45 := Tryz.isAgg92
  z45 := Tryz.sizeOf92
  v45 := Tryz.zeroValue92
  t46 := Tryz.underlying93
  a46 := Tryz.isAgg93
  z46 := Tryz.sizeOf93
  v46 := Tryz.zeroValue93
  t50 := Tryz.underlying31
  a50 := Tryz.isAgg31
  z50 := Tryz.sizeOf31
  v50 := Tryz.zeroValue31
  t53 := Tryz.underlying99
  a53 := Tryz.isAgg99
  z53 := Tryz.sizeOf99
  v53 := Tryz.zeroValue99
  t55 := Tryz.underlying56
  a55 := Tryz.isAgg56
  z55 := Tryz.sizeOf56
  v55 := Tryz.zeroValue56
  t66 := Tryz.underlying107
  a66 := Tryz.isAgg107
  z66 := Tryz.sizeOf107
  v66 := Tryz.zeroValue107
  t70 := Tryz.underlying111
  a70 := Tryz.isAgg111
  z70 := Tryz.sizeOf111
  v70 := Tryz.zeroValue111
  t76 := Tryz.underlying118
  a76 := Tryz.isAgg118
  z76 := Tryz.sizeOf118
  v76 := Tryz.zeroValue118
  t77 := Tryz.underlying119
  a77 := Tryz.isAgg119
  z77 := Tryz.sizeOf119
  v77 := Tryz.zeroValue119 }
end Go.Proofs

namespace Go.Proofs.YtkfledgkhgcicaaGreat.Sf
open Go.RowKit Go.Sort Go.Lib Go.Proofs.YtkfledgkhgcicaaGreatW.PrintWords
def q1v (a b : Int) : Int := if a < b then -1 else if b < a then 1 else 0
def cmpL : List Int → List Int → Int
  | [], [] => 0
  | [], _ :: _ => -1
  | _ :: _, [] => 1
  | a :: l, b :: m => if q1v a b = 0 then cmpL l m else q1v a b
theorem q0b {a b : Int} : q1v a b = 0 ↔ a = b := by unfold q1v; split <;> (try split) <;> omega
theorem q8d : ∀ (l : List Int), cmpL l l = 0
  | [] => rfl
  | a :: l => by rw [cmpL, if_pos (q0b.2 rfl)]; exact q8d l
theorem q1j : ∀ {l m : List Int}, cmpL l m = - cmpL m l
  | [], [] => rfl
  | [], _ :: _ => rfl
  | _ :: _, [] => rfl
  | a :: l, b :: m => by
    simp only [cmpL]
    by_cases c : a = b
    · rw [if_pos (q0b.2 c), if_pos (q0b.2 c.symm)]; exact q1j
    · rw [if_neg (fun z => c (q0b.1 z)), if_neg (fun z => c (q0b.1 z).symm)]
      unfold q1v; split <;> split <;> (try split) <;> omega
theorem cmpL_eq : ∀ {l m : List Int}, cmpL l m = 0 → l = m
  | [], [], _ => rfl
  | [], _ :: _, h => by simp [cmpL] at h
  | _ :: _, [], h => by simp [cmpL] at h
  | a :: l, b :: m, h => by
    simp only [cmpL] at h
    by_cases c : a = b
    · rw [if_pos (q0b.2 c)] at h
      rw [c, cmpL_eq h]
    · have c' : ¬ q1v a b = 0 := fun z => c (q0b.1 z)
      rw [if_neg c'] at h; exact absurd h c'
theorem q3q : ∀ {l m n : List Int}, cmpL l m ≤ 0 → cmpL m n ≤ 0 → cmpL l n ≤ 0
  | [], _, [], _, _ => by simp [cmpL]
  | [], _, _ :: _, _, _ => by simp [cmpL]
  | _ :: _, [], _, h, _ => by simp [cmpL] at h
  | _ :: _, _ :: _, [], _, h => by simp [cmpL] at h
  | a :: l, b :: m, c :: n, h1, h2 => by
    simp only [cmpL] at *
    by_cases e1 : a = b
    · rw [if_pos (q0b.2 e1)] at h1
      subst e1
      by_cases e2 : a = c
      · rw [if_pos (q0b.2 e2)] at h2 ⊢; exact q3q h1 h2
      · have c' : ¬ q1v a c = 0 := fun z => e2 (q0b.1 z)
        rw [if_neg c'] at h2 ⊢; exact h2
    · have c' : ¬ q1v a b = 0 := fun z => e1 (q0b.1 z)
      rw [if_neg c'] at h1
      have l1 : a < b := by unfold q1v at h1; split at h1; · assumption
                            · split at h1 <;> omega
      have l2 : b ≤ c := by
        by_cases e2 : b = c
        · omega
        · rw [if_neg (fun z => e2 (q0b.1 z))] at h2
          unfold q1v at h2; split at h2; · omega
          · split at h2 <;> omega
      have : q1v a c = -1 := by unfold q1v; rw [if_pos (by omega)]
      rw [if_neg (by omega), this]; omega
def leL (a b : List Int) : Bool := decide (cmpL a b ≤ 0)
def q36 (l : List (List Int)) : List (List Int) := l.mergeSort leL
theorem v06 {a b : List (List Int)} (hs : a.Pairwise (fun x y => leL x y = true)) (hp : a.Perm b) : q36 b = a := by
  unfold q36
  refine List.Perm.eq_of_pairwise (le := fun x y => leL x y = true) (fun x y _ _ h1 h2 => ?_) ?_ hs ((List.mergeSort_perm _ _).trans hp.symm)
  · unfold leL at h1 h2
    rw [decide_eq_true_eq] at h1 h2
    have := q1j (l := x) (m := y)
    exact cmpL_eq (by omega)
  · refine List.pairwise_mergeSort (fun x y z h1 h2 => ?_) (fun x y => ?_) b
    · unfold leL at *
      rw [decide_eq_true_eq] at *
      exact q3q h1 h2
    · unfold leL
      have := q1j (l := x) (m := y)
      by_cases c : cmpL x y ≤ 0
      · simp [c]
      · have : cmpL y x ≤ 0 := by omega
        simp [this]
section
variable {α : Type} [Inhabited α] (enc : α → Value)
theorem v8b {w : World} {g : Nat} {cur : Array Value} {e : TypeId} {ss : List α} (hb : w.heap[g]? = some (.cells cur e (0, 0))) (ht : cur.toList.take ss.length = ss.map enc) : Holds enc w g 0 ss.toArray := by
  intro j hj
  have hj' : j < ss.length := by simpa using hj
  refine ⟨?_, by simp [World.frozen?, hb]⟩
  have h1 : (cur.toList.take ss.length)[j]? = (ss.map enc)[j]? := by rw [ht]
  rw [List.getElem?_take_of_lt hj'] at h1
  simp only [World.cell?, hb, Nat.zero_add]
  simp only [Option.isSome_none, Bool.false_eq_true, if_false]
  rw [← Array.getElem?_toList, h1]
  simp [hj']
theorem v9n {w : World} {g n : Nat} {os : Array Obj} {cur : Array Value} {e : TypeId} {fr : Nat × Nat} (d : Array α) (hb : w.heap[g]? = some (.cells cur e fr)) :
    (sortWorld enc w g 0 n d os).heap[g]? = some (.cells (putCells enc 0 d cur) e fr) := by
  have hg : g < w.heap.size := (Array.getElem?_eq_some_iff.1 hb).1
  unfold sortWorld
  rw [heap_grow_old _ _ (by simpa using hg)]
  simp [putRow, mapBlock, Sort.ahead, Array.getElem?_modify, hb, onCells]
theorem v4s {w : World} {g n : Nat} {os : Array Obj} (d : Array α) : w.grownBy (sortWorld enc w g 0 n d os) (some g) := by
  unfold sortWorld
  refine ⟨rfl, rfl, rfl, by simp, fun k hk hne => ?_⟩
  rw [heap_grow_old _ _ (by simpa using hk)]
  have : g ≠ k := fun e => hne (by rw [e])
  simp [putRow, mapBlock, Sort.ahead, Array.getElem?_modify, this]
theorem v9z (cur : Array Value) (ts : List α) (h : ts.length ≤ cur.size) : (putCells enc 0 ts.toArray cur).toList.take ts.length = ts.map enc := by
  apply List.ext_getElem?
  intro j
  by_cases hj : j < ts.length
  · rw [List.getElem?_take_of_lt hj, Array.getElem?_toList]
    simp [putCells, hj, show j < cur.size by omega]
  · rw [List.getElem?_take_eq_none (by omega), List.getElem?_eq_none (by simp; omega)]
theorem v9w {w : World} {base g cap n m : Nat} {e : TypeId} {os : Array Obj} {cur : Array Value} {ts : List α} (hl : ts.length = m) (hbase : base ≤ g) (hb : w.heap[g]? = some (.cells cur e (0, 0)))
    (h1 : m ≤ cap) (h2 : cap ≤ maxLen) (h3 : cur.size = cap * 1) :
    (sortWorld enc w g 0 n ts.toArray os).ownsRow base e 1 (.slice (some ⟨g, 0, none⟩) m cap) m (ts.map enc) :=
  ⟨by simp [hl], .inr ⟨g, cap, _, rfl, hbase, v9n enc _ hb, h1, h2, by simp [putCells, h3], by rw [Nat.mul_one, ← hl]; exact v9z enc cur ts (by omega)⟩⟩
end
theorem v9i {α : Type} (q : α → List Int) : SWO (Go.Proofs.ltOf fun x y => cmpL (q x) (q y)) where
  irrefl x := by simp [Go.Proofs.ltOf, q8d]
  trans x y z h1 h2 := by
    simp only [Go.Proofs.ltOf, decide_eq_true_eq] at *
    have h3 := q3q (l := q x) (m := q y) (n := q z) (by omega) (by omega)
    rcases Int.lt_or_eq_of_le h3 with h | h
    · exact h
    · have e := cmpL_eq h
      rw [← e, q1j] at h2
      omega
  ntrans x y z h1 h2 := by
    simp only [Go.Proofs.ltOf, decide_eq_false_iff_not] at *
    have a1 := q1j (l := q x) (m := q y)
    have a2 := q1j (l := q y) (m := q z)
    have a3 := q1j (l := q x) (m := q z)
    have h3 := q3q (l := q z) (m := q y) (n := q x) (by omega) (by omega)
    omega
/-- An element as the sort sees it: its header, its numbers, its place at first. -/
def El (w : World) (base g : Nat) (ok : Nat → Prop) (f : Nat → Nat) (l : List (List Int)) : Type :=
  { x : Value × List Int × Nat // Kd.R (Kd.int .i64) 3 w base (fun k => ((ok k ∧ k ≠ g) ∧ k < w.heap.size) ∧ f k = x.2.2) x.1 x.2.1 ∧ x.2.1 ∈ l }
theorem v1r {α : Type} (p : α → Nat) : ∀ {ts : List α}, (ts.map p).Nodup → ∀ {j : Nat} {x : α}, ts[j]? = some x → ts.findIdx (fun y => p y == p x) = j
  | [], _, _, _, h => by simp at h
  | y :: ts, hn, 0, x, h => by
    simp only [List.getElem?_cons_zero, Option.some.injEq] at h
    subst h
    simp [List.findIdx_cons]
  | y :: ts, hn, j + 1, x, h => by
    simp only [List.getElem?_cons_succ] at h
    simp only [List.map_cons, List.nodup_cons] at hn
    have hm : p x ∈ ts.map p := List.mem_map.2 ⟨x, List.mem_of_getElem? h, rfl⟩
    have hne : (p y == p x) = false := by
      rw [beq_eq_false_iff_ne]
      intro e
      exact hn.1 (by rw [e]; exact hm)
    rw [List.findIdx_cons, hne, v1r p hn.2 h]
    rfl
theorem v2u (ok : Nat → Prop) (v : Value) (l : List (List Int)) (w0 w : World) (hB : Below w0.heap.size w0 w) (ho : Kd.S (Kd.slice 3 (Kd.int .i64)) 33 w w0.heap.size ok v l) (hl : l.length < 4611686018427387904)
    (hc : ∀ (A B : Option Addr) (ca cb : Nat) (x y : List Int) (W : World), x ∈ l → y ∈ l → Kd.C (Kd.int .i64) W A x.length x → x.length ≤ ca → Kd.C (Kd.int .i64) W B y.length y → y.length ≤ cb →
      Calls Tryz.prog 49 #[.slice A x.length ca, .slice B y.length cb] W fun e w' => e = .returned (.int .i64 (cmpL x y)) ∧ ∃ q, w' = W.drewN q) :
    Calls Tryz.prog 48 #[v, .func (.func 49) #[] #[]] w fun e w' => e = .returned (.tuple #[]) ∧ Kd.S (Kd.slice 3 (Kd.int .i64)) 33 w' w0.heap.size (fun k => ok k ∨ w.heap.size ≤ k) v (q36 l) ∧ Below w0.heap.size w0 w' ∧ Kept w w' ok := by
  obtain ⟨A, c, hv⟩ := Kd.V6 (Kd.S_R ho)
  cases l with
  | nil =>
    subst hv
    have h := AnyF.slices_SortFunc_none (P := Tryz.prog) (ρ := Tryz.q8i) { Tryz.q36 with } A c (.func (.func 49) #[] #[]) w
    change Calls Tryz.prog 48 _ _ _ at h
    refine h.mono ?_
    rintro e w' ⟨rfl, rfl⟩
    exact ⟨rfl, Kd.Z8 (by simpa [q36] using ho) (fun _ hk => .inl hk), hB, Kept.refl _ _⟩
  | cons l0 lt =>
    generalize hL : l0 :: lt = l at *
    have hpos : 0 < l.length := by rw [← hL]; simp
    obtain ⟨f, h0, inner, ho', hr⟩ := ho
    rw [List.length_zipIdx] at ho'
    obtain ⟨hin, hz | ⟨g, cap, cur, hvg, hbase, hg, hn, hcap, hcur, htake⟩⟩ := ho'
    · omega
    subst hvg
    have htake' : cur.toList.take l.length = inner := by have h9 := htake; rw [show (Kd.tag f (Kd.slice 3 (Kd.int .i64))).sz = 1 from rfl, Nat.mul_one] at h9; exact h9
    have hgs : g < w.heap.size := (Array.getElem?_eq_some_iff.1 hg).1
    have hokg : ok g := h0 g rfl
    -- the elements
    have hel : ∀ j (hj : j < l.length), ∃ x : El w w0.heap.size g ok f l, x.1.1 = inner[j]?.getD undef ∧ x.1.2.1 = l[j] ∧ x.1.2.2 = j := by
      intro j hj
      have hz : l.zipIdx[j]? = some (l[j], j) := by rw [List.getElem?_zipIdx]; simp [hj]
      obtain ⟨u, hu, hR⟩ := hr.2 j (l[j], j) hz
      have hin' : inner.length = l.length := by rw [hin]; exact Nat.mul_one _
      have hjn : j < inner.length := by omega
      have e1 : (inner.drop (j * (Kd.tag f (Kd.slice 3 (Kd.int .i64))).sz)).take (Kd.tag f (Kd.slice 3 (Kd.int .i64))).sz = [inner[j]] := by
        show (inner.drop (j * 1)).take 1 = [inner[j]]
        rw [Nat.mul_one, List.drop_eq_getElem_cons hjn]
        rfl
      rw [e1] at hu
      have hu' : inner[j] = u := by simpa using hu
      refine ⟨⟨(u, l[j], j), ?_, List.getElem_mem hj⟩, by simp [hjn, hu'], rfl, rfl⟩
      refine Kd.l5 (Kd.q0f hR) (fun k hk => ?_)
      obtain ⟨⟨⟨hk1, hk2⟩, hk3⟩, _, hk4, _⟩ := hk
      exact ⟨⟨⟨hk1, fun e => hk2 (by subst e; rfl)⟩, hk4⟩, hk3⟩
    obtain ⟨ss, hsl, hss⟩ : ∃ ss : List (El w w0.heap.size g ok f l), ss.length = l.length ∧ ∀ (j : Nat) (x : El w w0.heap.size g ok f l), ss[j]? = some x → some x.1.1 = inner[j]? ∧ some x.1.2.1 = l[j]? ∧ x.1.2.2 = j := by
      refine ⟨List.ofFn (fun i : Fin l.length => (hel i.1 i.2).choose), by simp, fun j x hx => ?_⟩
      rw [List.getElem?_ofFn] at hx
      split at hx
      · rename_i hj
        have hs := (hel j hj).choose_spec
        have hin' : inner.length = l.length := by rw [hin]; exact Nat.mul_one _
        injection hx with hx
        subst hx
        refine ⟨?_, ?_, hs.2.2⟩
        · rw [hs.1]; simp [show j < inner.length by omega]
        · rw [hs.2.1]; simp [hj]
      · cases hx
    have hin' : inner.length = l.length := by rw [hin]; exact Nat.mul_one _
    have hm1 : ss.map (fun x => x.1.1) = inner := by
      refine List.ext_getElem? (fun j => ?_)
      rw [List.getElem?_map]
      cases hx : ss[j]? with
      | none =>
        have : ss.length ≤ j := List.getElem?_eq_none_iff.1 hx
        rw [List.getElem?_eq_none (by omega)]; rfl
      | some x => exact (hss j x hx).1
    have hm2 : ss.map (fun x => x.1.2.1) = l := by
      refine List.ext_getElem? (fun j => ?_)
      rw [List.getElem?_map]
      cases hx : ss[j]? with
      | none =>
        have : ss.length ≤ j := List.getElem?_eq_none_iff.1 hx
        rw [List.getElem?_eq_none (by omega)]; rfl
      | some x => exact (hss j x hx).2.1
    have hm3 : ss.map (fun x => x.1.2.2) = List.range l.length := by
      refine List.ext_getElem? (fun j => ?_)
      rw [List.getElem?_map]
      cases hx : ss[j]? with
      | none =>
        have : ss.length ≤ j := List.getElem?_eq_none_iff.1 hx
        rw [List.getElem?_eq_none (by simp; omega)]; rfl
      | some x =>
        have hj : j < ss.length := (List.getElem?_eq_some_iff.1 hx).1
        rw [Option.map_some, (hss j x hx).2.2, List.getElem?_range (by omega)]
    let el0 : El w w0.heap.size g ok f l := ss[0]'(by omega)
    haveI : Inhabited (El w w0.heap.size g ok f l) := ⟨el0⟩
    have hH : Holds (fun x : El w w0.heap.size g ok f l => x.1.1) w g 0 ss.toArray := v8b _ hg (by rw [hm1, hsl]; exact htake')
    have h1c : OneCell (fun x : El w w0.heap.size g ok f l => x.1.1) := fun x => (Kd.v9k x.2.1).2
    have eg : ∀ args W, (callFunc 49 args).run Tryz.prog W = .ok (.enter 49 args) W := enters_of Tryz.func49 (by kernel_rfl) rfl
    have hcmp : CmpReads Tryz.prog 49 #[] (fun x : El w w0.heap.size g ok f l => x.1.1) (fun x y => cmpL x.1.2.1 y.1.2.1) g 0 ss.toArray.size w := by
      intro m os dk _ x y
      have mv : ∀ z : El w w0.heap.size g ok f l, Kd.R (Kd.int .i64) 3 (sortWorld (fun x : El w w0.heap.size g ok f l => x.1.1) w g 0 m dk os) w0.heap.size (fun k => ((ok k ∧ k ≠ g) ∧ k < w.heap.size) ∧ f k = z.1.2.2) z.1.1 z.1.2.1 := fun z =>
        Kd.q3e z.2.1 (fun k hk => (v4s _ dk).block k hk.1.2 (fun e => hk.1.1.2 (Option.some.inj e)))
      obtain ⟨Ax, cx, ex⟩ := Kd.V6 (mv x)
      obtain ⟨Ay, cy, ey⟩ := Kd.V6 (mv y)
      have rx := mv x
      have ry := mv y
      rw [ex] at rx
      rw [ey] at ry
      have := hc Ax Ay cx cy x.1.2.1 y.1.2.1 (sortWorld (fun x : El w w0.heap.size g ok f l => x.1.1) w g 0 m dk os) x.2.2 y.2.2 (Kd.y9 rx).2.2 (Kd.y9 rx).2.1 (Kd.y9 ry).2.2 (Kd.y9 ry).2.1
      show Calls Tryz.prog 49 #[x.1.1, y.1.1] _ _
      rw [ex, ey]
      exact this
    have hsort := Any.slices_SortFunc Tryz.q36 (fun x : El w w0.heap.size g ok f l => x.1.1) h1c (fun x y => cmpL x.1.2.1 y.1.2.1) (v9i fun x : El w w0.heap.size g ok f l => x.1.2.1) 49 #[] g 0 cap ss.toArray w eg hcmp.lays hH hgs (by simpa [hsl] using hl)
    change Calls Tryz.prog 48 _ _ _ at hsort
    simp only [List.size_toArray, hsl] at hsort
    refine hsort.mono ?_
    rintro e w' ⟨rfl, d', n, os, hp, hs, rfl⟩
    obtain ⟨hsz, _, hperm⟩ := hp
    have hd : d'.size = l.length := by rw [hsz]; simp [hsl]
    have hperm : d'.toList.Perm ss := by
      have e1 : d'.extract 0 l.length = d' := by rw [← hd]; simp
      have e2 : ss.toArray.extract 0 l.length = ss.toArray := by rw [← hsl]; simp
      rw [e1, e2] at hperm
      simpa using hperm
    have hts : d'.toList.length = l.length := by simpa using hd
    have hgr := v4s (fun x : El w w0.heap.size g ok f l => x.1.1) (w := w) (g := g) (n := n) (os := os) d'
    have hres : d'.toList.map (fun x => x.1.2.1) = q36 l := by
      refine (v06 ?_ ?_).symm
      · rw [List.pairwise_map]
        refine List.pairwise_iff_getElem.2 (fun i j hi hj hij => ?_)
        have hh := hs i j (Nat.zero_le _) hij (by omega)
        have hi' : i < d'.size := by simpa using hi
        have hj' : j < d'.size := by simpa using hj
        simp only [ltOf, decide_eq_false_iff_not, getElem!_pos d' i hi', getElem!_pos d' j hj'] at hh
        have ha := q1j (l := (d'[i]).1.2.1) (m := (d'[j]).1.2.1)
        simp only [leL, decide_eq_true_eq, Array.getElem_toList]
        omega
      · exact (hperm.map (fun x : El w w0.heap.size g ok f l => x.1.2.1)).trans (List.Perm.of_eq hm2)
    have hnd : (d'.toList.map (fun x => x.1.2.2)).Nodup := by
      refine (hperm.map (fun x : El w w0.heap.size g ok f l => x.1.2.2)).nodup_iff.2 ?_
      rw [hm3]; exact List.nodup_range
    refine ⟨rfl, ?_, hB.grown hgr hB.size (fun k hk => by have := Option.some.inj hk; omega), Kept.O9 hgr (Kept.refl _ _) (fun k hk => .inl (by rw [← Option.some.inj hk]; exact hokg))⟩
    rw [← hres]
    refine ⟨fun k => d'.toList.findIdx (fun y => y.1.2.2 == f k), fun k hk => .inl (h0 k hk), d'.toList.map (fun x => x.1.1), ?_, ?_, ?_⟩
    · rw [List.length_zipIdx, List.length_map, hts]
      have := v9w (fun x : El w w0.heap.size g ok f l => x.1.1) (w := w) (base := w0.heap.size) (g := g) (cap := cap) (n := n) (m := l.length) (e := 33) (os := os) (cur := cur) (ts := d'.toList) hts hbase hg hn hcap hcur
      rw [show d'.toList.toArray = d' from by simp] at this
      exact this
    · show (d'.toList.map _).length = _ * 1
      simp
    · intro j p hj
      rw [List.getElem?_zipIdx, List.getElem?_map] at hj
      cases hx : d'.toList[j]? with
      | none => rw [hx] at hj; simp at hj
      | some x =>
        rw [hx] at hj
        simp only [Option.map_some, Nat.zero_add, Option.some.injEq] at hj
        subst hj
        have hjl : j < d'.toList.length := (List.getElem?_eq_some_iff.1 hx).1
        have hxe : d'.toList[j] = x := (List.getElem?_eq_some_iff.1 hx).2
        have hid := v1r (fun y : El w w0.heap.size g ok f l => y.1.2.2) hnd hx
        refine ⟨x.1.1, ?_, ?_⟩
        · show ((d'.toList.map (fun x => x.1.1)).drop (j * 1)).take 1 = [x.1.1]
          rw [Nat.mul_one, List.drop_eq_getElem_cons (by simpa using hjl)]
          simp [← hxe]
        · refine Kd.l5 (Kd.q3e x.2.1 (fun k hk => hgr.block k hk.1.2 (fun e => hk.1.1.2 (Option.some.inj e)))) (fun k hk => ⟨⟨.inl hk.1.1.1, fun e => hk.1.1.2 (Option.some.inj e)⟩, ?_⟩)
          show d'.toList.findIdx (fun y => y.1.2.2 == f k) = j
          rw [hk.2]; exact hid
section
variable {P : Program} {ops : Array Oper} {rest : List Oper} {o : Oper} {a : Act} {Q : Exit → Act → World → Prop} {α : Type}
theorem q8x {w0 W : World} (base : Nat) (hgd : o.guard = none) (s x : Operand) (t e : TypeId) (z : Value) (size bytes : Nat)
    (ho : o.op = .call { callee := .builtin .append, args := #[s, x], argTypes := #[t, t] })
    (ht : P.underlying t = some (.slice e)) (hinfo : (P.info? e).map (fun i => (i.zero, i.size, i.bytes)) = some (some z, size, bytes)) (hz : z.cells.size = size) (hs0 : 0 < size) (hb0 : 0 < bytes)
    (v : Value) (n : Nat) (xs ys : List Value) (hs : a.eval s = v) (hx : a.eval x = .slice (some ⟨W.heap.size, 0, none⟩) 2 2) (hys : ys.length = 2 * size) (h1 : ∀ u ∈ ys, u.oneCell' = true)
    (HO : W.ownsRow base e size v n xs) (HB : Below base w0 W) (hbase : base ≤ W.heap.size) (hl : (n + 2) * bytes ≤ 140737488355328)
    (h : ∀ v1 w1, w1.ownsRow base e size v1 (n + 2) (xs ++ ys) → Below base w0 w1 → W.grownBy w1 v.ownBlock → (v1.ownBlock = v.ownBlock ∨ ∃ b, v1.ownBlock = some b ∧ W.heap.size ≤ b) → wpList P ops Q rest (a.put o.dst v1) w1) :
    wpList P ops Q (o :: rest) a (W.alloc (.cells ys.toArray e)) := by
  obtain ⟨i0, hi, hzz⟩ := Option.map_eq_some_iff.1 hinfo
  simp only [Prod.mk.injEq] at hzz
  obtain ⟨hz0, hz1, hz2⟩ := hzz
  have hlen : n + 2 ≤ 140737488355328 := Nat.le_trans (Nat.le_mul_of_pos_right _ hb0) hl
  refine wpList_append_own_at (W.alloc (.cells ys.toArray e)) hgd s x t ho base e i0 z size bytes ht hi hz0 hz1 hz2 hz hs0 v n xs hs (HO.alloc _) ⟨W.heap.size, 0, none⟩ 2 2 ys hx hys
    (by simpa using World.news_of_block (cs := ys.toArray) (t := e) (fr := (0, 0)) (heap_alloc_new W (.cells ys.toArray e))) h1 (by simp only [maxLen]; omega) hl (by simp; omega) ?_
  intro v1 w1 hown hg _ hat
  refine h v1 w1 hown ((HB.alloc hbase _).grown hg (by simp; omega) (q1w HO)) (World.grownBy.trans (World.grownBy_alloc W _ _) hg) ?_
  rcases hat with hat | hat
  · exact .inl hat
  · exact .inr ⟨_, hat, by simp⟩
theorem v0t {d : Kd α} {e base : Nat} {ok okp okp' : Nat → Prop} {W w1 : World} {v v1 : Value} {xs : List α} {p p' : α} {inner cs cs' : List Value} (h0 : ∀ k, v.ownBlock = some k → ok k) (hr : Q9 (d.M W base (fun k => ok k ∧ some k ≠ v.ownBlock)) d.sz xs inner) (hp : d.M W base okp p cs) (hokp : ∀ k, okp k → ok k ∧ some k ≠ v.ownBlock) (hp' : d.M W base okp' p' cs') (hokp' : ∀ k, okp' k → ok k ∧ some k ≠ v.ownBlock) (hfresh : ∀ k, W.heap.size ≤ k → ok k)
    (hown : w1.ownsRow base e d.sz v1 (xs.length + 2) (inner ++ (cs ++ cs'))) (hg : W.grownBy w1 v.ownBlock) (hat : v1.ownBlock = v.ownBlock ∨ ∃ b, v1.ownBlock = some b ∧ W.heap.size ≤ b) : d.R e w1 base ok v1 (xs ++ [p, p']) := by
  have hne : ∀ k, some k ≠ v.ownBlock → k < W.heap.size → some k ≠ v1.ownBlock := by
    intro k hk hlt
    rcases hat with hat | ⟨b, hb, hle⟩
    · rw [hat]; exact hk
    · rw [hb]
      intro he
      injection he with he
      omega
  have step : ∀ {q : α} {c : List Value} {o : Nat → Prop}, d.M W base o q c → (∀ k, o k → ok k ∧ some k ≠ v.ownBlock) → d.M w1 base (fun k => ok k ∧ some k ≠ v1.ownBlock) q c := by
    intro q c o hq ho
    have h1 := d.M_move (w1 := w1) (fun k hk => hg.block k hk.2.2.1 (ho k hk.1).2) (d.M_bound hq)
    exact d.M_mono (fun k hk => ⟨(ho k hk.1).1, hne k (ho k hk.1).2 hk.2.2.1⟩) h1
  refine ⟨fun k hk => ?_, inner ++ (cs ++ cs'), by rw [List.length_append]; exact hown, ?_⟩
  · rcases hat with hat | ⟨b, hb, hle⟩
    · exact h0 k (hat ▸ hk)
    · rw [hb] at hk
      injection hk with hk
      exact hfresh k (by omega)
  · have := ((hr.O4 (fun _ _ hq => step hq (fun _ hk => hk))).snoc (step hp hokp) (d.K_len (d.K_of_M hp))).snoc (step hp' hokp') (d.K_len (d.K_of_M hp'))
    rw [List.append_assoc, List.append_assoc] at this
    exact this
open Classical in
/-- append(v, p, p'), behind 'at_builtin': both bring blocks of their own, none of them v's or the other's. -/
theorem v3v (d : Kd α) {w0 W : World} (base : Nat) (hgd : o.guard = none) (s x : Operand) (t e : TypeId) (z : Value) (bytes : Nat)
    (ho : o.op = .call { callee := .builtin .append, args := #[s, x], argTypes := #[t, t] })
    (ht : P.underlying t = some (.slice e)) (hinfo : (P.info? e).map (fun i => (i.zero, i.size, i.bytes)) = some (some z, d.sz, bytes)) (hz : z.cells.size = d.sz) (hs0 : 0 < d.sz) (hb0 : 0 < bytes)
    (v : Value) (xs : List α) (p p' : α) (cs cs' : List Value) (ok okp okp' : Nat → Prop) (hs : a.eval s = v) (hx : a.eval x = .slice (some ⟨W.heap.size, 0, none⟩) 2 2) (hp : d.M W base okp p cs) (hokp : ∀ k, okp k → ok k ∧ some k ≠ v.ownBlock) (hp' : d.M W base okp' p' cs') (hokp' : ∀ k, okp' k → ok k ∧ some k ≠ v.ownBlock) (hap : ∀ k, okp k → ¬ okp' k) (hfresh : ∀ k, W.heap.size ≤ k → ok k)
    (HO : Kd.S d e W base (fun k => ok k ∧ ¬ okp k ∧ ¬ okp' k) v xs) (HB : Below base w0 W) (hbase : base ≤ W.heap.size) (hl : (xs.length + 2) * bytes ≤ 140737488355328)
    (h : ∀ v1 w1, Kd.S d e w1 base ok v1 (xs ++ [p, p']) → Below base w0 w1 → W.grownBy w1 v.ownBlock → (v1.ownBlock = v.ownBlock ∨ ∃ b, v1.ownBlock = some b ∧ W.heap.size ≤ b) → wpList P ops Q rest (a.put o.dst v1) w1) :
    wpList P ops Q (o :: rest) a (W.alloc (.cells (cs ++ cs').toArray e)) := by
  obtain ⟨f0, HO⟩ := HO
  have HR := Kd.l5 (Kd.v6o (f' := fun k => if okp k then xs.length else if okp' k then xs.length + 1 else f0 k) HO (fun k hk _ => by simp only [if_neg hk.2.1, if_neg hk.2.2])) (fun _ hk => hk.1)
  generalize hf : (fun k => if okp k then xs.length else if okp' k then xs.length + 1 else f0 k) = f at HR
  have hf1 : ∀ k, okp k → f k = xs.length := fun k hk => by rw [← hf]; simp only [if_pos hk]
  have hf2 : ∀ k, okp' k → f k = xs.length + 1 := fun k hk => by rw [← hf]; simp only [if_neg (fun z => hap k z hk), if_pos hk]
  obtain ⟨h0, inner, hown, hr⟩ := HR
  have hp1 : (Kd.tag f d).M W base okp (p, xs.length) cs := d.M_mono (fun k hk => ⟨hk, hf1 k hk⟩) hp
  have hp2 : (Kd.tag f d).M W base okp' (p', xs.length + 1) cs' := d.M_mono (fun k hk => ⟨hk, hf2 k hk⟩) hp'
  refine q8x base hgd s x t e z d.sz bytes ho ht hinfo hz hs0 hb0 v xs.zipIdx.length inner (cs ++ cs') hs hx (by rw [List.length_append, d.K_len (d.K_of_M hp), d.K_len (d.K_of_M hp')]; omega) (fun u hu => (List.mem_append.1 hu).elim (d.K_one (d.K_of_M hp) u) (d.K_one (d.K_of_M hp') u)) hown HB hbase (by rw [List.length_zipIdx]; exact hl) ?_
  intro v1 w1 hown1 hb1 hg1 hat1
  have := v0t h0 hr hp1 hokp hp2 hokp' hfresh hown1 hg1 hat1
  refine h v1 w1 ⟨f, ?_⟩ hb1 hg1 hat1
  have e : (xs ++ [p, p']).zipIdx = xs.zipIdx ++ [(p, xs.length), (p', xs.length + 1)] := by rw [List.zipIdx_append]; simp
  rw [e]; exact this
end
end Go.Proofs.YtkfledgkhgcicaaGreat.Sf
