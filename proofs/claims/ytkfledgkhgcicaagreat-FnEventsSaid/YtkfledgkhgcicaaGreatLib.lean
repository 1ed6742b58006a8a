/- Functions of the library that the program calls, told in the print's words: sorting, and the like. -/
import Derived.Test.YtkfledgkhgcicaaGreatWWords
import Derived.Test.YtkfledgkhgcicaaGreatWKept
import Derived.Test.YtkfledgkhgcicaaGreatShelf
import Derived.Shelf.Sort.Plain
import Derived.Shelf.Slices.In.SortNone2
namespace Go.Proofs.YtkfledgkhgcicaaGreat.Lib
open Go.RowKit Go.Proofs.YtkfledgkhgcicaaGreatW.PrintWords

def sorted (l : List Int) : List Int := l.mergeSort fun x y => decide (x ≤ y)
theorem q3k (l : List Int) : (sorted l).length = l.length := by unfold sorted; exact List.length_mergeSort l

theorem q4l {α : Type} [Inhabited α] (enc : α → Value) (w : World) (n g off : Nat) (d : Array α) (os : Array Obj) (k : Nat) (hk : k < w.heap.size) :
    (Sort.grow (Sort.putRow enc (Sort.ahead w n) g off d) os).heap[k]? = if g = k then w.heap[k]?.map (Sort.onCells (Sort.putCells enc off d)) else w.heap[k]? := by
  have : k < (w.heap.modify g (Sort.onCells (Sort.putCells enc off d))).size := by simpa using hk
  simp only [Sort.grow, Sort.putRow, Sort.mapBlock, Sort.ahead]
  rw [Array.getElem?_append_left this, Array.getElem?_modify]

theorem v5v {w : World} {base : Nat} {ok : Nat → Prop} {e : Nat} {g cap n : Nat} {l : List Int} {os : Array Obj} (h : Kd.R (Kd.int .i64) e w base ok (.slice (some ⟨g, 0, none⟩) l.length cap) l) :
    Kd.R (Kd.int .i64) e (Sort.grow (Sort.putRow (Value.int .i64) (Sort.ahead w n) g 0 (sorted l).toArray) os) base ok (.slice (some ⟨g, 0, none⟩) l.length cap) (sorted l) ∧ g < w.heap.size ∧ base ≤ g := by
  have ho := Kd.q6h h
  have hok := h.1
  obtain ⟨hlen, hc⟩ := ho
  rcases hc with ⟨hv, _⟩ | ⟨g', cap', cur, hv, hb, hh, hn, hcm, hs, ht⟩
  · cases hv
  · injection hv with h1 h2 h3
    injection h1 with h1
    injection h1 with h1 _ _
    subst h1; subst h3
    have hg : g < w.heap.size := by
      rcases Nat.lt_or_ge g w.heap.size with r | r
      · exact r
      · rw [Array.getElem?_eq_none r] at hh; cases hh
    refine ⟨Kd.q9i ⟨?_, .inr ⟨g, cap, Sort.putCells (Value.int .i64) 0 (sorted l).toArray cur, by rw [q3k], hb, ?_, by rw [q3k]; exact hn, hcm, ?_, ?_⟩⟩ hok, hg, hb⟩
    · simp [encs]
    · rw [q4l _ _ _ _ _ _ _ _ hg, if_pos rfl, hh]; rfl
    · simp [Sort.putCells, hs]
    · apply List.ext_getElem
      · simp [Sort.putCells, encs, hs, q3k]; omega
      · intro i h1 h2
        simp [encs] at h2
        have hi : i < (sorted l).length := h2
        simp [Sort.putCells, encs, hi]
theorem q9m {w0 w : World} {B n g : Nat} {d : Array Int} {os : Array Obj} (h : Below B w0 w) (hb : B ≤ g) (hB : B ≤ w.heap.size) : Below B w0 (Sort.grow (Sort.putRow (Value.int .i64) (Sort.ahead w n) g 0 d) os) :=
  h.trans ⟨rfl, rfl, rfl, by simp [Sort.grow, Sort.putRow, Sort.mapBlock, Sort.ahead], fun k hk => by
    rw [q4l _ _ _ _ _ _ _ _ (by omega), if_neg (by omega)]⟩
theorem v0s {w : World} {n g : Nat} {d : Array Int} {os : Array Obj} {S : Nat → Prop} (hS : S g) : Kept w (Sort.grow (Sort.putRow (Value.int .i64) (Sort.ahead w n) g 0 d) os) S :=
  ⟨by simp [Sort.grow, Sort.putRow, Sort.mapBlock, Sort.ahead], fun k hk hn => by
    rw [q4l _ _ _ _ _ _ _ _ hk, if_neg (fun e : g = k => hn (e ▸ hS))]⟩

theorem q75 (P0_ : Nat → Prop) (u9000_ : Value) (l0 : List Int) (r : List Int) (w0 w : World) (hB : Below w0.heap.size w0 w) (ho0 : Kd.R (Kd.int .i64) 3 w w0.heap.size P0_ u9000_ l0) (h : (if l0.length < 4611686018427387904 then some (sorted l0) else none) = some r) :
    Calls Tryz.prog 53 #[u9000_] w fun e w' => e = .returned (.tuple #[]) ∧ Kd.R (Kd.int .i64) 3 w' w0.heap.size (fun k_ => (P0_ k_ ∨ w.heap.size ≤ k_)) u9000_ r ∧ Below w0.heap.size w0 w' ∧ Kept w w' (fun k_ => P0_ k_) := by
  by_cases hl : l0.length < 4611686018427387904
  · rw [if_pos hl] at h
    obtain rfl := Option.some.inj h
    by_cases h0 : 0 < l0.length
    · obtain ⟨g, cap, rfl, hb, hg, _⟩ := Kd.q30 ho0 h0
      have hs := fun n os => v5v (n := n) (os := os) ho0
      have hok : P0_ g := ho0.1 g (by simp [Value.ownBlock])
      refine (Tryz.sort_Ints g 0 cap l0 w (fun j hj => ?_) hg hl).mono ?_
      · have hj' : j < l0.length := by simpa using hj
        obtain ⟨c1, c2⟩ := Kd.q3v (0 : Int) ho0 (j : Int) (by omega) (by omega)
        simp only [Int.toNat_natCast, Nat.zero_add] at c1 c2 ⊢
        refine ⟨?_, c2⟩
        rw [c1]
        simp [q9h, hj']
      · rintro e w' ⟨rfl, n, os, rfl⟩
        exact ⟨rfl, Kd.l5 (hs n os).1 (fun _ hk => .inl hk), q9m hB hb (by have := hB.size; omega), v0s hok⟩
    · have e0 : l0 = [] := List.eq_nil_of_length_eq_zero (by omega)
      subst e0
      obtain ⟨A, c, rfl, _⟩ := Kd.q1u ho0
      refine (Tryz.sort_Ints_none A c w).mono ?_
      rintro e w' ⟨rfl, rfl⟩
      refine ⟨rfl, ?_, hB, Kept.refl _ _⟩
      have : sorted [] = ([] : List Int) := by simp [sorted]
      rw [this]
      exact Kd.l5 ho0 (fun _ hk => .inl hk)
  · rw [if_neg hl] at h
    cases h
end Go.Proofs.YtkfledgkhgcicaaGreat.Lib
