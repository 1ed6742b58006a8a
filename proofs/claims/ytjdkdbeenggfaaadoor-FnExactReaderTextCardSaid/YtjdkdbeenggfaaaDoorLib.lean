/- Functions of the library that the program calls, told in the print's words: sorting, and the like. -/
import Derived.Test.YtjdkdbeenggfaaaDoorWWords
import Derived.Test.YtjdkdbeenggfaaaDoorWKept
import Derived.Test.YtjdkdbeenggfaaaDoorShelf
import Derived.Shelf.Sort.Plain
import Derived.Shelf.Slices.In.SortNone2
import Derived.Test.YtjdkdbeenggfaaaDoorWLast
import Derived.Lib.SmallJoins
import Derived.Lib.AppendIntMem
namespace Go.Proofs.YtjdkdbeenggfaaaDoor.Lib
open Go.RowKit Go.Proofs.YtjdkdbeenggfaaaDoorW.PrintWords

def sorted (l : List Int) : List Int := l.mergeSort fun x y => decide (x ≤ y)
theorem sorted_length (l : List Int) : (sorted l).length = l.length := by unfold sorted; exact List.length_mergeSort l

theorem heap_putRow {α : Type} [Inhabited α] (enc : α → Value) (w : World) (n g off : Nat) (d : Array α) (os : Array Obj) (k : Nat) (hk : k < w.heap.size) :
    (Sort.grow (Sort.putRow enc (Sort.ahead w n) g off d) os).heap[k]? = if g = k then w.heap[k]?.map (Sort.onCells (Sort.putCells enc off d)) else w.heap[k]? := by
  have : k < (w.heap.modify g (Sort.onCells (Sort.putCells enc off d))).size := by simpa using hk
  simp only [Sort.grow, Sort.putRow, Sort.mapBlock, Sort.ahead]
  rw [Array.getElem?_append_left this, Array.getElem?_modify]

theorem R_sorted {w : World} {base : Nat} {ok : Nat → Prop} {e : Nat} {g cap n : Nat} {l : List Int} {os : Array Obj} (h : Kd.R (Kd.int .i64) e w base ok (.slice (some ⟨g, 0, none⟩) l.length cap) l) :
    Kd.R (Kd.int .i64) e (Sort.grow (Sort.putRow (Value.int .i64) (Sort.ahead w n) g 0 (sorted l).toArray) os) base ok (.slice (some ⟨g, 0, none⟩) l.length cap) (sorted l) ∧ g < w.heap.size ∧ base ≤ g := by
  have ho := Kd.own_of_R h
  have hok := h.1
  obtain ⟨hlen, hc⟩ := ho
  rcases hc with ⟨hv, _⟩ | ⟨g', cap', cur, hv, hb, hh, hn, hcm, hs, ht⟩
  · cases hv
  · injection hv with h1 h2 h3
    injection h1 with h1
    injection h1 with h1 _ _
    subst h1; subst h3
    have hg : g < w.heap.size := by
      rcases Nat.lt_or_ge g w.heap.size with r | r
      · exact r
      · rw [Array.getElem?_eq_none r] at hh; cases hh
    refine ⟨Kd.R_of_own ⟨?_, .inr ⟨g, cap, Sort.putCells (Value.int .i64) 0 (sorted l).toArray cur, by rw [sorted_length], hb, ?_, by rw [sorted_length]; exact hn, hcm, ?_, ?_⟩⟩ hok, hg, hb⟩
    · simp [encs]
    · rw [heap_putRow _ _ _ _ _ _ _ _ hg, if_pos rfl, hh]; rfl
    · simp [Sort.putCells, hs]
    · apply List.ext_getElem
      · simp [Sort.putCells, encs, hs, sorted_length]; omega
      · intro i h1 h2
        simp [encs] at h2
        have hi : i < (sorted l).length := h2
        simp [Sort.putCells, encs, hi]
theorem below_sorted {w0 w : World} {B n g : Nat} {d : Array Int} {os : Array Obj} (h : Below B w0 w) (hb : B ≤ g) (hB : B ≤ w.heap.size) : Below B w0 (Sort.grow (Sort.putRow (Value.int .i64) (Sort.ahead w n) g 0 d) os) :=
  h.trans ⟨rfl, rfl, rfl, by simp [Sort.grow, Sort.putRow, Sort.mapBlock, Sort.ahead], fun k hk => by
    rw [heap_putRow _ _ _ _ _ _ _ _ (by omega), if_neg (by omega)]⟩
theorem kept_sorted {w : World} {n g : Nat} {d : Array Int} {os : Array Obj} {S : Nat → Prop} (hS : S g) : Kept w (Sort.grow (Sort.putRow (Value.int .i64) (Sort.ahead w n) g 0 d) os) S :=
  ⟨by simp [Sort.grow, Sort.putRow, Sort.mapBlock, Sort.ahead], fun k hk hn => by
    rw [heap_putRow _ _ _ _ _ _ _ _ hk, if_neg (fun e : g = k => hn (e ▸ hS))]⟩

theorem sort_Ints_calls (P0_ : Nat → Prop) (u9000_ : Value) (l0 : List Int) (r : List Int) (w0 w : World) (hB : Below w0.heap.size w0 w) (ho0 : Kd.R (Kd.int .i64) 3 w w0.heap.size P0_ u9000_ l0) (h : (if l0.length < 4611686018427387904 then some (sorted l0) else none) = some r) :
    Calls Tryd.prog 68 #[u9000_] w fun e w' => e = .returned (.tuple #[]) ∧ Kd.R (Kd.int .i64) 3 w' w0.heap.size (fun k_ => (P0_ k_ ∨ w.heap.size ≤ k_)) u9000_ r ∧ Below w0.heap.size w0 w' ∧ Kept w w' (fun k_ => P0_ k_) := by
  by_cases hl : l0.length < 4611686018427387904
  · rw [if_pos hl] at h
    obtain rfl := Option.some.inj h
    by_cases h0 : 0 < l0.length
    · obtain ⟨g, cap, rfl, hb, hg, _⟩ := Kd.R_form ho0 h0
      have hs := fun n os => R_sorted (n := n) (os := os) ho0
      have hok : P0_ g := ho0.1 g (by simp [Value.ownBlock])
      refine (Tryd.sort_Ints g 0 cap l0 w (fun j hj => ?_) hg hl).mono ?_
      · have hj' : j < l0.length := by simpa using hj
        obtain ⟨c1, c2⟩ := Kd.R_celln (0 : Int) ho0 (j : Int) (by omega) (by omega)
        simp only [Int.toNat_natCast, Nat.zero_add] at c1 c2 ⊢
        refine ⟨?_, c2⟩
        rw [c1]
        simp [rdOf, hj']
      · rintro e w' ⟨rfl, n, os, rfl⟩
        exact ⟨rfl, Kd.R_mono (hs n os).1 (fun _ hk => .inl hk), below_sorted hB hb (by have := hB.size; omega), kept_sorted hok⟩
    · have e0 : l0 = [] := List.eq_nil_of_length_eq_zero (by omega)
      subst e0
      obtain ⟨A, c, rfl, _⟩ := Kd.R_reads ho0
      refine (Tryd.sort_Ints_none A c w).mono ?_
      rintro e w' ⟨rfl, rfl⟩
      refine ⟨rfl, ?_, hB, Kept.refl _ _⟩
      have : sorted [] = ([] : List Int) := by simp [sorted]
      rw [this]
      exact Kd.R_mono ho0 (fun _ hk => .inl hk)
  · rw [if_neg hl] at h
    cases h

/-- The table that strconv reads stands in the world as its initialiser lays it. -/
def HTab (w : World) : Prop := Go.Lib.TabIs Tryd.prog w "internal/strconv.uint64pow10" .u64 Go.Lib.pow10Tab
theorem gPow : ∃ g, Tryd.prog.globalNamed "internal/strconv.uint64pow10" = some g := by
  have h : (Tryd.prog.globalNamed "internal/strconv.uint64pow10").isSome = true := by kernel_rfl
  exact Option.isSome_iff_exists.1 h
theorem HTab.below {w w' : World} (h : HTab w) (hb : Below w.heap.size w w') : HTab w' := by
  obtain ⟨g, hg⟩ := gPow
  exact Go.Joins.tab_stays hg h hb (Nat.le_refl _)
theorem zt {w0 w : World} (h : HTab w0) (hb : Below w0.heap.size w0 w) : HTab w := h.below hb

theorem Itoa_calls (a0 : Int) (r : ByteArray) (w : World) (ht : HTab w) (h : (if -9223372036854775808 ≤ a0 ∧ a0 ≤ 9223372036854775807 then some (⟨(Go.Lib.itoa a0).toArray⟩ : ByteArray) else none) = some r) :
    Calls Tryd.prog 45 #[.int .i64 a0] w fun e w' => e = .returned (.string r) ∧ Below w.heap.size w w' := by
  by_cases hc : -9223372036854775808 ≤ a0 ∧ a0 ≤ 9223372036854775807
  · rw [if_pos hc] at h
    obtain rfl := Option.some.inj h
    refine (Tryd.strconv_Itoa a0 hc.1 hc.2 w ht).mono ?_
    rintro e w' ⟨rfl, k, os, rfl⟩
    refine ⟨rfl, ?_⟩
    exact Go.Lib.below_grow _ w (Nat.le_refl _) k os
  · rw [if_neg hc] at h; cases h

theorem Join_calls (A0 : Option Addr) (c0 : Nat) (l0 : List ByteArray) (a1 r : ByteArray) (w : World) (hr0 : Kd.C Kd.string w A0 l0.length l0) (hc0 : l0.length ≤ c0) (h : (if l0.length ≤ 140737488355328 ∧ (Go.Lib.join (l0.map (·.data.toList)) a1.data.toList).length ≤ 140737488355328 then some (⟨(Go.Lib.join (l0.map (·.data.toList)) a1.data.toList).toArray⟩ : ByteArray) else none) = some r) :
    Calls Tryd.prog 46 #[.slice A0 l0.length c0, .string a1] w fun e w' => e = .returned (.string r) ∧ Below w.heap.size w w' := by
  by_cases hc : l0.length ≤ 140737488355328 ∧ (Go.Lib.join (l0.map (·.data.toList)) a1.data.toList).length ≤ 140737488355328
  · rw [if_pos hc] at h
    obtain rfl := Option.some.inj h
    match l0, hr0, hc0, hc with
    | [], hr0, hc0, hc =>
      refine (Tryd.strings_Join_none A0 c0 a1 w).mono ?_
      rintro e w' ⟨rfl, rfl⟩
      exact ⟨rfl, Below.refl _ _⟩
    | x :: l, hr0, hc0, hc =>
      obtain ⟨ad, rfl, hx⟩ := Kd.at_string hr0 0 (by omega) (by simp)
      obtain ⟨b, o, s⟩ := ad
      have hs : s = none := by simpa [Addr.add] using World.cell?_spot hx
      subst hs
      refine (Tryd.strings_Join b o c0 (x :: l) a1 w (fun j y hj => ?_) (by have := World.block_lt_of_cell? w _ hx; simpa [Addr.add] using this) hc.1 hc0 hc.2).mono ?_
      · have hl : j < (x :: l).length := (List.getElem?_eq_some_iff.1 hj).1
        obtain ⟨ad', e', hx'⟩ := Kd.at_string hr0 (j : Int) (by omega) (by omega)
        cases e'
        have : rdOf ByteArray.empty (x :: l) (j : Int) = y := by
          unfold rdOf
          rw [Int.toNat_natCast, List.getD_eq_getElem?_getD, hj]; rfl
        rw [this, Int.toNat_natCast] at hx'
        have ea : (⟨b, o, none⟩ : Addr).add j = ⟨b, o + j, none⟩ := by
          unfold Addr.add
          by_cases z : j = 0
          · subst z; simp
          · simp [z]
        rw [← ea]; exact hx'
      · rintro e w' ⟨rfl, hb⟩
        exact ⟨rfl, hb⟩
  · rw [if_neg hc] at h; cases h

theorem Repeat_calls (a0 : ByteArray) (a1 : Int) (r : ByteArray) (w : World) (h : (if 0 ≤ a1 ∧ a1 ≤ 9223372036854775807 ∧ a0.size * a1.toNat ≤ 140737488355328 then some (⟨(Go.Lib.repeatL a0.data.toList a1.toNat).toArray⟩ : ByteArray) else none) = some r) :
    Calls Tryd.prog 37 #[.string a0, .int .i64 a1] w fun e w' => e = .returned (.string r) ∧ Below w.heap.size w w' := by
  by_cases hc : 0 ≤ a1 ∧ a1 ≤ 9223372036854775807 ∧ a0.size * a1.toNat ≤ 140737488355328
  · rw [if_pos hc] at h
    obtain rfl := Option.some.inj h
    have e : a1 = ((a1.toNat : Nat) : Int) := by omega
    rw [e]
    simp only [Int.toNat_natCast]
    refine (Tryd.strings_Repeat a0 a1.toNat w (by omega) hc.2.2).mono ?_
    rintro e w' ⟨rfl, hb⟩
    exact ⟨rfl, hb⟩
  · rw [if_neg hc] at h; cases h

/-- A builder at block g, made by the call itself, that holds the text t; w1: the world in which it was made. -/
def Bd (g : Nat) (t : ByteArray) (W : World) : Prop := Go.Lib.IsBuilder 66 5 g g (Go.Lib.strCells t) W
theorem Bd.lt {g : Nat} {t : ByteArray} {W : World} (h : Bd g t W) : g < W.heap.size := by
  rcases h with h | h <;> exact h.lt
theorem Bd.below {g : Nat} {t : ByteArray} {W W1 : World} (h : Bd g t W) (hb : Below W.heap.size W W1) : Bd g t W1 := by
  have key : ∀ p, Go.Lib.BuilderAt 66 5 g g p (Go.Lib.strCells t) W → Go.Lib.BuilderAt 66 5 g g p (Go.Lib.strCells t) W1 := by
    rintro p ⟨h0, v, hv, hown, hne⟩
    exact ⟨h0, v, blk_below hv hb, hown.kept (grown_of_below hb none) (Classical.em _), hne⟩
  rcases h with h | h
  · exact .inl (key _ h)
  · exact .inr (key _ h)
theorem Bd.new {W : World} {g : Nat} (h : W.heap[g]? = some (.cells #[.pointer none, .slice none 0 0] 66 (0, 0))) : Bd g ⟨#[]⟩ W :=
  Or.inl ⟨Nat.le_refl _, .slice none 0 0, h, World.ownsRow_nil _ _ _ _, by simp [Value.ownBlock]⟩
theorem Bd.write {g : Nat} {t s : ByteArray} {w : World} (h : Bd g t w) (hl : t.size + s.size ≤ 140737488355328) :
    Calls Tryd.prog 28 #[.pointer (some ⟨g, 0, none⟩), .string s] w fun e w' => e = .returned (.tuple #[.int .i64 s.size, .nilIface]) ∧ Bd g (t ++ s) w' ∧ Below g w w' := by
  refine (Tryd.Builder_WriteString g g (Go.Lib.strCells t) s w h (by simpa [Go.Lib.strCells] using hl) (Nat.le_of_lt h.lt)).mono ?_
  rintro e w' ⟨rfl, hB, hb⟩
  refine ⟨rfl, .inr ?_, hb⟩
  have : Go.Lib.strCells (t ++ s) = Go.Lib.strCells t ++ Go.Lib.strCells s := by simp [Go.Lib.strCells]
  rw [this]; exact hB
theorem Bd.text {g : Nat} {t : ByteArray} {w : World} (h : Bd g t w) :
    Calls Tryd.prog 31 #[.pointer (some ⟨g, 0, none⟩)] w fun e w' => e = .returned (.string t) ∧ Below g w w' :=
  Tryd.Builder_String_any g g t.data.toList w h (Nat.le_of_lt h.lt)
theorem zBd {g : Nat} {t : ByteArray} {W W' : World} (h : Bd g t W) (hb : Below W.heap.size W W' := by repeat (first | (with_reducible first | exact Below.refl _ _ | apply below_alloc | apply pw_below_drewN | apply below_drew1) | exact Below.refl _ _)) : Bd g t W' := h.below hb
theorem zRd {w0 W : World} (h : Below w0.heap.size w0 W := by repeat (first | (with_reducible first | exact HRd.out | apply below_alloc | apply pw_below_drewN | apply below_drew1 | refine below_set ?_ (Aside0.out (by first | with_reducible assumption | assumption))) | exact HRd.out)) : Below w0.heap.size w0 W := h
theorem zUp {B g : Nat} {w W W1 : World} (h : Below B w W) (hb : Below g W W1) (hg : B ≤ g) : Below B w W1 := h.trans (hb.mono hg)
theorem zXd {w0 W : World} (h : Below w0.heap.size w0 W := by repeat (first | (with_reducible first | exact HBX.out | apply below_alloc | apply pw_below_drewN | apply below_drew1) | exact HBX.out)) : Below w0.heap.size w0 W := h
theorem zX0 {w0 W : World} (h : Below w0.heap.size w0 W := by repeat (first | (with_reducible first | exact Below.refl _ _ | apply below_alloc | apply pw_below_drewN | apply below_drew1) | exact Below.refl _ _)) : Below w0.heap.size w0 W := h
/-- A region that holds nothing so far may hold S from here on. -/
theorem weakS {P : Program} {md : Region.Mode} {ops : Array Oper} {Q : Exit → Act → World → Prop} {S : World → Prop} {ds : List Nat} : ∀ (n : Nat) (l : Array Bool) (a : Act) (w : World), Go.Proofs.YtjdkdbeenggfaaaDoorW.PrintLast.wpAnyLast P md ops Q S ds n l a w → Go.Proofs.YtjdkdbeenggfaaaDoorW.PrintLast.wpAnyLast P md ops Q (fun _ => True) [] n l a w
  | 0, _, _, _, h => h
  | _ + 1, _, _, _, h => ⟨h.1, fun i hi => wpOp_mono (fun a' w' h' => ⟨fun _ _ => trivial, weakS _ _ a' w' h'.2⟩) (h.2 i hi)⟩
end Go.Proofs.YtjdkdbeenggfaaaDoor.Lib
