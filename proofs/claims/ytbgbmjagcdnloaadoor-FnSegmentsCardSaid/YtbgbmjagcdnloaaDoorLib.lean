/- Functions of the library that the program calls, told in the print's words: sorting, and the like. -/
import Derived.Test.YtbgbmjagcdnloaaDoorWWords
import Derived.Test.YtbgbmjagcdnloaaDoorWKept
import Derived.Test.YtbgbmjagcdnloaaDoorWLast
import Derived.Test.YtbgbmjagcdnloaaDoorShelf
import Derived.Lib.SmallJoins
import Derived.Lib.AppendIntMem
namespace Go.Proofs.YtbgbmjagcdnloaaDoor.Lib
open Go.RowKit Go.Proofs.YtbgbmjagcdnloaaDoorW.PrintWords

/-- The table that strconv reads stands in the world as its initialiser lays it. -/
def HTab (w : World) : Prop := Go.Lib.TabIs Tryd.prog w "internal/strconv.uint64pow10" .u64 Go.Lib.pow10Tab
theorem gPow : ∃ g, Tryd.prog.globalNamed "internal/strconv.uint64pow10" = some g := by
  have h : (Tryd.prog.globalNamed "internal/strconv.uint64pow10").isSome = true := by kernel_rfl
  exact Option.isSome_iff_exists.1 h
theorem HTab.below {w w' : World} (h : HTab w) (hb : Below w.heap.size w w') : HTab w' := by
  obtain ⟨g, hg⟩ := gPow
  exact Go.Joins.tab_stays hg h hb (Nat.le_refl _)
theorem zt {w0 w : World} (h : HTab w0) (hb : Below w0.heap.size w0 w) : HTab w := h.below hb

theorem Itoa_calls (a0 : Int) (r : ByteArray) (w : World) (ht : HTab w) (h : (if -9223372036854775808 ≤ a0 ∧ a0 ≤ 9223372036854775807 then some (⟨(Go.Lib.itoa a0).toArray⟩ : ByteArray) else none) = some r) :
    Calls Tryd.prog 47 #[.int .i64 a0] w fun e w' => e = .returned (.string r) ∧ Below w.heap.size w w' := by
  by_cases hc : -9223372036854775808 ≤ a0 ∧ a0 ≤ 9223372036854775807
  · rw [if_pos hc] at h
    obtain rfl := Option.some.inj h
    refine (Tryd.strconv_Itoa a0 hc.1 hc.2 w ht).mono ?_
    rintro e w' ⟨rfl, k, os, rfl⟩
    refine ⟨rfl, ?_⟩
    exact Go.Lib.below_grow _ w (Nat.le_refl _) k os
  · rw [if_neg hc] at h; cases h

theorem Join_calls (A0 : Option Addr) (c0 : Nat) (l0 : List ByteArray) (a1 r : ByteArray) (w : World) (hr0 : Kd.C Kd.string w A0 l0.length l0) (hc0 : l0.length ≤ c0) (h : (if l0.length ≤ 140737488355328 ∧ (Go.Lib.join (l0.map (·.data.toList)) a1.data.toList).length ≤ 140737488355328 then some (⟨(Go.Lib.join (l0.map (·.data.toList)) a1.data.toList).toArray⟩ : ByteArray) else none) = some r) :
    Calls Tryd.prog 48 #[.slice A0 l0.length c0, .string a1] w fun e w' => e = .returned (.string r) ∧ Below w.heap.size w w' := by
  by_cases hc : l0.length ≤ 140737488355328 ∧ (Go.Lib.join (l0.map (·.data.toList)) a1.data.toList).length ≤ 140737488355328
  · rw [if_pos hc] at h
    obtain rfl := Option.some.inj h
    match l0, hr0, hc0, hc with
    | [], hr0, hc0, hc =>
      refine (Tryd.strings_Join_none A0 c0 a1 w).mono ?_
      rintro e w' ⟨rfl, rfl⟩
      exact ⟨rfl, Below.refl _ _⟩
    | x :: l, hr0, hc0, hc =>
      obtain ⟨ad, rfl, hx⟩ := Kd.at_string hr0 0 (by omega) (by simp)
      obtain ⟨b, o, s⟩ := ad
      have hs : s = none := by simpa [Addr.add] using World.cell?_spot hx
      subst hs
      refine (Tryd.strings_Join b o c0 (x :: l) a1 w (fun j y hj => ?_) (by have := World.block_lt_of_cell? w _ hx; simpa [Addr.add] using this) hc.1 hc0 hc.2).mono ?_
      · have hl : j < (x :: l).length := (List.getElem?_eq_some_iff.1 hj).1
        obtain ⟨ad', e', hx'⟩ := Kd.at_string hr0 (j : Int) (by omega) (by omega)
        cases e'
        have : rdOf ByteArray.empty (x :: l) (j : Int) = y := by
          unfold rdOf
          rw [Int.toNat_natCast, List.getD_eq_getElem?_getD, hj]; rfl
        rw [this, Int.toNat_natCast] at hx'
        have ea : (⟨b, o, none⟩ : Addr).add j = ⟨b, o + j, none⟩ := by
          unfold Addr.add
          by_cases z : j = 0
          · subst z; simp
          · simp [z]
        rw [← ea]; exact hx'
      · rintro e w' ⟨rfl, hb⟩
        exact ⟨rfl, hb⟩
  · rw [if_neg hc] at h; cases h

/-- A builder at block g, made by the call itself, that holds the text t; w1: the world in which it was made. -/
def Bd (g : Nat) (t : ByteArray) (W : World) : Prop := Go.Lib.IsBuilder 45 5 g g (Go.Lib.strCells t) W
theorem Bd.lt {g : Nat} {t : ByteArray} {W : World} (h : Bd g t W) : g < W.heap.size := by
  rcases h with h | h <;> exact h.lt
theorem Bd.below {g : Nat} {t : ByteArray} {W W1 : World} (h : Bd g t W) (hb : Below W.heap.size W W1) : Bd g t W1 := by
  have key : ∀ p, Go.Lib.BuilderAt 45 5 g g p (Go.Lib.strCells t) W → Go.Lib.BuilderAt 45 5 g g p (Go.Lib.strCells t) W1 := by
    rintro p ⟨h0, v, hv, hown, hne⟩
    exact ⟨h0, v, blk_below hv hb, hown.kept (grown_of_below hb none) (Classical.em _), hne⟩
  rcases h with h | h
  · exact .inl (key _ h)
  · exact .inr (key _ h)
theorem Bd.new {W : World} {g : Nat} (h : W.heap[g]? = some (.cells #[.pointer none, .slice none 0 0] 45 (0, 0))) : Bd g ⟨#[]⟩ W :=
  Or.inl ⟨Nat.le_refl _, .slice none 0 0, h, World.ownsRow_nil _ _ _ _, by simp [Value.ownBlock]⟩
theorem Bd.write {g : Nat} {t s : ByteArray} {w : World} (h : Bd g t w) (hl : t.size + s.size ≤ 140737488355328) :
    Calls Tryd.prog 24 #[.pointer (some ⟨g, 0, none⟩), .string s] w fun e w' => e = .returned (.tuple #[.int .i64 s.size, .nilIface]) ∧ Bd g (t ++ s) w' ∧ Below g w w' := by
  refine (Tryd.Builder_WriteString g g (Go.Lib.strCells t) s w h (by simpa [Go.Lib.strCells] using hl) (Nat.le_of_lt h.lt)).mono ?_
  rintro e w' ⟨rfl, hB, hb⟩
  refine ⟨rfl, .inr ?_, hb⟩
  have : Go.Lib.strCells (t ++ s) = Go.Lib.strCells t ++ Go.Lib.strCells s := by simp [Go.Lib.strCells]
  rw [this]; exact hB
theorem Bd.text {g : Nat} {t : ByteArray} {w : World} (h : Bd g t w) :
    Calls Tryd.prog 26 #[.pointer (some ⟨g, 0, none⟩)] w fun e w' => e = .returned (.string t) ∧ Below g w w' :=
  Tryd.Builder_String_any g g t.data.toList w h (Nat.le_of_lt h.lt)
theorem zBd {g : Nat} {t : ByteArray} {W W' : World} (h : Bd g t W) (hb : Below W.heap.size W W' := by repeat (first | (with_reducible first | exact Below.refl _ _ | apply below_alloc | apply pw_below_drewN | apply below_drew1) | exact Below.refl _ _)) : Bd g t W' := h.below hb
theorem zRd {w0 W : World} (h : Below w0.heap.size w0 W := by repeat (first | (with_reducible first | exact HRd.out | apply below_alloc | apply pw_below_drewN | apply below_drew1 | refine below_set ?_ (Aside0.out (by first | with_reducible assumption | assumption))) | exact HRd.out)) : Below w0.heap.size w0 W := h
theorem zUp {B g : Nat} {w W W1 : World} (h : Below B w W) (hb : Below g W W1) (hg : B ≤ g) : Below B w W1 := h.trans (hb.mono hg)
theorem zXd {w0 W : World} (h : Below w0.heap.size w0 W := by repeat (first | (with_reducible first | exact HBX.out | apply below_alloc | apply pw_below_drewN | apply below_drew1) | exact HBX.out)) : Below w0.heap.size w0 W := h
theorem zX0 {w0 W : World} (h : Below w0.heap.size w0 W := by repeat (first | (with_reducible first | exact Below.refl _ _ | apply below_alloc | apply pw_below_drewN | apply below_drew1) | exact Below.refl _ _)) : Below w0.heap.size w0 W := h
/-- A region that holds nothing so far may hold S from here on. -/
theorem weakS {P : Program} {md : Region.Mode} {ops : Array Oper} {Q : Exit → Act → World → Prop} {S : World → Prop} {ds : List Nat} : ∀ (n : Nat) (l : Array Bool) (a : Act) (w : World), Go.Proofs.YtbgbmjagcdnloaaDoorW.PrintLast.wpAnyLast P md ops Q S ds n l a w → Go.Proofs.YtbgbmjagcdnloaaDoorW.PrintLast.wpAnyLast P md ops Q (fun _ => True) [] n l a w
  | 0, _, _, _, h => h
  | _ + 1, _, _, _, h => ⟨h.1, fun i hi => wpOp_mono (fun a' w' h' => ⟨fun _ _ => trivial, weakS _ _ a' w' h'.2⟩) (h.2 i hi)⟩
end Go.Proofs.YtbgbmjagcdnloaaDoor.Lib
