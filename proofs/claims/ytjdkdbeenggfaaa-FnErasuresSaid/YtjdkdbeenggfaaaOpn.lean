/- From what a row's reading says of an argument to the print's kinds: a whole number, a bool, a string, a slice of what can be opened, a struct of two to four fields. -/
import Derived.Test.YtjdkdbeenggfaaaWWords
import Derived.WalkKit
import Derived.ProofKit
import Derived.OpenShut
import Derived.ShutString
import Derived.ChangeOld
import Derived.Below
import Derived.SizedLaws
import Derived.Carry
import Derived.Deep.Slices
namespace Go.Proofs.Ytjdkdbeenggfaaa.Opn
open Go.RowKit Go.ChangeShapes Go.WideShapes Go.Deep Go.Proofs.YtjdkdbeenggfaaaW.PrintWords

def Opens {H : Type} (enc : TypeId × Value → H) (P : Program) {α : Type} (k : Kd α) (t : TypeId) (wf : α → Prop) : Prop :=
  P.cellsOf t = k.sz ∧ ∀ (w : World) (base : Nat) (spare : Nat → Bool) (held : Bool) (fuel : Nat) (cs : List Value) (x : DataW H × List MemPlace),
    DataW.trod enc P w base spare held fuel t cs = some x → ∃ a : α, k.K w a cs ∧ wf a

def I64 (a : Int) : Prop := -9223372036854775808 ≤ a ∧ a ≤ 9223372036854775807
def Byte (a : Int) : Prop := 0 ≤ a ∧ a ≤ 255
def Str (a : ByteArray) : Prop := a.size ≤ 9223372036854775807
def Lst {α : Type} (wf : α → Prop) (l : List α) : Prop := l.length ≤ 9223372036854775807 ∧ ∀ x, x ∈ l → wf x
def Any {α : Type} (_ : α) : Prop := True

theorem list_of {α : Type} {p : Nat → α → Prop} : ∀ n : Nat, (∀ i, i < n → ∃ x, p i x) → ∃ xs : List α, xs.length = n ∧ ∀ i x, xs[i]? = some x → p i x
  | 0, _ => ⟨[], rfl, by simp⟩
  | n + 1, h => by
    obtain ⟨xs, hl, hx⟩ := list_of n (fun i hi => h i (by omega))
    obtain ⟨y, hy⟩ := h n (by omega)
    refine ⟨xs ++ [y], by simp [hl], fun i x hi => ?_⟩
    by_cases hin : i < n
    · rw [List.getElem?_append_left (by omega)] at hi
      exact hx i x hi
    · rw [List.getElem?_append_right (by omega)] at hi
      by_cases h0 : i - xs.length = 0
      · rw [h0] at hi
        have e : i = n := by omega
        subst e
        simp at hi
        rw [← hi]
        exact hy
      · have : ([y] : List α)[i - xs.length]? = none := List.getElem?_eq_none (by simp; omega)
        rw [this] at hi
        cases hi

section
variable {H : Type} {enc : TypeId × Value → H} {P : Program}
theorem Opens.int {t : TypeId} (ht : P.underlying t = some (.int .i64)) (hc : P.cellsOf t = 1) : Opens enc P (Kd.int .i64) t I64 := by
  refine ⟨hc, fun w base spare held fuel cs x h => ?_⟩
  obtain ⟨n, rfl, _, hn⟩ := DataW.trod_int ht h
  refine ⟨n, rfl, ?_⟩
  simp [Lit.wf, IntKind.min, IntKind.max, IntKind.bits, IntKind.signed] at hn
  unfold I64
  omega
theorem Opens.byte {t : TypeId} (ht : P.underlying t = some (.int .u8)) (hc : P.cellsOf t = 1) : Opens enc P (Kd.int .u8) t Byte := by
  refine ⟨hc, fun w base spare held fuel cs x h => ?_⟩
  obtain ⟨n, rfl, _, hn⟩ := DataW.trod_int ht h
  refine ⟨n, rfl, ?_⟩
  simp [Lit.wf, IntKind.min, IntKind.max, IntKind.bits, IntKind.signed] at hn
  unfold Byte
  omega
theorem Opens.bool {t : TypeId} (ht : P.underlying t = some .bool) (hc : P.cellsOf t = 1) : Opens enc P Kd.bool t Any := by
  refine ⟨hc, fun w base spare held fuel cs x h => ?_⟩
  obtain ⟨n, rfl, _⟩ := DataW.trod_bool ht h
  exact ⟨n, rfl, trivial⟩
theorem Opens.str {t : TypeId} (ht : P.underlying t = some .string) (hc : P.cellsOf t = 1) : Opens enc P Kd.string t Str := by
  refine ⟨hc, fun w base spare held fuel cs x h => ?_⟩
  obtain ⟨s, rfl, _, hs⟩ := DataW.trod_string ht h
  exact ⟨s, rfl, by unfold maxLen at hs; unfold Str; omega⟩
theorem Opens.slice {α : Type} {k : Kd α} {wf : α → Prop} {t e : TypeId} (ht : P.underlying t = some (.slice e)) (hc : P.cellsOf t = 1) (h : Opens enc P k e wf) : Opens enc P (Kd.slice e k) t (Lst wf) := by
  refine ⟨hc, fun w base spare held fuel cs x hx => ?_⟩
  rcases open_slice ht hx with ⟨rfl, _⟩ | ⟨a, len, cap, m, n, D, Pl, rfl, hb, hl, hm, hmm, _, hi⟩
  · exact ⟨[], ⟨none, 0, rfl, by simp, Kd.C_nil k w⟩, by simp, by simp⟩
  · have hlm : len ≤ m := by rw [hmm]; split <;> omega
    have hm' : cap ≤ 9223372036854775807 := by unfold maxLen at hm; omega
    obtain ⟨xs, hxl, hxs⟩ := list_of (α := α) (p := fun i x => ∃ c, c.length = k.sz ∧ k.K w x c ∧ wf x ∧ ∀ j u, c[j]? = some u → w.cell? (a.add (i * k.sz + j)) = some u) len (fun i hil => by
      obtain ⟨c, h1, h2⟩ := hi i (by omega)
      obtain ⟨y, hy, hw⟩ := h.2 _ _ _ _ _ _ _ h2
      obtain ⟨_, hcl, hcell⟩ := World.cells?_some h1
      rw [h.1] at hcl hcell
      refine ⟨y, c, hcl, hy, hw, fun j u hu => ?_⟩
      have hj : j < k.sz := by
        rcases Nat.lt_or_ge j k.sz with hj | hj
        · exact hj
        · rw [List.getElem?_eq_none (by omega)] at hu
          cases hu
      rw [← Deep.add_add, hcell j hj]
      exact hu)
    refine ⟨xs, ⟨some a, cap, by rw [hxl], by omega, ?_⟩, by omega, fun x hx => ?_⟩
    · refine ⟨rfl, by omega, fun _ => ⟨a, rfl, fun j p hp => ?_⟩⟩
      obtain ⟨c, h1, h2, _, h3⟩ := hxs j p hp
      exact ⟨c, h1, h2, h3⟩
    · obtain ⟨i, hi⟩ := List.getElem?_of_mem hx
      obtain ⟨_, _, _, hw, _⟩ := hxs i x hi
      exact hw

theorem Opens.two {α β : Type} {a : Kd α} {b : Kd β} {wa : α → Prop} {wb : β → Prop} {t : TypeId} {f0 f1 : Field} (hs : P.underlying t = some (.struct #[f0, f1])) (hc : P.cellsOf t = a.sz + b.sz)
    (o0 : f0.offset = 0) (o1 : f1.offset = a.sz) (h0 : Opens enc P a f0.type wa) (h1 : Opens enc P b f1.type wb) : Opens enc P (Kd.pair a b) t (fun x => wa x.1 ∧ wb x.2) := by
  refine ⟨hc, fun w base spare held fuel cs x hx => ?_⟩
  obtain ⟨xs, n, _, _, hl, hlen, hf⟩ := DataW.trod_struct hs hx
  match xs, hlen with
  | [y0, y1], _ =>
    have g0 := hf 0 f0 rfl
    have g1 := hf 1 f1 rfl
    simp only [o0, o1, h0.1, h1.1, List.drop_zero] at g0 g1
    obtain ⟨u, hu, hwu⟩ := h0.2 _ _ _ _ _ _ _ g0
    obtain ⟨v, hv, hwv⟩ := h1.2 _ _ _ _ _ _ _ g1
    refine ⟨(u, v), ⟨_, _, ?_, hu, hv⟩, hwu, hwv⟩
    rw [List.take_of_length_le (l := cs.drop a.sz) (by rw [List.length_drop]; omega), List.take_append_drop]

theorem Opens.three {α β γ : Type} {a : Kd α} {b : Kd β} {c : Kd γ} {wa : α → Prop} {wb : β → Prop} {wc : γ → Prop} {t : TypeId} {f0 f1 f2 : Field} (hs : P.underlying t = some (.struct #[f0, f1, f2])) (hc : P.cellsOf t = a.sz + (b.sz + c.sz))
    (o0 : f0.offset = 0) (o1 : f1.offset = a.sz) (o2 : f2.offset = a.sz + b.sz) (h0 : Opens enc P a f0.type wa) (h1 : Opens enc P b f1.type wb) (h2 : Opens enc P c f2.type wc) :
    Opens enc P (Kd.pair a (Kd.pair b c)) t (fun x => wa x.1 ∧ wb x.2.1 ∧ wc x.2.2) := by
  refine ⟨hc, fun w base spare held fuel cs x hx => ?_⟩
  obtain ⟨xs, n, _, _, hl, hlen, hf⟩ := DataW.trod_struct hs hx
  match xs, hlen with
  | [y0, y1, y2], _ =>
    have g0 := hf 0 f0 rfl
    have g1 := hf 1 f1 rfl
    have g2 := hf 2 f2 rfl
    simp only [o0, o1, o2, h0.1, h1.1, h2.1, List.drop_zero] at g0 g1 g2
    obtain ⟨u, hu, hwu⟩ := h0.2 _ _ _ _ _ _ _ g0
    obtain ⟨v, hv, hwv⟩ := h1.2 _ _ _ _ _ _ _ g1
    obtain ⟨z, hz, hwz⟩ := h2.2 _ _ _ _ _ _ _ g2
    refine ⟨(u, v, z), ⟨_, _, ?_, hu, ⟨_, _, rfl, hv, hz⟩⟩, hwu, hwv, hwz⟩
    rw [List.take_of_length_le (l := cs.drop (a.sz + b.sz)) (by rw [List.length_drop]; omega), ← List.drop_drop, List.take_append_drop, List.take_append_drop]

theorem Opens.iso {α β : Type} {k : Kd α} {t : TypeId} {wf : α → Prop} (h : Opens enc P k t wf) (f : β → α) (g : α → β) (hfg : ∀ x, f (g x) = x) : Opens enc P (Kd.iso k f) t (fun y => wf (f y)) :=
  ⟨h.1, fun w base spare held fuel cs x hx => by
    obtain ⟨a, ha, hw⟩ := h.2 _ _ _ _ _ _ _ hx
    exact ⟨g a, by show k.K w (f (g a)) cs; rw [hfg]; exact ha, by show wf (f (g a)); rw [hfg]; exact hw⟩⟩

/-- An argument that is a slice. -/
theorem Opens.arg_slice {α : Type} {k : Kd α} {wf : List α → Prop} {w : World} {base : Nat} {spare : Nat → Bool} {held : Bool} {t e : TypeId} {v : Value} {d : DataW H} {p : List MemPlace} {r : Reach} {b0 : Nat}
    (ht : P.underlying t = some (.slice e)) (h : Opens enc P (Kd.slice e k) t wf) (hv : Value.okWide P w r b0 t v) (hd : DataW.Trod enc P w base spare held t v d p) :
    ∃ A c l, v = .slice A l.length c ∧ l.length ≤ c ∧ k.C w A l.length l ∧ wf l := by
  obtain ⟨a, len, cap, rfl⟩ := okWide_slice ht hv
  obtain ⟨fuel, hf⟩ := hd
  obtain ⟨l, ⟨A, c, e1, e2, e3⟩, hw⟩ := h.2 _ _ _ _ _ _ _ hf
  simp [Value.cells] at e1
  obtain ⟨rfl, rfl, rfl⟩ := e1
  exact ⟨_, _, l, rfl, e2, e3, hw⟩
/-- An argument that is a struct. -/
theorem Opens.arg_struct {α : Type} {k : Kd α} {wf : α → Prop} {w : World} {base : Nat} {spare : Nat → Bool} {held : Bool} {t : TypeId} {fs : Array Field} {v : Value} {d : DataW H} {p : List MemPlace} {r : Reach} {b0 : Nat}
    (ht : P.underlying t = some (.struct fs)) (h : Opens enc P k t wf) (hv : Value.okWide P w r b0 t v) (hd : DataW.Trod enc P w base spare held t v d p) :
    ∃ (cs : List Value) (x : α), v = .agg cs.toArray ∧ k.K w x cs ∧ wf x := by
  obtain ⟨cs, rfl, _⟩ := okWide_struct ht hv
  obtain ⟨fuel, hf⟩ := hd
  obtain ⟨x, hx, hw⟩ := h.2 _ _ _ _ _ _ _ hf
  refine ⟨cs.toList, x, by simp, ?_, hw⟩
  simpa [Value.cells] using hx
end
end Go.Proofs.Ytjdkdbeenggfaaa.Opn
