/- Functions of the library that the program calls, told in the print's words: sorting, and the like. -/
import Derived.Test.YtjdkdbeenggfaaaWWords
import Derived.Test.YtjdkdbeenggfaaaShelf
import Derived.Shelf.Strings.Count
import Derived.Shelf.Small.Strs
namespace Go.Proofs.Ytjdkdbeenggfaaa.Lib
open Go.RowKit Go.Proofs.YtjdkdbeenggfaaaW.PrintWords

theorem Count_calls (a0 a1 : ByteArray) (r : Int) (w : World) (h : (if a1.size = 1 then some ((Go.Lib.countByte a0.data.toList a1.data[0]! : Nat) : Int) else none) = some r) :
    Calls Try.prog 125 #[.string a0, .string a1] w fun e w' => e = .returned (.int .i64 r) ∧ Drawn0 w w' := by
  by_cases c : a1.size = 1
  · rw [if_pos c] at h
    obtain rfl := Option.some.inj h
    have e : a1 = ⟨#[a1.data[0]!]⟩ := by
      have c' : a1.data.size = 1 := c
      cases a1 with
      | mk d =>
        congr 1
        apply Array.ext
        · simpa using c'
        · intro i h1 h2
          have : i = 0 := by simp at h2; omega
          subst this
          simp [getElem!_pos, h1]
    have q := Try.strings_Count_one a0 (a1.data[0]!) w
    rw [← e] at q
    exact q.mono fun e w' ⟨h1, h2⟩ => ⟨h1, by subst h2; exact Drawn0.refl _⟩
  · rw [if_neg c] at h; cases h

theorem IndexByte_calls (a0 : ByteArray) (a1 : Int) (r : Int) (w : World) (h : some (Go.Lib.indexByte a0.data.toList a1.toNat.toUInt8) = some r) :
    Calls Try.prog 109 #[.string a0, .int .u8 a1] w fun e w' => e = .returned (.int .i64 r) ∧ Drawn0 w w' := by
  obtain rfl := Option.some.inj h
  exact (Try.strings_IndexByte a0 a1 w).mono fun e w' ⟨h1, h2⟩ => ⟨h1, by subst h2; exact Drawn0.refl _⟩
end Go.Proofs.Ytjdkdbeenggfaaa.Lib
