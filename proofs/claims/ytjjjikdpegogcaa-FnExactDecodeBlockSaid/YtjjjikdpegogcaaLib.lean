/- Functions of the library that the program calls, told in the print's words: sorting, and the like. -/
import Derived.Test.YtjjjikdpegogcaaWWords
import Derived.Test.YtjjjikdpegogcaaShelf
import Derived.Shelf.Small.Strs
namespace Go.Proofs.Ytjjjikdpegogcaa.Lib
open Go.RowKit Go.Proofs.YtjjjikdpegogcaaW.PrintWords

theorem IndexByte_calls (a0 : ByteArray) (a1 : Int) (r : Int) (w : World) (h : some (Go.Lib.indexByte a0.data.toList a1.toNat.toUInt8) = some r) :
    Calls Try.prog 145 #[.string a0, .int .u8 a1] w fun e w' => e = .returned (.int .i64 r) ∧ Drawn0 w w' := by
  obtain rfl := Option.some.inj h
  exact (Try.strings_IndexByte a0 a1 w).mono fun e w' ⟨h1, h2⟩ => ⟨h1, by subst h2; exact Drawn0.refl _⟩
end Go.Proofs.Ytjjjikdpegogcaa.Lib
