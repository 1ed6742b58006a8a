import Derived.Test.YtkfledgkhgcicaaGreatProg
import Derived.Below
import Derived.Deep.Draws
import Derived.Deep.AppendLies
import Derived.Maps.AppendAt
import Derived.OwnWalk
import Derived.Laws.BytesArg
import Derived.Laws.MakeOwn
import Derived.Laws.OwnMore
import Derived.Deep.OwnRows
import Derived.Tactics
import Derived.Lib.ConvBytes
import Derived.Laws.Slices
import Derived.WalkKit
import Derived.KernelRfl
import Derived.RowKit3
import Derived.Deep.LoopGhost
import Derived.Deep.QuietTactic
import Derived.BigQuiet
import Derived.WideLaws
import Derived.Deep.DeepCutAuto
import Derived.Deep.CutBlock
import Derived.Deep.RegionHeld3
import Derived.Laws.Rows
import Derived.Lib.AppendStr
import Derived.ArgAppend
import Derived.Laws.IdiomCopy
import Derived.OrdersHeld
import Derived.Laws.BitsLemmas
import Derived.RowKit
import Derived.Lib.LazyBuf
import Derived.Test.YtkfledgkhgcicaaGreatLib
import Derived.Test.YtkfledgkhgcicaaGreatZp
import Derived.Test.YtkfledgkhgcicaaGreatSf
import Derived.Test.YtkfledgkhgcicaaGreatSt4
import Derived.Test.YtkfledgkhgcicaaGreatShg
import Derived.Test.YtkfledgkhgcicaaGreatWWords
import Derived.Test.YtkfledgkhgcicaaGreatWLast
import Derived.Test.YtkfledgkhgcicaaGreatWTab
import Derived.Test.YtkfledgkhgcicaaGreatWFour
import Derived.Test.YtkfledgkhgcicaaGreatWQPut
import Derived.Test.YtkfledgkhgcicaaGreatWApart
import Derived.Test.YtkfledgkhgcicaaGreatWArr
import Derived.Test.YtkfledgkhgcicaaGreatWZeros
import Derived.Test.YtkfledgkhgcicaaGreatWFoot
import Derived.Test.YtkfledgkhgcicaaGreatWKept
import Derived.Test.YtkfledgkhgcicaaGreatWShare
import Derived.Test.YtkfledgkhgcicaaGreatWN
import Derived.Test.YtkfledgkhgcicaaGreatWFootNe
import Derived.Test.YtkfledgkhgcicaaGreatWAt
import Derived.Test.YtkfledgkhgcicaaGreatWEqStruct
import Derived.Test.YtkfledgkhgcicaaGreatWRepsOne
import Derived.Test.YtkfledgkhgcicaaGreatWInv
import Derived.Test.YtkfledgkhgcicaaGreatWInvWords
import Derived.Test.YtkfledgkhgcicaaGreatWGuard
import Derived.Test.YtkfledgkhgcicaaGreatWNEv
import Derived.Test.YtkfledgkhgcicaaGreatWMore
namespace Go.Proofs.YtkfledgkhgcicaaGreat.PFg
open Go.RowKit Go.Proofs.YtkfledgkhgcicaaGreatW.PrintWords Go.Proofs.YtkfledgkhgcicaaGreatW.PrintLast Go.Proofs.YtkfledgkhgcicaaGreatW.PrintMore
attribute [local go_sem] P8 P5 E5 E8 M4 M0 P6 P7   -- for this text's walks alone
set_option linter.unusedVariables false
set_option linter.unusedSimpArgs false
def v8s : Option Int → Value
  | none => .nilIface
  | some c => .iface 0 (.int .i64 c)
theorem q3h : v8s none = .nilIface := rfl
theorem q3d (c : Int) : v8s (some c) = .iface 0 (.int .i64 c) := rfl
theorem info3 : (Tryz.prog.info? 3).map (fun i => (i.zero, i.size, i.bytes)) = some (some (.int .i64 0), 1, 8) := by kernel_rfl
theorem q3f : (Tryz.prog.info? 33).map (fun i => (i.zero, i.size, i.bytes)) = some (some (.slice none 0 0), 1, 24) := by kernel_rfl
theorem U1 : (Tryz.prog.info? 48).map (fun i => (i.zero, i.size, i.bytes)) = some (some (.agg #[(.int .i64 0), (.int .i64 0), (.int .i64 0)]), 3, 24) := by kernel_rfl
-- the values' own types
structure S48 where
  f0 : Int
  f1 : Int
  f2 : Int
def z48 : S48 := ⟨(0 : Int), (0 : Int), (0 : Int)⟩
def k48 : Kd S48 := Kd.iso (Kd.pair (Kd.int .i64) (Kd.pair (Kd.int .i64) (Kd.int .i64))) (fun x : S48 => (x.f0, x.f1, x.f2))
theorem v0b {w : World} {x : S48} {cs : List Value} (h : k48.K w x cs) : cs = [.int .i64 x.f0, .int .i64 x.f1, .int .i64 x.f2] := by
  obtain ⟨_, _, rfl, rfl, ⟨_, _, rfl, rfl, rfl⟩⟩ := h
  exact rfl
theorem q5i {w : World} {base : Nat} {ok : Nat → Prop} {x : S48} {cs : List Value} (h : k48.M w base ok x cs) : cs = [.int .i64 x.f0, .int .i64 x.f1, .int .i64 x.f2] := by
  obtain ⟨_, _, rfl, rfl, ⟨_, _, rfl, rfl, rfl⟩⟩ := h
  exact rfl
theorem j0m (w : World) (x : S48)  : k48.K w x [.int .i64 x.f0, .int .i64 x.f1, .int .i64 x.f2] := ⟨[.int .i64 x.f0], [.int .i64 x.f1, .int .i64 x.f2], rfl, rfl, ⟨[.int .i64 x.f1], [.int .i64 x.f2], rfl, rfl, rfl⟩⟩
theorem O0 (w : World) (base : Nat) (ok : Nat → Prop) (x : S48)  : k48.M w base ok x [.int .i64 x.f0, .int .i64 x.f1, .int .i64 x.f2] := ⟨[.int .i64 x.f0], [.int .i64 x.f1, .int .i64 x.f2], rfl, rfl, ⟨[.int .i64 x.f1], [.int .i64 x.f2], rfl, rfl, rfl⟩⟩
def q8 (xs : List S48) (i : Int) : S48 := xs.getD i.toNat z48
theorem H9 {w : World} {A : Option Addr} {n : Nat} {xs : List S48} (h : Kd.C k48 w A n xs) (i : Int) (h0 : 0 ≤ i) (h1 : i < n) : ∃ ad , A = some ad ∧ w.cell? (ad.add (i.toNat * 3)) = some (.int .i64 (q8 xs i).f0) ∧ w.cell? ⟨(ad.add (i.toNat * 3)).block, (ad.add (i.toNat * 3)).off + 1, none⟩ = some (.int .i64 (q8 xs i).f1) ∧ w.cell? ⟨(ad.add (i.toNat * 3)).block, (ad.add (i.toNat * 3)).off + 2, none⟩ = some (.int .i64 (q8 xs i).f2) := by
  obtain ⟨ad, c, e, _, hK, hc0⟩ := Kd.q91 h z48 i h0 h1
  have hc : ∀ j u, c[j]? = some u → w.cell? (ad.add (i.toNat * 3 + j)) = some u := hc0
  obtain rfl := v0b hK
  exact ⟨ad, e, hc 0 _ rfl, by rw [← q7z _ _ 1 (by omega)]; exact hc 1 _ rfl, by rw [← q7z _ _ 2 (by omega)]; exact hc 2 _ rfl⟩
def q94 (xs : List (List S48)) (i : Int) : (List S48) := xs.getD i.toNat ([] : List S48)
theorem j0o {w : World} {A : Option Addr} {n : Nat} {xs : List (List S48)} (h : Kd.C (Kd.slice 48 k48) w A n xs) (i : Int) (h0 : 0 ≤ i) (h1 : i < n) : ∃ ad A0 c0, A = some ad ∧ w.cell? (ad.add i.toNat) = some (.slice A0 (q94 xs i).length c0) ∧ (q94 xs i).length ≤ c0 ∧ k48.C w A0 (q94 xs i).length (q94 xs i) := by
  obtain ⟨ad, c, e, _, hK, hc0⟩ := Kd.q91 h ([] : List S48) i h0 h1
  have hc : ∀ j u, c[j]? = some u → w.cell? (ad.add (i.toNat * 1 + j)) = some u := hc0
  obtain ⟨A0, c0, rfl, l0, g0⟩ := hK
  exact ⟨ad, A0, c0, e, by have hq := hc 0 _ rfl; rwa [Nat.mul_one, Nat.add_zero] at hq, l0, g0⟩
def y8 (xs : List (List Int)) (i : Int) : (List Int) := xs.getD i.toNat ([] : List Int)
theorem q0g {w : World} {A : Option Addr} {n : Nat} {xs : List (List Int)} (h : Kd.C (Kd.slice 3 (Kd.int .i64)) w A n xs) (i : Int) (h0 : 0 ≤ i) (h1 : i < n) : ∃ ad A0 c0, A = some ad ∧ w.cell? (ad.add i.toNat) = some (.slice A0 (y8 xs i).length c0) ∧ (y8 xs i).length ≤ c0 ∧ (Kd.int .i64).C w A0 (y8 xs i).length (y8 xs i) := by
  obtain ⟨ad, c, e, _, hK, hc0⟩ := Kd.q91 h ([] : List Int) i h0 h1
  have hc : ∀ j u, c[j]? = some u → w.cell? (ad.add (i.toNat * 1 + j)) = some u := hc0
  obtain ⟨A0, c0, rfl, l0, g0⟩ := hK
  exact ⟨ad, A0, c0, e, by have hq := hc 0 _ rfl; rwa [Nat.mul_one, Nat.add_zero] at hq, l0, g0⟩
def q93 (xs : List (List (List Int))) (i : Int) : (List (List Int)) := xs.getD i.toNat ([] : List (List Int))
theorem j0n {w : World} {A : Option Addr} {n : Nat} {xs : List (List (List Int))} (h : Kd.C (Kd.slice 33 (Kd.slice 3 (Kd.int .i64))) w A n xs) (i : Int) (h0 : 0 ≤ i) (h1 : i < n) : ∃ ad A0 c0, A = some ad ∧ w.cell? (ad.add i.toNat) = some (.slice A0 (q93 xs i).length c0) ∧ (q93 xs i).length ≤ c0 ∧ (Kd.slice 3 (Kd.int .i64)).C w A0 (q93 xs i).length (q93 xs i) := by
  obtain ⟨ad, c, e, _, hK, hc0⟩ := Kd.q91 h ([] : List (List Int)) i h0 h1
  have hc : ∀ j u, c[j]? = some u → w.cell? (ad.add (i.toNat * 1 + j)) = some u := hc0
  obtain ⟨A0, c0, rfl, l0, g0⟩ := hK
  exact ⟨ad, A0, c0, e, by have hq := hc 0 _ rfl; rwa [Nat.mul_one, Nat.add_zero] at hq, l0, g0⟩
end Go.Proofs.YtkfledgkhgcicaaGreat.PFg
