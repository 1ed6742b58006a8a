-- PRINTED BY print.sh 35421559b90ae4d0a3588c463048766b98c2df88dd9212a6774a882060cdf62d: not written by this session
import Derived.Test.YtkfledgkhgcicaaGreatWKept
namespace Go.Proofs.YtkfledgkhgcicaaGreatW.PrintWords
open Go.RowKit
def q2o (P : World → Prop) (W : World) (ok : Nat → Prop) : Prop := ∀ W' : World, (∀ k, ok k → k < W.heap.size → W'.heap[k]? = W.heap[k]?) → P W'
theorem v7c {W W1 : World} {k : Nat} (h : W1.heap[k]? = W.heap[k]?) (hlt : k < W.heap.size) : k < W1.heap.size := by
  rw [Array.getElem?_eq_getElem hlt] at h
  exact (Array.getElem?_eq_some_iff.1 h).1
namespace q2o
variable {P Q : World → Prop} {W W1 : World} {ok ok' : Nat → Prop}
theorem now (h : q2o P W ok) : P W := h W (fun _ _ _ => rfl)
theorem mono (h : q2o P W ok) (hok : ∀ k, ok k → ok' k) : q2o P W ok' := fun W' hW => h W' (fun k hk hlt => hW k (hok k hk) hlt)
theorem bound (h : q2o P W ok) : q2o P W (fun k => ok k ∧ k < W.heap.size) := fun W' hW => h W' (fun k hk hlt => hW k ⟨hk, hlt⟩ hlt)
theorem step (h : q2o P W ok) (hm : ∀ k, ok k → k < W.heap.size → W1.heap[k]? = W.heap[k]?) : q2o P W1 ok := fun W' hW => h W' (fun k hk hlt => (hW k hk (v7c (hm k hk hlt) hlt)).trans (hm k hk hlt))
theorem imp (h : q2o P W ok) (hi : ∀ W', P W' → Q W') : q2o Q W ok := fun W' hW => hi W' (h W' hW)
theorem old (h : q2o P W ok) (hb : Below W.heap.size W W1) : q2o P W1 (fun k => ok k ∧ k < W.heap.size) := (h.bound).step (fun k _ hlt => hb.block k hlt)
end q2o
namespace Kd
def F {α : Type} (d : Kd α) (W : World) (ok : Nat → Prop) (A : Option Addr) (n : Nat) (xs : List α) : Prop := q2o (fun W => d.C W A n xs) W ok
def FK {α : Type} (d : Kd α) (W : World) (ok : Nat → Prop) (x : α) (c : List Value) : Prop := q2o (fun W => d.K W x c) W ok
section
variable {α β : Type} {d : Kd α} {e base n n' cc g N : Nat} {ok ok' okp S : Nat → Prop} {w w0 w1 W W1 : World} {A A' : Option Addr} {u v v1 : Value} {xs : List α} {xs' : List β} {d' : Kd β} {x : α} {c : List Value}
theorem v9h (d : Kd α) (W : World) (ok : Nat → Prop) : F d W ok none ([] : List α).length [] := fun W' _ => v6q d W'
theorem v7d (h : d.M W base ok x c) : FK d W ok x c := fun _ hW => d.K_of_M (v07 h hW)
end
end Kd
end Go.Proofs.YtkfledgkhgcicaaGreatW.PrintWords

