import Derived.Test.YtjdkdbeenggfaaaPErx0
import Derived.Test.YtjdkdbeenggfaaaPErx4
import Derived.Test.YtjdkdbeenggfaaaPErx7
namespace Go.Proofs.Ytjdkdbeenggfaaa.PEr
open Go.RowKit Go.Proofs.YtjdkdbeenggfaaaW.PrintWords Go.Proofs.YtjdkdbeenggfaaaW.PrintLast Go.Proofs.YtjdkdbeenggfaaaW.PrintMore
attribute [local go_sem] max2_int min2_int max_two min_two max_three min_three max_four min_four   -- for this text's walks alone
set_option linter.unusedVariables false
set_option linter.unusedSimpArgs false
def N7.f (k : Nat) (l0 : List Int) : Option (List ByteArray) := (d9.f k l0 0 0).bind fun bt281 => (some bt281.1)
set_option maxHeartbeats 8000000 in
set_option maxRecDepth 100000 in
theorem N7.calls (k : Nat) (A0 : Option Addr) (c0 : Nat) (l0 : List Int) (r : List ByteArray) (w : World) (hr0 : Kd.C (Kd.int .u8) w A0 l0.length l0) (hc0 : l0.length ≤ c0) (h : N7.f k l0 = some r) :
  Calls Try.prog 82 #[.slice A0 l0.length c0] w fun e w' => ∃ v0_ : Value, e = .returned (v0_) ∧ Kd.R Kd.string 9 w' w.heap.size (fun _ => True) v0_ r ∧ Below w.heap.size w w' := by
 have hu71 := Try.underlying71;have HR0 := zm hr0;have HC0 := zm hc0;clear hr0 hc0;have HB := zm (Below.refl w.heap.size w);have H : ((d9.f k l0 0 0).bind fun bt281 => (some bt281.1)) = some r := h;clear h;obtain ⟨⟨t281, t284, t285⟩, A2, H⟩ := zI H;(try dsimp only at H);obtain rfl := Option.some.inj H;go_enter Try.func82, Try.ntmps82;go_wp2_with (first | ((with_reducible refine gate_dst (N := 6) rfl ?_); refine box_event ?hg (N := 6) ?hd (cs := #[.slice A0 l0.length c0, .int .i64 0, .int .u64 0]) (t := 71) ?hr ?_; (case hd => rfl); (case hg => rfl); (case hr => first | (go_simp; done) | (go_simp; rfl)); intro gb280 hg w3 hbox hb; have n0_ := zm (below_step zb hb); have HI280 := zm ((show j4 w _ gb280 l0 0 0 from ⟨_, _, hbox, (by rw [hg]; exact (below_size zb) : w.heap.size ≤ gb280), HR0.out⟩)); have GW280 := zm (zs hg zb : w.heap.size ≤ gb280); have GE280 := zm (zs hg zb : w.heap.size ≤ gb280); replace HB := n0_; clear n0_; clear hb hbox hg) | ((with_reducible refine gate_callee (f := 122) rfl ?_); refine goesA_ (some 8) Try.func122 #[.pointer (some ⟨gb280, 0, none⟩)] rfl ?_; (with_reducible refine (d9.calls k gb280 l0 0 0 t281 t284 t285 w _ ?side1 ?side2 A2.out).mono ?_); (case side1 => exact y8); (case side2 => exact zb); rintro e w4 ⟨v282, rfl, ho0, hi, hb, hk⟩; refine ⟨_, rfl, ?_⟩; have HO283 := zm (Kd.R_lower ho0 (below_size zb)); replace HB := zm (hb); replace HI280 := zm (hi); (try clear hb); (try clear hk); (try clear hi); (try clear ho0)))
 go_ret
 exact ⟨_, zr, zP HO283.out, zb⟩
def X0.f (k : Nat) (l0 : List Int) : Option (List ByteArray) := (N7.f k l0).bind fun t286 => (some t286)
set_option maxHeartbeats 8000000 in
set_option maxRecDepth 100000 in
theorem X0.calls (k : Nat) (A0 : Option Addr) (c0 : Nat) (l0 : List Int) (r : List ByteArray) (w : World) (hr0 : Kd.C (Kd.int .u8) w A0 l0.length l0) (hc0 : l0.length ≤ c0) (h : X0.f k l0 = some r) :
  Calls Try.prog 31 #[.slice A0 l0.length c0] w fun e w' => ∃ v0_ : Value, e = .returned (v0_) ∧ Kd.R Kd.string 9 w' w.heap.size (fun _ => True) v0_ r ∧ Below w.heap.size w w' := by
 have HR0 := zm hr0;have HC0 := zm hc0;clear hr0 hc0;have HB := zm (Below.refl w.heap.size w);have H : ((N7.f k l0).bind fun t286 => (some t286)) = some r := h;clear h;obtain ⟨t286, A2, H⟩ := zI H;(try dsimp only at H);obtain rfl := Option.some.inj H;go_enter Try.func31, Try.ntmps31;go_wp2_with (first | ((with_reducible refine gate_callee (f := 82) rfl ?_); refine goesA_ (some 4) Try.func82 #[.slice A0 l0.length c0] rfl ?_; (with_reducible refine (N7.calls k _ _ l0 t286 _ ?side1 ?side2 A2.out).mono ?_); (case side1 => exact zF HR0.out); (case side2 => exact HC0.out); rintro e w3 ⟨v287, rfl, ho0, hb⟩; refine ⟨_, rfl, ?_⟩; have HO288 := zm (Kd.R_lower ho0 (below_size zb)); replace HB := zm (below_step zb hb); (try clear hb); (try clear ho0)))
 go_ret
 exact ⟨_, zr, zP HO288.out, zb⟩
end Go.Proofs.Ytjdkdbeenggfaaa.PEr
