import Derived.Test.YtjdkdbeenggfaaaPErx0
import Derived.Test.YtjdkdbeenggfaaaPErx4
import Derived.Test.YtjdkdbeenggfaaaPErx5
import Derived.Test.YtjdkdbeenggfaaaPErx6
namespace Go.Proofs.Ytjdkdbeenggfaaa.PEr
open Go.RowKit Go.Proofs.YtjdkdbeenggfaaaW.PrintWords Go.Proofs.YtjdkdbeenggfaaaW.PrintLast Go.Proofs.YtjdkdbeenggfaaaW.PrintMore
attribute [local go_sem] max2_int min2_int max_two min_two max_three min_three max_four min_four   -- for this text's walks alone
set_option linter.unusedVariables false
set_option linter.unusedSimpArgs false
def d9.l0 : Nat → List ByteArray → Int → Int → List Int → Int → Int → Option (List ByteArray × Int × Int)
  | 0, _, _, _, _, _, _ => none
  | k + 1, x3, x5, x6, x1000, x1001, x1002 => if x6 < x5 then ((j5.f x1000 x1001 x1002 (x3.length : Int)).bind fun bt232 => (if 0 < (x3.length : Int) then ((j5.f x1000 bt232.2.1 bt232.2.2 ((rdOf ByteArray.empty x3 0).size : Int)).bind fun bt236 => ((Y2.f x3 bt232.1 bt236.1 (⟨#[63]⟩ : ByteArray)).bind fun t239 => (d9.l0 k t239 x5 (wrap64 (x6 + 1)) x1000 bt236.2.1 bt236.2.2))) else (none))) else ((j5.f x1000 x1001 x1002 6).bind fun bt242 => (if bt242.1 = 0 then ((j5.f x1000 bt242.2.1 bt242.2.2 (x3.length : Int)).bind fun bt245 => (if 0 < (x3.length : Int) then ((j5.f x1000 bt245.2.1 bt245.2.2 ((rdOf ByteArray.empty x3 0).size : Int)).bind fun bt249 => ((K7.f x1000 bt249.2.1 bt249.2.2 (([(⟨#[46]⟩ : ByteArray), (⟨#[111]⟩ : ByteArray)] : List ByteArray))).bind fun bt255 => ((Y2.f x3 bt245.1 bt249.1 bt255.1).bind fun t258 => (some (t258, bt255.2.1, bt255.2.2))))) else (none))) else (if bt242.1 = 1 then ((Q7.f x1000 bt242.2.1 bt242.2.2 4).bind fun bt261 => (if bt261.1 = true then ((j5.f x1000 bt261.2.1 bt261.2.2 (x3.length : Int)).bind fun bt264 => (if 0 < (x3.length : Int) then ((j5.f x1000 bt264.2.1 bt264.2.2 ((rdOf ByteArray.empty x3 0).size : Int)).bind fun bt268 => ((K7.f x1000 bt268.2.1 bt268.2.2 (([(⟨#[120]⟩ : ByteArray), (⟨#[32]⟩ : ByteArray)] : List ByteArray))).bind fun bt274 => ((Y2.f x3 bt264.1 bt268.1 bt274.1).bind fun t277 => (some (t277, bt274.2.1, bt274.2.2))))) else (none))) else (some (x3, bt261.2.1, bt261.2.2)))) else (some (x3, bt242.2.1, bt242.2.2)))))
def d9.f (k : Nat) (s0_0 : List Int) (s0_1 : Int) (s0_2 : Int) : Option (List ByteArray × Int × Int) := (y9.f k s0_0 s0_1 s0_2).bind fun bt209 => ((Q6.f k bt209.1).bind fun bt214 => (if bt214.2 = true then ((j5.f s0_0 bt209.2.1 bt209.2.2 20).bind fun bt223 => ((o6.f s0_0 bt223.2.1 bt223.2.2 (([0, 1, 2, 3, 4, 6, bt223.1] : List Int))).bind fun bt229 => (d9.l0 k bt214.1 bt229.1 0 s0_0 bt229.2.1 bt229.2.2))) else ((y9.f k s0_0 bt209.2.1 bt209.2.2).bind fun bt218 => (some (bt218.1, bt218.2.1, bt218.2.2)))))
def d9.T8 : Bool × List (List Nat × List Nat) := (true, [([], []), ([], []), ([1], [1]), ([0, 2], [0, 2]), ([], []), ([], []), ([5], [5]), ([6], [6]), ([7], [7]), ([4, 8, 3], [4, 8]), ([3, 9, 0, 1, 2, 3], [3]), ([9, 10, 0, 1, 2, 3, 4, 5, 6, 7, 8, 9, 10], [9])])
def d9.B8 : List Nat := [0, 0, 2, 7, 0, 0, 32, 96, 224, 511, 1023, 2047]
theorem d9.q5i : rtab .any (opsOf Try.f122 8) = d9.T8 := by kernel_rfl
theorem d9.q3n : waitsOk d9.T8.2 d9.B8 = true := by kernel_rfl
def d9.T12 : Bool × List (List Nat × List Nat) := (true, [([], []), ([], []), ([], []), ([2], [2]), ([1, 3], [1, 3]), ([], []), ([], []), ([6], [6]), ([7], [7]), ([8], [8]), ([5, 9, 4], [5, 9]), ([], []), ([], []), ([11, 12, 10], [11, 12]), ([0, 4, 10, 13, 13], [0, 4, 10, 13]), ([14, 14, 0, 1, 2, 3, 4, 5, 6, 7, 8, 9, 10, 11, 12, 13, 14], [0, 2, 6, 14])])
def d9.B12 : List Nat := [0, 0, 0, 4, 14, 0, 0, 64, 192, 448, 1022, 0, 0, 8190, 16383, 32767]
theorem d9.q9d : rtab .any (opsOf Try.f122 12) = d9.T12 := by kernel_rfl
theorem d9.q8u : waitsOk d9.T12.2 d9.B12 = true := by kernel_rfl
def d9.T15 : Bool × List (List Nat × List Nat) := (true, [([], []), ([], []), ([], []), ([2], [2]), ([1, 3], [1, 3]), ([], []), ([], []), ([6], [6]), ([7], [7]), ([8], [8]), ([5, 9, 4], [5, 9]), ([], []), ([], []), ([11, 12, 10], [11, 12]), ([0, 4, 10, 13, 13], [0, 4, 10, 13]), ([14, 14, 0, 1, 2, 3, 4, 5, 6, 7, 8, 9, 10, 11, 12, 13, 14], [0, 2, 6, 14])])
def d9.B15 : List Nat := [0, 0, 0, 4, 14, 0, 0, 64, 192, 448, 1022, 0, 0, 8190, 16383, 32767]
theorem d9.q3o : rtab .any (opsOf Try.f122 15) = d9.T15 := by kernel_rfl
theorem d9.q2e : waitsOk d9.T15.2 d9.B15 = true := by kernel_rfl
set_option maxHeartbeats 8000000 in
set_option maxRecDepth 100000 in
theorem d9.calls (k : Nat) (g : Nat) (s0_0 : List Int) (s0_1 : Int) (s0_2 : Int) (r1 : List ByteArray) (r2 : Int) (r3 : Int) (w0 w : World) (hI : j4 w0 w g s0_0 s0_1 s0_2) (hB : Below w0.heap.size w0 w) (h : d9.f k s0_0 s0_1 s0_2 = some (r1, r2, r3)) :
  Calls Try.prog 122 #[.pointer (some ⟨g, 0, none⟩)] w fun e w' => ∃ v0_ : Value, e = .returned (v0_) ∧ Kd.R Kd.string 9 w' w.heap.size (fun _ => True) v0_ r1 ∧ j4 w0 w' g s0_0 r2 r3 ∧ Below w0.heap.size w0 w' ∧ KeepBut w w' g none := by
 have HI0 := zm hI;have GHI0 := zm (j4.ge HI0.out);have HK := zm (KeepBut.refl w g none);have HL := zm hB.size;clear hI;have HW0 := zm hB.size;have HB := zm hB;clear hB;have H : ((y9.f k s0_0 s0_1 s0_2).bind fun bt209 => ((Q6.f k bt209.1).bind fun bt214 => (if bt214.2 = true then ((j5.f s0_0 bt209.2.1 bt209.2.2 20).bind fun bt223 => ((o6.f s0_0 bt223.2.1 bt223.2.2 (([0, 1, 2, 3, 4, 6, bt223.1] : List Int))).bind fun bt229 => (d9.l0 k bt214.1 bt229.1 0 s0_0 bt229.2.1 bt229.2.2))) else ((y9.f k s0_0 bt209.2.1 bt209.2.2).bind fun bt218 => (some (bt218.1, bt218.2.1, bt218.2.2)))))) = some (r1, r2, r3) := h;clear h;obtain ⟨⟨t209, t212, t213⟩, A2, H⟩ := zI H;(try dsimp only at H);obtain ⟨⟨t214, t215⟩, A3, H⟩ := zI H;(try dsimp only at H);by_cases c4 : t215 = true
 rotate_left
 ·
  replace c4 := Bool.eq_false_iff.mpr c4;subst c4;rw [if_neg (show ¬ (false = true) by decide)] at H;obtain ⟨⟨t218, t221, t222⟩, A66, H⟩ := zI H;(try dsimp only at H);simp only [Option.some.injEq, Prod.mk.injEq] at H;obtain ⟨rfl, rfl, rfl⟩ := H;go_enter Try.func122, Try.ntmps122;go_wp2_with (first | ((with_reducible refine gate_callee (f := 56) rfl ?_); refine goesA_ (some 11) Try.func56 #[.pointer (some ⟨g, 0, none⟩)] rfl ?_; (with_reducible refine (y9.calls k g s0_0 s0_1 s0_2 t209 t212 t213 w0 _ ?side1 ?side2 A2.out).mono ?_); (case side1 => exact y8); (case side2 => exact zb); rintro e w67 ⟨v210, rfl, ho0, hi, hb, hk⟩; refine ⟨_, rfl, ?_⟩; have HO211 := zm (Kd.R_lower ho0 (keep_size (w := w) (g := g) (row := none) zh)); replace HK := zm (KeepBut.trans zh hk (.inl rfl)); replace HB := zm (hb); replace HI0 := zm (hi); (try clear hb); (try clear hk); (try clear hi); (try clear ho0); obtain ⟨Ao68, co68, eo68⟩ := Kd.R_slice HO211.out; subst eo68) | ((with_reducible refine gate_callee (f := 10) rfl ?_); refine goesA_ (some 12) Try.func10 #[.slice Ao68 t209.length co68] rfl ?_; (with_reducible refine (Q6.calls k _ _ t209 t214 false _ ?side1 ?side2 A3.out).mono ?_); (case side1 => exact (Kd.R_reads' (zP HO211.out)).2.2); (case side2 => exact (Kd.R_reads' HO211.out).2.1); rintro e w69 ⟨v216, rfl, ho0, hb⟩; refine ⟨_, rfl, ?_⟩; have n0_ := zm (Kd.R_elder' (zP HO211.out) (Kd.R_base ho0) hb); have HO217 := zm (Kd.R_lower (Kd.R_new' ho0 (Kd.R_lt (zP HO211.out))) (keep_size (w := w) (g := g) (row := none) zh)); replace HI0 := zm (j4.below y8 hb); replace HK := zm (KeepBut.trans zh (KeepBut.of_below hb g none) (.inl rfl)); replace HB := zm (below_step zb hb); replace HO211 := n0_; clear n0_; (try clear hb); (try clear hk); (try clear hi); (try clear ho0)) | ((with_reducible refine gate_callee (f := 56) rfl ?_); refine goesA_ (some 18) Try.func56 #[.pointer (some ⟨g, 0, none⟩)] rfl ?_; (with_reducible refine (y9.calls k g s0_0 t212 t213 t218 t221 t222 w0 _ ?side1 ?side2 A66.out).mono ?_); (case side1 => exact y8); (case side2 => exact zb); rintro e w70 ⟨v219, rfl, ho0, hi, hb, hk⟩; refine ⟨_, rfl, ?_⟩; have n0_ := zm (Kd.R_mono (Kd.R_told (Kd.R_oldK (j4.apart (show j4 w0 _ g s0_0 t212 t213 from y8) (zP HO211.out) (by decide)) hk) (Kd.R_base ho0)) (fun _ h_ => h_.1)); have n1_ := zm (Kd.R_mono (Kd.R_told (Kd.R_oldK (j4.apart (show j4 w0 _ g s0_0 t212 t213 from y8) (zP HO217.out) (by decide)) hk) (Kd.R_base ho0)) (fun _ h_ => h_.1)); have HO220 := zm (Kd.R_lower (Kd.R_new' (Kd.R_new' ho0 (Kd.R_lt (zP HO211.out))) (Kd.R_lt (zP HO217.out))) (keep_size (w := w) (g := g) (row := none) zh)); replace HK := zm (KeepBut.trans zh hk (.inl rfl)); replace HB := zm (hb); replace HI0 := zm (hi); replace HO211 := n0_; replace HO217 := n1_; clear n0_ n1_; (try clear hb); (try clear hk); (try clear hi); (try clear ho0)))
  go_ret
  exact ⟨_, zr, zP (Kd.R_mono HO220.out (fun _ hk => trivial)), y8, zb, zh⟩
 subst c4;rw [if_pos rfl] at H;obtain ⟨⟨t223, t224, t225⟩, A5, H⟩ := zI H;(try dsimp only at H);obtain ⟨y226, hy226⟩ : ∃ y_ : List Int, y_ = (([0, 1, 2, 3, 4, 6, t223] : List Int)) := ⟨_, rfl⟩;(first | (rw [← hy226] at H; with_reducible replace H := zO H) | rw [← hy226] at H);have Ny226 := zm hy226;clear hy226;obtain ⟨⟨t229, t230, t231⟩, A6, H⟩ := zI H;(try dsimp only at H);have H' := zm H;clear H;go_enter Try.func122, Try.ntmps122;go_wp2_with (first | ((with_reducible refine gate_callee (f := 56) rfl ?_); refine goesA_ (some 11) Try.func56 #[.pointer (some ⟨g, 0, none⟩)] rfl ?_; (with_reducible refine (y9.calls k g s0_0 s0_1 s0_2 t209 t212 t213 w0 _ ?side1 ?side2 A2.out).mono ?_); (case side1 => exact y8); (case side2 => exact zb); rintro e w7 ⟨v210, rfl, ho0, hi, hb, hk⟩; refine ⟨_, rfl, ?_⟩; have HO211 := zm (Kd.R_lower ho0 (keep_size (w := w) (g := g) (row := none) zh)); replace HK := zm (KeepBut.trans zh hk (.inl rfl)); replace HB := zm (hb); replace HI0 := zm (hi); (try clear hb); (try clear hk); (try clear hi); (try clear ho0); obtain ⟨Ao8, co8, eo8⟩ := Kd.R_slice HO211.out; subst eo8) | ((with_reducible refine gate_callee (f := 10) rfl ?_); refine goesA_ (some 12) Try.func10 #[.slice Ao8 t209.length co8] rfl ?_; (with_reducible refine (Q6.calls k _ _ t209 t214 true _ ?side1 ?side2 A3.out).mono ?_); (case side1 => exact (Kd.R_reads' (zP HO211.out)).2.2); (case side2 => exact (Kd.R_reads' HO211.out).2.1); rintro e w9 ⟨v216, rfl, ho0, hb⟩; refine ⟨_, rfl, ?_⟩; have n0_ := zm (Kd.R_elder' (zP HO211.out) (Kd.R_base ho0) hb); have HO217 := zm (Kd.R_lower (Kd.R_new' ho0 (Kd.R_lt (zP HO211.out))) (keep_size (w := w) (g := g) (row := none) zh)); replace HI0 := zm (j4.below y8 hb); replace HK := zm (KeepBut.trans zh (KeepBut.of_below hb g none) (.inl rfl)); replace HB := zm (below_step zb hb); replace HO211 := n0_; clear n0_; (try clear hb); (try clear hk); (try clear hi); (try clear ho0)) | ((with_reducible refine gate_callee (f := 94) rfl ?_); refine goesA_ (some 21) Try.func94 #[.pointer (some ⟨g, 0, none⟩), .int .i64 20] rfl ?_; (with_reducible refine (j5.calls g s0_0 t212 t213 20 t223 t224 t225 w0 _ ?side1 ?side2 A5.out).mono ?_); (case side1 => exact y8); (case side2 => exact zb); rintro e w10 ⟨rfl, hi, hb, hk⟩; refine ⟨_, rfl, ?_⟩; replace HO211 := zm (Kd.R_mono (Kd.R_keep (j4.apart (show j4 w0 _ g s0_0 t212 t213 from y8) (zP HO211.out) (by decide)) hk (fun _ h => h.2)) (fun _ h => h.1)); replace HO217 := zm (Kd.R_mono (Kd.R_keep (j4.apart (show j4 w0 _ g s0_0 t212 t213 from y8) (zP HO217.out) (by decide)) hk (fun _ h => h.2)) (fun _ h => h.1)); replace HK := zm (KeepBut.trans zh hk (.inl rfl)); replace HB := zm (hb); replace HI0 := zm (hi); (try clear hb); (try clear hk); (try clear hi)) | ((with_reducible refine gate_dst (N := 22) rfl ?_); refine Kd.R_lit (Kd.int .i64) _ 3 ?hg (N := 22) ?hd (xs := ([0, 1, 2, 3, 4, 6, t223] : List Int)) (inner := [.int .i64 0, .int .i64 1, .int .i64 2, .int .i64 3, .int .i64 4, .int .i64 6, .int .i64 t223]) (ok := fun _ => True) (okp := fun _ => True) ?hr ?hp (fun _ hk => hk) trivial (Below.refl _ _) (Nat.le_refl _) (by simp) ?_; (case hd => rfl); (case hg => rfl); (case hr => first | (go_simp; done) | (go_simp; rfl)); (case hp => exact (Reps.one (show Kd.M (Kd.int .i64) _ _ _ 0 [.int .i64 0] from rfl) (Reps.one (show Kd.M (Kd.int .i64) _ _ _ 1 [.int .i64 1] from rfl) (Reps.one (show Kd.M (Kd.int .i64) _ _ _ 2 [.int .i64 2] from rfl) (Reps.one (show Kd.M (Kd.int .i64) _ _ _ 3 [.int .i64 3] from rfl) (Reps.one (show Kd.M (Kd.int .i64) _ _ _ 4 [.int .i64 4] from rfl) (Reps.one (show Kd.M (Kd.int .i64) _ _ _ 6 [.int .i64 6] from rfl) (Reps.one (show Kd.M (Kd.int .i64) _ _ _ t223 [.int .i64 t223] from rfl) (Reps.none _ _))))))))); intro v227 w11 ho12 hb hg_ hnew_; clear hg_ hnew_; (first | rw [← Ny226.out] at ho12 | (simp only [Int.reduceToNat] at ho12; rw [← Ny226.out] at ho12)); replace HO211 := zm (Kd.R_below (zP HO211.out) hb); replace HO217 := zm (Kd.R_below (zP HO217.out) hb); have HO228 := zm (Kd.R_lower ho12 (keep_size (w := w) (g := g) (row := none) zh)); replace HI0 := zm (j4.below y8 hb); replace HK := zm (KeepBut.trans zh (KeepBut.of_below hb g none) (.inl rfl)); replace HB := zm (below_step zb hb); clear hb ho12; obtain ⟨Ao13, co13, eo13⟩ := Kd.R_slice HO228.out; subst eo13) | ((with_reducible refine gate_callee (f := 107) rfl ?_); refine goesA_ (some 23) Try.func107 #[.pointer (some ⟨g, 0, none⟩), .slice Ao13 y226.length co13] rfl ?_; (with_reducible refine (o6.calls g s0_0 t224 t225 _ _ y226 t229 t230 t231 w0 _ ?side1 ?side2 ?side3 ?side4 ?side5 A6.out).mono ?_); (case side1 => exact y8); (case side2 => exact zb); (case side3 => exact (Kd.R_reads' (zP HO228.out)).2.2); (case side4 => exact (Kd.R_reads' HO228.out).2.1); (case side5 => exact far_slice (j4.own_ne HI0.out HO228.out (by decide))); rintro e w14 ⟨rfl, hi, hb, hk⟩; refine ⟨_, rfl, ?_⟩; replace HO211 := zm (Kd.R_mono (Kd.R_keep (j4.apart (show j4 w0 _ g s0_0 t224 t225 from y8) (zP HO211.out) (by decide)) hk (fun _ h => h.2)) (fun _ h => h.1)); replace HO217 := zm (Kd.R_mono (Kd.R_keep (j4.apart (show j4 w0 _ g s0_0 t224 t225 from y8) (zP HO217.out) (by decide)) hk (fun _ h => h.2)) (fun _ h => h.1)); replace HO228 := zm (Kd.R_mono (Kd.R_keep (j4.apart (show j4 w0 _ g s0_0 t224 t225 from y8) (zP HO228.out) (by decide)) hk (fun _ h => h.2)) (fun _ h => h.1)); replace HK := zm (KeepBut.trans zh hk (.inl rfl)); replace HB := zm (hb); replace HI0 := zm (hi); (try clear hb); (try clear hk); (try clear hi)))
 go_loopg [3, 6] k (fun kq v3 v6 w' => ∃ (x3_1 : List ByteArray) (x6_1 : Int) (x1001_1 : Int) (x1002_1 : Int), v6 = .int .i64 x6_1 ∧ Aside0 (d9.l0 kq x3_1 t229 x6_1 s0_0 x1001_1 x1002_1 = some (r1, r2, r3)) ∧ Aside0 (kq ≤ k) ∧ Aside0 (Kd.R Kd.string 9 w' w.heap.size (fun _ => True) v3 x3_1) ∧ Aside0 (j4 w0 w' g s0_0 x1001_1 x1002_1) ∧ Aside0 (KeepBut w w' g none) ∧ Aside0 (Below w0.heap.size w0 w'))
 case atStart => exact ⟨(t214), (0), (t230), (t231), zz, H', ⟨Nat.le_refl _⟩, ⟨zP (Kd.R_mono HO217.out (fun _ hk => trivial))⟩, ⟨y8⟩, ⟨zh⟩, ⟨zb⟩⟩
 case round =>
  clear H';(try clear p2);obtain ⟨x3_1, x6_1, x1001_1, x1002_1, rfl, HA, HK1, HO_3, HI0, HK, HB⟩ := hrel;cases gk with
  | zero => exact absurd HA.out (by simp [d9.l0])
  | succ k1 =>
   have H := HA.out;clear HA;simp only [d9.l0] at H;by_cases c15 : x6_1 < t229
   ·
    rw [if_pos c15] at H;have c15b0 := decide_eq_true c15;clear c15;obtain ⟨⟨t232, t233, t234⟩, A16, H⟩ := zI H;(try dsimp only at H);obtain ⟨c17, H⟩ := zJ H;have c17b0 := decide_eq_true c17;have c17b1 : decide (0 < x3_1.length) = true := decide_eq_true (by omega);clear c17;obtain ⟨⟨t236, t237, t238⟩, A18, H⟩ := zI H;(try dsimp only at H);obtain ⟨t239, A19, H⟩ := zI H;(try dsimp only at H);have H' := zm H;clear H;try go_wp2
    have n0_ := zm (Kd.R_drew HO_3.out);have n1_ := zm (j4.drew HI0.out);have n2_ := zm (keep_drew HK.out);have n3_ := zm (below_drew1 HB.out);clear HO_3;clear HI0;clear HK;clear HB;have HO_3 := n0_;have HI0 := n1_;have HK := n2_;have HB := n3_;clear n0_ n1_ n2_ n3_;obtain ⟨Ao21, co21, eo21⟩ := Kd.R_slice HO_3.out;(first | subst eo21 | (injection eo21 with f1_ f2_ f3_; have f4_ := f1_.symm; have f5_ := f3_.symm; clear f1_ f2_ f3_; subst f4_; subst f5_));have p235 : 0 ≤ (0 : Int) := (by omega);have q235 : 0 < (x3_1.length : Int) := zd;obtain ⟨ad235, e235, hx235_0⟩ := Kd.at_string (Kd.R_reads' HO_3.out).2.2 0 p235 q235;cases e235;have qi235 : (0 < x3_1.length) = True := eq_true (by omega)
    (try rw [show ((0 : Int)).toNat = 0 from rfl] at hx235_0);(try rw [Addr.add_zero'] at hx235_0);replace p235 := eq_true p235;replace q235 := eq_true q235;refine start_ (n := 12) (S := fun w' => w'.cell? ad235 = some (.string (rdOf ByteArray.empty x3_1 0))) (ds := []) #[F,F,F,F,F,F,F,F,F,F,F,F] (by kernel_rfl) rfl rfl (hx235_0) (fun hHeld => ?_); refine with_tabW d9.q5i d9.q3n (fun HT_ HW_ => ?_)
    generalize wr.drew = w20 at HO_3 HI0 HK HB hx235_0 hHeld ⊢;refine zU 0 29 #[T,F,F,F,F,F,F,F,F,F,F,F] ?_;refine zU 1 30 #[T,T,F,F,F,F,F,F,F,F,F,F] ?_;refine zU 2 31 #[T,T,T,F,F,F,F,F,F,F,F,F] ?_;refine zU 4 33 #[T,T,T,F,T,F,F,F,F,F,F,F] ?_;refine zU 5 34 #[T,T,T,F,T,T,F,F,F,F,F,F] ?_;refine zU 6 35 #[T,T,T,F,T,T,T,F,F,F,F,F] ?_;refine take_ (i := 7) (N := some 36) (v := ?_) (a' := ?_) #[T,T,T,F,T,T,T,T,F,F,F,F] rfl rfl (take_ofW HT_.out HW_.out (by kernel_rfl)) (fun _ _ _ h => h) (Or.inl ⟨by rfl, ?_⟩) hHeld ?_ ?_
    rotate_left
    ·
     intro w' s0;go_simp
     with_reducible rfl
    rotate_left
    ·
     simp only [Act.put, zA, zB, zD, i64_w, i32_w]
     rfl
    refine zU 8 37 #[T,T,T,F,T,T,T,T,T,F,F,F] ?_;refine one_ (i := 3) (N := some 32) #[T,T,T,T,T,T,T,T,T,F,F,F] rfl rfl (one_of HT_.out (by kernel_rfl)) (by decide) (fun K hK => ?_)
    refine goes_ Try.func94 (by kernel_rfl) rfl #[.pointer (some ⟨g, 0, none⟩), .int .i64 (x3_1.length : Int)] (by rfl) rfl rfl (by (try simp only [List.map_toArray, List.map_cons, List.map_nil]); first | done | rfl | (simp only [List.length_drop, List.length_take]; rfl)) ?_
    with_reducible refine (j5.calls g s0_0 x1001_1 x1002_1 (x3_1.length : Int) t232 t233 t234 w0 _ ?side1 ?side2 A16.out).mono ?_
    (case side1 => exact y8)
    (case side2 => exact zb)
    rintro e w22 ⟨rfl, hi, hb, hk⟩;have HS0_ := keep_cell hk (hHeld) (by first | (rw [add_block]; exact Kd.own_blk (j4.own_ne HI0.out HO_3.out (by decide))) | (show (Addr.add _ _).block ≠ _; rw [add_block]; exact Kd.own_blk (j4.own_ne HI0.out HO_3.out (by decide))) | exact Kd.own_blk (j4.own_ne HI0.out HO_3.out (by decide)));refine ⟨_, rfl, ?_⟩
    have n0_ := zm (Kd.R_mono (Kd.R_keep (j4.apart (show j4 w0 _ g s0_0 x1001_1 x1002_1 from y8) (zP HO_3.out) (by decide)) hk (fun _ h => h.2)) (fun _ h => h.1));have n1_ := zm (KeepBut.trans zh hk (.inl rfl));have n2_ := zm (hb);have n3_ := zm (hi);clear HO_3;clear HK;clear HB;clear HI0;have HO_3 := n0_;have HK := n1_;have HB := n2_;have HI0 := n3_;clear n0_ n1_ n2_ n3_;(try clear hb);(try clear hk);(try clear hi);refine hK.out _ _ (HS0_) (fun hHeld => ?_)
    clear hK K;refine norm_ (a' := ?_) ?_ ?_;rotate_left
    ·
     show Act.put _ (some 32) _ = _
     simp only [Act.put, zA, zB, zD, i64_w, i32_w]
     rfl
    refine one_ (i := 9) (N := some 38) #[T,T,T,T,T,T,T,T,T,T,F,F] rfl rfl (one_of HT_.out (by kernel_rfl)) (by decide) (fun K hK => ?_)
    refine goes_ Try.func94 (by kernel_rfl) rfl #[.pointer (some ⟨g, 0, none⟩), .int .i64 ((rdOf ByteArray.empty x3_1 0).size : Int)] (by rfl) rfl rfl (by (try simp only [List.map_toArray, List.map_cons, List.map_nil]); first | done | rfl | (simp only [List.length_drop, List.length_take]; rfl)) ?_
    with_reducible refine (j5.calls g s0_0 t233 t234 ((rdOf ByteArray.empty x3_1 0).size : Int) t236 t237 t238 w0 _ ?side1 ?side2 A18.out).mono ?_
    (case side1 => exact y8)
    (case side2 => exact zb)
    rintro e w23 ⟨rfl, hi, hb, hk⟩;have HS0_ := keep_cell hk (hHeld) (by first | (rw [add_block]; exact Kd.own_blk (j4.own_ne HI0.out HO_3.out (by decide))) | (show (Addr.add _ _).block ≠ _; rw [add_block]; exact Kd.own_blk (j4.own_ne HI0.out HO_3.out (by decide))) | exact Kd.own_blk (j4.own_ne HI0.out HO_3.out (by decide)));refine ⟨_, rfl, ?_⟩
    have n0_ := zm (Kd.R_mono (Kd.R_keep (j4.apart (show j4 w0 _ g s0_0 t233 t234 from y8) (zP HO_3.out) (by decide)) hk (fun _ h => h.2)) (fun _ h => h.1));have n1_ := zm (KeepBut.trans zh hk (.inl rfl));have n2_ := zm (hb);have n3_ := zm (hi);clear HO_3;clear HK;clear HB;clear HI0;have HO_3 := n0_;have HK := n1_;have HB := n2_;have HI0 := n3_;clear n0_ n1_ n2_ n3_;(try clear hb);(try clear hk);(try clear hi);refine hK.out _ _ (HS0_) (fun hHeld => ?_)
    clear hK K;refine norm_ (a' := ?_) ?_ ?_;rotate_left
    ·
     show Act.put _ (some 38) _ = _
     simp only [Act.put, zA, zB, zD, i64_w, i32_w]
     rfl
    refine zU 10 7 #[T,T,T,T,T,T,T,T,T,T,T,F] ?_;refine zU 11 8 #[T,T,T,T,T,T,T,T,T,T,T,T] ?_;refine done_ (done_of HT_.out (by kernel_rfl)) ?_
    try go_wp2_with (first | ((with_reducible refine gate_callee (f := 72) rfl ?_); refine goesA_ (some 42) Try.func72 #[.slice (some ad235) x3_1.length co21, .int .i64 t232, .int .i64 t236, .string (⟨#[63]⟩ : ByteArray)] rfl ?_; (with_reducible refine (Y2.calls _ _ x3_1 t232 t236 (⟨#[63]⟩ : ByteArray) t239 _ ?side1 ?side2 A19.out).mono ?_); (case side1 => exact (Kd.R_reads' (zP HO_3.out)).2.2); (case side2 => exact (Kd.R_reads' HO_3.out).2.1); rintro e w24 ⟨v240, rfl, ho0, hb⟩; refine ⟨_, rfl, ?_⟩; have n0_ := zm (Kd.R_elder' (zP HO_3.out) (Kd.R_base ho0) hb); have HO241 := zm (Kd.R_lower (Kd.R_new' ho0 (Kd.R_lt (zP HO_3.out))) (keep_size (w := w) (g := g) (row := none) zh)); replace HI0 := zm (j4.below y8 hb); replace HK := zm (KeepBut.trans zh (KeepBut.of_below hb g none) (.inl rfl)); replace HB := zm (below_step zb hb); replace HO_3 := n0_; clear n0_; (try clear hb); (try clear ho0)))
    go_roundg k1
    case measure => have := HK1.out; omega
    case rel => exact ⟨(t239), (wrap64 (x6_1 + 1)), (t237), (t238), zz, H', ⟨by have := HK1.out; omega⟩, ⟨zP (Kd.R_mono HO241.out (fun _ hk => trivial))⟩, ⟨y8⟩, ⟨zh⟩, ⟨zb⟩⟩
   rw [if_neg c15] at H;have c15b0 := decide_eq_false c15;clear c15;obtain ⟨⟨t242, t243, t244⟩, A25, H⟩ := zI H;(try dsimp only at H);by_cases c26 : t242 = 0
   ·
    rw [if_pos c26] at H;have c26b0 : (t242 == 0) = true := beq_iff_eq.mpr c26;have c26b1 : (t242 != 0) = false := bne_eq_false_iff_eq.mpr c26;clear c26;obtain ⟨⟨t245, t246, t247⟩, A27, H⟩ := zI H;(try dsimp only at H);obtain ⟨c28, H⟩ := zJ H;have c28b0 := decide_eq_true c28;have c28b1 : decide (0 < x3_1.length) = true := decide_eq_true (by omega);clear c28;obtain ⟨⟨t249, t250, t251⟩, A29, H⟩ := zI H;(try dsimp only at H);obtain ⟨y252, hy252⟩ : ∃ y_ : List ByteArray, y_ = (([(⟨#[46]⟩ : ByteArray), (⟨#[111]⟩ : ByteArray)] : List ByteArray)) := ⟨_, rfl⟩;(first | (rw [← hy252] at H; with_reducible replace H := zO H) | rw [← hy252] at H);have Ny252 := zm hy252;clear hy252;obtain ⟨⟨t255, t256, t257⟩, A30, H⟩ := zI H;(try dsimp only at H);obtain ⟨t258, A31, H⟩ := zI H;(try dsimp only at H);simp only [Option.some.injEq, Prod.mk.injEq] at H;obtain ⟨rfl, rfl, rfl⟩ := H;try go_wp2_with (first | ((with_reducible refine gate_callee (f := 94) rfl ?_); refine goesA_ (some 44) Try.func94 #[.pointer (some ⟨g, 0, none⟩), .int .i64 6] rfl ?_; (with_reducible refine (j5.calls g s0_0 x1001_1 x1002_1 6 t242 t243 t244 w0 _ ?side1 ?side2 A25.out).mono ?_); (case side1 => exact y8); (case side2 => exact zb); rintro e w32 ⟨rfl, hi, hb, hk⟩; refine ⟨_, rfl, ?_⟩; replace HO_3 := zm (Kd.R_mono (Kd.R_keep (j4.apart (show j4 w0 _ g s0_0 x1001_1 x1002_1 from y8) (zP HO_3.out) (by decide)) hk (fun _ h => h.2)) (fun _ h => h.1)); replace HK := zm (KeepBut.trans zh hk (.inl rfl)); replace HB := zm (hb); replace HI0 := zm (hi); (try clear hb); (try clear hk); (try clear hi); obtain ⟨Ao33, co33, eo33⟩ := Kd.R_slice HO_3.out; subst eo33))
    have n0_ := zm (Kd.R_drew HO_3.out);have n1_ := zm (j4.drew HI0.out);have n2_ := zm (keep_drew HK.out);have n3_ := zm (below_drew1 HB.out);clear HO_3;clear HI0;clear HK;clear HB;have HO_3 := n0_;have HI0 := n1_;have HK := n2_;have HB := n3_;clear n0_ n1_ n2_ n3_;have p248 : 0 ≤ (0 : Int) := (by omega);have q248 : 0 < (x3_1.length : Int) := zd;obtain ⟨ad248, e248, hx248_0⟩ := Kd.at_string (Kd.R_reads' HO_3.out).2.2 0 p248 q248;cases e248;have qi248 : (0 < x3_1.length) = True := eq_true (by omega)
    (try rw [show ((0 : Int)).toNat = 0 from rfl] at hx248_0);(try rw [Addr.add_zero'] at hx248_0);replace p248 := eq_true p248;replace q248 := eq_true q248;refine start_ (n := 16) (S := fun w' => w'.cell? ad248 = some (.string (rdOf ByteArray.empty x3_1 0))) (ds := []) #[F,F,F,F,F,F,F,F,F,F,F,F,F,F,F,F] (by kernel_rfl) rfl rfl (hx248_0) (fun hHeld => ?_); refine with_tabW d9.q9d d9.q8u (fun HT_ HW_ => ?_)
    generalize w32.drew = w34 at HO_3 HI0 HK HB hx248_0 hHeld ⊢;refine zU 0 47 #[T,F,F,F,F,F,F,F,F,F,F,F,F,F,F,F] ?_;refine zU 1 48 #[T,T,F,F,F,F,F,F,F,F,F,F,F,F,F,F] ?_;refine zU 2 49 #[T,T,T,F,F,F,F,F,F,F,F,F,F,F,F,F] ?_;refine zU 3 50 #[T,T,T,T,F,F,F,F,F,F,F,F,F,F,F,F] ?_;refine zU 5 52 #[T,T,T,T,F,T,F,F,F,F,F,F,F,F,F,F] ?_;refine zU 6 53 #[T,T,T,T,F,T,T,F,F,F,F,F,F,F,F,F] ?_;refine zU 7 54 #[T,T,T,T,F,T,T,T,F,F,F,F,F,F,F,F] ?_;refine zU 11 58 #[T,T,T,T,F,T,T,T,F,F,F,T,F,F,F,F] ?_;refine take_ (i := 8) (N := some 55) (v := ?_) (a' := ?_) #[T,T,T,T,F,T,T,T,T,F,F,T,F,F,F,F] rfl rfl (take_ofW HT_.out HW_.out (by kernel_rfl)) (fun _ _ _ h => h) (Or.inl ⟨by rfl, ?_⟩) hHeld ?_ ?_
    rotate_left
    ·
     intro w' s0;go_simp
     with_reducible rfl
    rotate_left
    ·
     simp only [Act.put, zA, zB, zD, i64_w, i32_w]
     rfl
    refine zU 9 56 #[T,T,T,T,F,T,T,T,T,T,F,T,F,F,F,F] ?_;refine join_ (σ := Value) 3 #[T,T,T,T,T,T,T,T,T,T,T,T,T,F,F,F] (fun s_ => [(51, .int .i64 t245), (57, .int .i64 t249), (59, s_)]) (fun s_ w' => (w'.cell? ad248 = some (.string (rdOf ByteArray.empty x3_1 0))) ∧ (Kd.R Kd.string 9 w' w.heap.size (fun k_ => some k_ ≠ (.slice (some ad248) x3_1.length co33 : Value).ownBlock) s_ y252) ∧ (Kd.R Kd.string 9 w' w.heap.size (fun k_ => some k_ ≠ (s_ : Value).ownBlock) (.slice (some ad248) x3_1.length co33) x3_1) ∧ (j4 w0 w' g s0_0 t250 t251) ∧ (KeepBut w w' g none) ∧ (Below w0.heap.size w0 w')) ?_ ?_
    rotate_left
    ·
     intro hCont;refine two_ (i := 4) (j := 12) (Ni := some 51) (Nj := some 59) #[T,T,T,T,T,T,T,T,T,T,F,T,F,F,F,F] #[T,T,T,T,F,T,T,T,T,T,F,T,T,F,F,F] rfl rfl rfl rfl (two_of HT_.out (by kernel_rfl)) (by decide) (by decide) (fun K hK => ?_) (fun K hK => ?_)
     ·
      skip
      refine goes_ Try.func94 (by kernel_rfl) rfl #[.pointer (some ⟨g, 0, none⟩), .int .i64 (x3_1.length : Int)] (by rfl) rfl rfl (by (try simp only [List.map_toArray, List.map_cons, List.map_nil]); first | done | rfl | (simp only [List.length_drop, List.length_take]; rfl)) ?_
      with_reducible refine (j5.calls g s0_0 t243 t244 (x3_1.length : Int) t245 t246 t247 w0 _ ?side1 ?side2 A27.out).mono ?_
      (case side1 => exact y8)
      (case side2 => exact zb)
      rintro e w35 ⟨rfl, hi, hb, hk⟩;have HS0_ := keep_cell hk (hHeld) (by first | (rw [add_block]; exact Kd.own_blk (j4.own_ne HI0.out HO_3.out (by decide))) | (show (Addr.add _ _).block ≠ _; rw [add_block]; exact Kd.own_blk (j4.own_ne HI0.out HO_3.out (by decide))) | exact Kd.own_blk (j4.own_ne HI0.out HO_3.out (by decide)));refine ⟨_, rfl, ?_⟩
      have n0_ := zm (Kd.R_mono (Kd.R_keep (j4.apart (show j4 w0 _ g s0_0 t243 t244 from y8) (zP HO_3.out) (by decide)) hk (fun _ h => h.2)) (fun _ h => h.1));have n1_ := zm (KeepBut.trans zh hk (.inl rfl));have n2_ := zm (hb);have n3_ := zm (hi);clear HO_3;clear HK;clear HB;clear HI0;have HO_3 := n0_;have HK := n1_;have HB := n2_;have HI0 := n3_;clear n0_ n1_ n2_ n3_;(try clear hb);(try clear hk);(try clear hi);refine hK.out _ _ (HS0_) (fun hHeld => ?_)
      clear hK K;refine norm_ (a' := ?_) ?_ ?_;rotate_left
      ·
       show Act.put _ (some 51) _ = _
       simp only [Act.put, zA, zB, zD, i64_w, i32_w]
       rfl
      refine two_ (i := 10) (j := 12) (Ni := some 57) (Nj := some 59) #[T,T,T,T,T,T,T,T,T,T,T,T,F,F,F,F] #[T,T,T,T,T,T,T,T,T,T,F,T,T,F,F,F] rfl rfl rfl rfl (two_of HT_.out (by kernel_rfl)) (by decide) (by decide) (fun K hK => ?_) (fun K hK => ?_)
      ·
       skip
       refine goes_ Try.func94 (by kernel_rfl) rfl #[.pointer (some ⟨g, 0, none⟩), .int .i64 ((rdOf ByteArray.empty x3_1 0).size : Int)] (by rfl) rfl rfl (by (try simp only [List.map_toArray, List.map_cons, List.map_nil]); first | done | rfl | (simp only [List.length_drop, List.length_take]; rfl)) ?_
       with_reducible refine (j5.calls g s0_0 t246 t247 ((rdOf ByteArray.empty x3_1 0).size : Int) t249 t250 t251 w0 _ ?side1 ?side2 A29.out).mono ?_
       (case side1 => exact y8)
       (case side2 => exact zb)
       rintro e w36 ⟨rfl, hi, hb, hk⟩;have HS0_ := keep_cell hk (hHeld) (by first | (rw [add_block]; exact Kd.own_blk (j4.own_ne HI0.out HO_3.out (by decide))) | (show (Addr.add _ _).block ≠ _; rw [add_block]; exact Kd.own_blk (j4.own_ne HI0.out HO_3.out (by decide))) | exact Kd.own_blk (j4.own_ne HI0.out HO_3.out (by decide)));refine ⟨_, rfl, ?_⟩
       have n0_ := zm (Kd.R_mono (Kd.R_keep (j4.apart (show j4 w0 _ g s0_0 t246 t247 from y8) (zP HO_3.out) (by decide)) hk (fun _ h => h.2)) (fun _ h => h.1));have n1_ := zm (KeepBut.trans zh hk (.inl rfl));have n2_ := zm (hb);have n3_ := zm (hi);clear HO_3;clear HK;clear HB;clear HI0;have HO_3 := n0_;have HK := n1_;have HB := n2_;have HI0 := n3_;clear n0_ n1_ n2_ n3_;(try clear hb);(try clear hk);(try clear hi);refine hK.out _ _ (HS0_) (fun hHeld => ?_)
       clear hK K;refine norm_ (a' := ?_) ?_ ?_;rotate_left
       ·
        show Act.put _ (some 57) _ = _
        simp only [Act.put, zA, zB, zD, i64_w, i32_w]
        rfl
       refine one_ (i := 12) (N := some 59) #[T,T,T,T,T,T,T,T,T,T,T,T,T,F,F,F] rfl rfl (one_of HT_.out (by kernel_rfl)) (by decide) (fun K hK => ?_)
       refine Kd.R_lit_step Kd.string _ 9 ?hg (N := 59) ?hd (xs := ([(⟨#[46]⟩ : ByteArray), (⟨#[111]⟩ : ByteArray)] : List ByteArray)) (inner := [.string (⟨#[46]⟩ : ByteArray), .string (⟨#[111]⟩ : ByteArray)]) (ok := fun _ => True) (okp := fun _ => True) ?hr ?hp (fun _ hk => hk) trivial (Below.refl _ _) (Nat.le_refl _) (by simp) ?_; (case hd => rfl); (case hg => rfl); (case hr => first | (go_simp; done) | (go_simp; rfl)); (case hp => exact (Reps.one (show Kd.M Kd.string _ _ _ (⟨#[46]⟩ : ByteArray) [.string (⟨#[46]⟩ : ByteArray)] from rfl) (Reps.one (show Kd.M Kd.string _ _ _ (⟨#[111]⟩ : ByteArray) [.string (⟨#[111]⟩ : ByteArray)] from rfl) (Reps.none _ _))))
       intro v253 w37 ho38 hb hg_ hnew_;have HS0_ := (hb.cell (World.block_lt_of_cell? _ _ (hHeld))).trans (hHeld);clear hg_ hnew_;(first | rw [← Ny252.out] at ho38 | (simp only [Int.reduceToNat] at ho38; rw [← Ny252.out] at ho38));have n0_ := zm (Kd.R_elder' (zP HO_3.out) (Kd.R_base ho38) hb);have n1_ := zm (Kd.R_lower (Kd.R_new' ho38 (Kd.R_lt (zP HO_3.out))) (keep_size (w := w) (g := g) (row := none) zh));have n2_ := zm (j4.below y8 hb);have n3_ := zm (KeepBut.trans zh (KeepBut.of_below hb g none) (.inl rfl));have n4_ := zm (below_step zb hb);clear HO_3;clear HI0;clear HK;clear HB;have HO_3 := n0_;have HO254 := n1_;have HI0 := n2_;have HK := n3_;have HB := n4_;clear n0_ n1_ n2_ n3_ n4_;clear hb ho38;refine hK.out _ _ (HS0_) (fun hHeld => ?_)
       clear hK K;refine norm_ (a' := ?_) ?_ ?_;rotate_left
       ·
        show Act.put _ (some 59) _ = _
        simp only [Act.put, zA, zB, zD, i64_w, i32_w]
        rfl
       exact norm_ (by simp only [putAll, Act.put, List.setIfInBounds_toArray, List.set_cons_zero, List.set_cons_succ]) (hCont (v253) _ ⟨hHeld, (zP (Kd.R_mono HO254.out (fun _ hk => hk.2))), (zP (zM HO_3.out)), y8, zh, zb⟩)
      ·
       skip
       refine Kd.R_lit_step Kd.string _ 9 ?hg (N := 59) ?hd (xs := ([(⟨#[46]⟩ : ByteArray), (⟨#[111]⟩ : ByteArray)] : List ByteArray)) (inner := [.string (⟨#[46]⟩ : ByteArray), .string (⟨#[111]⟩ : ByteArray)]) (ok := fun _ => True) (okp := fun _ => True) ?hr ?hp (fun _ hk => hk) trivial (Below.refl _ _) (Nat.le_refl _) (by simp) ?_; (case hd => rfl); (case hg => rfl); (case hr => first | (go_simp; done) | (go_simp; rfl)); (case hp => exact (Reps.one (show Kd.M Kd.string _ _ _ (⟨#[46]⟩ : ByteArray) [.string (⟨#[46]⟩ : ByteArray)] from rfl) (Reps.one (show Kd.M Kd.string _ _ _ (⟨#[111]⟩ : ByteArray) [.string (⟨#[111]⟩ : ByteArray)] from rfl) (Reps.none _ _))))
       intro v253 w36 ho37 hb hg_ hnew_;have HS0_ := (hb.cell (World.block_lt_of_cell? _ _ (hHeld))).trans (hHeld);clear hg_ hnew_;(first | rw [← Ny252.out] at ho37 | (simp only [Int.reduceToNat] at ho37; rw [← Ny252.out] at ho37));have n0_ := zm (Kd.R_elder' (zP HO_3.out) (Kd.R_base ho37) hb);have n1_ := zm (Kd.R_lower (Kd.R_new' ho37 (Kd.R_lt (zP HO_3.out))) (keep_size (w := w) (g := g) (row := none) zh));have n2_ := zm (j4.below y8 hb);have n3_ := zm (KeepBut.trans zh (KeepBut.of_below hb g none) (.inl rfl));have n4_ := zm (below_step zb hb);clear HO_3;clear HI0;clear HK;clear HB;have HO_3 := n0_;have HO254 := n1_;have HI0 := n2_;have HK := n3_;have HB := n4_;clear n0_ n1_ n2_ n3_ n4_;clear hb ho37;refine hK.out _ _ (HS0_) (fun hHeld => ?_)
       clear hK K;refine norm_ (a' := ?_) ?_ ?_;rotate_left
       ·
        show Act.put _ (some 59) _ = _
        simp only [Act.put, zA, zB, zD, i64_w, i32_w]
        rfl
       refine one_ (i := 10) (N := some 57) #[T,T,T,T,T,T,T,T,T,T,T,T,T,F,F,F] rfl rfl (one_of HT_.out (by kernel_rfl)) (by decide) (fun K hK => ?_)
       refine goes_ Try.func94 (by kernel_rfl) rfl #[.pointer (some ⟨g, 0, none⟩), .int .i64 ((rdOf ByteArray.empty x3_1 0).size : Int)] (by rfl) rfl rfl (by (try simp only [List.map_toArray, List.map_cons, List.map_nil]); first | done | rfl | (simp only [List.length_drop, List.length_take]; rfl)) ?_
       with_reducible refine (j5.calls g s0_0 t246 t247 ((rdOf ByteArray.empty x3_1 0).size : Int) t249 t250 t251 w0 _ ?side1 ?side2 A29.out).mono ?_
       (case side1 => exact y8)
       (case side2 => exact zb)
       rintro e w38 ⟨rfl, hi, hb, hk⟩;have HS0_ := keep_cell hk (hHeld) (by first | (rw [add_block]; exact Kd.own_blk (j4.own_ne HI0.out HO_3.out (by decide))) | (show (Addr.add _ _).block ≠ _; rw [add_block]; exact Kd.own_blk (j4.own_ne HI0.out HO_3.out (by decide))) | exact Kd.own_blk (j4.own_ne HI0.out HO_3.out (by decide)));refine ⟨_, rfl, ?_⟩
       have n0_ := zm (Kd.R_mono (Kd.R_keep (j4.apart (show j4 w0 _ g s0_0 t246 t247 from y8) (zP HO_3.out) (by decide)) hk (fun _ h => h.2)) (fun _ h => h.1));have n1_ := zm (Kd.R_mono (Kd.R_keep (j4.apart (show j4 w0 _ g s0_0 t246 t247 from y8) (zP HO254.out) (by decide)) hk (fun _ h => h.2)) (fun _ h => h.1));have n2_ := zm (KeepBut.trans zh hk (.inl rfl));have n3_ := zm (hb);have n4_ := zm (hi);clear HO_3;clear HO254;clear HK;clear HB;clear HI0;have HO_3 := n0_;have HO254 := n1_;have HK := n2_;have HB := n3_;have HI0 := n4_;clear n0_ n1_ n2_ n3_ n4_;(try clear hb);(try clear hk);(try clear hi);refine hK.out _ _ (HS0_) (fun hHeld => ?_)
       clear hK K;refine norm_ (a' := ?_) ?_ ?_;rotate_left
       ·
        show Act.put _ (some 57) _ = _
        simp only [Act.put, zA, zB, zD, i64_w, i32_w]
        rfl
       exact norm_ (by simp only [putAll, Act.put, List.setIfInBounds_toArray, List.set_cons_zero, List.set_cons_succ]) (hCont (v253) _ ⟨hHeld, (zP (Kd.R_mono HO254.out (fun _ hk => hk.2))), (zP (zM HO_3.out)), y8, zh, zb⟩)
     ·
      skip
      refine Kd.R_lit_step Kd.string _ 9 ?hg (N := 59) ?hd (xs := ([(⟨#[46]⟩ : ByteArray), (⟨#[111]⟩ : ByteArray)] : List ByteArray)) (inner := [.string (⟨#[46]⟩ : ByteArray), .string (⟨#[111]⟩ : ByteArray)]) (ok := fun _ => True) (okp := fun _ => True) ?hr ?hp (fun _ hk => hk) trivial (Below.refl _ _) (Nat.le_refl _) (by simp) ?_; (case hd => rfl); (case hg => rfl); (case hr => first | (go_simp; done) | (go_simp; rfl)); (case hp => exact (Reps.one (show Kd.M Kd.string _ _ _ (⟨#[46]⟩ : ByteArray) [.string (⟨#[46]⟩ : ByteArray)] from rfl) (Reps.one (show Kd.M Kd.string _ _ _ (⟨#[111]⟩ : ByteArray) [.string (⟨#[111]⟩ : ByteArray)] from rfl) (Reps.none _ _))))
      intro v253 w35 ho36 hb hg_ hnew_;have HS0_ := (hb.cell (World.block_lt_of_cell? _ _ (hHeld))).trans (hHeld);clear hg_ hnew_;(first | rw [← Ny252.out] at ho36 | (simp only [Int.reduceToNat] at ho36; rw [← Ny252.out] at ho36));have n0_ := zm (Kd.R_elder' (zP HO_3.out) (Kd.R_base ho36) hb);have n1_ := zm (Kd.R_lower (Kd.R_new' ho36 (Kd.R_lt (zP HO_3.out))) (keep_size (w := w) (g := g) (row := none) zh));have n2_ := zm (j4.below y8 hb);have n3_ := zm (KeepBut.trans zh (KeepBut.of_below hb g none) (.inl rfl));have n4_ := zm (below_step zb hb);clear HO_3;clear HI0;clear HK;clear HB;have HO_3 := n0_;have HO254 := n1_;have HI0 := n2_;have HK := n3_;have HB := n4_;clear n0_ n1_ n2_ n3_ n4_;clear hb ho36;refine hK.out _ _ (HS0_) (fun hHeld => ?_)
      clear hK K;refine norm_ (a' := ?_) ?_ ?_;rotate_left
      ·
       show Act.put _ (some 59) _ = _
       simp only [Act.put, zA, zB, zD, i64_w, i32_w]
       rfl
      refine one_ (i := 4) (N := some 51) #[T,T,T,T,T,T,T,T,T,T,F,T,T,F,F,F] rfl rfl (one_of HT_.out (by kernel_rfl)) (by decide) (fun K hK => ?_)
      refine goes_ Try.func94 (by kernel_rfl) rfl #[.pointer (some ⟨g, 0, none⟩), .int .i64 (x3_1.length : Int)] (by rfl) rfl rfl (by (try simp only [List.map_toArray, List.map_cons, List.map_nil]); first | done | rfl | (simp only [List.length_drop, List.length_take]; rfl)) ?_
      with_reducible refine (j5.calls g s0_0 t243 t244 (x3_1.length : Int) t245 t246 t247 w0 _ ?side1 ?side2 A27.out).mono ?_
      (case side1 => exact y8)
      (case side2 => exact zb)
      rintro e w37 ⟨rfl, hi, hb, hk⟩;have HS0_ := keep_cell hk (hHeld) (by first | (rw [add_block]; exact Kd.own_blk (j4.own_ne HI0.out HO_3.out (by decide))) | (show (Addr.add _ _).block ≠ _; rw [add_block]; exact Kd.own_blk (j4.own_ne HI0.out HO_3.out (by decide))) | exact Kd.own_blk (j4.own_ne HI0.out HO_3.out (by decide)));refine ⟨_, rfl, ?_⟩
      have n0_ := zm (Kd.R_mono (Kd.R_keep (j4.apart (show j4 w0 _ g s0_0 t243 t244 from y8) (zP HO_3.out) (by decide)) hk (fun _ h => h.2)) (fun _ h => h.1));have n1_ := zm (Kd.R_mono (Kd.R_keep (j4.apart (show j4 w0 _ g s0_0 t243 t244 from y8) (zP HO254.out) (by decide)) hk (fun _ h => h.2)) (fun _ h => h.1));have n2_ := zm (KeepBut.trans zh hk (.inl rfl));have n3_ := zm (hb);have n4_ := zm (hi);clear HO_3;clear HO254;clear HK;clear HB;clear HI0;have HO_3 := n0_;have HO254 := n1_;have HK := n2_;have HB := n3_;have HI0 := n4_;clear n0_ n1_ n2_ n3_ n4_;(try clear hb);(try clear hk);(try clear hi);refine hK.out _ _ (HS0_) (fun hHeld => ?_)
      clear hK K;refine norm_ (a' := ?_) ?_ ?_;rotate_left
      ·
       show Act.put _ (some 51) _ = _
       simp only [Act.put, zA, zB, zD, i64_w, i32_w]
       rfl
      refine one_ (i := 10) (N := some 57) #[T,T,T,T,T,T,T,T,T,T,T,T,T,F,F,F] rfl rfl (one_of HT_.out (by kernel_rfl)) (by decide) (fun K hK => ?_)
      refine goes_ Try.func94 (by kernel_rfl) rfl #[.pointer (some ⟨g, 0, none⟩), .int .i64 ((rdOf ByteArray.empty x3_1 0).size : Int)] (by rfl) rfl rfl (by (try simp only [List.map_toArray, List.map_cons, List.map_nil]); first | done | rfl | (simp only [List.length_drop, List.length_take]; rfl)) ?_
      with_reducible refine (j5.calls g s0_0 t246 t247 ((rdOf ByteArray.empty x3_1 0).size : Int) t249 t250 t251 w0 _ ?side1 ?side2 A29.out).mono ?_
      (case side1 => exact y8)
      (case side2 => exact zb)
      rintro e w38 ⟨rfl, hi, hb, hk⟩;have HS0_ := keep_cell hk (hHeld) (by first | (rw [add_block]; exact Kd.own_blk (j4.own_ne HI0.out HO_3.out (by decide))) | (show (Addr.add _ _).block ≠ _; rw [add_block]; exact Kd.own_blk (j4.own_ne HI0.out HO_3.out (by decide))) | exact Kd.own_blk (j4.own_ne HI0.out HO_3.out (by decide)));refine ⟨_, rfl, ?_⟩
      have n0_ := zm (Kd.R_mono (Kd.R_keep (j4.apart (show j4 w0 _ g s0_0 t246 t247 from y8) (zP HO_3.out) (by decide)) hk (fun _ h => h.2)) (fun _ h => h.1));have n1_ := zm (Kd.R_mono (Kd.R_keep (j4.apart (show j4 w0 _ g s0_0 t246 t247 from y8) (zP HO254.out) (by decide)) hk (fun _ h => h.2)) (fun _ h => h.1));have n2_ := zm (KeepBut.trans zh hk (.inl rfl));have n3_ := zm (hb);have n4_ := zm (hi);clear HO_3;clear HO254;clear HK;clear HB;clear HI0;have HO_3 := n0_;have HO254 := n1_;have HK := n2_;have HB := n3_;have HI0 := n4_;clear n0_ n1_ n2_ n3_ n4_;(try clear hb);(try clear hk);(try clear hi);refine hK.out _ _ (HS0_) (fun hHeld => ?_)
      clear hK K;refine norm_ (a' := ?_) ?_ ?_;rotate_left
      ·
       show Act.put _ (some 57) _ = _
       simp only [Act.put, zA, zB, zD, i64_w, i32_w]
       rfl
      exact norm_ (by simp only [putAll, Act.put, List.setIfInBounds_toArray, List.set_cons_zero, List.set_cons_succ]) (hCont (v253) _ ⟨hHeld, (zP (Kd.R_mono HO254.out (fun _ hk => hk.2))), (zP (zM HO_3.out)), y8, zh, zb⟩)
    rintro v253 w39 ⟨hS_, h0_, h1_, h2_, h3_, h4_⟩;have n0_ : Aside0 (Kd.R Kd.string 9 w39 w.heap.size (fun k_ => some k_ ≠ (.slice (some ad248) x3_1.length co33 : Value).ownBlock) v253 y252) := ⟨h0_⟩
    have n1_ : Aside0 (Kd.R Kd.string 9 w39 w.heap.size (fun k_ => some k_ ≠ (v253 : Value).ownBlock) (.slice (some ad248) x3_1.length co33) x3_1) := ⟨h1_⟩
    have n2_ : Aside0 (j4 w0 w39 g s0_0 t250 t251) := ⟨h2_⟩
    have n3_ : Aside0 (KeepBut w w39 g none) := ⟨h3_⟩
    have n4_ : Aside0 (Below w0.heap.size w0 w39) := ⟨h4_⟩
    clear HO_3;clear HI0;clear HK;clear HB;clear h0_ h1_ h2_ h3_ h4_;have HO254 := n0_;have HO_3 := n1_;have HI0 := n2_;have HK := n3_;have HB := n4_;clear n0_ n1_ n2_ n3_ n4_;have hHeld : w39.cell? ad248 = some (.string (rdOf ByteArray.empty x3_1 0)) := hS_
    obtain ⟨Ao40, co40, eo40⟩ := Kd.R_slice HO254.out;(first | subst eo40 | (injection eo40 with f1_ f2_ f3_; have f4_ := f1_.symm; have f5_ := f3_.symm; clear f1_ f2_ f3_; subst f4_; subst f5_));refine norm_ (a' := ?_) ?_ ?_;rotate_left
    ·
     simp only [putAll, Act.put, List.setIfInBounds_toArray, List.set_cons_zero, List.set_cons_succ]
     rfl
    refine one_ (i := 13) (N := some 60) #[T,T,T,T,T,T,T,T,T,T,T,T,T,T,F,F] rfl rfl (one_of HT_.out (by kernel_rfl)) (by decide) (fun K hK => ?_)
    refine goes_ Try.func108 (by kernel_rfl) rfl #[.pointer (some ⟨g, 0, none⟩), .slice Ao40 y252.length co40] (by rfl) rfl rfl (by (try simp only [List.map_toArray, List.map_cons, List.map_nil]); first | done | rfl | (simp only [List.length_drop, List.length_take]; rfl)) ?_
    with_reducible refine (K7.calls g s0_0 t250 t251 _ _ y252 t255 t256 t257 w0 _ ?side1 ?side2 ?side3 ?side4 ?side5 A30.out).mono ?_
    (case side1 => exact y8)
    (case side2 => exact zb)
    (case side3 => exact (Kd.R_reads' (zP HO254.out)).2.2)
    (case side4 => exact (Kd.R_reads' HO254.out).2.1)
    (case side5 => exact far_slice (j4.own_ne HI0.out HO254.out (by decide)))
    rintro e w41 ⟨rfl, hi, hb, hk⟩;have HS0_ := keep_cell hk (hHeld) (by first | (rw [add_block]; exact Kd.own_blk (j4.own_ne HI0.out HO_3.out (by decide))) | (show (Addr.add _ _).block ≠ _; rw [add_block]; exact Kd.own_blk (j4.own_ne HI0.out HO_3.out (by decide))) | exact Kd.own_blk (j4.own_ne HI0.out HO_3.out (by decide)));refine ⟨_, rfl, ?_⟩
    have n0_ := zm (Kd.R_mono (Kd.R_keep (j4.apart (show j4 w0 _ g s0_0 t250 t251 from y8) (zP HO_3.out) (by decide)) hk (fun _ h => h.2)) (fun _ h => h.1));have n1_ := zm (Kd.R_mono (Kd.R_keep (j4.apart (show j4 w0 _ g s0_0 t250 t251 from y8) (zP HO254.out) (by decide)) hk (fun _ h => h.2)) (fun _ h => h.1));have n2_ := zm (KeepBut.trans zh hk (.inl rfl));have n3_ := zm (hb);have n4_ := zm (hi);clear HO_3;clear HO254;clear HK;clear HB;clear HI0;have HO_3 := n0_;have HO254 := n1_;have HK := n2_;have HB := n3_;have HI0 := n4_;clear n0_ n1_ n2_ n3_ n4_;(try clear hb);(try clear hk);(try clear hi);refine hK.out _ _ (HS0_) (fun hHeld => ?_)
    clear hK K;refine norm_ (a' := ?_) ?_ ?_;rotate_left
    ·
     show Act.put _ (some 60) _ = _
     simp only [Act.put, zA, zB, zD, i64_w, i32_w]
     rfl
    refine one_ (i := 14) (N := some 61) #[T,T,T,T,T,T,T,T,T,T,T,T,T,T,T,F] rfl rfl (one_of HT_.out (by kernel_rfl)) (by decide) (fun K hK => ?_)
    refine goes_ Try.func72 (by kernel_rfl) rfl #[.slice (some ad248) x3_1.length co33, .int .i64 t245, .int .i64 t249, .string t255] (by rfl) rfl rfl (by (try simp only [List.map_toArray, List.map_cons, List.map_nil]); first | done | rfl | (simp only [List.length_drop, List.length_take]; rfl)) ?_
    with_reducible refine (Y2.calls _ _ x3_1 t245 t249 t255 t258 _ ?side1 ?side2 A31.out).mono ?_
    (case side1 => exact (Kd.R_reads' (zP HO_3.out)).2.2)
    (case side2 => exact (Kd.R_reads' HO_3.out).2.1)
    rintro e w42 ⟨v259, rfl, ho0, hb⟩;have HS0_ := (hb.cell (World.block_lt_of_cell? _ _ (hHeld))).trans (hHeld);refine ⟨_, rfl, ?_⟩
    have n0_ := zm (Kd.R_elder' (zP HO_3.out) (Kd.R_base ho0) hb);have n1_ := zm (Kd.R_elder' (zP HO254.out) (Kd.R_base ho0) hb);have n2_ := zm (Kd.R_lower (Kd.R_new' (Kd.R_new' ho0 (Kd.R_lt (zP HO_3.out))) (Kd.R_lt (zP HO254.out))) (keep_size (w := w) (g := g) (row := none) zh));have n3_ := zm (j4.below y8 hb);have n4_ := zm (KeepBut.trans zh (KeepBut.of_below hb g none) (.inl rfl));have n5_ := zm (below_step zb hb);clear HO_3;clear HO254;clear HI0;clear HK;clear HB;have HO_3 := n0_;have HO254 := n1_;have HO260 := n2_;have HI0 := n3_;have HK := n4_;have HB := n5_;clear n0_ n1_ n2_ n3_ n4_ n5_;(try clear hb);(try clear ho0);refine hK.out _ _ (HS0_) (fun hHeld => ?_)
    clear hK K;refine norm_ (a' := ?_) ?_ ?_;rotate_left
    ·
     show Act.put _ (some 61) _ = _
     simp only [Act.put, zA, zB, zD, i64_w, i32_w]
     rfl
    refine zU 15 3 #[T,T,T,T,T,T,T,T,T,T,T,T,T,T,T,T] ?_;refine done_ (done_of HT_.out (by kernel_rfl)) ?_
    try go_wp2
    go_ret
    exact ⟨_, zr, zP (Kd.R_mono HO260.out (fun _ hk => trivial)), y8, zb, zh⟩
   rw [if_neg c26] at H;have c26b0 : (t242 == 0) = false := beq_eq_false_iff_ne.mpr c26;have c26b1 : (t242 != 0) = true := bne_iff_ne.mpr c26;by_cases c43 : t242 = 1
   rotate_left
   ·
    rw [if_neg c43] at H;have c43b0 : (t242 == 1) = false := beq_eq_false_iff_ne.mpr c43;have c43b1 : (t242 != 1) = true := bne_iff_ne.mpr c43;simp only [Option.some.injEq, Prod.mk.injEq] at H;obtain ⟨rfl, rfl, rfl⟩ := H;go_wp2_with (first | ((with_reducible refine gate_callee (f := 94) rfl ?_); refine goesA_ (some 44) Try.func94 #[.pointer (some ⟨g, 0, none⟩), .int .i64 6] rfl ?_; (with_reducible refine (j5.calls g s0_0 x1001_1 x1002_1 6 t242 t243 t244 w0 _ ?side1 ?side2 A25.out).mono ?_); (case side1 => exact y8); (case side2 => exact zb); rintro e w65 ⟨rfl, hi, hb, hk⟩; refine ⟨_, rfl, ?_⟩; replace HO_3 := zm (Kd.R_mono (Kd.R_keep (j4.apart (show j4 w0 _ g s0_0 x1001_1 x1002_1 from y8) (zP HO_3.out) (by decide)) hk (fun _ h => h.2)) (fun _ h => h.1)); replace HK := zm (KeepBut.trans zh hk (.inl rfl)); replace HB := zm (hb); replace HI0 := zm (hi); (try clear hb); (try clear hk); (try clear hi)))
    go_ret
    exact ⟨_, zr, zP HO_3.out, y8, zb, zh⟩
   rw [if_pos c43] at H;have c43b0 : (t242 == 1) = true := beq_iff_eq.mpr c43;have c43b1 : (t242 != 1) = false := bne_eq_false_iff_eq.mpr c43;clear c43;obtain ⟨⟨t261, t262, t263⟩, A44, H⟩ := zI H;(try dsimp only at H);by_cases c45 : t261 = true
   rotate_left
   ·
    replace c45 := Bool.eq_false_iff.mpr c45;subst c45;rw [if_neg (show ¬ (false = true) by decide)] at H;simp only [Option.some.injEq, Prod.mk.injEq] at H;obtain ⟨rfl, rfl, rfl⟩ := H;go_wp2_with (first | ((with_reducible refine gate_callee (f := 94) rfl ?_); refine goesA_ (some 44) Try.func94 #[.pointer (some ⟨g, 0, none⟩), .int .i64 6] rfl ?_; (with_reducible refine (j5.calls g s0_0 x1001_1 x1002_1 6 t242 t243 t244 w0 _ ?side1 ?side2 A25.out).mono ?_); (case side1 => exact y8); (case side2 => exact zb); rintro e w63 ⟨rfl, hi, hb, hk⟩; refine ⟨_, rfl, ?_⟩; replace HO_3 := zm (Kd.R_mono (Kd.R_keep (j4.apart (show j4 w0 _ g s0_0 x1001_1 x1002_1 from y8) (zP HO_3.out) (by decide)) hk (fun _ h => h.2)) (fun _ h => h.1)); replace HK := zm (KeepBut.trans zh hk (.inl rfl)); replace HB := zm (hb); replace HI0 := zm (hi); (try clear hb); (try clear hk); (try clear hi)) | ((with_reducible refine gate_callee (f := 106) rfl ?_); refine goesA_ (some 65) Try.func106 #[.pointer (some ⟨g, 0, none⟩), .int .i64 4] rfl ?_; (with_reducible refine (Q7.calls g s0_0 t243 t244 4 false t262 t263 w0 _ ?side1 ?side2 A44.out).mono ?_); (case side1 => exact y8); (case side2 => exact zb); rintro e w64 ⟨rfl, hi, hb, hk⟩; refine ⟨_, rfl, ?_⟩; replace HO_3 := zm (Kd.R_mono (Kd.R_keep (j4.apart (show j4 w0 _ g s0_0 t243 t244 from y8) (zP HO_3.out) (by decide)) hk (fun _ h => h.2)) (fun _ h => h.1)); replace HK := zm (KeepBut.trans zh hk (.inl rfl)); replace HB := zm (hb); replace HI0 := zm (hi); (try clear hb); (try clear hk); (try clear hi)))
    go_ret
    exact ⟨_, zr, zP HO_3.out, y8, zb, zh⟩
   subst c45;rw [if_pos rfl] at H;obtain ⟨⟨t264, t265, t266⟩, A46, H⟩ := zI H;(try dsimp only at H);obtain ⟨c47, H⟩ := zJ H;have c47b0 := decide_eq_true c47;have c47b1 : decide (0 < x3_1.length) = true := decide_eq_true (by omega);clear c47;obtain ⟨⟨t268, t269, t270⟩, A48, H⟩ := zI H;(try dsimp only at H);obtain ⟨y271, hy271⟩ : ∃ y_ : List ByteArray, y_ = (([(⟨#[120]⟩ : ByteArray), (⟨#[32]⟩ : ByteArray)] : List ByteArray)) := ⟨_, rfl⟩;(first | (rw [← hy271] at H; with_reducible replace H := zO H) | rw [← hy271] at H);have Ny271 := zm hy271;clear hy271;obtain ⟨⟨t274, t275, t276⟩, A49, H⟩ := zI H;(try dsimp only at H);obtain ⟨t277, A50, H⟩ := zI H;(try dsimp only at H);simp only [Option.some.injEq, Prod.mk.injEq] at H;obtain ⟨rfl, rfl, rfl⟩ := H;try go_wp2_with (first | ((with_reducible refine gate_callee (f := 94) rfl ?_); refine goesA_ (some 44) Try.func94 #[.pointer (some ⟨g, 0, none⟩), .int .i64 6] rfl ?_; (with_reducible refine (j5.calls g s0_0 x1001_1 x1002_1 6 t242 t243 t244 w0 _ ?side1 ?side2 A25.out).mono ?_); (case side1 => exact y8); (case side2 => exact zb); rintro e w51 ⟨rfl, hi, hb, hk⟩; refine ⟨_, rfl, ?_⟩; replace HO_3 := zm (Kd.R_mono (Kd.R_keep (j4.apart (show j4 w0 _ g s0_0 x1001_1 x1002_1 from y8) (zP HO_3.out) (by decide)) hk (fun _ h => h.2)) (fun _ h => h.1)); replace HK := zm (KeepBut.trans zh hk (.inl rfl)); replace HB := zm (hb); replace HI0 := zm (hi); (try clear hb); (try clear hk); (try clear hi)) | ((with_reducible refine gate_callee (f := 106) rfl ?_); refine goesA_ (some 65) Try.func106 #[.pointer (some ⟨g, 0, none⟩), .int .i64 4] rfl ?_; (with_reducible refine (Q7.calls g s0_0 t243 t244 4 true t262 t263 w0 _ ?side1 ?side2 A44.out).mono ?_); (case side1 => exact y8); (case side2 => exact zb); rintro e w52 ⟨rfl, hi, hb, hk⟩; refine ⟨_, rfl, ?_⟩; replace HO_3 := zm (Kd.R_mono (Kd.R_keep (j4.apart (show j4 w0 _ g s0_0 t243 t244 from y8) (zP HO_3.out) (by decide)) hk (fun _ h => h.2)) (fun _ h => h.1)); replace HK := zm (KeepBut.trans zh hk (.inl rfl)); replace HB := zm (hb); replace HI0 := zm (hi); (try clear hb); (try clear hk); (try clear hi); obtain ⟨Ao53, co53, eo53⟩ := Kd.R_slice HO_3.out; subst eo53))
   have n0_ := zm (Kd.R_drew HO_3.out);have n1_ := zm (j4.drew HI0.out);have n2_ := zm (keep_drew HK.out);have n3_ := zm (below_drew1 HB.out);clear HO_3;clear HI0;clear HK;clear HB;have HO_3 := n0_;have HI0 := n1_;have HK := n2_;have HB := n3_;clear n0_ n1_ n2_ n3_;have p267 : 0 ≤ (0 : Int) := (by omega);have q267 : 0 < (x3_1.length : Int) := zd;obtain ⟨ad267, e267, hx267_0⟩ := Kd.at_string (Kd.R_reads' HO_3.out).2.2 0 p267 q267;cases e267;have qi267 : (0 < x3_1.length) = True := eq_true (by omega)
   (try rw [show ((0 : Int)).toNat = 0 from rfl] at hx267_0);(try rw [Addr.add_zero'] at hx267_0);replace p267 := eq_true p267;replace q267 := eq_true q267;refine start_ (n := 16) (S := fun w' => w'.cell? ad267 = some (.string (rdOf ByteArray.empty x3_1 0))) (ds := []) #[F,F,F,F,F,F,F,F,F,F,F,F,F,F,F,F] (by kernel_rfl) rfl rfl (hx267_0) (fun hHeld => ?_); refine with_tabW d9.q3o d9.q2e (fun HT_ HW_ => ?_)
   generalize w52.drew = w54 at HO_3 HI0 HK HB hx267_0 hHeld ⊢;refine zU 0 66 #[T,F,F,F,F,F,F,F,F,F,F,F,F,F,F,F] ?_;refine zU 1 67 #[T,T,F,F,F,F,F,F,F,F,F,F,F,F,F,F] ?_;refine zU 2 68 #[T,T,T,F,F,F,F,F,F,F,F,F,F,F,F,F] ?_;refine zU 3 69 #[T,T,T,T,F,F,F,F,F,F,F,F,F,F,F,F] ?_;refine zU 5 71 #[T,T,T,T,F,T,F,F,F,F,F,F,F,F,F,F] ?_;refine zU 6 72 #[T,T,T,T,F,T,T,F,F,F,F,F,F,F,F,F] ?_;refine zU 7 73 #[T,T,T,T,F,T,T,T,F,F,F,F,F,F,F,F] ?_;refine zU 11 77 #[T,T,T,T,F,T,T,T,F,F,F,T,F,F,F,F] ?_;refine take_ (i := 8) (N := some 74) (v := ?_) (a' := ?_) #[T,T,T,T,F,T,T,T,T,F,F,T,F,F,F,F] rfl rfl (take_ofW HT_.out HW_.out (by kernel_rfl)) (fun _ _ _ h => h) (Or.inl ⟨by rfl, ?_⟩) hHeld ?_ ?_
   rotate_left
   ·
    intro w' s0;go_simp
    with_reducible rfl
   rotate_left
   ·
    simp only [Act.put, zA, zB, zD, i64_w, i32_w]
    rfl
   refine zU 9 75 #[T,T,T,T,F,T,T,T,T,T,F,T,F,F,F,F] ?_;refine join_ (σ := Value) 3 #[T,T,T,T,T,T,T,T,T,T,T,T,T,F,F,F] (fun s_ => [(70, .int .i64 t264), (76, .int .i64 t268), (78, s_)]) (fun s_ w' => (w'.cell? ad267 = some (.string (rdOf ByteArray.empty x3_1 0))) ∧ (Kd.R Kd.string 9 w' w.heap.size (fun k_ => some k_ ≠ (.slice (some ad267) x3_1.length co53 : Value).ownBlock) s_ y271) ∧ (Kd.R Kd.string 9 w' w.heap.size (fun k_ => some k_ ≠ (s_ : Value).ownBlock) (.slice (some ad267) x3_1.length co53) x3_1) ∧ (j4 w0 w' g s0_0 t269 t270) ∧ (KeepBut w w' g none) ∧ (Below w0.heap.size w0 w')) ?_ ?_
   rotate_left
   ·
    intro hCont;refine two_ (i := 4) (j := 12) (Ni := some 70) (Nj := some 78) #[T,T,T,T,T,T,T,T,T,T,F,T,F,F,F,F] #[T,T,T,T,F,T,T,T,T,T,F,T,T,F,F,F] rfl rfl rfl rfl (two_of HT_.out (by kernel_rfl)) (by decide) (by decide) (fun K hK => ?_) (fun K hK => ?_)
    ·
     skip
     refine goes_ Try.func94 (by kernel_rfl) rfl #[.pointer (some ⟨g, 0, none⟩), .int .i64 (x3_1.length : Int)] (by rfl) rfl rfl (by (try simp only [List.map_toArray, List.map_cons, List.map_nil]); first | done | rfl | (simp only [List.length_drop, List.length_take]; rfl)) ?_
     with_reducible refine (j5.calls g s0_0 t262 t263 (x3_1.length : Int) t264 t265 t266 w0 _ ?side1 ?side2 A46.out).mono ?_
     (case side1 => exact y8)
     (case side2 => exact zb)
     rintro e w55 ⟨rfl, hi, hb, hk⟩;have HS0_ := keep_cell hk (hHeld) (by first | (rw [add_block]; exact Kd.own_blk (j4.own_ne HI0.out HO_3.out (by decide))) | (show (Addr.add _ _).block ≠ _; rw [add_block]; exact Kd.own_blk (j4.own_ne HI0.out HO_3.out (by decide))) | exact Kd.own_blk (j4.own_ne HI0.out HO_3.out (by decide)));refine ⟨_, rfl, ?_⟩
     have n0_ := zm (Kd.R_mono (Kd.R_keep (j4.apart (show j4 w0 _ g s0_0 t262 t263 from y8) (zP HO_3.out) (by decide)) hk (fun _ h => h.2)) (fun _ h => h.1));have n1_ := zm (KeepBut.trans zh hk (.inl rfl));have n2_ := zm (hb);have n3_ := zm (hi);clear HO_3;clear HK;clear HB;clear HI0;have HO_3 := n0_;have HK := n1_;have HB := n2_;have HI0 := n3_;clear n0_ n1_ n2_ n3_;(try clear hb);(try clear hk);(try clear hi);refine hK.out _ _ (HS0_) (fun hHeld => ?_)
     clear hK K;refine norm_ (a' := ?_) ?_ ?_;rotate_left
     ·
      show Act.put _ (some 70) _ = _
      simp only [Act.put, zA, zB, zD, i64_w, i32_w]
      rfl
     refine two_ (i := 10) (j := 12) (Ni := some 76) (Nj := some 78) #[T,T,T,T,T,T,T,T,T,T,T,T,F,F,F,F] #[T,T,T,T,T,T,T,T,T,T,F,T,T,F,F,F] rfl rfl rfl rfl (two_of HT_.out (by kernel_rfl)) (by decide) (by decide) (fun K hK => ?_) (fun K hK => ?_)
     ·
      skip
      refine goes_ Try.func94 (by kernel_rfl) rfl #[.pointer (some ⟨g, 0, none⟩), .int .i64 ((rdOf ByteArray.empty x3_1 0).size : Int)] (by rfl) rfl rfl (by (try simp only [List.map_toArray, List.map_cons, List.map_nil]); first | done | rfl | (simp only [List.length_drop, List.length_take]; rfl)) ?_
      with_reducible refine (j5.calls g s0_0 t265 t266 ((rdOf ByteArray.empty x3_1 0).size : Int) t268 t269 t270 w0 _ ?side1 ?side2 A48.out).mono ?_
      (case side1 => exact y8)
      (case side2 => exact zb)
      rintro e w56 ⟨rfl, hi, hb, hk⟩;have HS0_ := keep_cell hk (hHeld) (by first | (rw [add_block]; exact Kd.own_blk (j4.own_ne HI0.out HO_3.out (by decide))) | (show (Addr.add _ _).block ≠ _; rw [add_block]; exact Kd.own_blk (j4.own_ne HI0.out HO_3.out (by decide))) | exact Kd.own_blk (j4.own_ne HI0.out HO_3.out (by decide)));refine ⟨_, rfl, ?_⟩
      have n0_ := zm (Kd.R_mono (Kd.R_keep (j4.apart (show j4 w0 _ g s0_0 t265 t266 from y8) (zP HO_3.out) (by decide)) hk (fun _ h => h.2)) (fun _ h => h.1));have n1_ := zm (KeepBut.trans zh hk (.inl rfl));have n2_ := zm (hb);have n3_ := zm (hi);clear HO_3;clear HK;clear HB;clear HI0;have HO_3 := n0_;have HK := n1_;have HB := n2_;have HI0 := n3_;clear n0_ n1_ n2_ n3_;(try clear hb);(try clear hk);(try clear hi);refine hK.out _ _ (HS0_) (fun hHeld => ?_)
      clear hK K;refine norm_ (a' := ?_) ?_ ?_;rotate_left
      ·
       show Act.put _ (some 76) _ = _
       simp only [Act.put, zA, zB, zD, i64_w, i32_w]
       rfl
      refine one_ (i := 12) (N := some 78) #[T,T,T,T,T,T,T,T,T,T,T,T,T,F,F,F] rfl rfl (one_of HT_.out (by kernel_rfl)) (by decide) (fun K hK => ?_)
      refine Kd.R_lit_step Kd.string _ 9 ?hg (N := 78) ?hd (xs := ([(⟨#[120]⟩ : ByteArray), (⟨#[32]⟩ : ByteArray)] : List ByteArray)) (inner := [.string (⟨#[120]⟩ : ByteArray), .string (⟨#[32]⟩ : ByteArray)]) (ok := fun _ => True) (okp := fun _ => True) ?hr ?hp (fun _ hk => hk) trivial (Below.refl _ _) (Nat.le_refl _) (by simp) ?_; (case hd => rfl); (case hg => rfl); (case hr => first | (go_simp; done) | (go_simp; rfl)); (case hp => exact (Reps.one (show Kd.M Kd.string _ _ _ (⟨#[120]⟩ : ByteArray) [.string (⟨#[120]⟩ : ByteArray)] from rfl) (Reps.one (show Kd.M Kd.string _ _ _ (⟨#[32]⟩ : ByteArray) [.string (⟨#[32]⟩ : ByteArray)] from rfl) (Reps.none _ _))))
      intro v272 w57 ho58 hb hg_ hnew_;have HS0_ := (hb.cell (World.block_lt_of_cell? _ _ (hHeld))).trans (hHeld);clear hg_ hnew_;(first | rw [← Ny271.out] at ho58 | (simp only [Int.reduceToNat] at ho58; rw [← Ny271.out] at ho58));have n0_ := zm (Kd.R_elder' (zP HO_3.out) (Kd.R_base ho58) hb);have n1_ := zm (Kd.R_lower (Kd.R_new' ho58 (Kd.R_lt (zP HO_3.out))) (keep_size (w := w) (g := g) (row := none) zh));have n2_ := zm (j4.below y8 hb);have n3_ := zm (KeepBut.trans zh (KeepBut.of_below hb g none) (.inl rfl));have n4_ := zm (below_step zb hb);clear HO_3;clear HI0;clear HK;clear HB;have HO_3 := n0_;have HO273 := n1_;have HI0 := n2_;have HK := n3_;have HB := n4_;clear n0_ n1_ n2_ n3_ n4_;clear hb ho58;refine hK.out _ _ (HS0_) (fun hHeld => ?_)
      clear hK K;refine norm_ (a' := ?_) ?_ ?_;rotate_left
      ·
       show Act.put _ (some 78) _ = _
       simp only [Act.put, zA, zB, zD, i64_w, i32_w]
       rfl
      exact norm_ (by simp only [putAll, Act.put, List.setIfInBounds_toArray, List.set_cons_zero, List.set_cons_succ]) (hCont (v272) _ ⟨hHeld, (zP (Kd.R_mono HO273.out (fun _ hk => hk.2))), (zP (zM HO_3.out)), y8, zh, zb⟩)
     ·
      skip
      refine Kd.R_lit_step Kd.string _ 9 ?hg (N := 78) ?hd (xs := ([(⟨#[120]⟩ : ByteArray), (⟨#[32]⟩ : ByteArray)] : List ByteArray)) (inner := [.string (⟨#[120]⟩ : ByteArray), .string (⟨#[32]⟩ : ByteArray)]) (ok := fun _ => True) (okp := fun _ => True) ?hr ?hp (fun _ hk => hk) trivial (Below.refl _ _) (Nat.le_refl _) (by simp) ?_; (case hd => rfl); (case hg => rfl); (case hr => first | (go_simp; done) | (go_simp; rfl)); (case hp => exact (Reps.one (show Kd.M Kd.string _ _ _ (⟨#[120]⟩ : ByteArray) [.string (⟨#[120]⟩ : ByteArray)] from rfl) (Reps.one (show Kd.M Kd.string _ _ _ (⟨#[32]⟩ : ByteArray) [.string (⟨#[32]⟩ : ByteArray)] from rfl) (Reps.none _ _))))
      intro v272 w56 ho57 hb hg_ hnew_;have HS0_ := (hb.cell (World.block_lt_of_cell? _ _ (hHeld))).trans (hHeld);clear hg_ hnew_;(first | rw [← Ny271.out] at ho57 | (simp only [Int.reduceToNat] at ho57; rw [← Ny271.out] at ho57));have n0_ := zm (Kd.R_elder' (zP HO_3.out) (Kd.R_base ho57) hb);have n1_ := zm (Kd.R_lower (Kd.R_new' ho57 (Kd.R_lt (zP HO_3.out))) (keep_size (w := w) (g := g) (row := none) zh));have n2_ := zm (j4.below y8 hb);have n3_ := zm (KeepBut.trans zh (KeepBut.of_below hb g none) (.inl rfl));have n4_ := zm (below_step zb hb);clear HO_3;clear HI0;clear HK;clear HB;have HO_3 := n0_;have HO273 := n1_;have HI0 := n2_;have HK := n3_;have HB := n4_;clear n0_ n1_ n2_ n3_ n4_;clear hb ho57;refine hK.out _ _ (HS0_) (fun hHeld => ?_)
      clear hK K;refine norm_ (a' := ?_) ?_ ?_;rotate_left
      ·
       show Act.put _ (some 78) _ = _
       simp only [Act.put, zA, zB, zD, i64_w, i32_w]
       rfl
      refine one_ (i := 10) (N := some 76) #[T,T,T,T,T,T,T,T,T,T,T,T,T,F,F,F] rfl rfl (one_of HT_.out (by kernel_rfl)) (by decide) (fun K hK => ?_)
      refine goes_ Try.func94 (by kernel_rfl) rfl #[.pointer (some ⟨g, 0, none⟩), .int .i64 ((rdOf ByteArray.empty x3_1 0).size : Int)] (by rfl) rfl rfl (by (try simp only [List.map_toArray, List.map_cons, List.map_nil]); first | done | rfl | (simp only [List.length_drop, List.length_take]; rfl)) ?_
      with_reducible refine (j5.calls g s0_0 t265 t266 ((rdOf ByteArray.empty x3_1 0).size : Int) t268 t269 t270 w0 _ ?side1 ?side2 A48.out).mono ?_
      (case side1 => exact y8)
      (case side2 => exact zb)
      rintro e w58 ⟨rfl, hi, hb, hk⟩;have HS0_ := keep_cell hk (hHeld) (by first | (rw [add_block]; exact Kd.own_blk (j4.own_ne HI0.out HO_3.out (by decide))) | (show (Addr.add _ _).block ≠ _; rw [add_block]; exact Kd.own_blk (j4.own_ne HI0.out HO_3.out (by decide))) | exact Kd.own_blk (j4.own_ne HI0.out HO_3.out (by decide)));refine ⟨_, rfl, ?_⟩
      have n0_ := zm (Kd.R_mono (Kd.R_keep (j4.apart (show j4 w0 _ g s0_0 t265 t266 from y8) (zP HO_3.out) (by decide)) hk (fun _ h => h.2)) (fun _ h => h.1));have n1_ := zm (Kd.R_mono (Kd.R_keep (j4.apart (show j4 w0 _ g s0_0 t265 t266 from y8) (zP HO273.out) (by decide)) hk (fun _ h => h.2)) (fun _ h => h.1));have n2_ := zm (KeepBut.trans zh hk (.inl rfl));have n3_ := zm (hb);have n4_ := zm (hi);clear HO_3;clear HO273;clear HK;clear HB;clear HI0;have HO_3 := n0_;have HO273 := n1_;have HK := n2_;have HB := n3_;have HI0 := n4_;clear n0_ n1_ n2_ n3_ n4_;(try clear hb);(try clear hk);(try clear hi);refine hK.out _ _ (HS0_) (fun hHeld => ?_)
      clear hK K;refine norm_ (a' := ?_) ?_ ?_;rotate_left
      ·
       show Act.put _ (some 76) _ = _
       simp only [Act.put, zA, zB, zD, i64_w, i32_w]
       rfl
      exact norm_ (by simp only [putAll, Act.put, List.setIfInBounds_toArray, List.set_cons_zero, List.set_cons_succ]) (hCont (v272) _ ⟨hHeld, (zP (Kd.R_mono HO273.out (fun _ hk => hk.2))), (zP (zM HO_3.out)), y8, zh, zb⟩)
    ·
     skip
     refine Kd.R_lit_step Kd.string _ 9 ?hg (N := 78) ?hd (xs := ([(⟨#[120]⟩ : ByteArray), (⟨#[32]⟩ : ByteArray)] : List ByteArray)) (inner := [.string (⟨#[120]⟩ : ByteArray), .string (⟨#[32]⟩ : ByteArray)]) (ok := fun _ => True) (okp := fun _ => True) ?hr ?hp (fun _ hk => hk) trivial (Below.refl _ _) (Nat.le_refl _) (by simp) ?_; (case hd => rfl); (case hg => rfl); (case hr => first | (go_simp; done) | (go_simp; rfl)); (case hp => exact (Reps.one (show Kd.M Kd.string _ _ _ (⟨#[120]⟩ : ByteArray) [.string (⟨#[120]⟩ : ByteArray)] from rfl) (Reps.one (show Kd.M Kd.string _ _ _ (⟨#[32]⟩ : ByteArray) [.string (⟨#[32]⟩ : ByteArray)] from rfl) (Reps.none _ _))))
     intro v272 w55 ho56 hb hg_ hnew_;have HS0_ := (hb.cell (World.block_lt_of_cell? _ _ (hHeld))).trans (hHeld);clear hg_ hnew_;(first | rw [← Ny271.out] at ho56 | (simp only [Int.reduceToNat] at ho56; rw [← Ny271.out] at ho56));have n0_ := zm (Kd.R_elder' (zP HO_3.out) (Kd.R_base ho56) hb);have n1_ := zm (Kd.R_lower (Kd.R_new' ho56 (Kd.R_lt (zP HO_3.out))) (keep_size (w := w) (g := g) (row := none) zh));have n2_ := zm (j4.below y8 hb);have n3_ := zm (KeepBut.trans zh (KeepBut.of_below hb g none) (.inl rfl));have n4_ := zm (below_step zb hb);clear HO_3;clear HI0;clear HK;clear HB;have HO_3 := n0_;have HO273 := n1_;have HI0 := n2_;have HK := n3_;have HB := n4_;clear n0_ n1_ n2_ n3_ n4_;clear hb ho56;refine hK.out _ _ (HS0_) (fun hHeld => ?_)
     clear hK K;refine norm_ (a' := ?_) ?_ ?_;rotate_left
     ·
      show Act.put _ (some 78) _ = _
      simp only [Act.put, zA, zB, zD, i64_w, i32_w]
      rfl
     refine one_ (i := 4) (N := some 70) #[T,T,T,T,T,T,T,T,T,T,F,T,T,F,F,F] rfl rfl (one_of HT_.out (by kernel_rfl)) (by decide) (fun K hK => ?_)
     refine goes_ Try.func94 (by kernel_rfl) rfl #[.pointer (some ⟨g, 0, none⟩), .int .i64 (x3_1.length : Int)] (by rfl) rfl rfl (by (try simp only [List.map_toArray, List.map_cons, List.map_nil]); first | done | rfl | (simp only [List.length_drop, List.length_take]; rfl)) ?_
     with_reducible refine (j5.calls g s0_0 t262 t263 (x3_1.length : Int) t264 t265 t266 w0 _ ?side1 ?side2 A46.out).mono ?_
     (case side1 => exact y8)
     (case side2 => exact zb)
     rintro e w57 ⟨rfl, hi, hb, hk⟩;have HS0_ := keep_cell hk (hHeld) (by first | (rw [add_block]; exact Kd.own_blk (j4.own_ne HI0.out HO_3.out (by decide))) | (show (Addr.add _ _).block ≠ _; rw [add_block]; exact Kd.own_blk (j4.own_ne HI0.out HO_3.out (by decide))) | exact Kd.own_blk (j4.own_ne HI0.out HO_3.out (by decide)));refine ⟨_, rfl, ?_⟩
     have n0_ := zm (Kd.R_mono (Kd.R_keep (j4.apart (show j4 w0 _ g s0_0 t262 t263 from y8) (zP HO_3.out) (by decide)) hk (fun _ h => h.2)) (fun _ h => h.1));have n1_ := zm (Kd.R_mono (Kd.R_keep (j4.apart (show j4 w0 _ g s0_0 t262 t263 from y8) (zP HO273.out) (by decide)) hk (fun _ h => h.2)) (fun _ h => h.1));have n2_ := zm (KeepBut.trans zh hk (.inl rfl));have n3_ := zm (hb);have n4_ := zm (hi);clear HO_3;clear HO273;clear HK;clear HB;clear HI0;have HO_3 := n0_;have HO273 := n1_;have HK := n2_;have HB := n3_;have HI0 := n4_;clear n0_ n1_ n2_ n3_ n4_;(try clear hb);(try clear hk);(try clear hi);refine hK.out _ _ (HS0_) (fun hHeld => ?_)
     clear hK K;refine norm_ (a' := ?_) ?_ ?_;rotate_left
     ·
      show Act.put _ (some 70) _ = _
      simp only [Act.put, zA, zB, zD, i64_w, i32_w]
      rfl
     refine one_ (i := 10) (N := some 76) #[T,T,T,T,T,T,T,T,T,T,T,T,T,F,F,F] rfl rfl (one_of HT_.out (by kernel_rfl)) (by decide) (fun K hK => ?_)
     refine goes_ Try.func94 (by kernel_rfl) rfl #[.pointer (some ⟨g, 0, none⟩), .int .i64 ((rdOf ByteArray.empty x3_1 0).size : Int)] (by rfl) rfl rfl (by (try simp only [List.map_toArray, List.map_cons, List.map_nil]); first | done | rfl | (simp only [List.length_drop, List.length_take]; rfl)) ?_
     with_reducible refine (j5.calls g s0_0 t265 t266 ((rdOf ByteArray.empty x3_1 0).size : Int) t268 t269 t270 w0 _ ?side1 ?side2 A48.out).mono ?_
     (case side1 => exact y8)
     (case side2 => exact zb)
     rintro e w58 ⟨rfl, hi, hb, hk⟩;have HS0_ := keep_cell hk (hHeld) (by first | (rw [add_block]; exact Kd.own_blk (j4.own_ne HI0.out HO_3.out (by decide))) | (show (Addr.add _ _).block ≠ _; rw [add_block]; exact Kd.own_blk (j4.own_ne HI0.out HO_3.out (by decide))) | exact Kd.own_blk (j4.own_ne HI0.out HO_3.out (by decide)));refine ⟨_, rfl, ?_⟩
     have n0_ := zm (Kd.R_mono (Kd.R_keep (j4.apart (show j4 w0 _ g s0_0 t265 t266 from y8) (zP HO_3.out) (by decide)) hk (fun _ h => h.2)) (fun _ h => h.1));have n1_ := zm (Kd.R_mono (Kd.R_keep (j4.apart (show j4 w0 _ g s0_0 t265 t266 from y8) (zP HO273.out) (by decide)) hk (fun _ h => h.2)) (fun _ h => h.1));have n2_ := zm (KeepBut.trans zh hk (.inl rfl));have n3_ := zm (hb);have n4_ := zm (hi);clear HO_3;clear HO273;clear HK;clear HB;clear HI0;have HO_3 := n0_;have HO273 := n1_;have HK := n2_;have HB := n3_;have HI0 := n4_;clear n0_ n1_ n2_ n3_ n4_;(try clear hb);(try clear hk);(try clear hi);refine hK.out _ _ (HS0_) (fun hHeld => ?_)
     clear hK K;refine norm_ (a' := ?_) ?_ ?_;rotate_left
     ·
      show Act.put _ (some 76) _ = _
      simp only [Act.put, zA, zB, zD, i64_w, i32_w]
      rfl
     exact norm_ (by simp only [putAll, Act.put, List.setIfInBounds_toArray, List.set_cons_zero, List.set_cons_succ]) (hCont (v272) _ ⟨hHeld, (zP (Kd.R_mono HO273.out (fun _ hk => hk.2))), (zP (zM HO_3.out)), y8, zh, zb⟩)
   rintro v272 w59 ⟨hS_, h0_, h1_, h2_, h3_, h4_⟩;have n0_ : Aside0 (Kd.R Kd.string 9 w59 w.heap.size (fun k_ => some k_ ≠ (.slice (some ad267) x3_1.length co53 : Value).ownBlock) v272 y271) := ⟨h0_⟩
   have n1_ : Aside0 (Kd.R Kd.string 9 w59 w.heap.size (fun k_ => some k_ ≠ (v272 : Value).ownBlock) (.slice (some ad267) x3_1.length co53) x3_1) := ⟨h1_⟩
   have n2_ : Aside0 (j4 w0 w59 g s0_0 t269 t270) := ⟨h2_⟩
   have n3_ : Aside0 (KeepBut w w59 g none) := ⟨h3_⟩
   have n4_ : Aside0 (Below w0.heap.size w0 w59) := ⟨h4_⟩
   clear HO_3;clear HI0;clear HK;clear HB;clear h0_ h1_ h2_ h3_ h4_;have HO273 := n0_;have HO_3 := n1_;have HI0 := n2_;have HK := n3_;have HB := n4_;clear n0_ n1_ n2_ n3_ n4_;have hHeld : w59.cell? ad267 = some (.string (rdOf ByteArray.empty x3_1 0)) := hS_
   obtain ⟨Ao60, co60, eo60⟩ := Kd.R_slice HO273.out;(first | subst eo60 | (injection eo60 with f1_ f2_ f3_; have f4_ := f1_.symm; have f5_ := f3_.symm; clear f1_ f2_ f3_; subst f4_; subst f5_));refine norm_ (a' := ?_) ?_ ?_;rotate_left
   ·
    simp only [putAll, Act.put, List.setIfInBounds_toArray, List.set_cons_zero, List.set_cons_succ]
    rfl
   refine one_ (i := 13) (N := some 79) #[T,T,T,T,T,T,T,T,T,T,T,T,T,T,F,F] rfl rfl (one_of HT_.out (by kernel_rfl)) (by decide) (fun K hK => ?_)
   refine goes_ Try.func108 (by kernel_rfl) rfl #[.pointer (some ⟨g, 0, none⟩), .slice Ao60 y271.length co60] (by rfl) rfl rfl (by (try simp only [List.map_toArray, List.map_cons, List.map_nil]); first | done | rfl | (simp only [List.length_drop, List.length_take]; rfl)) ?_
   with_reducible refine (K7.calls g s0_0 t269 t270 _ _ y271 t274 t275 t276 w0 _ ?side1 ?side2 ?side3 ?side4 ?side5 A49.out).mono ?_
   (case side1 => exact y8)
   (case side2 => exact zb)
   (case side3 => exact (Kd.R_reads' (zP HO273.out)).2.2)
   (case side4 => exact (Kd.R_reads' HO273.out).2.1)
   (case side5 => exact far_slice (j4.own_ne HI0.out HO273.out (by decide)))
   rintro e w61 ⟨rfl, hi, hb, hk⟩;have HS0_ := keep_cell hk (hHeld) (by first | (rw [add_block]; exact Kd.own_blk (j4.own_ne HI0.out HO_3.out (by decide))) | (show (Addr.add _ _).block ≠ _; rw [add_block]; exact Kd.own_blk (j4.own_ne HI0.out HO_3.out (by decide))) | exact Kd.own_blk (j4.own_ne HI0.out HO_3.out (by decide)));refine ⟨_, rfl, ?_⟩
   have n0_ := zm (Kd.R_mono (Kd.R_keep (j4.apart (show j4 w0 _ g s0_0 t269 t270 from y8) (zP HO_3.out) (by decide)) hk (fun _ h => h.2)) (fun _ h => h.1));have n1_ := zm (Kd.R_mono (Kd.R_keep (j4.apart (show j4 w0 _ g s0_0 t269 t270 from y8) (zP HO273.out) (by decide)) hk (fun _ h => h.2)) (fun _ h => h.1));have n2_ := zm (KeepBut.trans zh hk (.inl rfl));have n3_ := zm (hb);have n4_ := zm (hi);clear HO_3;clear HO273;clear HK;clear HB;clear HI0;have HO_3 := n0_;have HO273 := n1_;have HK := n2_;have HB := n3_;have HI0 := n4_;clear n0_ n1_ n2_ n3_ n4_;(try clear hb);(try clear hk);(try clear hi);refine hK.out _ _ (HS0_) (fun hHeld => ?_)
   clear hK K;refine norm_ (a' := ?_) ?_ ?_;rotate_left
   ·
    show Act.put _ (some 79) _ = _
    simp only [Act.put, zA, zB, zD, i64_w, i32_w]
    rfl
   refine one_ (i := 14) (N := some 80) #[T,T,T,T,T,T,T,T,T,T,T,T,T,T,T,F] rfl rfl (one_of HT_.out (by kernel_rfl)) (by decide) (fun K hK => ?_)
   refine goes_ Try.func72 (by kernel_rfl) rfl #[.slice (some ad267) x3_1.length co53, .int .i64 t264, .int .i64 t268, .string t274] (by rfl) rfl rfl (by (try simp only [List.map_toArray, List.map_cons, List.map_nil]); first | done | rfl | (simp only [List.length_drop, List.length_take]; rfl)) ?_
   with_reducible refine (Y2.calls _ _ x3_1 t264 t268 t274 t277 _ ?side1 ?side2 A50.out).mono ?_
   (case side1 => exact (Kd.R_reads' (zP HO_3.out)).2.2)
   (case side2 => exact (Kd.R_reads' HO_3.out).2.1)
   rintro e w62 ⟨v278, rfl, ho0, hb⟩;have HS0_ := (hb.cell (World.block_lt_of_cell? _ _ (hHeld))).trans (hHeld);refine ⟨_, rfl, ?_⟩
   have n0_ := zm (Kd.R_elder' (zP HO_3.out) (Kd.R_base ho0) hb);have n1_ := zm (Kd.R_elder' (zP HO273.out) (Kd.R_base ho0) hb);have n2_ := zm (Kd.R_lower (Kd.R_new' (Kd.R_new' ho0 (Kd.R_lt (zP HO_3.out))) (Kd.R_lt (zP HO273.out))) (keep_size (w := w) (g := g) (row := none) zh));have n3_ := zm (j4.below y8 hb);have n4_ := zm (KeepBut.trans zh (KeepBut.of_below hb g none) (.inl rfl));have n5_ := zm (below_step zb hb);clear HO_3;clear HO273;clear HI0;clear HK;clear HB;have HO_3 := n0_;have HO273 := n1_;have HO279 := n2_;have HI0 := n3_;have HK := n4_;have HB := n5_;clear n0_ n1_ n2_ n3_ n4_ n5_;(try clear hb);(try clear ho0);refine hK.out _ _ (HS0_) (fun hHeld => ?_)
   clear hK K;refine norm_ (a' := ?_) ?_ ?_;rotate_left
   ·
    show Act.put _ (some 80) _ = _
    simp only [Act.put, zA, zB, zD, i64_w, i32_w]
    rfl
   refine zU 15 3 #[T,T,T,T,T,T,T,T,T,T,T,T,T,T,T,T] ?_;refine done_ (done_of HT_.out (by kernel_rfl)) ?_
   try go_wp2
   go_ret
   exact ⟨_, zr, zP (Kd.R_mono HO279.out (fun _ hk => trivial)), y8, zb, zh⟩
end Go.Proofs.Ytjdkdbeenggfaaa.PEr
