-- Written for this claim by a program of this session (wip/tpl/patchprint.py), not by print.sh.
import Derived.Test.YtjdkdbeenggfaaaDoorPRtx0
import Derived.Test.YtjdkdbeenggfaaaDoorPRtx5
import Derived.Test.YtjdkdbeenggfaaaDoorPRtx8
namespace Go.Proofs.YtjdkdbeenggfaaaDoor.PRt
open Go.RowKit Go.Proofs.YtjdkdbeenggfaaaDoorW.PrintWords Go.Proofs.YtjdkdbeenggfaaaDoorW.PrintLast Go.Proofs.YtjdkdbeenggfaaaDoorW.PrintMore
attribute [local go_sem] max2_int min2_int max_two min_two max_three min_three max_four min_four   -- for this text's walks alone
set_option linter.unusedVariables false
set_option linter.unusedSimpArgs false

/-! ### strings_Repeat: function 37 -/
def strings_Repeat.f (a0 : ByteArray) (a1 : Int) : Option (ByteArray) := if 0 ≤ a1 ∧ a1 ≤ 9223372036854775807 ∧ a0.size * a1.toNat ≤ 140737488355328 then some (⟨(Go.Lib.repeatL a0.data.toList a1.toNat).toArray⟩ : ByteArray) else none
theorem strings_Repeat.calls (a0 : ByteArray) (a1 : Int) (r : ByteArray) (w : World) (h : strings_Repeat.f a0 a1 = some r) :
    Calls Tryd.prog 37 #[.string a0, .int .i64 a1] w fun e w' => e = .returned (.string r) ∧ Below w.heap.size w w' :=
  Lib.Repeat_calls a0 a1 r w h

/-! ### impl_ReaderText: function 17 -/
/-- The row of a conversion '[]byte(s)' (its block bears a mark behind its end): what it holds. -/
def Bz (w : World) (g cap : Nat) (xs : List Int) : Prop := g < w.heap.size ∧ ∃ C : Array Value, w.heap[g]? = some (.cells C 5 (C.size, C.size + 1)) ∧ C.size = cap ∧ xs.length ≤ cap ∧ ∀ i, i < xs.length → C[i]? = some (.int .u8 (xs.getD i 0))
theorem Bz.below {w w1 : World} {g cap : Nat} {xs : List Int} (h : Bz w g cap xs) (hb : Below w.heap.size w w1) : Bz w1 g cap xs := by
  obtain ⟨hg, C, hC, h1⟩ := h
  exact ⟨Nat.lt_of_lt_of_le hg hb.size, C, (hb.block g hg).trans hC, h1⟩
theorem Bz.cell {w : World} {g cap : Nat} {xs : List Int} (h : Bz w g cap xs) (i : Nat) (hi : i < xs.length) : w.cell? ⟨g, i, none⟩ = some (.int .u8 (xs.getD i 0)) ∧ w.frozen? ⟨g, i, none⟩ = false := by
  obtain ⟨_, C, hC, hs, hl, hc⟩ := h
  constructor
  · simp [World.cell?, hC, hc i hi]
  · have : ¬ C.size ≤ i := by omega
    simp [World.frozen?, hC, this]
theorem Bz.set {w : World} {g cap : Nat} {xs : List Int} (h : Bz w g cap xs) (i : Nat) (x : Int) : Bz (w.setCell ⟨g, i, none⟩ (.int .u8 x)) g cap (xs.set i x) := by
  obtain ⟨hg, C, hC, hs, hl, hc⟩ := h
  refine ⟨by simpa [World.setCell] using hg, C.setIfInBounds i (.int .u8 x), ?_, by simpa using hs, by simpa using hl, fun j hj => ?_⟩
  · have e : w.heap[g] = .cells C 5 (C.size, C.size + 1) := by rw [Array.getElem?_eq_getElem hg] at hC; exact Option.some.inj hC
    simp [World.setCell, Array.getElem?_modify, hC]
  · rw [List.length_set] at hj
    by_cases hij : i = j
    · subst hij
      rw [Array.getElem?_setIfInBounds_self_of_lt (by omega)]
      simp [List.getD_eq_getElem?_getD, hj]
    · rw [Array.getElem?_setIfInBounds_ne hij, hc j hj]
      simp [List.getD_eq_getElem?_getD, List.getElem?_set_ne hij]
theorem Bz.keep {w : World} {g cap : Nat} {xs : List Int} (h : Bz w g cap xs) {b t : Nat} {cs : Array Value} (hb : w.heap[b]? = some (.cells cs t (0, 0))) {i : Nat} {v : Value} : (w.setCell ⟨g, i, none⟩ v).heap[b]? = some (.cells cs t (0, 0)) := by
  obtain ⟨_, C, hC, _⟩ := h
  have hne : g ≠ b := by
    rintro rfl
    rw [hb] at hC
    injection hC with hC
    injection hC with _ _ hC
    injection hC with h1 h2
    omega
  simp [World.setCell, Array.getElem?_modify, hne, hb]
theorem Bz.conv (W : World) (s : ByteArray) : Bz (Go.Lib.bytesWorld W 5 s) W.heap.size (grownCap W s.size 0 5) (bytesOf s) := by
  have hg := grownCap_ge W s.size 0 5
  have hz : (Go.Lib.bytesCells W 5 s).size = grownCap W s.size 0 5 := by
    have : s.data.size = s.size := rfl
    simp only [Go.Lib.bytesCells, Array.size_append, Array.size_map, Array.size_replicate, this]
    omega
  refine ⟨by rw [Go.Lib.bytesWorld_size]; omega, _, Go.Lib.bytesWorld_at_new W 5 s, hz, by rw [bytesOf_length]; exact hg, fun i hi => ?_⟩
  have hi' : i < s.size := by rw [← bytesOf_length s]; exact hi
  have h := Go.Lib.bytesWorld_cell W 5 s i hi'
  simp only [World.cell?, Go.Lib.bytesWorld_at_new] at h
  have hl : i < s.data.toList.length := by rw [data_length]; exact hi'
  have h' : (Go.Lib.bytesCells W 5 s)[i]? = some (.int .u8 (s.data.toList.getD i 0).toNat) := by simpa only [Option.isSome_none, Bool.false_eq_true, if_false] using h
  rw [h']
  simp only [bytesOf, List.getD_eq_getElem?_getD, List.getElem?_map, List.getElem?_eq_getElem hl, Option.map_some, Option.getD_some]
theorem Bz.str {P : Program} {w : World} {g cap n : Nat} {xs : List Int} {src dst : TypeId} (h : Bz w g cap xs) (hn : xs.length = n) (hs : P.underlying src = some (.slice 5)) (he : P.underlying 5 = some (.int .u8)) (hd : P.underlying dst = some .string) : (convert src dst (.slice (some ⟨g, 0, none⟩) n cap)).run P w = .ok (.string (strOfNums xs)) w :=
  run_convert_bytes_arg w src 5 hs he g 0 n cap xs hn (fun i hi => by rw [Nat.zero_add]; exact (h.cell i (by omega)).1) dst hd
def impl_ReaderText.l0 : Nat → List Int → List Int → Int → Int → List (S60) → Int → List Int → Option (ByteArray × Bool)
  | 0, _, _, _, _, _, _, _ => none
  | k + 1, x4, x13, x14, x15, x263000, x263001, x263002 => if x15 < x14 then (if 0 ≤ x15 then (if x15 < (x13.length : Int) then (if 0 ≤ (rd x13 x15) then (if (rd x13 x15) < (x4.length : Int) then (impl_ReaderText.l0 k (x4.set ((rd x13 x15) : Int).toNat 111) x13 x14 (wrap64 (x15 + 1)) x263000 x263001 x263002) else (none)) else (none)) else (none)) else (none)) else ((impl_words.f k (([x263001] : List Int))).bind fun t273 => (if t273.size + 1 ≤ 9223372036854775807 then (if (t273 ++ (⟨#[58]⟩ : ByteArray)).size + (strOfNums x4).size ≤ 9223372036854775807 then (some ((t273 ++ (⟨#[58]⟩ : ByteArray)) ++ (strOfNums x4), true)) else (none)) else (none)))
def impl_ReaderText.f (k : Nat) (l0_0 : List (S60)) (a0_1 : Int) (l0_2 : List Int) : Option (ByteArray × Bool) := (impl_IsReader.f k l0_0 a0_1 l0_2).bind fun t263 => (if t263 = true then ((strings_Repeat.f (⟨#[46]⟩ : ByteArray) 20).bind fun t264 => (impl_ReaderText.l0 k (bytesOf t264) l0_2 (l0_2.length : Int) 0 l0_0 a0_1 l0_2)) else (some ((⟨#[]⟩ : ByteArray), false)))
theorem impl_ReaderText.mono_l : ∀ k, (∀ y0 y1 y2 y3 y4 y5 y6, LeO (impl_ReaderText.l0 k y0 y1 y2 y3 y4 y5 y6) (impl_ReaderText.l0 (k + 1) y0 y1 y2 y3 y4 y5 y6))
  | 0 => fun _ _ _ _ _ _ _ r h => by simp [impl_ReaderText.l0] at h
  | k + 1 => by
    have ih0 := impl_ReaderText.mono_l k
    · intro y0 y1 y2 y3 y4 y5 y6
      unfold impl_ReaderText.l0
      repeat' first
      | (with_reducible exact ih0 _ _ _ _ _ _ _)
      | (with_reducible exact impl_IsReader.mono _ _ _ _)
      | (with_reducible exact impl_words.mono _ _)
      | (with_reducible exact LeO.refl _)
      | (with_reducible exact LeO.none _)
      | (with_reducible refine LeO.ite ?_ ?_)
      | (with_reducible refine LeO.bind ?_ (fun _ => ?_))
      | exact ih0 _ _ _ _ _ _ _
      | exact impl_IsReader.mono _ _ _ _
      | exact impl_words.mono _ _
      | exact LeO.none _
      | refine LeO.ite ?_ ?_
      | refine LeO.bind ?_ (fun _ => ?_)
theorem impl_ReaderText.mono : ∀ a0 a1 a2 k, LeO (impl_ReaderText.f k a0 a1 a2) (impl_ReaderText.f (k + 1) a0 a1 a2) := by
  intro a0 a1 a2 k
  have ih0 := impl_ReaderText.mono_l k
  unfold impl_ReaderText.f
  repeat' first
      | (with_reducible exact ih0 _ _ _ _ _ _ _)
      | (with_reducible exact impl_IsReader.mono _ _ _ _)
      | (with_reducible exact impl_words.mono _ _)
      | (with_reducible exact LeO.refl _)
      | (with_reducible exact LeO.none _)
      | (with_reducible refine LeO.ite ?_ ?_)
      | (with_reducible refine LeO.bind ?_ (fun _ => ?_))
      | exact ih0 _ _ _ _ _ _ _
      | exact impl_IsReader.mono _ _ _ _
      | exact impl_words.mono _ _
      | exact LeO.none _
      | refine LeO.ite ?_ ?_
      | refine LeO.bind ?_ (fun _ => ?_)
def impl_ReaderText.T9 : Bool × List (List Nat × List Nat) := (true, [([], []), ([0], [0]), ([1], [1]), ([2], [2]), ([3], [3]), ([], []), ([5], [5]), ([4, 6], [4, 6]), ([7, 3, 0, 1, 2, 3, 4, 5, 6, 7], [7]), ([8, 0, 1, 2, 3, 4, 5, 6, 7, 8], [])])
def impl_ReaderText.B9 : List Nat := [0, 1, 3, 7, 15, 0, 32, 127, 255, 511]
theorem impl_ReaderText.tab9 : rtab .any (opsOf Tryd.f17 9) = impl_ReaderText.T9 := by kernel_rfl
theorem impl_ReaderText.bits9 : waitsOk impl_ReaderText.T9.2 impl_ReaderText.B9 = true := by kernel_rfl
set_option maxHeartbeats 8000000 in
set_option maxRecDepth 100000 in
theorem impl_ReaderText.calls (k : Nat) (A0_0 : Option Addr) (c0_0 : Nat) (l0_0 : List (S60)) (a0_1 : Int) (A0_2 : Option Addr) (c0_2 : Nat) (l0_2 : List Int) (r1 : ByteArray) (r2 : Bool) (w : World) (hr0_0 : Kd.C k60 w A0_0 l0_0.length l0_0) (hc0_0 : l0_0.length ≤ c0_0) (hr0_2 : Kd.C (Kd.int .i64) w A0_2 l0_2.length l0_2) (hc0_2 : l0_2.length ≤ c0_2) (h : impl_ReaderText.f k l0_0 a0_1 l0_2 = some (r1, r2)) (ht : Lib.HTab w := by exact Lib.zt HT0.out zb) :
  Calls Tryd.prog 17 #[.agg #[.slice A0_0 l0_0.length c0_0, .int .i64 a0_1, .slice A0_2 l0_2.length c0_2]] w fun e w' => e = .returned (.tuple #[.string r1, .bool r2]) ∧ Below w.heap.size w w' := by
 have HT0 := zm ht
 clear ht
 have hu46 := Tryd.underlying46
 have HR0_0 := zm hr0_0
 have HC0_0 := zm hc0_0
 clear hr0_0 hc0_0
 have HR0_2 := zm hr0_2
 have HC0_2 := zm hc0_2
 clear hr0_2 hc0_2
 have HB := zm (Below.refl w.heap.size w)
 have H : ((impl_IsReader.f k l0_0 a0_1 l0_2).bind fun t263 => (if t263 = true then ((strings_Repeat.f (⟨#[46]⟩ : ByteArray) 20).bind fun t264 => (impl_ReaderText.l0 k (bytesOf t264) l0_2 (l0_2.length : Int) 0 l0_0 a0_1 l0_2)) else (some ((⟨#[]⟩ : ByteArray), false)))) = some (r1, r2) := h
 clear h
 replace H := Option.bind_eq_some_iff.mp H
 obtain ⟨t263, A20, H⟩ := H
 (try dsimp only at H)
 have A2 := zm A20
 clear A20
 by_cases c3 : t263 = true
 rotate_left
 ·
  replace c3 := Bool.eq_false_iff.mpr c3
  subst c3
  have H1 : (some ((⟨#[]⟩ : ByteArray), false)) = some (r1, r2) := by rw [if_neg (show ¬ (false = true) by decide)] at H; exact H
  clear H
  have H := H1
  clear H1
  simp only [Option.some.injEq, Prod.mk.injEq] at H
  obtain ⟨rfl, rfl⟩ := H
  go_enter Tryd.func17, Tryd.ntmps17
  go_wp2_with (first | ((with_reducible refine gate_dst (N := 1) rfl ?_); refine box_event ?hg (N := 1) ?hd (cs := #[.slice A0_0 l0_0.length c0_0, .int .i64 a0_1, .slice A0_2 l0_2.length c0_2]) (t := 46) ?hr ?_; (case hd => rfl); (case hg => rfl); (case hr => first | (go_simp; done) | (go_simp; rfl)); intro gb262 hg w30 hbox hb; have n0_ := zm (below_step zb hb); have BK262 := zm (hbox); have GW262 := zm (zs hg zb : w.heap.size ≤ gb262); have GE262 := zm (zs hg zb : w.heap.size ≤ gb262); replace HB := n0_; clear n0_; clear hb hbox hg; obtain ⟨hcz31_0, hcz31_1, hcz31_2, hfz31_0, hfz31_1, hfz31_2⟩ := zc3 BK262.out) | ((with_reducible refine gate_callee (f := 36) rfl ?_); refine goesA_ (some 8) Tryd.func36 #[.agg #[.slice A0_0 l0_0.length c0_0, .int .i64 a0_1, .slice A0_2 l0_2.length c0_2]] rfl ?_; (with_reducible refine (impl_IsReader.calls k _ _ l0_0 a0_1 _ _ l0_2 false _ ?side1 ?side2 ?side3 ?side4 A2.out).mono ?_); (case side1 => repeat (first | exact (Kd.C_below HR0_0.out HB.out) | (with_reducible refine Kd.C_alloc ?_ _) | (with_reducible refine Kd.C_drewN ?_ _) | (with_reducible refine Kd.C_drew ?_))); (case side2 => exact HC0_0.out); (case side3 => repeat (first | exact (Kd.C_below HR0_2.out HB.out) | (with_reducible refine Kd.C_alloc ?_ _) | (with_reducible refine Kd.C_drewN ?_ _) | (with_reducible refine Kd.C_drew ?_))); (case side4 => exact HC0_2.out); rintro e w32 ⟨rfl, hb⟩; refine ⟨_, rfl, ?_⟩; replace BK262 := zm (blk_below (g := gb262) zk hb); replace HB := zm (below_step zb hb); (try clear hb); (try clear hb2); (try clear hk); (try clear hi)))
  go_ret2
  exact ⟨zr, zb⟩

 subst c3
 have H1 : ((strings_Repeat.f (⟨#[46]⟩ : ByteArray) 20).bind fun t264 => (impl_ReaderText.l0 k (bytesOf t264) l0_2 (l0_2.length : Int) 0 l0_0 a0_1 l0_2)) = some (r1, r2) := by rw [if_pos rfl] at H; exact H
 clear H
 have H := H1
 clear H1
 replace H := Option.bind_eq_some_iff.mp H
 obtain ⟨t264, A40, H⟩ := H
 (try dsimp only at H)
 have A4 := zm A40
 clear A40
 obtain ⟨y265, hy265⟩ : ∃ y_ : List Int, y_ = (bytesOf t264) := ⟨_, rfl⟩
 replace H : (impl_ReaderText.l0 k y265 l0_2 (l0_2.length : Int) 0 l0_0 a0_1 l0_2) = some (r1, r2) := by first | (rw [hy265]; with_reducible exact H) | (have H2_ := (Option.bind_some _ _).symm.trans H; rw [hy265]; with_reducible exact H2_) | (have H2_ := (Option.bind_some _ _).symm.trans H; with_reducible exact H2_) | with_reducible exact H | (rw [hy265]; exact H) | exact H
 have Ny265 := zm hy265
 clear hy265
 have H' := zm H
 clear H
 have hkb := fun W => print_bytes (P := Tryd.prog) 9 64 5 Tryd.underlying9 Tryd.underlying64 Tryd.underlying5 t264 W
 go_enter Tryd.func17, Tryd.ntmps17
 go_wp2_with (first | ((with_reducible refine gate_dst (N := 1) rfl ?_); refine box_event ?hg (N := 1) ?hd (cs := #[.slice A0_0 l0_0.length c0_0, .int .i64 a0_1, .slice A0_2 l0_2.length c0_2]) (t := 46) ?hr ?_; (case hd => rfl); (case hg => rfl); (case hr => first | (go_simp; done) | (go_simp; rfl)); intro gb262 hg w5 hbox hb; have n0_ := zm (below_step zb hb); have BK262 := zm (hbox); have GW262 := zm (zs hg zb : w.heap.size ≤ gb262); have GE262 := zm (zs hg zb : w.heap.size ≤ gb262); replace HB := n0_; clear n0_; clear hb hbox hg; obtain ⟨hcz6_0, hcz6_1, hcz6_2, hfz6_0, hfz6_1, hfz6_2⟩ := zc3 BK262.out) | ((with_reducible refine gate_callee (f := 36) rfl ?_); refine goesA_ (some 8) Tryd.func36 #[.agg #[.slice A0_0 l0_0.length c0_0, .int .i64 a0_1, .slice A0_2 l0_2.length c0_2]] rfl ?_; (with_reducible refine (impl_IsReader.calls k _ _ l0_0 a0_1 _ _ l0_2 true _ ?side1 ?side2 ?side3 ?side4 A2.out).mono ?_); (case side1 => repeat (first | exact (Kd.C_below HR0_0.out HB.out) | (with_reducible refine Kd.C_alloc ?_ _) | (with_reducible refine Kd.C_drewN ?_ _) | (with_reducible refine Kd.C_drew ?_))); (case side2 => exact HC0_0.out); (case side3 => repeat (first | exact (Kd.C_below HR0_2.out HB.out) | (with_reducible refine Kd.C_alloc ?_ _) | (with_reducible refine Kd.C_drewN ?_ _) | (with_reducible refine Kd.C_drew ?_))); (case side4 => exact HC0_2.out); rintro e w7 ⟨rfl, hb⟩; refine ⟨_, rfl, ?_⟩; replace BK262 := zm (blk_below (g := gb262) zk hb); replace HB := zm (below_step zb hb); (try clear hb); (try clear hb2); (try clear hk); (try clear hi)) | ((with_reducible refine gate_callee (f := 37) rfl ?_); refine goesA_ (some 10) Tryd.func37 #[.string (⟨#[46]⟩ : ByteArray), .int .i64 20] rfl ?_; (with_reducible refine (strings_Repeat.calls (⟨#[46]⟩ : ByteArray) 20 t264 _ A4.out).mono ?_); rintro e w8 ⟨rfl, hb⟩; refine ⟨_, rfl, ?_⟩; replace BK262 := zm (blk_below (g := gb262) zk hb); replace HB := zm (below_step zb hb); (try clear hb); (try clear hb2); (try clear hk); (try clear hi); obtain ⟨hcy_0, hcy_1, hcy_2, hfy_0, hfy_1, hfy_2⟩ := zc3 (blk_below (g := gb262) BK262.out (bytes_below (Below.refl _ _) (Nat.le_refl _) 5 t264))))
 go_loopg [15] k (fun kq v15 w' => ∃ (x4_1 : List Int) (x15_1 : Int), v15 = .int .i64 x15_1 ∧ Aside0 (impl_ReaderText.l0 kq x4_1 l0_2 (l0_2.length : Int) x15_1 l0_0 a0_1 l0_2 = some (r1, r2)) ∧ Aside0 (kq ≤ k) ∧ Aside0 (Bz w' w8.heap.size (grownCap w8 t264.size 0 5) x4_1 ∧ w.heap.size ≤ w8.heap.size ∧ x4_1.length = t264.size) ∧ Aside0 (w'.heap[gb262]? = some (.cells #[(.slice A0_0 l0_0.length c0_0), .int .i64 a0_1, (.slice A0_2 l0_2.length c0_2)] 46 (0, 0))) ∧ Aside0 (Below w.heap.size w w'))
 case atStart =>
  have HO4a_ := zm (show Bz _ w8.heap.size (grownCap w8 t264.size 0 5) y265 ∧ w.heap.size ≤ w8.heap.size ∧ y265.length = t264.size from ⟨by rw [Ny265.out]; exact Bz.conv _ _, HB.out.size, by rw [Ny265.out]; exact bytesOf_length _⟩)
  replace BK262 := zm (blk_below (g := gb262) BK262.out (bytes_below (Below.refl _ _) (Nat.le_refl _) 5 t264))
  replace HB := zm (bytes_below HB.out HB.out.size 5 t264)
  exact ⟨(y265), (0), (by first | rfl | (simp; done) | (simp [*]; done)), H', ⟨Nat.le_refl _⟩, ⟨HO4a_.out⟩, ⟨zk⟩, ⟨HB.out⟩⟩
 case round =>
  clear hkb hcy_0 hcy_1 hcy_2 hfy_0 hfy_1 hfy_2
  clear H'
  (try clear c1); (try clear p2); (try clear c3); (try clear hcz11_0); (try clear hcz11_1); (try clear hcz11_2); (try clear hcz6_0); (try clear hcz6_1); (try clear hcz6_2); (try clear hfz11_0); (try clear hfz11_1); (try clear hfz11_2); (try clear hfz6_0); (try clear hfz6_1); (try clear hfz6_2)
  obtain ⟨x4_1, x15_1, rfl, HA, HK1, HO_4, BK262, HB⟩ := hrel
  cases gk with
  | zero => exact absurd HA.out (by simp [impl_ReaderText.l0])
  | succ k1 =>
   have H := HA.out
   clear HA
   simp only [impl_ReaderText.l0] at H
   by_cases c12 : x15_1 < (l0_2.length : Int)
   ·
    rw [if_pos c12] at H
    have c12b0 : decide (x15_1 < (l0_2.length : Int)) = true := decide_eq_true c12
    clear c12
    by_cases c13 : 0 ≤ x15_1
    rotate_left
    ·
     rw [if_neg c13] at H
     exact absurd H (by simp)
    rw [if_pos c13] at H
    have c13b0 : decide (0 ≤ x15_1) = true := decide_eq_true c13
    clear c13
    by_cases c14 : x15_1 < (l0_2.length : Int)
    rotate_left
    ·
     rw [if_neg c14] at H
     exact absurd H (by simp)
    rw [if_pos c14] at H
    have c14b0 : decide (x15_1 < (l0_2.length : Int)) = true := decide_eq_true c14
    clear c14
    by_cases c15 : 0 ≤ (rd l0_2 x15_1)
    rotate_left
    ·
     rw [if_neg c15] at H
     exact absurd H (by simp)
    rw [if_pos c15] at H
    have c15b0 : decide (0 ≤ (rd l0_2 x15_1)) = true := decide_eq_true c15
    clear c15
    by_cases c16 : (rd l0_2 x15_1) < (x4_1.length : Int)
    rotate_left
    ·
     rw [if_neg c16] at H
     exact absurd H (by simp)
    rw [if_pos c16] at H
    have c16b0 : decide ((rd l0_2 x15_1) < (x4_1.length : Int)) = true := decide_eq_true c16
    clear c16
    obtain ⟨y269, hy269⟩ : ∃ y_ : List Int, y_ = (x4_1.set ((rd l0_2 x15_1) : Int).toNat 111) := ⟨_, rfl⟩
    replace H : (impl_ReaderText.l0 k1 y269 l0_2 (l0_2.length : Int) (wrap64 (x15_1 + 1)) l0_0 a0_1 l0_2) = some (r1, r2) := by first | (rw [hy269]; with_reducible exact H) | (have H2_ := (Option.bind_some _ _).symm.trans H; rw [hy269]; with_reducible exact H2_) | (have H2_ := (Option.bind_some _ _).symm.trans H; with_reducible exact H2_) | with_reducible exact H | (rw [hy269]; exact H) | exact H
    have Ny269 := zm hy269
    clear hy269
    have H' := zm H
    clear H
    have p268 : 0 ≤ (x15_1 : Int) := zd
    have q268 : x15_1 < (l0_2.length : Int) := zd
    obtain ⟨ad268, e268, hx268_0⟩ := Kd.at_int HR0_2.out x15_1 p268 q268
    cases e268
    replace hx268_0 := zx HB.out hx268_0
    replace p268 := eq_true p268
    replace q268 := eq_true q268
    have p17 : 0 ≤ ((rd l0_2 x15_1) : Int) := zd
    have q17 : ((rd l0_2 x15_1) : Int) < ((t264.size : Int) : Int) := by rw [← HO_4.out.2.2]; exact zd
    have hx_ := Bz.cell HO_4.out.1 ((rd l0_2 x15_1) : Int).toNat (by have := HO_4.out.2.2; omega)
    have hx17_0 := hx_.1
    have hf17_0 := hx_.2
    clear hx_
    replace p17 := eq_true p17
    replace q17 := eq_true q17
    go_wp2
    go_roundg k1
    case measure => have := HK1.out; omega
    case rel => exact ⟨(y269), (wrap64 (x15_1 + 1)), (by first | rfl | (simp; done) | (simp [*]; done)), H', ⟨by have := HK1.out; omega⟩, ⟨by rw [Ny269.out]; exact Bz.set HO_4.out.1 _ _, HO_4.out.2.1, by rw [Ny269.out, List.length_set]; exact HO_4.out.2.2⟩, ⟨Bz.keep HO_4.out.1 BK262.out⟩, ⟨below_set HB.out HO_4.out.2.1⟩⟩
   rw [if_neg c12] at H
   have c12b0 : decide (x15_1 < (l0_2.length : Int)) = false := decide_eq_false c12
   clear c12
   obtain ⟨y270, hy270⟩ : ∃ y_ : List Int, y_ = (([a0_1] : List Int)) := ⟨_, rfl⟩
   replace H : ((impl_words.f k1 y270).bind fun t273 => (if t273.size + 1 ≤ 9223372036854775807 then (if (t273 ++ (⟨#[58]⟩ : ByteArray)).size + (strOfNums x4_1).size ≤ 9223372036854775807 then (some ((t273 ++ (⟨#[58]⟩ : ByteArray)) ++ (strOfNums x4_1), true)) else (none)) else (none))) = some (r1, r2) := by first | (rw [hy270]; with_reducible exact H) | (have H2_ := (Option.bind_some _ _).symm.trans H; rw [hy270]; with_reducible exact H2_) | (have H2_ := (Option.bind_some _ _).symm.trans H; with_reducible exact H2_) | with_reducible exact H | (rw [hy270]; exact H) | exact H
   have Ny270 := zm hy270
   clear hy270
   replace H := Option.bind_eq_some_iff.mp H
   obtain ⟨t273, A200, H⟩ := H
   (try dsimp only at H)
   have A20 := zm A200
   clear A200
   by_cases c21 : t273.size + 1 ≤ 9223372036854775807
   rotate_left
   ·
    rw [if_neg c21] at H
    exact absurd H (by simp)
   rw [if_pos c21] at H
   have c21b0 := eq_true c21
   have c21b1 : decide (t273.size + 1 ≤ 9223372036854775807) = true := decide_eq_true c21
   try have c21b2 : (9223372036854775807 < t273.size + 1) = False := eq_false (Nat.not_lt.2 c21)
   by_cases c22 : (t273 ++ (⟨#[58]⟩ : ByteArray)).size + (strOfNums x4_1).size ≤ 9223372036854775807
   rotate_left
   ·
    rw [if_neg c22] at H
    exact absurd H (by simp)
   rw [if_pos c22] at H
   have c22b0 := eq_true c22
   have c22b1 : decide ((t273 ++ (⟨#[58]⟩ : ByteArray)).size + (strOfNums x4_1).size ≤ 9223372036854775807) = true := decide_eq_true c22
   try have c22b2 : (9223372036854775807 < (t273 ++ (⟨#[58]⟩ : ByteArray)).size + (strOfNums x4_1).size) = False := eq_false (Nat.not_lt.2 c22)
   try have c22b3 : (9223372036854775807 < t273.size + 1 + ((strOfNums x4_1).size)) = False := eq_false (Nat.not_lt.2 (by have z_ := c22; simp only [ByteArray.size_append] at z_; exact z_))
   simp only [Option.some.injEq, Prod.mk.injEq] at H
   obtain ⟨rfl, rfl⟩ := H
   try go_wp2
   have n0_ := zm (And.intro (HO_4.out.1.below (below_drew1 (Below.refl _ _))) HO_4.out.2)
   have n1_ := zm (blk_drew BK262.out)
   have n2_ := zm (below_drew1 HB.out)
   clear HO_4
   clear BK262
   clear HB
   have HO_4 := n0_
   have BK262 := n1_
   have HB := n2_
   clear n0_ n1_ n2_
   refine start_ (n := 10) (S := fun w' => w'.cell? ⟨gb262, 0, none⟩ = some (.slice A0_0 l0_0.length c0_0) ∧ w'.cell? ⟨gb262, 1, none⟩ = some (.int .i64 a0_1) ∧ w'.cell? ⟨gb262, 2, none⟩ = some (.slice A0_2 l0_2.length c0_2) ∧ (convert 64 9 (.slice (some ⟨w8.heap.size, 0, none⟩) t264.size (grownCap w8 t264.size 0 5))).run Tryd.prog w' = .ok (.string (strOfNums x4_1)) w') (ds := []) #[false, false, false, false, false, false, false, false, false, false] (by kernel_rfl) rfl rfl ⟨(blk_cell BK262.out 0).trans rfl, (blk_cell BK262.out 1).trans rfl, (blk_cell BK262.out 2).trans rfl, (Bz.str HO_4.out.1 HO_4.out.2.2 Tryd.underlying64 Tryd.underlying5 Tryd.underlying9)⟩ (fun hHeld => ?_); refine with_tabW impl_ReaderText.tab9 impl_ReaderText.bits9 (fun HT_ HW_ => ?_)
   generalize wr.drew = w23 at HO_4 BK262 HB hHeld ⊢
   refine pure_ (i := 0) (N := some 23) (v := ?_) (a' := ?_) #[true, false, false, false, false, false, false, false, false, false] rfl rfl (any_of HT_.out (by kernel_rfl)) (fun _ _ _ h => h) (Or.inl ⟨by rfl, ?_⟩) ?_ ?_
   rotate_left
   ·
    intro w'
    go_simp
    with_reducible rfl
   rotate_left
   ·
    simp only [Act.put, zA, zB, zD, i64_w, i32_w]
    rfl
   refine pure_ (i := 5) (N := some 28) (v := ?_) (a' := ?_) #[true, false, false, false, false, true, false, false, false, false] rfl rfl (any_of HT_.out (by kernel_rfl)) (fun _ _ _ h => h) (Or.inl ⟨by rfl, ?_⟩) ?_ ?_
   rotate_left
   ·
    intro w'
    go_simp
    with_reducible rfl
   rotate_left
   ·
    simp only [Act.put, zA, zB, zD, i64_w, i32_w]
    rfl
   refine take_ (i := 6) (N := some 29) (v := ?_) (a' := ?_) #[true, false, false, false, false, true, true, false, false, false] rfl rfl (take_ofW HT_.out HW_.out (by kernel_rfl)) (fun _ _ _ h => h) (Or.inl ⟨by rfl, ?_⟩) hHeld ?_ ?_
   rotate_left
   ·
    rintro w' ⟨s0, s1, s2, s3⟩
    go_simp
    with_reducible rfl
   rotate_left
   ·
    simp only [Act.put, zA, zB, zD, i64_w, i32_w]
    rfl
   refine take_ (i := 1) (N := some 24) (v := ?_) (a' := ?_) #[true, true, false, false, false, true, true, false, false, false] rfl rfl (take_ofW HT_.out HW_.out (by kernel_rfl)) (fun _ _ _ h => h) (Or.inl ⟨by rfl, ?_⟩) hHeld ?_ ?_
   rotate_left
   ·
    rintro w' ⟨s0, s1, s2, s3⟩
    go_simp
    with_reducible rfl
   rotate_left
   ·
    simp only [Act.put, zA, zB, zD, i64_w, i32_w]
    rfl
   refine one_ (i := 2) (N := some 25) #[true, true, true, false, false, true, true, false, false, false] rfl rfl (one_of HT_.out (by kernel_rfl)) (by decide) (fun K hK => ?_)
   refine Kd.R_lit_step (Kd.int .i64) _ 3 ?hg (N := 25) ?hd (xs := ([a0_1] : List Int)) (inner := [.int .i64 a0_1]) (ok := fun _ => True) (okp := fun _ => True) ?hr ?hp (fun _ hk => hk) trivial (Below.refl _ _) (Nat.le_refl _) (by simp) ?_; (case hd => rfl); (case hg => rfl); (case hr => first | (go_simp; done) | (go_simp; rfl)); (case hp => exact (Reps.one (show Kd.M (Kd.int .i64) _ _ _ a0_1 [.int .i64 a0_1] from rfl) (Reps.none _ _)))
   intro v271 w24 ho25 hb hg_ hnew_
   clear hg_ hnew_
   (first | rw [← Ny270.out] at ho25 | (simp only [Int.reduceToNat] at ho25; rw [← Ny270.out] at ho25))
   have n0_ := zm (And.intro (HO_4.out.1.below hb) HO_4.out.2)
   have n1_ := zm (Kd.R_lower ho25 (below_size zb))
   have n2_ := zm (blk_below (g := gb262) zk hb)
   have n3_ := zm (below_step zb hb)
   clear HO_4
   clear BK262
   clear HB
   have HO_4 := n0_
   have HO272 := n1_
   have BK262 := n2_
   have HB := n3_
   clear n0_ n1_ n2_ n3_
   clear hb ho25
   obtain ⟨Ao26, co26, eo26⟩ := Kd.R_slice HO272.out
   (first | subst eo26 | (injection eo26 with f1_ f2_ f3_; have f4_ := f1_.symm; have f5_ := f3_.symm; clear f1_ f2_ f3_; subst f4_; subst f5_))
   refine hK.out _ _ ⟨(blk_cell BK262.out 0).trans rfl, (blk_cell BK262.out 1).trans rfl, (blk_cell BK262.out 2).trans rfl, (Bz.str HO_4.out.1 HO_4.out.2.2 Tryd.underlying64 Tryd.underlying5 Tryd.underlying9)⟩ (fun hHeld => ?_)
   clear hK K
   refine norm_ (a' := ?_) ?_ ?_
   rotate_left
   ·
    show Act.put _ (some 25) _ = _
    simp only [Act.put, zA, zB, zD, i64_w, i32_w]
    rfl
   refine one_ (i := 3) (N := some 26) #[true, true, true, true, false, true, true, false, false, false] rfl rfl (one_of HT_.out (by kernel_rfl)) (by decide) (fun K hK => ?_)
   refine goes_ Tryd.func30 (by kernel_rfl) rfl #[.slice Ao26 y270.length co26] (by rfl) rfl rfl (by (try simp only [List.map_toArray, List.map_cons, List.map_nil]); first | done | rfl | (simp only [List.length_drop, List.length_take]; rfl)) ?_
   with_reducible refine (impl_words.calls k1 _ _ y270 t273 _ ?side1 ?side2 A20.out).mono ?_
   (case side1 => repeat (first | exact (Kd.R_reads' HO272.out).2.2 | (with_reducible refine Kd.C_alloc ?_ _) | (with_reducible refine Kd.C_drewN ?_ _) | (with_reducible refine Kd.C_drew ?_)))
   (case side2 => exact (Kd.R_reads' HO272.out).2.1)
   rintro e w27 ⟨rfl, hb⟩
   refine ⟨_, rfl, ?_⟩
   have n0_ := zm (And.intro (HO_4.out.1.below hb) HO_4.out.2)
   have n1_ := zm (Kd.R_below (zP HO272.out) hb)
   have n2_ := zm (blk_below (g := gb262) zk hb)
   have n3_ := zm (below_step zb hb)
   clear HO_4
   clear HO272
   clear BK262
   clear HB
   have HO_4 := n0_
   have HO272 := n1_
   have BK262 := n2_
   have HB := n3_
   clear n0_ n1_ n2_ n3_
   (try clear hb)
   (try clear hb2)
   (try clear hk)
   (try clear hi)
   refine hK.out _ _ ⟨(blk_cell BK262.out 0).trans rfl, (blk_cell BK262.out 1).trans rfl, (blk_cell BK262.out 2).trans rfl, (Bz.str HO_4.out.1 HO_4.out.2.2 Tryd.underlying64 Tryd.underlying5 Tryd.underlying9)⟩ (fun hHeld => ?_)
   clear hK K
   refine norm_ (a' := ?_) ?_ ?_
   rotate_left
   ·
    show Act.put _ (some 26) _ = _
    simp only [Act.put, zA, zB, zD, i64_w, i32_w]
    rfl
   refine pure_ (i := 4) (N := some 27) (v := ?_) (a' := ?_) #[true, true, true, true, true, true, true, false, false, false] rfl rfl (any_of HT_.out (by kernel_rfl)) (fun _ _ _ h => h) (Or.inl ⟨by rfl, ?_⟩) ?_ ?_
   rotate_left
   ·
    intro w'
    go_simp
    with_reducible rfl
   rotate_left
   ·
    simp only [Act.put, zA, zB, zD, i64_w, i32_w]
    rfl
   refine pure_ (i := 7) (N := some 30) (v := ?_) (a' := ?_) #[true, true, true, true, true, true, true, true, false, false] rfl rfl (any_of HT_.out (by kernel_rfl)) (fun _ _ _ h => h) (Or.inl ⟨by rfl, ?_⟩) ?_ ?_
   rotate_left
   ·
    intro w'
    go_simp
    with_reducible rfl
   rotate_left
   ·
    simp only [Act.put, zA, zB, zD, i64_w, i32_w]
    rfl
   refine pure_ (i := 8) (N := some 2) (v := ?_) (a' := ?_) #[true, true, true, true, true, true, true, true, true, false] rfl rfl (any_of HT_.out (by kernel_rfl)) (fun _ _ _ h => h) (Or.inl ⟨by rfl, ?_⟩) ?_ ?_
   rotate_left
   ·
    intro w'
    go_simp
    with_reducible rfl
   rotate_left
   ·
    simp only [Act.put, zA, zB, zD, i64_w, i32_w]
    rfl
   refine pure_ (i := 9) (N := some 3) (v := ?_) (a' := ?_) #[true, true, true, true, true, true, true, true, true, true] rfl rfl (any_of HT_.out (by kernel_rfl)) (fun _ _ _ h => h) (Or.inl ⟨by rfl, ?_⟩) ?_ ?_
   rotate_left
   ·
    intro w'
    go_simp
    with_reducible rfl
   rotate_left
   ·
    simp only [Act.put, zA, zB, zD, i64_w, i32_w]
    rfl
   refine done_ (done_of HT_.out (by kernel_rfl)) ?_
   try go_wp2
   go_ret2
   exact ⟨zr, zb⟩
/-! ### laws_eqHole: function 33 -/
def laws_eqHole.f (a0_0 : Int) (a0_1 : Int) (a0_2 : Int) (a1_0 : Int) (a1_1 : Int) (a1_2 : Int) : Option (Bool) := if a0_0 = a1_0 then (if a0_1 = a1_1 then (if a0_2 = a1_2 then (some true) else (some false)) else (some false)) else (some false)
set_option maxHeartbeats 8000000 in
set_option maxRecDepth 100000 in
theorem laws_eqHole.calls (a0_0 : Int) (a0_1 : Int) (a0_2 : Int) (a1_0 : Int) (a1_1 : Int) (a1_2 : Int) (r : Bool) (w : World) (h : laws_eqHole.f a0_0 a0_1 a0_2 a1_0 a1_1 a1_2 = some r) :
  Calls Tryd.prog 33 #[.agg #[.int .i64 a0_0, .int .i64 a0_1, .int .i64 a0_2], .agg #[.int .i64 a1_0, .int .i64 a1_1, .int .i64 a1_2]] w fun e w' => e = .returned (.bool r) ∧ Below w.heap.size w w' := by
 have hu60 := Tryd.underlying60
 have HB := zm (Below.refl w.heap.size w)
 have H : (if a0_0 = a1_0 then (if a0_1 = a1_1 then (if a0_2 = a1_2 then (some true) else (some false)) else (some false)) else (some false)) = some r := h
 clear h
 by_cases c3 : a0_0 = a1_0
 rotate_left
 ·
  rw [if_neg c3] at H
  have c3b0 : (a0_0 == a1_0) = false := beq_eq_false_iff_ne.mpr c3
  have c3b1 : (a0_0 != a1_0) = true := bne_iff_ne.mpr c3
  obtain rfl := Option.some.inj H
  go_enter Tryd.func33, Tryd.ntmps33
  go_wp2_with (first | ((with_reducible refine gate_dst (N := 2) rfl ?_); refine box_event ?hg (N := 2) ?hd (cs := #[.int .i64 a0_0, .int .i64 a0_1, .int .i64 a0_2]) (t := 60) ?hr ?_; (case hd => rfl); (case hg => rfl); (case hr => first | (go_simp; done) | (go_simp; rfl)); intro gb262 hg w21 hbox hb; have n0_ := zm (below_step zb hb); have BK262 := zm (hbox); have GW262 := zm (zs hg zb : w.heap.size ≤ gb262); have GE262 := zm (zs hg zb : w.heap.size ≤ gb262); replace HB := n0_; clear n0_; clear hb hbox hg) | ((with_reducible refine gate_dst (N := 3) rfl ?_); refine box_event ?hg (N := 3) ?hd (cs := #[.int .i64 a1_0, .int .i64 a1_1, .int .i64 a1_2]) (t := 60) ?hr ?_; (case hd => rfl); (case hg => rfl); (case hr => first | (go_simp; done) | (go_simp; rfl)); intro gb263 hg w22 hbox hb; have n0_ := zm (blk_below (g := gb262) zk hb); have n1_ := zm (below_step zb hb); have BK263 := zm (hbox); have GW263 := zm (zs hg zb : w.heap.size ≤ gb263); have GE263 := zm (zs hg zb : w.heap.size ≤ gb263); have NB262_263 := zm (zl hg zk : gb262 ≠ gb263); have NB263_262 := zm (zg hg zk : gb263 ≠ gb262); replace BK262 := n0_; replace HB := n1_; clear n0_ n1_; clear hb hbox hg; have hnb23 := NB262_263.out; have hnc23 := NB263_262.out; obtain ⟨hcz24_0, hcz24_1, hcz24_2, hfz24_0, hfz24_1, hfz24_2⟩ := zc3 BK262.out; obtain ⟨hcz25_0, hcz25_1, hcz25_2, hfz25_0, hfz25_1, hfz25_2⟩ := zc3 BK263.out))
  go_ret
  exact ⟨zr, zb⟩

 rw [if_pos c3] at H
 have c3b0 : (a0_0 == a1_0) = true := beq_iff_eq.mpr c3
 have c3b1 : (a0_0 != a1_0) = false := bne_eq_false_iff_eq.mpr c3
 clear c3
 by_cases c4 : a0_1 = a1_1
 rotate_left
 ·
  rw [if_neg c4] at H
  have c4b0 : (a0_1 == a1_1) = false := beq_eq_false_iff_ne.mpr c4
  have c4b1 : (a0_1 != a1_1) = true := bne_iff_ne.mpr c4
  obtain rfl := Option.some.inj H
  go_enter Tryd.func33, Tryd.ntmps33
  go_wp2_with (first | ((with_reducible refine gate_dst (N := 2) rfl ?_); refine box_event ?hg (N := 2) ?hd (cs := #[.int .i64 a0_0, .int .i64 a0_1, .int .i64 a0_2]) (t := 60) ?hr ?_; (case hd => rfl); (case hg => rfl); (case hr => first | (go_simp; done) | (go_simp; rfl)); intro gb262 hg w16 hbox hb; have n0_ := zm (below_step zb hb); have BK262 := zm (hbox); have GW262 := zm (zs hg zb : w.heap.size ≤ gb262); have GE262 := zm (zs hg zb : w.heap.size ≤ gb262); replace HB := n0_; clear n0_; clear hb hbox hg) | ((with_reducible refine gate_dst (N := 3) rfl ?_); refine box_event ?hg (N := 3) ?hd (cs := #[.int .i64 a1_0, .int .i64 a1_1, .int .i64 a1_2]) (t := 60) ?hr ?_; (case hd => rfl); (case hg => rfl); (case hr => first | (go_simp; done) | (go_simp; rfl)); intro gb263 hg w17 hbox hb; have n0_ := zm (blk_below (g := gb262) zk hb); have n1_ := zm (below_step zb hb); have BK263 := zm (hbox); have GW263 := zm (zs hg zb : w.heap.size ≤ gb263); have GE263 := zm (zs hg zb : w.heap.size ≤ gb263); have NB262_263 := zm (zl hg zk : gb262 ≠ gb263); have NB263_262 := zm (zg hg zk : gb263 ≠ gb262); replace BK262 := n0_; replace HB := n1_; clear n0_ n1_; clear hb hbox hg; have hnb18 := NB262_263.out; have hnc18 := NB263_262.out; obtain ⟨hcz19_0, hcz19_1, hcz19_2, hfz19_0, hfz19_1, hfz19_2⟩ := zc3 BK262.out; obtain ⟨hcz20_0, hcz20_1, hcz20_2, hfz20_0, hfz20_1, hfz20_2⟩ := zc3 BK263.out))
  go_ret
  exact ⟨zr, zb⟩
 rw [if_pos c4] at H
 have c4b0 : (a0_1 == a1_1) = true := beq_iff_eq.mpr c4
 have c4b1 : (a0_1 != a1_1) = false := bne_eq_false_iff_eq.mpr c4
 clear c4
 by_cases c5 : a0_2 = a1_2
 rotate_left
 ·
  rw [if_neg c5] at H
  have c5b0 : (a0_2 == a1_2) = false := beq_eq_false_iff_ne.mpr c5
  have c5b1 : (a0_2 != a1_2) = true := bne_iff_ne.mpr c5
  obtain rfl := Option.some.inj H
  go_enter Tryd.func33, Tryd.ntmps33
  go_wp2_with (first | ((with_reducible refine gate_dst (N := 2) rfl ?_); refine box_event ?hg (N := 2) ?hd (cs := #[.int .i64 a0_0, .int .i64 a0_1, .int .i64 a0_2]) (t := 60) ?hr ?_; (case hd => rfl); (case hg => rfl); (case hr => first | (go_simp; done) | (go_simp; rfl)); intro gb262 hg w11 hbox hb; have n0_ := zm (below_step zb hb); have BK262 := zm (hbox); have GW262 := zm (zs hg zb : w.heap.size ≤ gb262); have GE262 := zm (zs hg zb : w.heap.size ≤ gb262); replace HB := n0_; clear n0_; clear hb hbox hg) | ((with_reducible refine gate_dst (N := 3) rfl ?_); refine box_event ?hg (N := 3) ?hd (cs := #[.int .i64 a1_0, .int .i64 a1_1, .int .i64 a1_2]) (t := 60) ?hr ?_; (case hd => rfl); (case hg => rfl); (case hr => first | (go_simp; done) | (go_simp; rfl)); intro gb263 hg w12 hbox hb; have n0_ := zm (blk_below (g := gb262) zk hb); have n1_ := zm (below_step zb hb); have BK263 := zm (hbox); have GW263 := zm (zs hg zb : w.heap.size ≤ gb263); have GE263 := zm (zs hg zb : w.heap.size ≤ gb263); have NB262_263 := zm (zl hg zk : gb262 ≠ gb263); have NB263_262 := zm (zg hg zk : gb263 ≠ gb262); replace BK262 := n0_; replace HB := n1_; clear n0_ n1_; clear hb hbox hg; have hnb13 := NB262_263.out; have hnc13 := NB263_262.out; obtain ⟨hcz14_0, hcz14_1, hcz14_2, hfz14_0, hfz14_1, hfz14_2⟩ := zc3 BK262.out; obtain ⟨hcz15_0, hcz15_1, hcz15_2, hfz15_0, hfz15_1, hfz15_2⟩ := zc3 BK263.out))
  go_ret
  exact ⟨zr, zb⟩
 rw [if_pos c5] at H
 have c5b0 : (a0_2 == a1_2) = true := beq_iff_eq.mpr c5
 have c5b1 : (a0_2 != a1_2) = false := bne_eq_false_iff_eq.mpr c5
 clear c5
 obtain rfl := Option.some.inj H
 go_enter Tryd.func33, Tryd.ntmps33
 go_wp2_with (first | ((with_reducible refine gate_dst (N := 2) rfl ?_); refine box_event ?hg (N := 2) ?hd (cs := #[.int .i64 a0_0, .int .i64 a0_1, .int .i64 a0_2]) (t := 60) ?hr ?_; (case hd => rfl); (case hg => rfl); (case hr => first | (go_simp; done) | (go_simp; rfl)); intro gb262 hg w6 hbox hb; have n0_ := zm (below_step zb hb); have BK262 := zm (hbox); have GW262 := zm (zs hg zb : w.heap.size ≤ gb262); have GE262 := zm (zs hg zb : w.heap.size ≤ gb262); replace HB := n0_; clear n0_; clear hb hbox hg) | ((with_reducible refine gate_dst (N := 3) rfl ?_); refine box_event ?hg (N := 3) ?hd (cs := #[.int .i64 a1_0, .int .i64 a1_1, .int .i64 a1_2]) (t := 60) ?hr ?_; (case hd => rfl); (case hg => rfl); (case hr => first | (go_simp; done) | (go_simp; rfl)); intro gb263 hg w7 hbox hb; have n0_ := zm (blk_below (g := gb262) zk hb); have n1_ := zm (below_step zb hb); have BK263 := zm (hbox); have GW263 := zm (zs hg zb : w.heap.size ≤ gb263); have GE263 := zm (zs hg zb : w.heap.size ≤ gb263); have NB262_263 := zm (zl hg zk : gb262 ≠ gb263); have NB263_262 := zm (zg hg zk : gb263 ≠ gb262); replace BK262 := n0_; replace HB := n1_; clear n0_ n1_; clear hb hbox hg; have hnb8 := NB262_263.out; have hnc8 := NB263_262.out; obtain ⟨hcz9_0, hcz9_1, hcz9_2, hfz9_0, hfz9_1, hfz9_2⟩ := zc3 BK262.out; obtain ⟨hcz10_0, hcz10_1, hcz10_2, hfz10_0, hfz10_1, hfz10_2⟩ := zc3 BK263.out))
 go_ret
 exact ⟨zr, zb⟩
end Go.Proofs.YtjdkdbeenggfaaaDoor.PRt
