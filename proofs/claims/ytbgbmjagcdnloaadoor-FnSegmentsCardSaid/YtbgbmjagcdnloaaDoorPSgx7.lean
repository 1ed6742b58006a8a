import Derived.Test.YtbgbmjagcdnloaaDoorPSgx0
import Derived.Test.YtbgbmjagcdnloaaDoorPSgx3
import Derived.Test.YtbgbmjagcdnloaaDoorPSgx6
namespace Go.Proofs.YtbgbmjagcdnloaaDoor.PSg
open Go.RowKit Go.Proofs.YtbgbmjagcdnloaaDoorW.PrintWords Go.Proofs.YtbgbmjagcdnloaaDoorW.PrintLast Go.Proofs.YtbgbmjagcdnloaaDoorW.PrintMore
attribute [local go_sem] max2_int min2_int max_two min_two max_three min_three max_four min_four   -- for this text's walks alone
set_option linter.unusedVariables false
set_option linter.unusedSimpArgs false
def impl_words.l0 : Nat → List ByteArray → List Int → Int → Int → Option (ByteArray)
  | 0, _, _, _, _ => none
  | k + 1, x3, x7, x8, x9 => if x9 < x8 then (if 0 ≤ x9 then (if x9 < (x7.length : Int) then ((strconv_Itoa.f (rd x7 x9)).bind fun t232 => (if x3.length < 8796093022208 then (impl_words.l0 k (x3 ++ [t232]) x7 x8 (wrap64 (x9 + 1))) else (none))) else (none)) else (none)) else ((strings_Join.f x3 (⟨#[32]⟩ : ByteArray)).bind fun t236 => (some t236))
def impl_words.f (k : Nat) (l0 : List Int) : Option (ByteArray) := impl_words.l0 k (([] : List ByteArray)) l0 (l0.length : Int) 0
set_option maxHeartbeats 8000000 in
set_option maxRecDepth 100000 in
theorem impl_words.calls (k : Nat) (A0 : Option Addr) (c0 : Nat) (l0 : List Int) (r : ByteArray) (w : World) (hr0 : Kd.C (Kd.int .i64) w A0 l0.length l0) (hc0 : l0.length ≤ c0) (h : impl_words.f k l0 = some r) (ht : Lib.HTab w := by exact Lib.zt HT0.out zb) :
  Calls Tryd.prog 25 #[.slice A0 l0.length c0] w fun e w' => e = .returned (.string r) ∧ Below w.heap.size w w' := by
 have HT0 := zm ht;clear ht;have HR0 := zm hr0;have HC0 := zm hc0;clear hr0 hc0;have HB := zm (Below.refl w.heap.size w);have H : (impl_words.l0 k (([] : List ByteArray)) l0 (l0.length : Int) 0) = some r := h;clear h;obtain ⟨y228, hy228⟩ : ∃ y_ : List ByteArray, y_ = (([] : List ByteArray)) := ⟨_, rfl⟩;(first | (rw [← hy228] at H; with_reducible replace H := zO H) | rw [← hy228] at H);have Ny228 := zm hy228;clear hy228;have H' := zm H;clear H;go_enter Tryd.func25, Tryd.ntmps25;go_wp2_with (first | ((with_reducible refine gate_dst (N := 6) rfl ?_); refine Kd.R_lit Kd.string _ 9 ?hg (N := 6) ?hd (xs := ([] : List ByteArray)) (inner := []) (ok := fun _ => True) (okp := fun _ => True) ?hr ?hp (fun _ hk => hk) trivial (Below.refl _ _) (Nat.le_refl _) (by simp) ?_; (case hd => rfl); (case hg => rfl); (case hr => first | (go_simp; done) | (go_simp; rfl)); (case hp => exact (Reps.none _ _)); intro v229 w2 ho3 hb hg_ hnew_; clear hg_ hnew_; (first | rw [← Ny228.out] at ho3 | (simp only [Int.reduceToNat] at ho3; rw [← Ny228.out] at ho3)); have HO230 := zm (Kd.R_lower ho3 (below_size zb)); replace HB := zm (below_step zb hb); clear hb ho3))
 go_loopg [3, 9] k (fun kq v3 v9 w' => ∃ (x3_1 : List ByteArray) (x9_1 : Int), v9 = .int .i64 x9_1 ∧ Aside0 (impl_words.l0 kq x3_1 l0 (l0.length : Int) x9_1 = some r) ∧ Aside0 (kq ≤ k) ∧ Aside0 (Kd.R Kd.string 9 w' w.heap.size (fun _ => True) v3 x3_1) ∧ Aside0 (Below w.heap.size w w'))
 case atStart => exact ⟨(y228), (0), zz, H', ⟨Nat.le_refl _⟩, ⟨zP HO230.out⟩, ⟨zb⟩⟩
 case round =>
  clear H';(try clear p2);obtain ⟨x3_1, x9_1, rfl, HA, HK1, HO_3, HB⟩ := hrel;cases gk with
  | zero => exact absurd HA.out (by simp [impl_words.l0])
  | succ k1 =>
   have H := HA.out;clear HA;simp only [impl_words.l0] at H;by_cases c4 : x9_1 < (l0.length : Int)
   rotate_left
   ·
    rw [if_neg c4] at H;have c4b0 := decide_eq_false c4;clear c4;obtain ⟨t236, A11, H⟩ := zI H;(try dsimp only at H);obtain rfl := Option.some.inj H;obtain ⟨Ao12, co12, eo12⟩ := Kd.R_slice HO_3.out;subst eo12;go_wp2_with (first | ((with_reducible refine gate_callee (f := 48) rfl ?_); refine goesA_ (some 20) Tryd.func48 #[.slice Ao12 x3_1.length co12, .string (⟨#[32]⟩ : ByteArray)] rfl ?_; (with_reducible refine (strings_Join.calls _ _ x3_1 (⟨#[32]⟩ : ByteArray) t236 _ ?side1 ?side2 A11.out).mono ?_); (case side1 => exact (Kd.R_reads' (zP HO_3.out)).2.2); (case side2 => exact (Kd.R_reads' HO_3.out).2.1); rintro e w13 ⟨rfl, hb⟩; refine ⟨_, rfl, ?_⟩; replace HO_3 := zm (Kd.R_below (zP HO_3.out) hb); replace HB := zm (below_step zb hb); (try clear hb)))
    go_ret
    exact ⟨zr, zb⟩
   rw [if_pos c4] at H;have c4b0 := decide_eq_true c4;clear c4;obtain ⟨c5, H⟩ := zJ H;have c5b0 := decide_eq_true c5;clear c5;obtain ⟨c6, H⟩ := zJ H;have c6b0 := decide_eq_true c6;clear c6;obtain ⟨t232, A7, H⟩ := zI H;(try dsimp only at H);obtain ⟨c8, H⟩ := zJ H;have LMc8 := zm c8;clear c8;obtain ⟨y233, hy233⟩ : ∃ y_ : List ByteArray, y_ = (x3_1 ++ [t232]) := ⟨_, rfl⟩;(first | (rw [← hy233] at H; with_reducible replace H := zO H) | rw [← hy233] at H);have Ny233 := zm hy233;clear hy233;have H' := zm H;clear H;have p231 : 0 ≤ (x9_1 : Int) := zd;have q231 : x9_1 < (l0.length : Int) := zd;obtain ⟨ad231, e231, hx231_0⟩ := Kd.at_int HR0.out x9_1 p231 q231;cases e231;replace hx231_0 := zx HB.out hx231_0;replace p231 := eq_true p231;replace q231 := eq_true q231;go_wp2_with (first | ((with_reducible refine gate_callee (f := 47) rfl ?_); refine goesA_ (some 15) Tryd.func47 #[.int .i64 (rd l0 x9_1)] rfl ?_; (with_reducible refine (strconv_Itoa.calls (rd l0 x9_1) t232 _ A7.out).mono ?_); rintro e w9 ⟨rfl, hb⟩; refine ⟨_, rfl, ?_⟩; replace HO_3 := zm (Kd.R_below (zP HO_3.out) hb); replace HB := zm (below_step zb hb); (try clear hb); (try clear hk)) | ((with_reducible refine gate_builtin (b := .append) (xs := #[.tmp 13, .tmp 16]) rfl ?_); at_builtin; refine Kd.R_append Kd.string (w0 := w) w.heap.size rfl (.tmp 13) (.tmp 16) 69 9 (.string ⟨#[]⟩) 16 rfl Tryd.underlying69 info9 rfl (by decide) (by omega) u3 x3_1 t232 [.string t232] (fun _ => True) (fun _ => False) rfl rfl ?aP (fun _ hk => hk.elim) ?aF ?aO ?aB ?aS ?aL ?_; (case aP => exact rfl); (case aB => exact zb); (case aF => exact (fun _ _ => trivial)); (case aO => exact (zP HO_3.out)); (case aS => exact (below_size zb)); (case aL => have := LMc8.out; omega); intro v234 w10 ho hb hg hat; rw [← Ny233.out] at ho; replace HB := zm (hb); have HO235 := zm (ho); clear HO_3; clear ho hb hg hat))
   go_roundg k1
   case measure => have := HK1.out; omega
   case rel => exact ⟨(y233), (wrap64 (x9_1 + 1)), zz, H', ⟨by have := HK1.out; omega⟩, ⟨zP HO235.out⟩, ⟨zb⟩⟩
-- NOT PRINTED: function 26 (strings_Builder_String)
def impl_SegmentsText.l0 : Nat → ByteArray → List (S35) → Int → Int → Option (ByteArray × Bool)
  | 0, _, _, _, _ => none
  | k + 1, x4, x10, x11, x12 => if x12 < x11 then (if 0 ≤ x12 then (if x12 < (x10.length : Int) then ((impl_words.f k (([(rd_T35 x10 x12).f0, (rd_T35 x10 x12).f1] : List Int))).bind fun t243 => (if t243.size + 1 ≤ 9223372036854775807 then (if x4.size + (t243 ++ (⟨#[10]⟩ : ByteArray)).size ≤ 140737488355328 then (impl_SegmentsText.l0 k (x4 ++ (t243 ++ (⟨#[10]⟩ : ByteArray))) x10 x11 (wrap64 (x12 + 1))) else (none)) else (none))) else (none)) else (none)) else (some (x4, true))
def impl_SegmentsText.f (k : Nat) (l0 : List (S35)) : Option (ByteArray × Bool) := (impl_AreSegments.f k l0).bind fun t237 => (if t237 = true then (impl_SegmentsText.l0 k (⟨#[]⟩ : ByteArray) l0 (l0.length : Int) 0) else (some ((⟨#[]⟩ : ByteArray), false)))
set_option maxHeartbeats 8000000 in
set_option maxRecDepth 100000 in
theorem impl_SegmentsText.calls (k : Nat) (A0 : Option Addr) (c0 : Nat) (l0 : List (S35)) (r1 : ByteArray) (r2 : Bool) (w : World) (hr0 : Kd.C k35 w A0 l0.length l0) (hc0 : l0.length ≤ c0) (h : impl_SegmentsText.f k l0 = some (r1, r2)) (ht : Lib.HTab w := by exact Lib.zt HT0.out zb) :
  Calls Tryd.prog 8 #[.slice A0 l0.length c0] w fun e w' => e = .returned (.tuple #[.string r1, .bool r2]) ∧ Below w.heap.size w w' := by
 have HT0 := zm ht;clear ht;have hu35 := Tryd.underlying35;have HR0 := zm hr0;have HC0 := zm hc0;clear hr0 hc0;have HB := zm (Below.refl w.heap.size w);have H : ((impl_AreSegments.f k l0).bind fun t237 => (if t237 = true then (impl_SegmentsText.l0 k (⟨#[]⟩ : ByteArray) l0 (l0.length : Int) 0) else (some ((⟨#[]⟩ : ByteArray), false)))) = some (r1, r2) := h;clear h;obtain ⟨t237, A2, H⟩ := zI H;(try dsimp only at H);by_cases c3 : t237 = true
 rotate_left
 ·
  replace c3 := Bool.eq_false_iff.mpr c3;subst c3;rw [if_neg (show ¬ (false = true) by decide)] at H;simp only [Option.some.injEq, Prod.mk.injEq] at H;obtain ⟨rfl, rfl⟩ := H;go_enter Tryd.func8, Tryd.ntmps8;go_wp2_with (first | ((with_reducible refine gate_callee (f := 13) rfl ?_); refine goesA_ (some 8) Tryd.func13 #[.slice A0 l0.length c0] rfl ?_; (with_reducible refine (impl_AreSegments.calls k _ _ l0 false _ ?side1 ?side2 A2.out).mono ?_); (case side1 => exact zF HR0.out); (case side2 => exact HC0.out); rintro e w17 ⟨rfl, hb⟩; refine ⟨_, rfl, ?_⟩; replace HB := zm (below_step zb hb); (try clear hb)))
  go_ret2
  exact ⟨zr, zb⟩
 subst c3;rw [if_pos rfl] at H;have H' := zm H;clear H;go_enter Tryd.func8, Tryd.ntmps8;go_wp2_with (first | ((with_reducible refine gate_callee (f := 13) rfl ?_); refine goesA_ (some 8) Tryd.func13 #[.slice A0 l0.length c0] rfl ?_; (with_reducible refine (impl_AreSegments.calls k _ _ l0 true _ ?side1 ?side2 A2.out).mono ?_); (case side1 => exact zF HR0.out); (case side2 => exact HC0.out); rintro e w4 ⟨rfl, hb⟩; refine ⟨_, rfl, ?_⟩; replace HB := zm (below_step zb hb); (try clear hb)) | ((with_reducible refine gate_dst (N := 4) rfl ?_); refine box_event ?hg (N := 4) ?hd (cs := #[.pointer none, .slice none 0 0]) (t := 45) ?hr ?_; (case hd => rfl); (case hg => rfl); (case hr => first | (go_simp; done) | (go_simp; rfl)); intro gB hgB wB hboxB hbB; have HGB := zm (zs hgB zb : w.heap.size ≤ gB); have HBL := zm (Lib.Bd.new hboxB); replace HB := zm (below_step zb hbB); clear hboxB hbB hgB))
 go_loopg [12] k (fun kq v12 w' => ∃ (x4_1 : ByteArray) (x12_1 : Int), v12 = .int .i64 x12_1 ∧ Aside0 (impl_SegmentsText.l0 kq x4_1 l0 (l0.length : Int) x12_1 = some (r1, r2)) ∧ Aside0 (kq ≤ k) ∧ Aside0 (Lib.Bd gB x4_1 w') ∧ Aside0 (Below w.heap.size w w'))
 case atStart => exact ⟨((⟨#[]⟩ : ByteArray)), (0), zz, H', ⟨Nat.le_refl _⟩, ⟨Lib.zBd HBL.out⟩, ⟨zb⟩⟩
 case round =>
  clear H';(try clear p2);clear HBL;obtain ⟨x4_1, x12_1, rfl, HA, HK1, HBL, HB⟩ := hrel;have HRd := zm (Below.refl wr.heap.size wr);cases gk with
  | zero => exact absurd HA.out (by simp [impl_SegmentsText.l0])
  | succ k1 =>
   have H := HA.out;clear HA;simp only [impl_SegmentsText.l0] at H;by_cases c5 : x12_1 < (l0.length : Int)
   rotate_left
   ·
    rw [if_neg c5] at H;have c5b0 := decide_eq_false c5;clear c5;simp only [Option.some.injEq, Prod.mk.injEq] at H;obtain ⟨rfl, rfl⟩ := H;go_wp2_with (first | ((with_reducible refine gate_callee (f := 26) rfl ?_); refine goesA_ (some 25) Tryd.func26 #[.pointer (some ⟨gB, 0, none⟩)] rfl ?_; refine (Lib.Bd.text (Lib.zBd HBL.out)).mono ?_; rintro e wz ⟨rfl, hbz⟩; refine ⟨_, rfl, ?_⟩; replace HB := zm (Lib.zUp zb hbz HGB.out); clear hbz))
    go_ret2
    exact ⟨zr, zb⟩
   rw [if_pos c5] at H;have c5b0 := decide_eq_true c5;clear c5;obtain ⟨c6, H⟩ := zJ H;have c6b0 := decide_eq_true c6;clear c6;obtain ⟨c7, H⟩ := zJ H;have c7b0 := decide_eq_true c7;clear c7;obtain ⟨y240, hy240⟩ : ∃ y_ : List Int, y_ = (([(rd_T35 l0 x12_1).f0, (rd_T35 l0 x12_1).f1] : List Int)) := ⟨_, rfl⟩;(first | (rw [← hy240] at H; with_reducible replace H := zO H) | rw [← hy240] at H);have Ny240 := zm hy240;clear hy240;obtain ⟨t243, A8, H⟩ := zI H;(try dsimp only at H);obtain ⟨c9, H⟩ := zJ H;have c9b0 := eq_true c9;have c9b1 := decide_eq_true c9;try have c9b2 : (9223372036854775807 < t243.size + 1) = False := eq_false (Nat.not_lt.2 c9)
   obtain ⟨c10, H⟩ := zJ H;have c10b0 := eq_true c10;have LMw := zm c10;have c10b1 := decide_eq_true c10;try have c10b2 : (140737488355328 < x4_1.size + (t243 ++ (⟨#[10]⟩ : ByteArray)).size) = False := eq_false (Nat.not_lt.2 c10)
   try have c10b3 : (140737488355328 < x4_1.size + (t243.size + 1)) = False := eq_false (Nat.not_lt.2 (by have z_ := c10; simp only [ByteArray.size_append] at z_; exact z_))
   have H' := zm H;clear H;have p238 : 0 ≤ (x12_1 : Int) := zd;have q238 : x12_1 < (l0.length : Int) := zd;obtain ⟨ad238, e238, hx238_0, hx238_1⟩ := at_T35 HR0.out x12_1 p238 q238;cases e238;replace hx238_0 := zx HB.out hx238_0;replace hx238_1 := zx HB.out hx238_1;replace p238 := eq_true p238;replace q238 := eq_true q238;go_wp2_with (first | ((with_reducible refine gate_dst (N := 6) rfl ?_); refine box_event ?hg (N := 6) ?hd (cs := #[.int .i64 0, .int .i64 0]) (t := 35) ?hr ?_; (case hd => rfl); (case hg => rfl); (case hr => first | (go_simp; done) | (go_simp; rfl)); intro gb239 hg w11 hbox hb; have n0_ := zm (below_step zb hb); have nR_ := zm (below_step (Lib.zRd (w0 := wr)) hb); have BK239 := zm (hbox); have GW239 := zm (zs hg zb : w.heap.size ≤ gb239); have GR239 := zm (zs hg Lib.zRd : wr.heap.size ≤ gb239); have GE239 := zm (zs hg zb : w.heap.size ≤ gb239); replace HB := n0_; replace HRd := nR_; clear nR_; clear n0_; clear hb hbox hg; obtain ⟨hcz12_0, hcz12_1, hfz12_0, hfz12_1⟩ := zc2 BK239.out) | ((with_reducible refine gate_dst (N := 20) rfl ?_); refine Kd.R_lit (Kd.int .i64) _ 3 ?hg (N := 20) ?hd (xs := ([(rd_T35 l0 x12_1).f0, (rd_T35 l0 x12_1).f1] : List Int)) (inner := [.int .i64 ((rd_T35 l0 x12_1).f0), .int .i64 ((rd_T35 l0 x12_1).f1)]) (ok := fun _ => True) (okp := fun _ => True) ?hr ?hp (fun _ hk => hk) trivial (Below.refl _ _) (Nat.le_refl _) (by simp) ?_; (case hd => rfl); (case hg => rfl); (case hr => first | (go_simp; done) | (go_simp; rfl)); (case hp => exact (Reps.one (show Kd.M (Kd.int .i64) _ _ _ ((rd_T35 l0 x12_1).f0) [.int .i64 ((rd_T35 l0 x12_1).f0)] from rfl) (Reps.one (show Kd.M (Kd.int .i64) _ _ _ ((rd_T35 l0 x12_1).f1) [.int .i64 ((rd_T35 l0 x12_1).f1)] from rfl) (Reps.none _ _)))); intro v241 w13 ho14 hb hg_ hnew_; clear hg_ hnew_; (first | rw [← Ny240.out] at ho14 | (simp only [Int.reduceToNat] at ho14; rw [← Ny240.out] at ho14)); have HO242 := zm (Kd.R_lower ho14 (below_size zb)); replace BK239 := zm (blk_below (g := gb239) (o := .cells #[.int .i64 ((rd_T35 l0 x12_1).f0), .int .i64 ((rd_T35 l0 x12_1).f1)] 35 (0, 0)) (by (with_reducible repeat (first | refine blk_drewN ?_ _ | refine blk_drew ?_ | refine blk_alloc ?_ _)); refine blk_put (cs := #[.int .i64 ((rd_T35 l0 x12_1).f0), .int .i64 0]) ?_ 1 _ rfl; (with_reducible repeat (first | refine blk_drewN ?_ _ | refine blk_drew ?_ | refine blk_alloc ?_ _)); refine blk_put (cs := #[.int .i64 0, .int .i64 0]) ?_ 0 _ rfl; (with_reducible repeat (first | refine blk_drewN ?_ _ | refine blk_drew ?_ | refine blk_alloc ?_ _)); exact BK239.out) hb); have nR_ := zm (below_step (Lib.zRd (w0 := wr)) hb); replace HB := zm (below_step zb hb); replace HRd := nR_; clear nR_; clear hb ho14; obtain ⟨Ao15, co15, eo15⟩ := Kd.R_slice HO242.out; subst eo15) | ((with_reducible refine gate_callee (f := 25) rfl ?_); refine goesA_ (some 21) Tryd.func25 #[.slice Ao15 y240.length co15] rfl ?_; (with_reducible refine (impl_words.calls k1 _ _ y240 t243 _ ?side1 ?side2 A8.out).mono ?_); (case side1 => exact (Kd.R_reads' (zP HO242.out)).2.2); (case side2 => exact (Kd.R_reads' HO242.out).2.1); rintro e w16 ⟨rfl, hb⟩; refine ⟨_, rfl, ?_⟩; replace HO242 := zm (Kd.R_below (zP HO242.out) hb); replace BK239 := zm (blk_below (g := gb239) zk hb); have nR_ := zm (below_step (Lib.zRd (w0 := wr)) hb); replace HB := zm (below_step zb hb); replace HRd := nR_; clear nR_; (try clear hb); (try clear hk)) | ((with_reducible refine gate_callee (f := 24) rfl ?_); refine goesA_ (some 23) Tryd.func24 #[.pointer (some ⟨gB, 0, none⟩), .string ((t243 ++ (⟨#[10]⟩ : ByteArray)))] rfl ?_; refine (Lib.Bd.write (Lib.Bd.below HBL.out (Lib.zRd (w0 := wr))) LMw.out).mono ?_; rintro e wz ⟨rfl, hbd, hbz⟩; refine ⟨_, rfl, ?_⟩; have HBN := zm hbd; replace HB := zm (Lib.zUp zb hbz HGB.out); clear hbd hbz))
   go_roundg k1
   case measure => have := HK1.out; omega
   case rel => exact ⟨(x4_1 ++ (t243 ++ (⟨#[10]⟩ : ByteArray))), (wrap64 (x12_1 + 1)), zz, H', ⟨by have := HK1.out; omega⟩, ⟨Lib.zBd HBN.out⟩, ⟨zb⟩⟩
def spec_l1Num.f : Nat → Int → Option (ByteArray)
  | 0, _ => none
  | k + 1, a0 => if a0 < 10 then (some (strOfNums (([(wrap64 (48 + a0)) % 256] : List Int)))) else ((spec_l1Num.f k (wrap64 (Int.tdiv a0 10))).bind fun t240 => ((some (([(wrap64 (48 + (Int.tmod a0 10))) % 256] : List Int) : List Int)).bind fun y241 => (if t240.size + (strOfNums y241).size ≤ 9223372036854775807 then (some (t240 ++ (strOfNums y241))) else (none))))
def spec_l1Num.T3 : Bool × List (List Nat × List Nat) := (true, [([], []), ([0], [0]), ([1], [1]), ([], []), ([3], [3]), ([4], [4]), ([5], [5]), ([6], [6]), ([7], [7]), ([2, 8], [2, 8]), ([9, 2, 0, 1, 2, 3, 4, 5, 6, 7, 8, 9], [9])])
def spec_l1Num.B3 : List Nat := [0, 1, 3, 0, 8, 24, 56, 120, 248, 511, 1023]
theorem spec_l1Num.tab3 : rtab .any (opsOf Tryd.f27 3) = spec_l1Num.T3 := by kernel_rfl
theorem spec_l1Num.bits3 : waitsOk spec_l1Num.T3.2 spec_l1Num.B3 = true := by kernel_rfl
set_option maxHeartbeats 8000000 in
set_option maxRecDepth 100000 in
theorem spec_l1Num.calls (k : Nat) : ∀ (a0 : Int) (r : ByteArray) (w : World) (h : spec_l1Num.f k a0 = some r),
  Calls Tryd.prog 27 #[.int .i64 a0] w fun e w' => e = .returned (.string r) ∧ Below w.heap.size w w' := by
 induction k using Nat.strongRecOn with
 | _ k ih =>
 intro a0 r w h;cases k with
 | zero => exact absurd h (by simp [spec_l1Num.f])
 | succ k =>
 simp only [spec_l1Num.f] at h;have HB := zm (Below.refl w.heap.size w);have H : (if a0 < 10 then (some (strOfNums (([(wrap64 (48 + a0)) % 256] : List Int)))) else ((spec_l1Num.f k (wrap64 (Int.tdiv a0 10))).bind fun t240 => ((some (([(wrap64 (48 + (Int.tmod a0 10))) % 256] : List Int) : List Int)).bind fun y241 => (if t240.size + (strOfNums y241).size ≤ 9223372036854775807 then (some (t240 ++ (strOfNums y241))) else (none))))) = some r := h;clear h;by_cases c2 : a0 < 10
 ·
  rw [if_pos c2] at H;have c2b0 := decide_eq_true c2;clear c2;obtain ⟨y237, hy237⟩ : ∃ y_ : List Int, y_ = (([(wrap64 (48 + a0)) % 256] : List Int)) := ⟨_, rfl⟩;(first | (rw [← hy237] at H; with_reducible replace H := zO H) | rw [← hy237] at H);have Ny237 := zm hy237;clear hy237;obtain rfl := Option.some.inj H;go_enter Tryd.func27, Tryd.ntmps27;go_wp2_with (first | ((with_reducible refine gate_dst (N := 8) rfl ?_); refine Kd.R_lit (Kd.int .u8) _ 5 ?hg (N := 8) ?hd (xs := ([(wrap64 (48 + a0)) % 256] : List Int)) (inner := [.int .u8 ((wrap64 (48 + a0)) % 256)]) (ok := fun _ => True) (okp := fun _ => True) ?hr ?hp (fun _ hk => hk) trivial (Below.refl _ _) (Nat.le_refl _) (by simp) ?_; (case hd => rfl); (case hg => rfl); (case hr => first | (go_simp; done) | (go_simp; rfl)); (case hp => exact (Reps.one (show Kd.M (Kd.int .u8) _ _ _ ((wrap64 (48 + a0)) % 256) [.int .u8 ((wrap64 (48 + a0)) % 256)] from rfl) (Reps.none _ _))); intro v238 w3 ho4 hb hg_ hnew_; clear hg_ hnew_; (first | rw [← Ny237.out] at ho4 | (simp only [Int.reduceToNat] at ho4; rw [← Ny237.out] at ho4)); have HO239 := zm (Kd.R_lower ho4 (below_size zb)); replace HB := zm (below_step zb hb); clear hb ho4; have hcv5 := own_string (P := Tryd.prog) Tryd.underlying22 Tryd.underlying5 Tryd.underlying9 (Kd.own_of_R HO239.out)))
  go_ret
  exact ⟨zr, zb⟩
 rw [if_neg c2] at H;have c2b0 := decide_eq_false c2;clear c2;obtain ⟨t240, A6, H⟩ := zI H;(try dsimp only at H);obtain ⟨y241, hy241⟩ : ∃ y_ : List Int, y_ = (([(wrap64 (48 + (Int.tmod a0 10))) % 256] : List Int)) := ⟨_, rfl⟩;(first | (rw [← hy241] at H; with_reducible replace H := zO H) | rw [← hy241] at H);have Ny241 := zm hy241;clear hy241;obtain ⟨c7, H⟩ := zJ H;have c7b0 := eq_true c7;have c7b1 := decide_eq_true c7;try have c7b2 : (9223372036854775807 < t240.size + (strOfNums y241).size) = False := eq_false (Nat.not_lt.2 c7)
 obtain rfl := Option.some.inj H;go_enter Tryd.func27, Tryd.ntmps27;try go_wp2
 have n0_ := zm (below_drew1 HB.out);clear HB;have HB := n0_;clear n0_;refine start_ (n := 11) (S := fun w' => True) (ds := []) #[F,F,F,F,F,F,F,F,F,F,F] (by kernel_rfl) rfl rfl trivial (fun hHeld => ?_); refine with_tabW spec_l1Num.tab3 spec_l1Num.bits3 (fun HT_ HW_ => ?_)
 generalize w.drew = w8 at HB hHeld ⊢;refine zU 0 10 #[T,F,F,F,F,F,F,F,F,F,F] ?_;refine zU 1 11 #[T,T,F,F,F,F,F,F,F,F,F] ?_;refine zU 3 13 #[T,T,F,T,F,F,F,F,F,F,F] ?_;refine zU 4 14 #[T,T,F,T,T,F,F,F,F,F,F] ?_;refine zU 5 15 #[T,T,F,T,T,T,F,F,F,F,F] ?_;refine zU 6 16 #[T,T,F,T,T,T,T,F,F,F,F] ?_;refine join_ (σ := Value) 2 #[T,T,T,T,T,T,T,T,T,F,F] (fun s_ => [(12, .string t240), (17, s_), (18, .string (strOfNums y241))]) (fun s_ w' => (Kd.R (Kd.int .u8) 5 w' w.heap.size (fun _ => True) s_ y241) ∧ (Below w.heap.size w w')) ?_ ?_
 rotate_left
 ·
  intro hCont;refine two_ (i := 2) (j := 7) (Ni := some 12) (Nj := some 17) #[T,T,T,T,T,T,T,F,F,F,F] #[T,T,F,T,T,T,T,T,F,F,F] rfl rfl rfl rfl (two_of HT_.out (by kernel_rfl)) (by decide) (by decide) (fun K hK => ?_) (fun K hK => ?_)
  ·
   skip
   refine goes_ Tryd.func27 (by kernel_rfl) rfl #[.int .i64 (wrap64 (Int.tdiv a0 10))] (by rfl) rfl rfl (by (try simp only [List.map_toArray, List.map_cons, List.map_nil]); first | done | rfl | (simp only [List.length_drop, List.length_take]; rfl)) ?_
   with_reducible refine (ih k (by omega) (wrap64 (Int.tdiv a0 10)) t240 _ A6.out).mono ?_
   rintro e w9 ⟨rfl, hb⟩;refine ⟨_, rfl, ?_⟩
   have n0_ := zm (below_step zb hb);clear HB;have HB := n0_;clear n0_;(try clear hb);refine hK.out _ _ trivial (fun hHeld => ?_)
   clear hK K;refine norm_ (a' := ?_) ?_ ?_;rotate_left
   ·
    show Act.put _ (some 12) _ = _
    simp only [Act.put, zA, zB, zD, i64_w, i32_w]
    rfl
   refine one_ (i := 7) (N := some 17) #[T,T,T,T,T,T,T,T,F,F,F] rfl rfl (one_of HT_.out (by kernel_rfl)) (by decide) (fun K hK => ?_)
   refine Kd.R_lit_step (Kd.int .u8) _ 5 ?hg (N := 17) ?hd (xs := ([(wrap64 (48 + (Int.tmod a0 10))) % 256] : List Int)) (inner := [.int .u8 ((wrap64 (48 + (Int.tmod a0 10))) % 256)]) (ok := fun _ => True) (okp := fun _ => True) ?hr ?hp (fun _ hk => hk) trivial (Below.refl _ _) (Nat.le_refl _) (by simp) ?_; (case hd => rfl); (case hg => rfl); (case hr => first | (go_simp; done) | (go_simp; rfl)); (case hp => exact (Reps.one (show Kd.M (Kd.int .u8) _ _ _ ((wrap64 (48 + (Int.tmod a0 10))) % 256) [.int .u8 ((wrap64 (48 + (Int.tmod a0 10))) % 256)] from rfl) (Reps.none _ _)))
   intro v242 w10 ho11 hb hg_ hnew_;clear hg_ hnew_;(first | rw [← Ny241.out] at ho11 | (simp only [Int.reduceToNat] at ho11; rw [← Ny241.out] at ho11));have n0_ := zm (Kd.R_lower ho11 (below_size zb));have n1_ := zm (below_step zb hb);clear HB;have HO243 := n0_;have HB := n1_;clear n0_ n1_;clear hb ho11;refine hK.out _ _ trivial (fun hHeld => ?_)
   clear hK K;refine norm_ (a' := ?_) ?_ ?_;rotate_left
   ·
    show Act.put _ (some 17) _ = _
    simp only [Act.put, zA, zB, zD, i64_w, i32_w]
    rfl
   refine one_ (i := 8) (N := some 18) #[T,T,T,T,T,T,T,T,T,F,F] rfl rfl (one_of HT_.out (by kernel_rfl)) (by decide) (fun K hK => ?_)
   have hcv12 := own_string (P := Tryd.prog) Tryd.underlying22 Tryd.underlying5 Tryd.underlying9 (Kd.own_of_R HO243.out);refine value_ (w1 := ?_) (v := ?_) (by rfl) rfl ?_ ?_
   rotate_left 2
   ·
    go_simp
    constructor
    ·
     rfl
    ·
     rfl
   clear hcv12;refine hK.out _ _ trivial (fun hHeld => ?_)
   clear hK K;refine norm_ (a' := ?_) ?_ ?_;rotate_left
   ·
    show Act.put _ (some 18) _ = _
    simp only [Act.put, zA, zB, zD, i64_w, i32_w]
    rfl
   exact norm_ (by simp only [putAll, Act.put, List.setIfInBounds_toArray, List.set_cons_zero, List.set_cons_succ]) (hCont (v242) _ ⟨(zP HO243.out), zb⟩)
  ·
   skip
   refine Kd.R_lit_step (Kd.int .u8) _ 5 ?hg (N := 17) ?hd (xs := ([(wrap64 (48 + (Int.tmod a0 10))) % 256] : List Int)) (inner := [.int .u8 ((wrap64 (48 + (Int.tmod a0 10))) % 256)]) (ok := fun _ => True) (okp := fun _ => True) ?hr ?hp (fun _ hk => hk) trivial (Below.refl _ _) (Nat.le_refl _) (by simp) ?_; (case hd => rfl); (case hg => rfl); (case hr => first | (go_simp; done) | (go_simp; rfl)); (case hp => exact (Reps.one (show Kd.M (Kd.int .u8) _ _ _ ((wrap64 (48 + (Int.tmod a0 10))) % 256) [.int .u8 ((wrap64 (48 + (Int.tmod a0 10))) % 256)] from rfl) (Reps.none _ _)))
   intro v242 w9 ho10 hb hg_ hnew_;clear hg_ hnew_;(first | rw [← Ny241.out] at ho10 | (simp only [Int.reduceToNat] at ho10; rw [← Ny241.out] at ho10));have n0_ := zm (Kd.R_lower ho10 (below_size zb));have n1_ := zm (below_step zb hb);clear HB;have HO243 := n0_;have HB := n1_;clear n0_ n1_;clear hb ho10;refine hK.out _ _ trivial (fun hHeld => ?_)
   clear hK K;refine norm_ (a' := ?_) ?_ ?_;rotate_left
   ·
    show Act.put _ (some 17) _ = _
    simp only [Act.put, zA, zB, zD, i64_w, i32_w]
    rfl
   refine two_ (i := 2) (j := 8) (Ni := some 12) (Nj := some 18) #[T,T,T,T,T,T,T,T,F,F,F] #[T,T,F,T,T,T,T,T,T,F,F] rfl rfl rfl rfl (two_of HT_.out (by kernel_rfl)) (by decide) (by decide) (fun K hK => ?_) (fun K hK => ?_)
   ·
    skip
    refine goes_ Tryd.func27 (by kernel_rfl) rfl #[.int .i64 (wrap64 (Int.tdiv a0 10))] (by rfl) rfl rfl (by (try simp only [List.map_toArray, List.map_cons, List.map_nil]); first | done | rfl | (simp only [List.length_drop, List.length_take]; rfl)) ?_
    with_reducible refine (ih k (by omega) (wrap64 (Int.tdiv a0 10)) t240 _ A6.out).mono ?_
    rintro e w11 ⟨rfl, hb⟩;refine ⟨_, rfl, ?_⟩
    have n0_ := zm (Kd.R_below (zP HO243.out) hb);have n1_ := zm (below_step zb hb);clear HO243;clear HB;have HO243 := n0_;have HB := n1_;clear n0_ n1_;(try clear hb);refine hK.out _ _ trivial (fun hHeld => ?_)
    clear hK K;refine norm_ (a' := ?_) ?_ ?_;rotate_left
    ·
     show Act.put _ (some 12) _ = _
     simp only [Act.put, zA, zB, zD, i64_w, i32_w]
     rfl
    refine one_ (i := 8) (N := some 18) #[T,T,T,T,T,T,T,T,T,F,F] rfl rfl (one_of HT_.out (by kernel_rfl)) (by decide) (fun K hK => ?_)
    have hcv12 := own_string (P := Tryd.prog) Tryd.underlying22 Tryd.underlying5 Tryd.underlying9 (Kd.own_of_R HO243.out);refine value_ (w1 := ?_) (v := ?_) (by rfl) rfl ?_ ?_
    rotate_left 2
    ·
     go_simp
     constructor
     ·
      rfl
     ·
      rfl
    clear hcv12;refine hK.out _ _ trivial (fun hHeld => ?_)
    clear hK K;refine norm_ (a' := ?_) ?_ ?_;rotate_left
    ·
     show Act.put _ (some 18) _ = _
     simp only [Act.put, zA, zB, zD, i64_w, i32_w]
     rfl
    exact norm_ (by simp only [putAll, Act.put, List.setIfInBounds_toArray, List.set_cons_zero, List.set_cons_succ]) (hCont (v242) _ ⟨(zP HO243.out), zb⟩)
   ·
    skip
    have hcv11 := own_string (P := Tryd.prog) Tryd.underlying22 Tryd.underlying5 Tryd.underlying9 (Kd.own_of_R HO243.out);refine value_ (w1 := ?_) (v := ?_) (by rfl) rfl ?_ ?_
    rotate_left 2
    ·
     go_simp
     constructor
     ·
      rfl
     ·
      rfl
    clear hcv11;refine hK.out _ _ trivial (fun hHeld => ?_)
    clear hK K;refine norm_ (a' := ?_) ?_ ?_;rotate_left
    ·
     show Act.put _ (some 18) _ = _
     simp only [Act.put, zA, zB, zD, i64_w, i32_w]
     rfl
    refine one_ (i := 2) (N := some 12) #[T,T,T,T,T,T,T,T,T,F,F] rfl rfl (one_of HT_.out (by kernel_rfl)) (by decide) (fun K hK => ?_)
    refine goes_ Tryd.func27 (by kernel_rfl) rfl #[.int .i64 (wrap64 (Int.tdiv a0 10))] (by rfl) rfl rfl (by (try simp only [List.map_toArray, List.map_cons, List.map_nil]); first | done | rfl | (simp only [List.length_drop, List.length_take]; rfl)) ?_
    with_reducible refine (ih k (by omega) (wrap64 (Int.tdiv a0 10)) t240 _ A6.out).mono ?_
    rintro e w12 ⟨rfl, hb⟩;refine ⟨_, rfl, ?_⟩
    have n0_ := zm (Kd.R_below (zP HO243.out) hb);have n1_ := zm (below_step zb hb);clear HO243;clear HB;have HO243 := n0_;have HB := n1_;clear n0_ n1_;(try clear hb);refine hK.out _ _ trivial (fun hHeld => ?_)
    clear hK K;refine norm_ (a' := ?_) ?_ ?_;rotate_left
    ·
     show Act.put _ (some 12) _ = _
     simp only [Act.put, zA, zB, zD, i64_w, i32_w]
     rfl
    exact norm_ (by simp only [putAll, Act.put, List.setIfInBounds_toArray, List.set_cons_zero, List.set_cons_succ]) (hCont (v242) _ ⟨(zP HO243.out), zb⟩)
 rintro v242 w13 ⟨h0_, h1_⟩;have n0_ : Aside0 (Kd.R (Kd.int .u8) 5 w13 w.heap.size (fun _ => True) v242 y241) := ⟨h0_⟩
 have n1_ : Aside0 (Below w.heap.size w w13) := ⟨h1_⟩
 clear HB;clear h0_ h1_;have HO243 := n0_;have HB := n1_;clear n0_ n1_;have hHeld := trivial;refine norm_ (a' := ?_) ?_ ?_;rotate_left
 ·
  simp only [putAll, Act.put, List.setIfInBounds_toArray, List.set_cons_zero, List.set_cons_succ]
  rfl
 refine zU 9 19 #[T,T,T,T,T,T,T,T,T,T,F] ?_;refine zU 10 2 #[T,T,T,T,T,T,T,T,T,T,T] ?_;refine done_ (done_of HT_.out (by kernel_rfl)) ?_
 try go_wp2
 go_ret
 exact ⟨zr, zb⟩
end Go.Proofs.YtbgbmjagcdnloaaDoor.PSg
