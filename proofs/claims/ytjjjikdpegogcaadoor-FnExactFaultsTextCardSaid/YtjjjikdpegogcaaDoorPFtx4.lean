-- Written for this claim by a program of this session (wip/tpl/patchprint.py), not by print.sh.
import Derived.Test.YtjjjikdpegogcaaDoorPFtx0
import Derived.Test.YtjjjikdpegogcaaDoorPFtx3
namespace Go.Proofs.YtjjjikdpegogcaaDoor.PFt
open Go.RowKit Go.Proofs.YtjjjikdpegogcaaDoorW.PrintWords Go.Proofs.YtjjjikdpegogcaaDoorW.PrintLast Go.Proofs.YtjjjikdpegogcaaDoorW.PrintMore
attribute [local go_sem] max2_int min2_int max_two min_two max_three min_three max_four min_four   -- for this text's walks alone
set_option linter.unusedVariables false
set_option linter.unusedSimpArgs false

/-! ### impl_FaultsText: function 15 -/
def impl_FaultsText.l0 : Nat → List ByteArray → ByteArray → List (List Int) → Int → Int → Option (ByteArray × Bool)
  | 0, _, _, _, _, _ => none
  | k + 1, x4, x5, x12, x13, x14 => if x14 < x13 then (if 0 ≤ x14 then (if x14 < (x12.length : Int) then (if ((rd_L1 x12 x14).length : Int) = 2 then (if 0 < ((rd_L1 x12 x14).length : Int) then (if (rd (rd_L1 x12 x14) 0) < 0 then (some ((⟨#[]⟩ : ByteArray), false)) else (if (rd (rd_L1 x12 x14) 0) ≥ (x4.length : Int) then (some ((⟨#[]⟩ : ByteArray), false)) else (if 1 < ((rd_L1 x12 x14).length : Int) then (if (rd (rd_L1 x12 x14) 1) < 0 then (some ((⟨#[]⟩ : ByteArray), false)) else (if (rd (rd_L1 x12 x14) 1) > 999 then (some ((⟨#[]⟩ : ByteArray), false)) else (if 0 ≤ (rd (rd_L1 x12 x14) 0) then (if (rd (rd_L1 x12 x14) 0) < (x4.length : Int) then (if (rdOf ByteArray.empty x4 (rd (rd_L1 x12 x14) 0)).size + 1 ≤ 9223372036854775807 then ((impl_words.f k (([rd (rd_L1 x12 x14) 1] : List Int))).bind fun t158 => (if ((rdOf ByteArray.empty x4 (rd (rd_L1 x12 x14) 0)) ++ (⟨#[32]⟩ : ByteArray)).size + t158.size ≤ 9223372036854775807 then (if (((rdOf ByteArray.empty x4 (rd (rd_L1 x12 x14) 0)) ++ (⟨#[32]⟩ : ByteArray)) ++ t158).size + 1 ≤ 9223372036854775807 then (if x5.size + ((((rdOf ByteArray.empty x4 (rd (rd_L1 x12 x14) 0)) ++ (⟨#[32]⟩ : ByteArray)) ++ t158) ++ (⟨#[10]⟩ : ByteArray)).size ≤ 140737488355328 then (impl_FaultsText.l0 k x4 (x5 ++ ((((rdOf ByteArray.empty x4 (rd (rd_L1 x12 x14) 0)) ++ (⟨#[32]⟩ : ByteArray)) ++ t158) ++ (⟨#[10]⟩ : ByteArray))) x12 x13 (wrap64 (x14 + 1))) else (none)) else (none)) else (none))) else (none)) else (none)) else (none)))) else (none)))) else (none)) else (some ((⟨#[]⟩ : ByteArray), false))) else (none)) else (none)) else (some (x5, true))
def impl_FaultsText.f (k : Nat) (l0 : List (List Int)) : Option (ByteArray × Bool) := if (l0.length : Int) > 200 then (some ((⟨#[]⟩ : ByteArray), false)) else (impl_FaultsText.l0 k (([(⟨#[109, 105, 115, 115, 105, 110, 103]⟩ : ByteArray), (⟨#[101, 120, 116, 114, 97]⟩ : ByteArray), (⟨#[102, 114, 111, 109]⟩ : ByteArray), (⟨#[116, 111]⟩ : ByteArray), (⟨#[115, 105, 108, 101, 110, 116]⟩ : ByteArray)] : List ByteArray)) (⟨#[]⟩ : ByteArray) l0 (l0.length : Int) 0)
theorem impl_FaultsText.mono_l : ∀ k, (∀ y0 y1 y2 y3 y4, LeO (impl_FaultsText.l0 k y0 y1 y2 y3 y4) (impl_FaultsText.l0 (k + 1) y0 y1 y2 y3 y4))
  | 0 => fun _ _ _ _ _ r h => by simp [impl_FaultsText.l0] at h
  | k + 1 => by
    have ih0 := impl_FaultsText.mono_l k
    · intro y0 y1 y2 y3 y4
      unfold impl_FaultsText.l0
      repeat' first
      | (with_reducible exact ih0 _ _ _ _ _)
      | (with_reducible exact impl_words.mono _ _)
      | (with_reducible exact LeO.refl _)
      | (with_reducible exact LeO.none _)
      | (with_reducible refine LeO.ite ?_ ?_)
      | (with_reducible refine LeO.bind ?_ (fun _ => ?_))
      | exact ih0 _ _ _ _ _
      | exact impl_words.mono _ _
      | exact LeO.none _
      | refine LeO.ite ?_ ?_
      | refine LeO.bind ?_ (fun _ => ?_)
theorem impl_FaultsText.mono : ∀ a0 k, LeO (impl_FaultsText.f k a0) (impl_FaultsText.f (k + 1) a0) := by
  intro a0 k
  have ih0 := impl_FaultsText.mono_l k
  unfold impl_FaultsText.f
  repeat' first
      | (with_reducible exact ih0 _ _ _ _ _)
      | (with_reducible exact impl_words.mono _ _)
      | (with_reducible exact LeO.refl _)
      | (with_reducible exact LeO.none _)
      | (with_reducible refine LeO.ite ?_ ?_)
      | (with_reducible refine LeO.bind ?_ (fun _ => ?_))
      | exact ih0 _ _ _ _ _
      | exact impl_words.mono _ _
      | exact LeO.none _
      | refine LeO.ite ?_ ?_
      | refine LeO.bind ?_ (fun _ => ?_)
def impl_FaultsText.T10 : Bool × List (List Nat × List Nat) := (true, [([], []), ([], []), ([1], [1]), ([2], [2]), ([0, 3], [0, 3]), ([4], [4]), ([5], [5]), ([], []), ([7], [7]), ([8], [8]), ([9], [9]), ([10], [10]), ([6, 11], [6, 11]), ([12], [12]), ([13, 11], [13])])
def impl_FaultsText.B10 : List Nat := [0, 0, 2, 6, 15, 31, 63, 0, 128, 384, 896, 1920, 4095, 8191, 16383]
theorem impl_FaultsText.tab10 : rtab .any (opsOf Tryd.f15 10) = impl_FaultsText.T10 := by kernel_rfl
theorem impl_FaultsText.bits10 : waitsOk impl_FaultsText.T10.2 impl_FaultsText.B10 = true := by kernel_rfl
set_option maxHeartbeats 8000000 in
set_option maxRecDepth 100000 in
theorem impl_FaultsText.calls (k : Nat) (A0 : Option Addr) (c0 : Nat) (l0 : List (List Int)) (r1 : ByteArray) (r2 : Bool) (w : World) (hr0 : Kd.C (Kd.slice 3 (Kd.int .i64)) w A0 l0.length l0) (hc0 : l0.length ≤ c0) (h : impl_FaultsText.f k l0 = some (r1, r2)) (ht : Lib.HTab w := by exact Lib.zt HT0.out zb) :
  Calls Tryd.prog 15 #[.slice A0 l0.length c0] w fun e w' => e = .returned (.tuple #[.string r1, .bool r2]) ∧ Below w.heap.size w w' := by
 have HT0 := zm ht
 clear ht
 have HR0 := zm hr0
 have HC0 := zm hc0
 clear hr0 hc0
 have HB := zm (Below.refl w.heap.size w)
 have H : (if (l0.length : Int) > 200 then (some ((⟨#[]⟩ : ByteArray), false)) else (impl_FaultsText.l0 k (([(⟨#[109, 105, 115, 115, 105, 110, 103]⟩ : ByteArray), (⟨#[101, 120, 116, 114, 97]⟩ : ByteArray), (⟨#[102, 114, 111, 109]⟩ : ByteArray), (⟨#[116, 111]⟩ : ByteArray), (⟨#[115, 105, 108, 101, 110, 116]⟩ : ByteArray)] : List ByteArray)) (⟨#[]⟩ : ByteArray) l0 (l0.length : Int) 0)) = some (r1, r2) := h
 clear h
 by_cases c2 : (l0.length : Int) > 200
 ·
  rw [if_pos c2] at H
  have c2b0 : decide (200 < (l0.length : Int)) = true := decide_eq_true c2
  have c2b1 : decide (200 < l0.length) = true := decide_eq_true (by omega)
  clear c2
  simp only [Option.some.injEq, Prod.mk.injEq] at H
  obtain ⟨rfl, rfl⟩ := H
  go_enter Tryd.func15, Tryd.ntmps15
  go_wp2
  go_ret2
  exact ⟨zr, zb⟩
 rw [if_neg c2] at H
 have c2b0 : decide (200 < (l0.length : Int)) = false := decide_eq_false c2
 have c2b1 : decide (200 < l0.length) = false := decide_eq_false (by omega)
 clear c2
 obtain ⟨y144, hy144⟩ : ∃ y_ : List ByteArray, y_ = (([(⟨#[109, 105, 115, 115, 105, 110, 103]⟩ : ByteArray), (⟨#[101, 120, 116, 114, 97]⟩ : ByteArray), (⟨#[102, 114, 111, 109]⟩ : ByteArray), (⟨#[116, 111]⟩ : ByteArray), (⟨#[115, 105, 108, 101, 110, 116]⟩ : ByteArray)] : List ByteArray)) := ⟨_, rfl⟩
 replace H : (impl_FaultsText.l0 k y144 (⟨#[]⟩ : ByteArray) l0 (l0.length : Int) 0) = some (r1, r2) := by first | (rw [hy144]; with_reducible exact H) | (have H2_ := (Option.bind_some _ _).symm.trans H; rw [hy144]; with_reducible exact H2_) | (have H2_ := (Option.bind_some _ _).symm.trans H; with_reducible exact H2_) | with_reducible exact H | (rw [hy144]; exact H) | exact H
 have Ny144 := zm hy144
 clear hy144
 have H' := zm H
 clear H
 go_enter Tryd.func15, Tryd.ntmps15
 go_wp2_with (first | ((with_reducible refine gate_dst (N := 11) rfl ?_); (try (refine gate_guard (by rfl) ?_; dsimp only)); refine Kd.R_lit Kd.string _ 9 ?hg (N := 11) ?hd (xs := ([(⟨#[109, 105, 115, 115, 105, 110, 103]⟩ : ByteArray), (⟨#[101, 120, 116, 114, 97]⟩ : ByteArray), (⟨#[102, 114, 111, 109]⟩ : ByteArray), (⟨#[116, 111]⟩ : ByteArray), (⟨#[115, 105, 108, 101, 110, 116]⟩ : ByteArray)] : List ByteArray)) (inner := [.string (⟨#[109, 105, 115, 115, 105, 110, 103]⟩ : ByteArray), .string (⟨#[101, 120, 116, 114, 97]⟩ : ByteArray), .string (⟨#[102, 114, 111, 109]⟩ : ByteArray), .string (⟨#[116, 111]⟩ : ByteArray), .string (⟨#[115, 105, 108, 101, 110, 116]⟩ : ByteArray)]) (ok := fun _ => True) (okp := fun _ => True) ?hr ?hp (fun _ hk => hk) trivial (Below.refl _ _) (Nat.le_refl _) (by simp) ?_; (case hd => rfl); (case hg => rfl); (case hr => first | (go_simp; done) | (go_simp; rfl)); (case hp => exact (Reps.one (show Kd.M Kd.string _ _ _ (⟨#[109, 105, 115, 115, 105, 110, 103]⟩ : ByteArray) [.string (⟨#[109, 105, 115, 115, 105, 110, 103]⟩ : ByteArray)] from rfl) (Reps.one (show Kd.M Kd.string _ _ _ (⟨#[101, 120, 116, 114, 97]⟩ : ByteArray) [.string (⟨#[101, 120, 116, 114, 97]⟩ : ByteArray)] from rfl) (Reps.one (show Kd.M Kd.string _ _ _ (⟨#[102, 114, 111, 109]⟩ : ByteArray) [.string (⟨#[102, 114, 111, 109]⟩ : ByteArray)] from rfl) (Reps.one (show Kd.M Kd.string _ _ _ (⟨#[116, 111]⟩ : ByteArray) [.string (⟨#[116, 111]⟩ : ByteArray)] from rfl) (Reps.one (show Kd.M Kd.string _ _ _ (⟨#[115, 105, 108, 101, 110, 116]⟩ : ByteArray) [.string (⟨#[115, 105, 108, 101, 110, 116]⟩ : ByteArray)] from rfl) (Reps.none _ _))))))); intro v145 w3 ho4 hb hg_ hnew_; clear hg_ hnew_; (first | rw [← Ny144.out] at ho4 | (simp only [Int.reduceToNat] at ho4; rw [← Ny144.out] at ho4)); have HO146 := zm (Kd.R_lower ho4 (below_size zb)); replace HB := zm (below_step zb hb); clear hb ho4) | ((with_reducible refine gate_dst (N := 5) rfl ?_); refine box_event ?hg (N := 5) ?hd (cs := #[.pointer none, .slice none 0 0]) (t := 72) ?hr ?_; (case hd => rfl); (case hg => rfl); (case hr => first | (go_simp; done) | (go_simp; rfl)); intro gB hgB wB hboxB hbB; have HGB := zm (zs hgB zb : w.heap.size ≤ gB); have HBL := zm (Lib.Bd.new hboxB); have HGX := zm (zs hgB (Lib.zX0 (w0 := w3)) : w3.heap.size ≤ gB); have HBX := zm (below_step (Lib.zX0 (w0 := w3)) hbB); replace HB := zm (below_step zb hbB); clear hboxB hbB hgB))
 go_loopg [14] k (fun kq v14 w' => ∃ (x5_1 : ByteArray) (x14_1 : Int), v14 = .int .i64 x14_1 ∧ Aside0 (impl_FaultsText.l0 kq y144 x5_1 l0 (l0.length : Int) x14_1 = some (r1, r2)) ∧ Aside0 (kq ≤ k) ∧ Aside0 (Below w3.heap.size w3 w') ∧ Aside0 (Lib.Bd gB x5_1 w') ∧ Aside0 (Below w.heap.size w w'))
 case atStart => exact ⟨((⟨#[]⟩ : ByteArray)), (0), (by first | rfl | (simp; done) | (simp [*]; done)), H', ⟨Nat.le_refl _⟩, ⟨Lib.zXd⟩, ⟨Lib.zBd HBL.out⟩, ⟨zb⟩⟩
 case round =>
  clear H'
  (try clear c1); (try clear c2); (try clear c2b0); (try clear c2b1); (try clear p2)
  clear HBL HBX
  obtain ⟨x5_1, x14_1, rfl, HA, HK1, HBX, HBL, HB⟩ := hrel
  have HRd := zm (Below.refl wr.heap.size wr)
  have HO_4 := zm (Kd.R_below HO146.out HBX.out)
  cases gk with
  | zero => exact absurd HA.out (by simp [impl_FaultsText.l0])
  | succ k1 =>
   have H := HA.out
   clear HA
   simp only [impl_FaultsText.l0] at H
   by_cases c5 : x14_1 < (l0.length : Int)
   rotate_left
   ·
    rw [if_neg c5] at H
    have c5b0 : decide (x14_1 < (l0.length : Int)) = false := decide_eq_false c5
    clear c5
    simp only [Option.some.injEq, Prod.mk.injEq] at H
    obtain ⟨rfl, rfl⟩ := H
    go_wp2_with (first | ((with_reducible refine gate_callee (f := 37) rfl ?_); refine goesA_ (some 63) Tryd.func37 #[.pointer (some ⟨gB, 0, none⟩)] rfl ?_; refine (Lib.Bd.text (Lib.zBd HBL.out)).mono ?_; rintro e wz ⟨rfl, hbz⟩; refine ⟨_, rfl, ?_⟩; replace HB := zm (Lib.zUp zb hbz HGB.out); clear hbz))
    go_ret2
    exact ⟨zr, zb⟩

   rw [if_pos c5] at H
   have c5b0 : decide (x14_1 < (l0.length : Int)) = true := decide_eq_true c5
   clear c5
   by_cases c6 : 0 ≤ x14_1
   rotate_left
   ·
    rw [if_neg c6] at H
    exact absurd H (by simp)
   rw [if_pos c6] at H
   have c6b0 : decide (0 ≤ x14_1) = true := decide_eq_true c6
   clear c6
   by_cases c7 : x14_1 < (l0.length : Int)
   rotate_left
   ·
    rw [if_neg c7] at H
    exact absurd H (by simp)
   rw [if_pos c7] at H
   have c7b0 : decide (x14_1 < (l0.length : Int)) = true := decide_eq_true c7
   clear c7
   by_cases c8 : ((rd_L1 l0 x14_1).length : Int) = 2
   rotate_left
   ·
    rw [if_neg c8] at H
    have c8b0 : (((rd_L1 l0 x14_1).length : Int) == 2) = false := beq_eq_false_iff_ne.mpr c8
    have c8b1 : (((rd_L1 l0 x14_1).length : Int) != 2) = true := bne_iff_ne.mpr c8
    simp only [Option.some.injEq, Prod.mk.injEq] at H
    obtain ⟨rfl, rfl⟩ := H
    have p147 : 0 ≤ (x14_1 : Int) := zd
    have q147 : x14_1 < (l0.length : Int) := zd
    obtain ⟨ad147, A147_0, c147_0, e147, hx147_0, hl147_0, hi147_0⟩ := at_L1 HR0.out x14_1 p147 q147
    cases e147
    replace hx147_0 := zx HB.out hx147_0
    have HR147_0 := zm hi147_0
    have HC147_0 := zm hl147_0
    clear hi147_0 hl147_0
    replace p147 := eq_true p147
    replace q147 := eq_true q147
    go_wp2
    go_ret2
    exact ⟨zr, zb⟩
   rw [if_pos c8] at H
   have c8b0 : (((rd_L1 l0 x14_1).length : Int) == 2) = true := beq_iff_eq.mpr c8
   have c8b1 : (((rd_L1 l0 x14_1).length : Int) != 2) = false := bne_eq_false_iff_eq.mpr c8
   clear c8
   by_cases c9 : 0 < ((rd_L1 l0 x14_1).length : Int)
   rotate_left
   ·
    rw [if_neg c9] at H
    exact absurd H (by simp)
   rw [if_pos c9] at H
   have c9b0 : decide (0 < ((rd_L1 l0 x14_1).length : Int)) = true := decide_eq_true c9
   have c9b1 : decide (0 < (rd_L1 l0 x14_1).length) = true := decide_eq_true (by omega)
   clear c9
   by_cases c10 : (rd (rd_L1 l0 x14_1) 0) < 0
   ·
    rw [if_pos c10] at H
    have c10b0 : decide ((rd (rd_L1 l0 x14_1) 0) < 0) = true := decide_eq_true c10
    clear c10
    simp only [Option.some.injEq, Prod.mk.injEq] at H
    obtain ⟨rfl, rfl⟩ := H
    have p147 : 0 ≤ (x14_1 : Int) := zd
    have q147 : x14_1 < (l0.length : Int) := zd
    obtain ⟨ad147, A147_0, c147_0, e147, hx147_0, hl147_0, hi147_0⟩ := at_L1 HR0.out x14_1 p147 q147
    cases e147
    replace hx147_0 := zx HB.out hx147_0
    have HR147_0 := zm hi147_0
    have HC147_0 := zm hl147_0
    clear hi147_0 hl147_0
    replace p147 := eq_true p147
    replace q147 := eq_true q147
    have p148 : 0 ≤ (0 : Int) := (by omega)
    have q148 : 0 < ((rd_L1 l0 x14_1).length : Int) := zd
    obtain ⟨ad148, e148, hx148_0⟩ := Kd.at_int HR147_0.out 0 p148 q148
    cases e148
    have qi148 : (0 < (rd_L1 l0 x14_1).length) = True := eq_true (by omega)
    (try rw [show ((0 : Int)).toNat = 0 from rfl] at hx148_0)
    (try rw [Addr.add_zero'] at hx148_0)
    replace hx148_0 := zx HB.out hx148_0
    replace p148 := eq_true p148
    replace q148 := eq_true q148
    go_wp2
    go_ret2
    exact ⟨zr, zb⟩
   rw [if_neg c10] at H
   have c10b0 : decide ((rd (rd_L1 l0 x14_1) 0) < 0) = false := decide_eq_false c10
   clear c10
   by_cases c11 : (rd (rd_L1 l0 x14_1) 0) ≥ (y144.length : Int)
   ·
    rw [if_pos c11] at H
    have c11b0 : decide ((y144.length : Int) ≤ (rd (rd_L1 l0 x14_1) 0)) = true := decide_eq_true c11
    clear c11
    simp only [Option.some.injEq, Prod.mk.injEq] at H
    obtain ⟨rfl, rfl⟩ := H
    have p147 : 0 ≤ (x14_1 : Int) := zd
    have q147 : x14_1 < (l0.length : Int) := zd
    obtain ⟨ad147, A147_0, c147_0, e147, hx147_0, hl147_0, hi147_0⟩ := at_L1 HR0.out x14_1 p147 q147
    cases e147
    replace hx147_0 := zx HB.out hx147_0
    have HR147_0 := zm hi147_0
    have HC147_0 := zm hl147_0
    clear hi147_0 hl147_0
    replace p147 := eq_true p147
    replace q147 := eq_true q147
    have p148 : 0 ≤ (0 : Int) := (by omega)
    have q148 : 0 < ((rd_L1 l0 x14_1).length : Int) := zd
    obtain ⟨ad148, e148, hx148_0⟩ := Kd.at_int HR147_0.out 0 p148 q148
    cases e148
    have qi148 : (0 < (rd_L1 l0 x14_1).length) = True := eq_true (by omega)
    (try rw [show ((0 : Int)).toNat = 0 from rfl] at hx148_0)
    (try rw [Addr.add_zero'] at hx148_0)
    replace hx148_0 := zx HB.out hx148_0
    replace p148 := eq_true p148
    replace q148 := eq_true q148
    have p149 : 0 ≤ (0 : Int) := (by omega)
    have q149 : 0 < ((rd_L1 l0 x14_1).length : Int) := zd
    obtain ⟨ad149, e149, hx149_0⟩ := Kd.at_int HR147_0.out 0 p149 q149
    obtain rfl : ad148 = ad149 := (by injection e149)
    skip
    have qi149 : (0 < (rd_L1 l0 x14_1).length) = True := eq_true (by omega)
    (try rw [show ((0 : Int)).toNat = 0 from rfl] at hx149_0)
    (try rw [Addr.add_zero'] at hx149_0)
    replace hx149_0 := zx HB.out hx149_0
    replace p149 := eq_true p149
    replace q149 := eq_true q149
    obtain ⟨Ao12, co12, eo12⟩ := Kd.R_slice HO_4.out
    subst eo12
    go_wp2
    go_ret2
    exact ⟨zr, zb⟩
   rw [if_neg c11] at H
   have c11b0 : decide ((y144.length : Int) ≤ (rd (rd_L1 l0 x14_1) 0)) = false := decide_eq_false c11
   clear c11
   by_cases c13 : 1 < ((rd_L1 l0 x14_1).length : Int)
   rotate_left
   ·
    rw [if_neg c13] at H
    exact absurd H (by simp)
   rw [if_pos c13] at H
   have c13b0 : decide (1 < ((rd_L1 l0 x14_1).length : Int)) = true := decide_eq_true c13
   have c13b1 : decide (1 < (rd_L1 l0 x14_1).length) = true := decide_eq_true (by omega)
   clear c13
   by_cases c14 : (rd (rd_L1 l0 x14_1) 1) < 0
   ·
    rw [if_pos c14] at H
    have c14b0 : decide ((rd (rd_L1 l0 x14_1) 1) < 0) = true := decide_eq_true c14
    clear c14
    simp only [Option.some.injEq, Prod.mk.injEq] at H
    obtain ⟨rfl, rfl⟩ := H
    have p147 : 0 ≤ (x14_1 : Int) := zd
    have q147 : x14_1 < (l0.length : Int) := zd
    obtain ⟨ad147, A147_0, c147_0, e147, hx147_0, hl147_0, hi147_0⟩ := at_L1 HR0.out x14_1 p147 q147
    cases e147
    replace hx147_0 := zx HB.out hx147_0
    have HR147_0 := zm hi147_0
    have HC147_0 := zm hl147_0
    clear hi147_0 hl147_0
    replace p147 := eq_true p147
    replace q147 := eq_true q147
    have p148 : 0 ≤ (0 : Int) := (by omega)
    have q148 : 0 < ((rd_L1 l0 x14_1).length : Int) := zd
    obtain ⟨ad148, e148, hx148_0⟩ := Kd.at_int HR147_0.out 0 p148 q148
    cases e148
    have qi148 : (0 < (rd_L1 l0 x14_1).length) = True := eq_true (by omega)
    (try rw [show ((0 : Int)).toNat = 0 from rfl] at hx148_0)
    (try rw [Addr.add_zero'] at hx148_0)
    replace hx148_0 := zx HB.out hx148_0
    replace p148 := eq_true p148
    replace q148 := eq_true q148
    have p149 : 0 ≤ (0 : Int) := (by omega)
    have q149 : 0 < ((rd_L1 l0 x14_1).length : Int) := zd
    obtain ⟨ad149, e149, hx149_0⟩ := Kd.at_int HR147_0.out 0 p149 q149
    obtain rfl : ad148 = ad149 := (by injection e149)
    skip
    have qi149 : (0 < (rd_L1 l0 x14_1).length) = True := eq_true (by omega)
    (try rw [show ((0 : Int)).toNat = 0 from rfl] at hx149_0)
    (try rw [Addr.add_zero'] at hx149_0)
    replace hx149_0 := zx HB.out hx149_0
    replace p149 := eq_true p149
    replace q149 := eq_true q149
    obtain ⟨Ao15, co15, eo15⟩ := Kd.R_slice HO_4.out
    subst eo15
    have p150 : 0 ≤ (1 : Int) := (by omega)
    have q150 : 1 < ((rd_L1 l0 x14_1).length : Int) := zd
    obtain ⟨ad150, e150, hx150_0⟩ := Kd.at_int HR147_0.out 1 p150 q150
    obtain rfl : ad148 = ad150 := (by injection e150)
    skip
    (try simp only [show (1 : Int).toNat = 1 from rfl, Nat.reduceMul, Nat.reduceEqDiff, Go.Addr.add, ↓reduceIte] at hx150_0)
    have qi150 : (1 < (rd_L1 l0 x14_1).length) = True := eq_true (by omega)
    (try rw [show ((1 : Int)).toNat = 1 from rfl] at hx150_0)
    replace hx150_0 := zx HB.out hx150_0
    replace p150 := eq_true p150
    replace q150 := eq_true q150
    go_wp2
    go_ret2
    exact ⟨zr, zb⟩
   rw [if_neg c14] at H
   have c14b0 : decide ((rd (rd_L1 l0 x14_1) 1) < 0) = false := decide_eq_false c14
   clear c14
   by_cases c16 : (rd (rd_L1 l0 x14_1) 1) > 999
   ·
    rw [if_pos c16] at H
    have c16b0 : decide (999 < (rd (rd_L1 l0 x14_1) 1)) = true := decide_eq_true c16
    clear c16
    simp only [Option.some.injEq, Prod.mk.injEq] at H
    obtain ⟨rfl, rfl⟩ := H
    have p147 : 0 ≤ (x14_1 : Int) := zd
    have q147 : x14_1 < (l0.length : Int) := zd
    obtain ⟨ad147, A147_0, c147_0, e147, hx147_0, hl147_0, hi147_0⟩ := at_L1 HR0.out x14_1 p147 q147
    cases e147
    replace hx147_0 := zx HB.out hx147_0
    have HR147_0 := zm hi147_0
    have HC147_0 := zm hl147_0
    clear hi147_0 hl147_0
    replace p147 := eq_true p147
    replace q147 := eq_true q147
    have p148 : 0 ≤ (0 : Int) := (by omega)
    have q148 : 0 < ((rd_L1 l0 x14_1).length : Int) := zd
    obtain ⟨ad148, e148, hx148_0⟩ := Kd.at_int HR147_0.out 0 p148 q148
    cases e148
    have qi148 : (0 < (rd_L1 l0 x14_1).length) = True := eq_true (by omega)
    (try rw [show ((0 : Int)).toNat = 0 from rfl] at hx148_0)
    (try rw [Addr.add_zero'] at hx148_0)
    replace hx148_0 := zx HB.out hx148_0
    replace p148 := eq_true p148
    replace q148 := eq_true q148
    have p149 : 0 ≤ (0 : Int) := (by omega)
    have q149 : 0 < ((rd_L1 l0 x14_1).length : Int) := zd
    obtain ⟨ad149, e149, hx149_0⟩ := Kd.at_int HR147_0.out 0 p149 q149
    obtain rfl : ad148 = ad149 := (by injection e149)
    skip
    have qi149 : (0 < (rd_L1 l0 x14_1).length) = True := eq_true (by omega)
    (try rw [show ((0 : Int)).toNat = 0 from rfl] at hx149_0)
    (try rw [Addr.add_zero'] at hx149_0)
    replace hx149_0 := zx HB.out hx149_0
    replace p149 := eq_true p149
    replace q149 := eq_true q149
    obtain ⟨Ao17, co17, eo17⟩ := Kd.R_slice HO_4.out
    subst eo17
    have p150 : 0 ≤ (1 : Int) := (by omega)
    have q150 : 1 < ((rd_L1 l0 x14_1).length : Int) := zd
    obtain ⟨ad150, e150, hx150_0⟩ := Kd.at_int HR147_0.out 1 p150 q150
    obtain rfl : ad148 = ad150 := (by injection e150)
    skip
    (try simp only [show (1 : Int).toNat = 1 from rfl, Nat.reduceMul, Nat.reduceEqDiff, Go.Addr.add, ↓reduceIte] at hx150_0)
    have qi150 : (1 < (rd_L1 l0 x14_1).length) = True := eq_true (by omega)
    (try rw [show ((1 : Int)).toNat = 1 from rfl] at hx150_0)
    replace hx150_0 := zx HB.out hx150_0
    replace p150 := eq_true p150
    replace q150 := eq_true q150
    have p151 : 0 ≤ (1 : Int) := (by omega)
    have q151 : 1 < ((rd_L1 l0 x14_1).length : Int) := zd
    obtain ⟨ad151, e151, hx151_0⟩ := Kd.at_int HR147_0.out 1 p151 q151
    obtain rfl : ad148 = ad151 := (by injection e151)
    skip
    (try simp only [show (1 : Int).toNat = 1 from rfl, Nat.reduceMul, Nat.reduceEqDiff, Go.Addr.add, ↓reduceIte] at hx151_0)
    have qi151 : (1 < (rd_L1 l0 x14_1).length) = True := eq_true (by omega)
    (try rw [show ((1 : Int)).toNat = 1 from rfl] at hx151_0)
    replace hx151_0 := zx HB.out hx151_0
    replace p151 := eq_true p151
    replace q151 := eq_true q151
    go_wp2
    go_ret2
    exact ⟨zr, zb⟩
   rw [if_neg c16] at H
   have c16b0 : decide (999 < (rd (rd_L1 l0 x14_1) 1)) = false := decide_eq_false c16
   clear c16
   by_cases c18 : 0 ≤ (rd (rd_L1 l0 x14_1) 0)
   rotate_left
   ·
    rw [if_neg c18] at H
    exact absurd H (by simp)
   rw [if_pos c18] at H
   have c18b0 : decide (0 ≤ (rd (rd_L1 l0 x14_1) 0)) = true := decide_eq_true c18
   clear c18
   by_cases c19 : (rd (rd_L1 l0 x14_1) 0) < (y144.length : Int)
   rotate_left
   ·
    rw [if_neg c19] at H
    exact absurd H (by simp)
   rw [if_pos c19] at H
   have c19b0 : decide ((rd (rd_L1 l0 x14_1) 0) < (y144.length : Int)) = true := decide_eq_true c19
   clear c19
   by_cases c20 : (rdOf ByteArray.empty y144 (rd (rd_L1 l0 x14_1) 0)).size + 1 ≤ 9223372036854775807
   rotate_left
   ·
    rw [if_neg c20] at H
    exact absurd H (by simp)
   rw [if_pos c20] at H
   have c20b0 := eq_true c20
   have c20b1 : decide ((rdOf ByteArray.empty y144 (rd (rd_L1 l0 x14_1) 0)).size + 1 ≤ 9223372036854775807) = true := decide_eq_true c20
   try have c20b2 : (9223372036854775807 < (rdOf ByteArray.empty y144 (rd (rd_L1 l0 x14_1) 0)).size + 1) = False := eq_false (Nat.not_lt.2 c20)
   obtain ⟨y155, hy155⟩ : ∃ y_ : List Int, y_ = (([rd (rd_L1 l0 x14_1) 1] : List Int)) := ⟨_, rfl⟩
   replace H : ((impl_words.f k1 y155).bind fun t158 => (if ((rdOf ByteArray.empty y144 (rd (rd_L1 l0 x14_1) 0)) ++ (⟨#[32]⟩ : ByteArray)).size + t158.size ≤ 9223372036854775807 then (if (((rdOf ByteArray.empty y144 (rd (rd_L1 l0 x14_1) 0)) ++ (⟨#[32]⟩ : ByteArray)) ++ t158).size + 1 ≤ 9223372036854775807 then (if x5_1.size + ((((rdOf ByteArray.empty y144 (rd (rd_L1 l0 x14_1) 0)) ++ (⟨#[32]⟩ : ByteArray)) ++ t158) ++ (⟨#[10]⟩ : ByteArray)).size ≤ 140737488355328 then (impl_FaultsText.l0 k1 y144 (x5_1 ++ ((((rdOf ByteArray.empty y144 (rd (rd_L1 l0 x14_1) 0)) ++ (⟨#[32]⟩ : ByteArray)) ++ t158) ++ (⟨#[10]⟩ : ByteArray))) l0 (l0.length : Int) (wrap64 (x14_1 + 1))) else (none)) else (none)) else (none))) = some (r1, r2) := by first | (rw [hy155]; with_reducible exact H) | (have H2_ := (Option.bind_some _ _).symm.trans H; rw [hy155]; with_reducible exact H2_) | (have H2_ := (Option.bind_some _ _).symm.trans H; with_reducible exact H2_) | with_reducible exact H | (rw [hy155]; exact H) | exact H
   have Ny155 := zm hy155
   clear hy155
   replace H := Option.bind_eq_some_iff.mp H
   obtain ⟨t158, A210, H⟩ := H
   (try dsimp only at H)
   have A21 := zm A210
   clear A210
   by_cases c22 : ((rdOf ByteArray.empty y144 (rd (rd_L1 l0 x14_1) 0)) ++ (⟨#[32]⟩ : ByteArray)).size + t158.size ≤ 9223372036854775807
   rotate_left
   ·
    rw [if_neg c22] at H
    exact absurd H (by simp)
   rw [if_pos c22] at H
   have c22b0 := eq_true c22
   have c22b1 : decide (((rdOf ByteArray.empty y144 (rd (rd_L1 l0 x14_1) 0)) ++ (⟨#[32]⟩ : ByteArray)).size + t158.size ≤ 9223372036854775807) = true := decide_eq_true c22
   try have c22b2 : (9223372036854775807 < ((rdOf ByteArray.empty y144 (rd (rd_L1 l0 x14_1) 0)) ++ (⟨#[32]⟩ : ByteArray)).size + t158.size) = False := eq_false (Nat.not_lt.2 c22)
   try have c22b3 : (9223372036854775807 < (rdOf ByteArray.empty y144 (rd (rd_L1 l0 x14_1) 0)).size + 1 + t158.size) = False := eq_false (Nat.not_lt.2 (by have z_ := c22; simp only [ByteArray.size_append] at z_; exact z_))
   by_cases c23 : (((rdOf ByteArray.empty y144 (rd (rd_L1 l0 x14_1) 0)) ++ (⟨#[32]⟩ : ByteArray)) ++ t158).size + 1 ≤ 9223372036854775807
   rotate_left
   ·
    rw [if_neg c23] at H
    exact absurd H (by simp)
   rw [if_pos c23] at H
   have c23b0 := eq_true c23
   have c23b1 : decide ((((rdOf ByteArray.empty y144 (rd (rd_L1 l0 x14_1) 0)) ++ (⟨#[32]⟩ : ByteArray)) ++ t158).size + 1 ≤ 9223372036854775807) = true := decide_eq_true c23
   try have c23b2 : (9223372036854775807 < (((rdOf ByteArray.empty y144 (rd (rd_L1 l0 x14_1) 0)) ++ (⟨#[32]⟩ : ByteArray)) ++ t158).size + 1) = False := eq_false (Nat.not_lt.2 c23)
   try have c23b3 : (9223372036854775807 < (rdOf ByteArray.empty y144 (rd (rd_L1 l0 x14_1) 0)).size + 1 + t158.size + 1) = False := eq_false (Nat.not_lt.2 (by have z_ := c23; simp only [ByteArray.size_append] at z_; exact z_))
   by_cases c24 : x5_1.size + ((((rdOf ByteArray.empty y144 (rd (rd_L1 l0 x14_1) 0)) ++ (⟨#[32]⟩ : ByteArray)) ++ t158) ++ (⟨#[10]⟩ : ByteArray)).size ≤ 140737488355328
   rotate_left
   ·
    rw [if_neg c24] at H
    exact absurd H (by simp)
   rw [if_pos c24] at H
   have c24b0 := eq_true c24
   have LMw := zm c24
   have c24b1 : decide (x5_1.size + ((((rdOf ByteArray.empty y144 (rd (rd_L1 l0 x14_1) 0)) ++ (⟨#[32]⟩ : ByteArray)) ++ t158) ++ (⟨#[10]⟩ : ByteArray)).size ≤ 140737488355328) = true := decide_eq_true c24
   try have c24b2 : (140737488355328 < x5_1.size + ((((rdOf ByteArray.empty y144 (rd (rd_L1 l0 x14_1) 0)) ++ (⟨#[32]⟩ : ByteArray)) ++ t158) ++ (⟨#[10]⟩ : ByteArray)).size) = False := eq_false (Nat.not_lt.2 c24)
   try have c24b3 : (140737488355328 < x5_1.size + ((rdOf ByteArray.empty y144 (rd (rd_L1 l0 x14_1) 0)).size + 1 + t158.size + 1)) = False := eq_false (Nat.not_lt.2 (by have z_ := c24; simp only [ByteArray.size_append] at z_; exact z_))
   have H' := zm H
   clear H
   have p147 : 0 ≤ (x14_1 : Int) := zd
   have q147 : x14_1 < (l0.length : Int) := zd
   obtain ⟨ad147, A147_0, c147_0, e147, hx147_0, hl147_0, hi147_0⟩ := at_L1 HR0.out x14_1 p147 q147
   cases e147
   replace hx147_0 := zx HB.out hx147_0
   have HR147_0 := zm hi147_0
   have HC147_0 := zm hl147_0
   clear hi147_0 hl147_0
   replace p147 := eq_true p147
   replace q147 := eq_true q147
   have p148 : 0 ≤ (0 : Int) := (by omega)
   have q148 : 0 < ((rd_L1 l0 x14_1).length : Int) := zd
   obtain ⟨ad148, e148, hx148_0⟩ := Kd.at_int HR147_0.out 0 p148 q148
   cases e148
   have qi148 : (0 < (rd_L1 l0 x14_1).length) = True := eq_true (by omega)
   (try rw [show ((0 : Int)).toNat = 0 from rfl] at hx148_0)
   (try rw [Addr.add_zero'] at hx148_0)
   replace hx148_0 := zx HB.out hx148_0
   replace p148 := eq_true p148
   replace q148 := eq_true q148
   have p149 : 0 ≤ (0 : Int) := (by omega)
   have q149 : 0 < ((rd_L1 l0 x14_1).length : Int) := zd
   obtain ⟨ad149, e149, hx149_0⟩ := Kd.at_int HR147_0.out 0 p149 q149
   obtain rfl : ad148 = ad149 := (by injection e149)
   skip
   have qi149 : (0 < (rd_L1 l0 x14_1).length) = True := eq_true (by omega)
   (try rw [show ((0 : Int)).toNat = 0 from rfl] at hx149_0)
   (try rw [Addr.add_zero'] at hx149_0)
   replace hx149_0 := zx HB.out hx149_0
   replace p149 := eq_true p149
   replace q149 := eq_true q149
   obtain ⟨Ao25, co25, eo25⟩ := Kd.R_slice HO_4.out
   subst eo25
   have p150 : 0 ≤ (1 : Int) := (by omega)
   have q150 : 1 < ((rd_L1 l0 x14_1).length : Int) := zd
   obtain ⟨ad150, e150, hx150_0⟩ := Kd.at_int HR147_0.out 1 p150 q150
   obtain rfl : ad148 = ad150 := (by injection e150)
   skip
   (try simp only [show (1 : Int).toNat = 1 from rfl, Nat.reduceMul, Nat.reduceEqDiff, Go.Addr.add, ↓reduceIte] at hx150_0)
   have qi150 : (1 < (rd_L1 l0 x14_1).length) = True := eq_true (by omega)
   (try rw [show ((1 : Int)).toNat = 1 from rfl] at hx150_0)
   replace hx150_0 := zx HB.out hx150_0
   replace p150 := eq_true p150
   replace q150 := eq_true q150
   have p151 : 0 ≤ (1 : Int) := (by omega)
   have q151 : 1 < ((rd_L1 l0 x14_1).length : Int) := zd
   obtain ⟨ad151, e151, hx151_0⟩ := Kd.at_int HR147_0.out 1 p151 q151
   obtain rfl : ad148 = ad151 := (by injection e151)
   skip
   (try simp only [show (1 : Int).toNat = 1 from rfl, Nat.reduceMul, Nat.reduceEqDiff, Go.Addr.add, ↓reduceIte] at hx151_0)
   have qi151 : (1 < (rd_L1 l0 x14_1).length) = True := eq_true (by omega)
   (try rw [show ((1 : Int)).toNat = 1 from rfl] at hx151_0)
   replace hx151_0 := zx HB.out hx151_0
   replace p151 := eq_true p151
   replace q151 := eq_true q151
   try go_wp2
   have n0_ := zm (Kd.R_drew HO_4.out)
   have n1_ := zm (below_drew1 HB.out)
   have nR_ := zm (below_drew1 HRd.out)
   clear HO_4
   clear HB
   have HO_4 := n0_
   have HB := n1_
   replace HRd := nR_
   clear nR_
   clear n0_ n1_
   have p152 : 0 ≤ (0 : Int) := (by omega)
   have q152 : 0 < ((rd_L1 l0 x14_1).length : Int) := zd
   obtain ⟨ad152, e152, hx152_0⟩ := Kd.at_int HR147_0.out 0 p152 q152
   have hw152_0 := hx152_0
   (try rw [show ((0 : Int)).toNat = 0 from rfl] at hw152_0)
   (try rw [show 0 * 1 = 0 from rfl] at hw152_0)
   (try rw [Addr.add_zero'] at hw152_0)
   obtain rfl : ad148 = ad152 := (by injection e152)
   skip
   have qi152 : (0 < (rd_L1 l0 x14_1).length) = True := eq_true (by omega)
   (try rw [show ((0 : Int)).toNat = 0 from rfl] at hx152_0)
   (try rw [Addr.add_zero'] at hx152_0)
   replace hx152_0 := zx HB.out hx152_0
   replace p152 := eq_true p152
   replace q152 := eq_true q152
   have p153 : 0 ≤ ((rd (rd_L1 l0 x14_1) 0) : Int) := zd
   have q153 : (rd (rd_L1 l0 x14_1) 0) < (y144.length : Int) := zd
   obtain ⟨ad153, e153, hx153_0⟩ := Kd.at_string (Kd.R_reads' HO_4.out).2.2 (rd (rd_L1 l0 x14_1) 0) p153 q153
   cases e153
   replace p153 := eq_true p153
   replace q153 := eq_true q153
   have p154 : 0 ≤ (1 : Int) := (by omega)
   have q154 : 1 < ((rd_L1 l0 x14_1).length : Int) := zd
   obtain ⟨ad154, e154, hx154_0⟩ := Kd.at_int HR147_0.out 1 p154 q154
   have hw154_0 := hx154_0
   (try rw [show ((1 : Int)).toNat = 1 from rfl] at hw154_0)
   (try rw [show 1 * 1 = 1 from rfl] at hw154_0)
   (try simp only [Nat.reduceMul, Nat.reduceEqDiff, Go.Addr.add, ↓reduceIte] at hw154_0)
   obtain rfl : ad148 = ad154 := (by injection e154)
   skip
   (try simp only [show (1 : Int).toNat = 1 from rfl, Nat.reduceMul, Nat.reduceEqDiff, Go.Addr.add, ↓reduceIte] at hx154_0)
   have qi154 : (1 < (rd_L1 l0 x14_1).length) = True := eq_true (by omega)
   (try rw [show ((1 : Int)).toNat = 1 from rfl] at hx154_0)
   replace hx154_0 := zx HB.out hx154_0
   replace p154 := eq_true p154
   replace q154 := eq_true q154
   refine start_ (n := 15) (S := fun w' => w'.cell? ad148 = some (.int .i64 (rd (rd_L1 l0 x14_1) 0)) ∧ w'.cell? (ad153.add ((rd (rd_L1 l0 x14_1) 0)).toNat) = some (.string (rdOf ByteArray.empty y144 (rd (rd_L1 l0 x14_1) 0))) ∧ w'.cell? ⟨ad148.block, ad148.off + 1, none⟩ = some (.int .i64 (rd (rd_L1 l0 x14_1) 1))) (ds := []) #[false, false, false, false, false, false, false, false, false, false, false, false, false, false, false] (by kernel_rfl) rfl rfl ⟨((HB.out.cell (World.block_lt_of_cell? w _ hw152_0)).trans hw152_0), hx153_0, ((HB.out.cell (World.block_lt_of_cell? w _ hw154_0)).trans hw154_0)⟩ (fun hHeld => ?_); refine with_tabW impl_FaultsText.tab10 impl_FaultsText.bits10 (fun HT_ HW_ => ?_)
   generalize wr.drew = w26 at HO_4 HB HRd hx152_0 hx153_0 hx154_0 hHeld ⊢
   refine pure_ (i := 0) (N := some 47) (v := ?_) (a' := ?_) #[true, false, false, false, false, false, false, false, false, false, false, false, false, false, false] rfl rfl (any_of HT_.out (by kernel_rfl)) (fun _ _ _ h => h) (Or.inl ⟨by rfl, ?_⟩) ?_ ?_
   rotate_left
   ·
    intro w'
    go_simp
    with_reducible rfl
   rotate_left
   ·
    simp only [Act.put, zA, zB, zD, i64_w, i32_w]
    rfl
   refine pure_ (i := 1) (N := some 48) (v := ?_) (a' := ?_) #[true, true, false, false, false, false, false, false, false, false, false, false, false, false, false] rfl rfl (any_of HT_.out (by kernel_rfl)) (fun _ _ _ h => h) (Or.inl ⟨by rfl, ?_⟩) ?_ ?_
   rotate_left
   ·
    intro w'
    go_simp
    with_reducible rfl
   rotate_left
   ·
    simp only [Act.put, zA, zB, zD, i64_w, i32_w]
    rfl
   refine pure_ (i := 2) (N := some 49) (v := ?_) (a' := ?_) #[true, true, true, false, false, false, false, false, false, false, false, false, false, false, false] rfl rfl (any_of HT_.out (by kernel_rfl)) (fun _ _ _ h => h) (Or.inl ⟨by rfl, ?_⟩) ?_ ?_
   rotate_left
   ·
    intro w'
    go_simp
    with_reducible rfl
   rotate_left
   ·
    simp only [Act.put, zA, zB, zD, i64_w, i32_w]
    rfl
   refine pure_ (i := 7) (N := some 54) (v := ?_) (a' := ?_) #[true, true, true, false, false, false, false, true, false, false, false, false, false, false, false] rfl rfl (any_of HT_.out (by kernel_rfl)) (fun _ _ _ h => h) (Or.inl ⟨by rfl, ?_⟩) ?_ ?_
   rotate_left
   ·
    intro w'
    go_simp
    with_reducible rfl
   rotate_left
   ·
    simp only [Act.put, zA, zB, zD, i64_w, i32_w]
    rfl
   refine pure_ (i := 8) (N := some 55) (v := ?_) (a' := ?_) #[true, true, true, false, false, false, false, true, true, false, false, false, false, false, false] rfl rfl (any_of HT_.out (by kernel_rfl)) (fun _ _ _ h => h) (Or.inl ⟨by rfl, ?_⟩) ?_ ?_
   rotate_left
   ·
    intro w'
    go_simp
    with_reducible rfl
   rotate_left
   ·
    simp only [Act.put, zA, zB, zD, i64_w, i32_w]
    rfl
   refine take_ (i := 3) (N := some 50) (v := ?_) (a' := ?_) #[true, true, true, true, false, false, false, true, true, false, false, false, false, false, false] rfl rfl (take_ofW HT_.out HW_.out (by kernel_rfl)) (fun _ _ _ h => h) (Or.inl ⟨by rfl, ?_⟩) hHeld ?_ ?_
   rotate_left
   ·
    rintro w' ⟨s0, s1, s2⟩
    go_simp
    with_reducible rfl
   rotate_left
   ·
    simp only [Act.put, zA, zB, zD, i64_w, i32_w]
    rfl
   refine pure_ (i := 4) (N := some 51) (v := ?_) (a' := ?_) #[true, true, true, true, true, false, false, true, true, false, false, false, false, false, false] rfl rfl (any_of HT_.out (by kernel_rfl)) (fun _ _ _ h => h) (Or.inl ⟨by rfl, ?_⟩) ?_ ?_
   rotate_left
   ·
    intro w'
    go_simp
    with_reducible rfl
   rotate_left
   ·
    simp only [Act.put, zA, zB, zD, i64_w, i32_w]
    rfl
   refine take_ (i := 5) (N := some 52) (v := ?_) (a' := ?_) #[true, true, true, true, true, true, false, true, true, false, false, false, false, false, false] rfl rfl (take_ofW HT_.out HW_.out (by kernel_rfl)) (fun _ _ _ h => h) (Or.inl ⟨by rfl, ?_⟩) hHeld ?_ ?_
   rotate_left
   ·
    rintro w' ⟨s0, s1, s2⟩
    go_simp
    with_reducible rfl
   rotate_left
   ·
    simp only [Act.put, zA, zB, zD, i64_w, i32_w]
    rfl
   refine pure_ (i := 6) (N := some 53) (v := ?_) (a' := ?_) #[true, true, true, true, true, true, true, true, true, false, false, false, false, false, false] rfl rfl (any_of HT_.out (by kernel_rfl)) (fun _ _ _ h => h) (Or.inl ⟨by rfl, ?_⟩) ?_ ?_
   rotate_left
   ·
    intro w'
    go_simp
    with_reducible rfl
   rotate_left
   ·
    simp only [Act.put, zA, zB, zD, i64_w, i32_w]
    rfl
   refine take_ (i := 9) (N := some 56) (v := ?_) (a' := ?_) #[true, true, true, true, true, true, true, true, true, true, false, false, false, false, false] rfl rfl (take_ofW HT_.out HW_.out (by kernel_rfl)) (fun _ _ _ h => h) (Or.inl ⟨by rfl, ?_⟩) hHeld ?_ ?_
   rotate_left
   ·
    rintro w' ⟨s0, s1, s2⟩
    go_simp
    with_reducible rfl
   rotate_left
   ·
    simp only [Act.put, zA, zB, zD, i64_w, i32_w]
    rfl
   refine one_ (i := 10) (N := some 57) #[true, true, true, true, true, true, true, true, true, true, true, false, false, false, false] rfl rfl (one_of HT_.out (by kernel_rfl)) (by decide) (fun K hK => ?_)
   refine Kd.R_lit_step (Kd.int .i64) _ 3 ?hg (N := 57) ?hd (xs := ([rd (rd_L1 l0 x14_1) 1] : List Int)) (inner := [.int .i64 (rd (rd_L1 l0 x14_1) 1)]) (ok := fun _ => True) (okp := fun _ => True) ?hr ?hp (fun _ hk => hk) trivial (Below.refl _ _) (Nat.le_refl _) (by simp) ?_; (case hd => rfl); (case hg => rfl); (case hr => first | (go_simp; done) | (go_simp; rfl)); (case hp => exact (Reps.one (show Kd.M (Kd.int .i64) _ _ _ (rd (rd_L1 l0 x14_1) 1) [.int .i64 (rd (rd_L1 l0 x14_1) 1)] from rfl) (Reps.none _ _)))
   intro v156 w27 ho28 hb hg_ hnew_
   have HS1_ := (hb.cell (World.block_lt_of_cell? _ _ (hHeld.2.1))).trans (hHeld.2.1)
   clear hg_ hnew_
   (first | rw [← Ny155.out] at ho28 | (simp only [Int.reduceToNat] at ho28; rw [← Ny155.out] at ho28))
   have n0_ := zm (Kd.R_below (zP HO_4.out) hb)
   have n1_ := zm (Kd.R_lower ho28 (below_size zb))
   have n2_ := zm (below_step zb hb)
   have nR_ := zm (below_step (Lib.zRd (w0 := wr)) hb)
   clear HO_4
   clear HB
   have HO_4 := n0_
   have HO157 := n1_
   have HB := n2_
   replace HRd := nR_
   clear nR_
   clear n0_ n1_ n2_
   clear hb ho28
   obtain ⟨Ao29, co29, eo29⟩ := Kd.R_slice HO157.out
   (first | subst eo29 | (injection eo29 with f1_ f2_ f3_; have f4_ := f1_.symm; have f5_ := f3_.symm; clear f1_ f2_ f3_; subst f4_; subst f5_))
   refine hK.out _ _ ⟨((HB.out.cell (World.block_lt_of_cell? w _ hw152_0)).trans hw152_0), HS1_, ((HB.out.cell (World.block_lt_of_cell? w _ hw154_0)).trans hw154_0)⟩ (fun hHeld => ?_)
   clear hK K
   refine norm_ (a' := ?_) ?_ ?_
   rotate_left
   ·
    show Act.put _ (some 57) _ = _
    simp only [Act.put, zA, zB, zD, i64_w, i32_w]
    rfl
   refine one_ (i := 11) (N := some 58) #[true, true, true, true, true, true, true, true, true, true, true, true, false, false, false] rfl rfl (one_of HT_.out (by kernel_rfl)) (by decide) (fun K hK => ?_)
   refine goes_ Tryd.func36 (by kernel_rfl) rfl #[.slice Ao29 y155.length co29] (by rfl) rfl rfl (by (try simp only [List.map_toArray, List.map_cons, List.map_nil]); first | done | rfl | (simp only [List.length_drop, List.length_take]; rfl)) ?_
   with_reducible refine (impl_words.calls k1 _ _ y155 t158 _ ?side1 ?side2 A21.out).mono ?_
   (case side1 => repeat (first | exact (Kd.R_reads' HO157.out).2.2 | (with_reducible refine Kd.C_alloc ?_ _) | (with_reducible refine Kd.C_drewN ?_ _) | (with_reducible refine Kd.C_drew ?_)))
   (case side2 => exact (Kd.R_reads' HO157.out).2.1)
   rintro e w30 ⟨rfl, hb⟩
   have HS1_ := (hb.cell (World.block_lt_of_cell? _ _ (hHeld.2.1))).trans (hHeld.2.1)
   refine ⟨_, rfl, ?_⟩
   have n0_ := zm (Kd.R_below (zP HO_4.out) hb)
   have n1_ := zm (Kd.R_below (zP HO157.out) hb)
   have n2_ := zm (below_step zb hb)
   have nR_ := zm (below_step (Lib.zRd (w0 := wr)) hb)
   clear HO_4
   clear HO157
   clear HB
   have HO_4 := n0_
   have HO157 := n1_
   have HB := n2_
   replace HRd := nR_
   clear nR_
   clear n0_ n1_ n2_
   (try clear hb)
   (try clear hb2)
   (try clear hk)
   (try clear hi)
   refine hK.out _ _ ⟨((HB.out.cell (World.block_lt_of_cell? w _ hw152_0)).trans hw152_0), HS1_, ((HB.out.cell (World.block_lt_of_cell? w _ hw154_0)).trans hw154_0)⟩ (fun hHeld => ?_)
   clear hK K
   refine norm_ (a' := ?_) ?_ ?_
   rotate_left
   ·
    show Act.put _ (some 58) _ = _
    simp only [Act.put, zA, zB, zD, i64_w, i32_w]
    rfl
   refine pure_ (i := 12) (N := some 59) (v := ?_) (a' := ?_) #[true, true, true, true, true, true, true, true, true, true, true, true, true, false, false] rfl rfl (any_of HT_.out (by kernel_rfl)) (fun _ _ _ h => h) (Or.inl ⟨by rfl, ?_⟩) ?_ ?_
   rotate_left
   ·
    intro w'
    go_simp
    with_reducible rfl
   rotate_left
   ·
    simp only [Act.put, zA, zB, zD, i64_w, i32_w]
    rfl
   refine pure_ (i := 13) (N := some 60) (v := ?_) (a' := ?_) #[true, true, true, true, true, true, true, true, true, true, true, true, true, true, false] rfl rfl (any_of HT_.out (by kernel_rfl)) (fun _ _ _ h => h) (Or.inl ⟨by rfl, ?_⟩) ?_ ?_
   rotate_left
   ·
    intro w'
    go_simp
    with_reducible rfl
   rotate_left
   ·
    simp only [Act.put, zA, zB, zD, i64_w, i32_w]
    rfl
   refine one_ (i := 14) (N := some 61) #[true, true, true, true, true, true, true, true, true, true, true, true, true, true, true] rfl rfl (one_of HT_.out (by kernel_rfl)) (by decide) (fun K hK => ?_)
   refine goes_ Tryd.func35 (by kernel_rfl) rfl #[.pointer (some ⟨gB, 0, none⟩), .string (((((rdOf ByteArray.empty y144 (rd (rd_L1 l0 x14_1) 0)) ++ (⟨#[32]⟩ : ByteArray)) ++ t158) ++ (⟨#[10]⟩ : ByteArray)))] (by rfl) rfl rfl (by (try simp only [List.map_toArray, List.map_cons, List.map_nil]); first | done | rfl | (simp only [List.length_drop, List.length_take]; rfl)) ?_
   refine (Lib.Bd.write (Lib.Bd.below HBL.out (Lib.zRd (w0 := wr))) LMw.out).mono ?_
   rintro e wz ⟨rfl, hbd, hbz⟩
   refine ⟨_, rfl, ?_⟩
   have HBN := zm hbd
   replace HB := zm (Lib.zUp zb hbz HGB.out)
   replace HBX := zm (Lib.zUp (Lib.zUp HBX.out (Lib.zRd (w0 := wr)) HBX.out.size) hbz HGX.out)
   clear hbd hbz
   have HS1_ : wz.cell? (ad153.add ((rd (rd_L1 l0 x14_1) 0)).toNat) = some (.string (rdOf ByteArray.empty y144 (rd (rd_L1 l0 x14_1) 0))) := by
    obtain ⟨adX, eX, hxX⟩ := Kd.at_string (Kd.R_reads' HO146.out).2.2 (rd (rd_L1 l0 x14_1) 0) (of_eq_true p153) (of_eq_true q153)
    cases eX
    exact (HBX.out.cell (World.block_lt_of_cell? _ _ hxX)).trans hxX
   refine hK.out _ _ ⟨((HB.out.cell (World.block_lt_of_cell? w _ hw152_0)).trans hw152_0), HS1_, ((HB.out.cell (World.block_lt_of_cell? w _ hw154_0)).trans hw154_0)⟩ (fun hHeld => ?_)
   clear hK K
   refine norm_ (a' := ?_) ?_ ?_
   rotate_left
   ·
    show Act.put _ (some 61) _ = _
    simp only [Act.put, zA, zB, zD, i64_w, i32_w]
    rfl
   refine done_ (done_of HT_.out (by kernel_rfl)) ?_
   try go_wp2
   go_roundg k1
   case measure => have := HK1.out; omega
   case rel => exact ⟨(x5_1 ++ ((((rdOf ByteArray.empty y144 (rd (rd_L1 l0 x14_1) 0)) ++ (⟨#[32]⟩ : ByteArray)) ++ t158) ++ (⟨#[10]⟩ : ByteArray))), (wrap64 (x14_1 + 1)), (by first | rfl | (simp; done) | (simp [*]; done)), H', ⟨by have := HK1.out; omega⟩, ⟨Lib.zXd⟩, ⟨Lib.zBd HBN.out⟩, ⟨zb⟩⟩

end Go.Proofs.YtjjjikdpegogcaaDoor.PFt
