-- Written for this claim by a program of this session (wip/tpl/patchprint.py), not by print.sh.
import Derived.Test.YtjjjikdpegogcaaPBkx0
import Derived.Test.YtjjjikdpegogcaaPBkx1
import Derived.Test.YtjjjikdpegogcaaPBkx3
import Derived.Test.YtjjjikdpegogcaaPBkx4
import Derived.Test.YtjjjikdpegogcaaPBkx5
import Derived.Test.YtjjjikdpegogcaaPBkx6
import Derived.Test.YtjjjikdpegogcaaPBkx7
import Derived.Test.YtjjjikdpegogcaaPBkx9
namespace Go.Proofs.Ytjjjikdpegogcaa.PBk
open Go.RowKit Go.Proofs.YtjjjikdpegogcaaW.PrintWords Go.Proofs.YtjjjikdpegogcaaW.PrintLast Go.Proofs.YtjjjikdpegogcaaW.PrintMore
attribute [local go_sem] max2_int min2_int max_two min_two max_three min_three max_four min_four   -- for this text's walks alone
set_option linter.unusedVariables false
set_option linter.unusedSimpArgs false

/-! ### impl_CorrectBlock: function 46 -/
def impl_CorrectBlock.f (k : Nat) (l0 : List ByteArray) : Option (List ByteArray × Bool) := (impl_IsBlock.f k l0).bind fun t262 => (if t262 = true then ((impl_isCode.f k l0).bind fun t263 => (if t263 = true then ((some (([] : List ByteArray) : List ByteArray)).bind fun y264 => (if y264.length + l0.length < 8796093022208 then (some ((y264 ++ l0), true)) else (none))) else ((impl_wrongMark.f k l0).bind fun bt270 => (if bt270.2.2 = true then (if 0 ≤ bt270.1 then (if bt270.1 < (l0.length : Int) then (if 0 ≤ bt270.2.1 then (if bt270.2.1 < ((rdOf ByteArray.empty l0 bt270.1).size : Int) then (if (bt (rdOf ByteArray.empty l0 bt270.1) bt270.2.1) = 111 then ((impl_withChar.f k l0 bt270.1 bt270.2.1 46).bind fun t274 => (some (t274, true))) else ((impl_withChar.f k l0 bt270.1 bt270.2.1 111).bind fun t277 => (some (t277, true)))) else (none)) else (none)) else (none)) else (none)) else (some (([] : List ByteArray), false)))))) else (some (([] : List ByteArray), false)))
theorem impl_CorrectBlock.mono : ∀ a0 k, LeO (impl_CorrectBlock.f k a0) (impl_CorrectBlock.f (k + 1) a0) := by
  intro a0 k
  unfold impl_CorrectBlock.f
  repeat' first
      | (with_reducible exact impl_IsBlock.mono _ _)
      | (with_reducible exact impl_isCode.mono _ _)
      | (with_reducible exact impl_withChar.mono _ _ _ _ _)
      | (with_reducible exact impl_wrongMark.mono _ _)
      | (with_reducible exact LeO.refl _)
      | (with_reducible exact LeO.none _)
      | (with_reducible refine LeO.ite ?_ ?_)
      | (with_reducible refine LeO.bind ?_ (fun _ => ?_))
      | exact impl_IsBlock.mono _ _
      | exact impl_isCode.mono _ _
      | exact impl_withChar.mono _ _ _ _ _
      | exact impl_wrongMark.mono _ _
      | exact LeO.none _
      | refine LeO.ite ?_ ?_
      | refine LeO.bind ?_ (fun _ => ?_)
set_option maxHeartbeats 8000000 in
set_option maxRecDepth 100000 in
theorem impl_CorrectBlock.calls (k : Nat) (A0 : Option Addr) (c0 : Nat) (l0 : List ByteArray) (r1 : List ByteArray) (r2 : Bool) (w : World) (hr0 : Kd.C Kd.string w A0 l0.length l0) (hc0 : l0.length ≤ c0) (h : impl_CorrectBlock.f k l0 = some (r1, r2)) :
  Calls Try.prog 46 #[.slice A0 l0.length c0] w fun e w' => ∃ v0_ : Value, e = .returned (.tuple #[v0_, .bool r2]) ∧ Kd.R Kd.string 9 w' w.heap.size (fun _ => True) v0_ r1 ∧ Below w.heap.size w w' := by
 have HR0 := zm hr0
 have HC0 := zm hc0
 clear hr0 hc0
 have HB := zm (Below.refl w.heap.size w)
 have H : ((impl_IsBlock.f k l0).bind fun t262 => (if t262 = true then ((impl_isCode.f k l0).bind fun t263 => (if t263 = true then ((some (([] : List ByteArray) : List ByteArray)).bind fun y264 => (if y264.length + l0.length < 8796093022208 then (some ((y264 ++ l0), true)) else (none))) else ((impl_wrongMark.f k l0).bind fun bt270 => (if bt270.2.2 = true then (if 0 ≤ bt270.1 then (if bt270.1 < (l0.length : Int) then (if 0 ≤ bt270.2.1 then (if bt270.2.1 < ((rdOf ByteArray.empty l0 bt270.1).size : Int) then (if (bt (rdOf ByteArray.empty l0 bt270.1) bt270.2.1) = 111 then ((impl_withChar.f k l0 bt270.1 bt270.2.1 46).bind fun t274 => (some (t274, true))) else ((impl_withChar.f k l0 bt270.1 bt270.2.1 111).bind fun t277 => (some (t277, true)))) else (none)) else (none)) else (none)) else (none)) else (some (([] : List ByteArray), false)))))) else (some (([] : List ByteArray), false)))) = some (r1, r2) := h
 clear h
 replace H := Option.bind_eq_some_iff.mp H
 obtain ⟨t262, A20, H⟩ := H
 (try dsimp only at H)
 have A2 := zm A20
 clear A20
 by_cases c3 : t262 = true
 ·
  subst c3
  have H1 : ((impl_isCode.f k l0).bind fun t263 => (if t263 = true then ((some (([] : List ByteArray) : List ByteArray)).bind fun y264 => (if y264.length + l0.length < 8796093022208 then (some ((y264 ++ l0), true)) else (none))) else ((impl_wrongMark.f k l0).bind fun bt270 => (if bt270.2.2 = true then (if 0 ≤ bt270.1 then (if bt270.1 < (l0.length : Int) then (if 0 ≤ bt270.2.1 then (if bt270.2.1 < ((rdOf ByteArray.empty l0 bt270.1).size : Int) then (if (bt (rdOf ByteArray.empty l0 bt270.1) bt270.2.1) = 111 then ((impl_withChar.f k l0 bt270.1 bt270.2.1 46).bind fun t274 => (some (t274, true))) else ((impl_withChar.f k l0 bt270.1 bt270.2.1 111).bind fun t277 => (some (t277, true)))) else (none)) else (none)) else (none)) else (none)) else (some (([] : List ByteArray), false)))))) = some (r1, r2) := by rw [if_pos rfl] at H; exact H
  clear H
  have H := H1
  clear H1
  replace H := Option.bind_eq_some_iff.mp H
  obtain ⟨t263, A40, H⟩ := H
  (try dsimp only at H)
  have A4 := zm A40
  clear A40
  by_cases c5 : t263 = true
  ·
   subst c5
   have H1 : ((some (([] : List ByteArray) : List ByteArray)).bind fun y264 => (if y264.length + l0.length < 8796093022208 then (some ((y264 ++ l0), true)) else (none))) = some (r1, r2) := by rw [if_pos rfl] at H; exact H
   clear H
   have H := H1
   clear H1
   obtain ⟨y264, hy264⟩ : ∃ y_ : List ByteArray, y_ = (([] : List ByteArray)) := ⟨_, rfl⟩
   replace H : (if y264.length + l0.length < 8796093022208 then (some ((y264 ++ l0), true)) else (none)) = some (r1, r2) := by first | (rw [hy264]; with_reducible exact H) | (have H2_ := (Option.bind_some _ _).symm.trans H; rw [hy264]; with_reducible exact H2_) | (have H2_ := (Option.bind_some _ _).symm.trans H; with_reducible exact H2_) | with_reducible exact H | (rw [hy264]; exact H) | exact H
   have Ny264 := zm hy264
   clear hy264
   by_cases c6 : y264.length + l0.length < 8796093022208
   ·
    rw [if_pos c6] at H
    have LMc6 := zm c6
    clear c6
    obtain ⟨y267, hy267⟩ : ∃ y_ : List ByteArray, y_ = (y264 ++ l0) := ⟨_, rfl⟩
    replace H : (some (y267, true)) = some (r1, r2) := by first | (rw [hy267]; with_reducible exact H) | (have H2_ := (Option.bind_some _ _).symm.trans H; rw [hy267]; with_reducible exact H2_) | (have H2_ := (Option.bind_some _ _).symm.trans H; with_reducible exact H2_) | with_reducible exact H | (rw [hy267]; exact H) | exact H
    have Ny267 := zm hy267
    clear hy267
    simp only [Option.some.injEq, Prod.mk.injEq] at H
    obtain ⟨rfl, rfl⟩ := H
    go_enter Try.func46, Try.ntmps46
    go_wp2_with (first | ((with_reducible refine gate_callee (f := 83) rfl ?_); refine goesA_ (some 9) Try.func83 #[.slice A0 l0.length c0] rfl ?_; (with_reducible refine (impl_IsBlock.calls k _ _ l0 true _ ?side1 ?side2 A2.out).mono ?_); (case side1 => repeat (first | exact HR0.out | (with_reducible refine Kd.C_alloc ?_ _) | (with_reducible refine Kd.C_drewN ?_ _) | (with_reducible refine Kd.C_drew ?_))); (case side2 => exact HC0.out); rintro e w' ⟨rfl, ⟨nd, rfl⟩⟩; refine ⟨_, rfl, ?_⟩) | ((with_reducible refine gate_callee (f := 90) rfl ?_); refine goesA_ (some 12) Try.func90 #[.slice A0 l0.length c0] rfl ?_; (with_reducible refine (impl_isCode.calls k _ _ l0 true _ ?side1 ?side2 A4.out).mono ?_); (case side1 => repeat (first | exact HR0.out | (with_reducible refine Kd.C_alloc ?_ _) | (with_reducible refine Kd.C_drewN ?_ _) | (with_reducible refine Kd.C_drew ?_))); (case side2 => exact HC0.out); rintro e w7 ⟨rfl, hb⟩; refine ⟨_, rfl, ?_⟩; have n0_ := zm (below_step zb hb); clear HB; have HB := n0_; clear n0_; (try clear hb); (try clear hb2); (try clear hk); (try clear hi)) | ((with_reducible refine gate_dst (N := 13) rfl ?_); refine Kd.R_lit Kd.string _ 9 ?hg (N := 13) ?hd (xs := ([] : List ByteArray)) (inner := []) (ok := fun _ => True) (okp := fun _ => True) ?hr ?hp (fun _ hk => hk) trivial (Below.refl _ _) (Nat.le_refl _) (by simp) ?_; (case hd => rfl); (case hg => rfl); (case hr => first | (go_simp; done) | (go_simp; rfl)); (case hp => exact (Reps.none _ _)); intro v265 w8 ho9 hb hg_ hnew_; clear hg_ hnew_; (first | rw [← Ny264.out] at ho9 | (simp only [Int.reduceToNat] at ho9; rw [← Ny264.out] at ho9)); have n0_ := zm (Kd.R_lower ho9 (below_size zb)); have n1_ := zm (below_step zb hb); clear HB; have HO266 := n0_; have HB := n1_; clear n0_ n1_; clear hb ho9) | ((with_reducible refine gate_builtin (b := .append) (xs := #[.tmp 13, .tmp 14]) rfl ?_); at_builtin; refine Kd.R_append_rows Kd.string (w0 := w) w.heap.size rfl (.tmp 13) (.tmp 14) 66 9 (.string ⟨#[]⟩) 16 rfl Try.underlying66 info9 rfl (by decide) (by omega) v265 y264 l0 _ _ _ (fun _ => True) (fun _ => False) rfl rfl ?aO ?aR (fun _ _ h => h) (fun _ h => h.elim) ?aF ?aB ?aS ?aL ?_; (case aR => repeat (first | exact (Kd.C_below HR0.out HB.out) | (with_reducible refine Kd.C_alloc ?_ _) | (with_reducible refine Kd.C_drewN ?_ _) | (with_reducible refine Kd.C_drew ?_))); (case aB => exact zb); (case aF => exact (fun _ _ => trivial)); (case aO => exact (by (with_reducible repeat (first | apply Kd.R_alloc | apply Kd.R_drewN | apply Kd.R_drew)); exact HO266.out)); (case aS => exact (below_size zb)); (case aL => have := LMc6.out; omega); intro v268 w10 ho hb hg hat; rw [← Ny267.out] at ho; have n0_ := zm (hb); have n1_ := zm (ho); clear HB; clear HO266; have HB := n0_; have HO269 := n1_; clear n0_ n1_; clear ho hb hg hat))
    go_ret2
    exact ⟨_, zr, by (with_reducible repeat (first | apply Kd.R_alloc | apply Kd.R_drewN | apply Kd.R_drew)); exact HO269.out, zb⟩
   ·
    rw [if_neg c6] at H
    exact absurd H (by simp)
  ·
   replace c5 := Bool.eq_false_iff.mpr c5
   subst c5
   have H1 : ((impl_wrongMark.f k l0).bind fun bt270 => (if bt270.2.2 = true then (if 0 ≤ bt270.1 then (if bt270.1 < (l0.length : Int) then (if 0 ≤ bt270.2.1 then (if bt270.2.1 < ((rdOf ByteArray.empty l0 bt270.1).size : Int) then (if (bt (rdOf ByteArray.empty l0 bt270.1) bt270.2.1) = 111 then ((impl_withChar.f k l0 bt270.1 bt270.2.1 46).bind fun t274 => (some (t274, true))) else ((impl_withChar.f k l0 bt270.1 bt270.2.1 111).bind fun t277 => (some (t277, true)))) else (none)) else (none)) else (none)) else (none)) else (some (([] : List ByteArray), false)))) = some (r1, r2) := by rw [if_neg (show ¬ (false = true) by decide)] at H; exact H
   clear H
   have H := H1
   clear H1
   replace H := Option.bind_eq_some_iff.mp H
   obtain ⟨⟨t270, t271, t272⟩, A110, H⟩ := H
   (try dsimp only at H)
   have A11 := zm A110
   clear A110
   by_cases c12 : t272 = true
   ·
    subst c12
    have H1 : (if 0 ≤ t270 then (if t270 < (l0.length : Int) then (if 0 ≤ t271 then (if t271 < ((rdOf ByteArray.empty l0 t270).size : Int) then (if (bt (rdOf ByteArray.empty l0 t270) t271) = 111 then ((impl_withChar.f k l0 t270 t271 46).bind fun t274 => (some (t274, true))) else ((impl_withChar.f k l0 t270 t271 111).bind fun t277 => (some (t277, true)))) else (none)) else (none)) else (none)) else (none)) = some (r1, r2) := by rw [if_pos rfl] at H; exact H
    clear H
    have H := H1
    clear H1
    by_cases c13 : 0 ≤ t270
    ·
     rw [if_pos c13] at H
     have c13b0 : decide (0 ≤ t270) = true := decide_eq_true c13
     clear c13
     by_cases c14 : t270 < (l0.length : Int)
     ·
      rw [if_pos c14] at H
      have c14b0 : decide (t270 < (l0.length : Int)) = true := decide_eq_true c14
      clear c14
      by_cases c15 : 0 ≤ t271
      ·
       rw [if_pos c15] at H
       have c15b0 : decide (0 ≤ t271) = true := decide_eq_true c15
       clear c15
       by_cases c16 : t271 < ((rdOf ByteArray.empty l0 t270).size : Int)
       ·
        rw [if_pos c16] at H
        have c16b0 : decide (t271 < ((rdOf ByteArray.empty l0 t270).size : Int)) = true := decide_eq_true c16
        clear c16
        by_cases c18 : (bt (rdOf ByteArray.empty l0 t270) t271) = 111
        ·
         rw [if_pos c18] at H
         have c18b0 : ((bt (rdOf ByteArray.empty l0 t270) t271) == 111) = true := beq_iff_eq.mpr c18
         have c18b1 : ((bt (rdOf ByteArray.empty l0 t270) t271) != 111) = false := bne_eq_false_iff_eq.mpr c18
         clear c18
         replace H := Option.bind_eq_some_iff.mp H
         obtain ⟨t274, A190, H⟩ := H
         (try dsimp only at H)
         have A19 := zm A190
         clear A190
         simp only [Option.some.injEq, Prod.mk.injEq] at H
         obtain ⟨rfl, rfl⟩ := H
         go_enter Try.func46, Try.ntmps46
         go_wp2_with (first | ((with_reducible refine gate_callee (f := 83) rfl ?_); refine goesA_ (some 9) Try.func83 #[.slice A0 l0.length c0] rfl ?_; (with_reducible refine (impl_IsBlock.calls k _ _ l0 true _ ?side1 ?side2 A2.out).mono ?_); (case side1 => repeat (first | exact HR0.out | (with_reducible refine Kd.C_alloc ?_ _) | (with_reducible refine Kd.C_drewN ?_ _) | (with_reducible refine Kd.C_drew ?_))); (case side2 => exact HC0.out); rintro e w' ⟨rfl, ⟨nd, rfl⟩⟩; refine ⟨_, rfl, ?_⟩) | ((with_reducible refine gate_callee (f := 90) rfl ?_); refine goesA_ (some 12) Try.func90 #[.slice A0 l0.length c0] rfl ?_; (with_reducible refine (impl_isCode.calls k _ _ l0 false _ ?side1 ?side2 A4.out).mono ?_); (case side1 => repeat (first | exact HR0.out | (with_reducible refine Kd.C_alloc ?_ _) | (with_reducible refine Kd.C_drewN ?_ _) | (with_reducible refine Kd.C_drew ?_))); (case side2 => exact HC0.out); rintro e w20 ⟨rfl, hb⟩; refine ⟨_, rfl, ?_⟩; have n0_ := zm (below_step zb hb); clear HB; have HB := n0_; clear n0_; (try clear hb); (try clear hb2); (try clear hk); (try clear hi)) | ((with_reducible refine gate_callee (f := 91) rfl ?_); refine goesA_ (some 18) Try.func91 #[.slice A0 l0.length c0] rfl ?_; (with_reducible refine (impl_wrongMark.calls k _ _ l0 t270 t271 true _ ?side1 ?side2 A11.out).mono ?_); (case side1 => repeat (first | exact (Kd.C_below HR0.out HB.out) | (with_reducible refine Kd.C_alloc ?_ _) | (with_reducible refine Kd.C_drewN ?_ _) | (with_reducible refine Kd.C_drew ?_))); (case side2 => exact HC0.out); rintro e w21 ⟨rfl, hb⟩; refine ⟨_, rfl, ?_⟩; have n0_ := zm (below_step zb hb); clear HB; have HB := n0_; clear n0_; (try clear hb); (try clear hb2); (try clear hk); (try clear hi); have p273 : 0 ≤ (t270 : Int) := zd; have q273 : t270 < (l0.length : Int) := zd; obtain ⟨ad273, e273, hx273_0⟩ := Kd.at_string HR0.out t270 p273 q273; cases e273; replace hx273_0 := zx HB.out hx273_0; replace p273 := eq_true p273; replace q273 := eq_true q273; have p17 : 0 ≤ (t271 : Int) := zd; have q17 : t271 < ((rdOf ByteArray.empty l0 t270).size : Int) := zd; have hx17 := bt_at (rdOf ByteArray.empty l0 t270) t271; replace p17 := eq_true p17; replace q17 := eq_true q17) | ((with_reducible refine gate_callee (f := 92) rfl ?_); refine goesA_ (some 35) Try.func92 #[.slice (some ad273) l0.length c0, .int .i64 t270, .int .i64 t271, .int .u8 46] rfl ?_; (with_reducible refine (impl_withChar.calls k _ _ l0 t270 t271 46 t274 _ ?side1 ?side2 A19.out).mono ?_); (case side1 => repeat (first | exact (Kd.C_below HR0.out HB.out) | (with_reducible refine Kd.C_alloc ?_ _) | (with_reducible refine Kd.C_drewN ?_ _) | (with_reducible refine Kd.C_drew ?_))); (case side2 => exact HC0.out); rintro e w22 ⟨v275, rfl, ho0, hb⟩; refine ⟨_, rfl, ?_⟩; have n0_ := zm (Kd.R_lower ho0 (below_size zb)); have n1_ := zm (below_step zb hb); clear HB; have HO276 := n0_; have HB := n1_; clear n0_ n1_; (try clear hb); (try clear hb2); (try clear hk); (try clear hi); (try clear ho0)))
         go_ret2
         exact ⟨_, zr, by (with_reducible repeat (first | apply Kd.R_alloc | apply Kd.R_drewN | apply Kd.R_drew)); exact HO276.out, zb⟩
        ·
         rw [if_neg c18] at H
         have c18b0 : ((bt (rdOf ByteArray.empty l0 t270) t271) == 111) = false := beq_eq_false_iff_ne.mpr c18
         have c18b1 : ((bt (rdOf ByteArray.empty l0 t270) t271) != 111) = true := bne_iff_ne.mpr c18
         replace H := Option.bind_eq_some_iff.mp H
         obtain ⟨t277, A230, H⟩ := H
         (try dsimp only at H)
         have A23 := zm A230
         clear A230
         simp only [Option.some.injEq, Prod.mk.injEq] at H
         obtain ⟨rfl, rfl⟩ := H
         go_enter Try.func46, Try.ntmps46
         go_wp2_with (first | ((with_reducible refine gate_callee (f := 83) rfl ?_); refine goesA_ (some 9) Try.func83 #[.slice A0 l0.length c0] rfl ?_; (with_reducible refine (impl_IsBlock.calls k _ _ l0 true _ ?side1 ?side2 A2.out).mono ?_); (case side1 => repeat (first | exact HR0.out | (with_reducible refine Kd.C_alloc ?_ _) | (with_reducible refine Kd.C_drewN ?_ _) | (with_reducible refine Kd.C_drew ?_))); (case side2 => exact HC0.out); rintro e w' ⟨rfl, ⟨nd, rfl⟩⟩; refine ⟨_, rfl, ?_⟩) | ((with_reducible refine gate_callee (f := 90) rfl ?_); refine goesA_ (some 12) Try.func90 #[.slice A0 l0.length c0] rfl ?_; (with_reducible refine (impl_isCode.calls k _ _ l0 false _ ?side1 ?side2 A4.out).mono ?_); (case side1 => repeat (first | exact HR0.out | (with_reducible refine Kd.C_alloc ?_ _) | (with_reducible refine Kd.C_drewN ?_ _) | (with_reducible refine Kd.C_drew ?_))); (case side2 => exact HC0.out); rintro e w24 ⟨rfl, hb⟩; refine ⟨_, rfl, ?_⟩; have n0_ := zm (below_step zb hb); clear HB; have HB := n0_; clear n0_; (try clear hb); (try clear hb2); (try clear hk); (try clear hi)) | ((with_reducible refine gate_callee (f := 91) rfl ?_); refine goesA_ (some 18) Try.func91 #[.slice A0 l0.length c0] rfl ?_; (with_reducible refine (impl_wrongMark.calls k _ _ l0 t270 t271 true _ ?side1 ?side2 A11.out).mono ?_); (case side1 => repeat (first | exact (Kd.C_below HR0.out HB.out) | (with_reducible refine Kd.C_alloc ?_ _) | (with_reducible refine Kd.C_drewN ?_ _) | (with_reducible refine Kd.C_drew ?_))); (case side2 => exact HC0.out); rintro e w25 ⟨rfl, hb⟩; refine ⟨_, rfl, ?_⟩; have n0_ := zm (below_step zb hb); clear HB; have HB := n0_; clear n0_; (try clear hb); (try clear hb2); (try clear hk); (try clear hi); have p273 : 0 ≤ (t270 : Int) := zd; have q273 : t270 < (l0.length : Int) := zd; obtain ⟨ad273, e273, hx273_0⟩ := Kd.at_string HR0.out t270 p273 q273; cases e273; replace hx273_0 := zx HB.out hx273_0; replace p273 := eq_true p273; replace q273 := eq_true q273; have p17 : 0 ≤ (t271 : Int) := zd; have q17 : t271 < ((rdOf ByteArray.empty l0 t270).size : Int) := zd; have hx17 := bt_at (rdOf ByteArray.empty l0 t270) t271; replace p17 := eq_true p17; replace q17 := eq_true q17) | ((with_reducible refine gate_callee (f := 92) rfl ?_); refine goesA_ (some 35) Try.func92 #[.slice (some ad273) l0.length c0, .int .i64 t270, .int .i64 t271, .int .u8 111] rfl ?_; (with_reducible refine (impl_withChar.calls k _ _ l0 t270 t271 111 t277 _ ?side1 ?side2 A23.out).mono ?_); (case side1 => repeat (first | exact (Kd.C_below HR0.out HB.out) | (with_reducible refine Kd.C_alloc ?_ _) | (with_reducible refine Kd.C_drewN ?_ _) | (with_reducible refine Kd.C_drew ?_))); (case side2 => exact HC0.out); rintro e w26 ⟨v278, rfl, ho0, hb⟩; refine ⟨_, rfl, ?_⟩; have n0_ := zm (Kd.R_lower ho0 (below_size zb)); have n1_ := zm (below_step zb hb); clear HB; have HO279 := n0_; have HB := n1_; clear n0_ n1_; (try clear hb); (try clear hb2); (try clear hk); (try clear hi); (try clear ho0)))
         go_ret2
         exact ⟨_, zr, by (with_reducible repeat (first | apply Kd.R_alloc | apply Kd.R_drewN | apply Kd.R_drew)); exact HO279.out, zb⟩
       ·
        rw [if_neg c16] at H
        exact absurd H (by simp)
      ·
       rw [if_neg c15] at H
       exact absurd H (by simp)
     ·
      rw [if_neg c14] at H
      exact absurd H (by simp)
    ·
     rw [if_neg c13] at H
     exact absurd H (by simp)
   ·
    replace c12 := Bool.eq_false_iff.mpr c12
    subst c12
    have H1 : (some (([] : List ByteArray), false)) = some (r1, r2) := by rw [if_neg (show ¬ (false = true) by decide)] at H; exact H
    clear H
    have H := H1
    clear H1
    simp only [Option.some.injEq, Prod.mk.injEq] at H
    obtain ⟨rfl, rfl⟩ := H
    go_enter Try.func46, Try.ntmps46
    go_wp2_with (first | ((with_reducible refine gate_callee (f := 83) rfl ?_); refine goesA_ (some 9) Try.func83 #[.slice A0 l0.length c0] rfl ?_; (with_reducible refine (impl_IsBlock.calls k _ _ l0 true _ ?side1 ?side2 A2.out).mono ?_); (case side1 => repeat (first | exact HR0.out | (with_reducible refine Kd.C_alloc ?_ _) | (with_reducible refine Kd.C_drewN ?_ _) | (with_reducible refine Kd.C_drew ?_))); (case side2 => exact HC0.out); rintro e w' ⟨rfl, ⟨nd, rfl⟩⟩; refine ⟨_, rfl, ?_⟩) | ((with_reducible refine gate_callee (f := 90) rfl ?_); refine goesA_ (some 12) Try.func90 #[.slice A0 l0.length c0] rfl ?_; (with_reducible refine (impl_isCode.calls k _ _ l0 false _ ?side1 ?side2 A4.out).mono ?_); (case side1 => repeat (first | exact HR0.out | (with_reducible refine Kd.C_alloc ?_ _) | (with_reducible refine Kd.C_drewN ?_ _) | (with_reducible refine Kd.C_drew ?_))); (case side2 => exact HC0.out); rintro e w27 ⟨rfl, hb⟩; refine ⟨_, rfl, ?_⟩; have n0_ := zm (below_step zb hb); clear HB; have HB := n0_; clear n0_; (try clear hb); (try clear hb2); (try clear hk); (try clear hi)) | ((with_reducible refine gate_callee (f := 91) rfl ?_); refine goesA_ (some 18) Try.func91 #[.slice A0 l0.length c0] rfl ?_; (with_reducible refine (impl_wrongMark.calls k _ _ l0 t270 t271 false _ ?side1 ?side2 A11.out).mono ?_); (case side1 => repeat (first | exact (Kd.C_below HR0.out HB.out) | (with_reducible refine Kd.C_alloc ?_ _) | (with_reducible refine Kd.C_drewN ?_ _) | (with_reducible refine Kd.C_drew ?_))); (case side2 => exact HC0.out); rintro e w28 ⟨rfl, hb⟩; refine ⟨_, rfl, ?_⟩; have n0_ := zm (below_step zb hb); clear HB; have HB := n0_; clear n0_; (try clear hb); (try clear hb2); (try clear hk); (try clear hi)))
    go_ret2
    exact ⟨_, zr, by first | exact Kd.R_nil _ _ _ _ _ | exact Kd.N_nil _ _ _ _ _ | exact Kd.V_nil _ _ _ _ _ | exact Kd.Q_nil _ _ _ _ _ | exact Kd.S_nil _ _ _ _ _, zb⟩
 ·
  replace c3 := Bool.eq_false_iff.mpr c3
  subst c3
  have H1 : (some (([] : List ByteArray), false)) = some (r1, r2) := by rw [if_neg (show ¬ (false = true) by decide)] at H; exact H
  clear H
  have H := H1
  clear H1
  simp only [Option.some.injEq, Prod.mk.injEq] at H
  obtain ⟨rfl, rfl⟩ := H
  go_enter Try.func46, Try.ntmps46
  go_wp2_with (first | ((with_reducible refine gate_callee (f := 83) rfl ?_); refine goesA_ (some 9) Try.func83 #[.slice A0 l0.length c0] rfl ?_; (with_reducible refine (impl_IsBlock.calls k _ _ l0 false _ ?side1 ?side2 A2.out).mono ?_); (case side1 => repeat (first | exact HR0.out | (with_reducible refine Kd.C_alloc ?_ _) | (with_reducible refine Kd.C_drewN ?_ _) | (with_reducible refine Kd.C_drew ?_))); (case side2 => exact HC0.out); rintro e w' ⟨rfl, ⟨nd, rfl⟩⟩; refine ⟨_, rfl, ?_⟩))
  go_ret2
  exact ⟨_, zr, by first | exact Kd.R_nil _ _ _ _ _ | exact Kd.N_nil _ _ _ _ _ | exact Kd.V_nil _ _ _ _ _ | exact Kd.Q_nil _ _ _ _ _ | exact Kd.S_nil _ _ _ _ _, zb⟩

/-! ### laws_FnExactCorrectBlock: function 8 -/
mutual
def laws_FnExactCorrectBlock.j0 : Nat → List ByteArray → List ByteArray → Bool → List ByteArray → List ByteArray → Bool → Bool → Option (Bool)
  | 0, _, _, _, _, _, _, _ => none
  | k + 1, x0, x4, x5, x6, x7, x8, x40 => if x40 = true then (some false) else ((laws_toStringS.f k x0).bind fun t296 => ((laws_eqStringS.f k x6 t296).bind fun t299 => (if t299 = true then ((laws_markStringS.f k x6 1).bind fun bt300 => (if bt300.1 < 0 then (laws_FnExactCorrectBlock.j1 k x0 x4 x5 x7 true) else ((laws_eqStringS.f k x7 x4).bind fun t302 => (if t302 = true then (laws_FnExactCorrectBlock.j1 k x0 x4 x5 x7 (x8 != x5)) else (laws_FnExactCorrectBlock.j1 k x0 x4 x5 x7 true))))) else (some false))))
def laws_FnExactCorrectBlock.j1 : Nat → List ByteArray → List ByteArray → Bool → List ByteArray → Bool → Option (Bool)
  | 0, _, _, _, _, _ => none
  | k + 1, x0, x4, x5, x7, x61 => if x61 = true then (some false) else ((laws_markStringS.f k x7 1).bind fun bt303 => ((laws_heldStringS.f k bt303.2 1).bind fun t305 => (if t305 < 0 then (some false) else (if t305 = bt303.1 then ((laws_toStringS.f k x0).bind fun t306 => ((impl_CorrectBlock.f k t306).bind fun bt309 => ((laws_eqStringS.f k bt309.1 x4).bind fun t313 => (if t313 = true then (laws_FnExactCorrectBlock.j2 k bt303.2 bt303.1 (bt309.2 != x5)) else (laws_FnExactCorrectBlock.j2 k bt303.2 bt303.1 true))))) else (some false)))))
def laws_FnExactCorrectBlock.j2 : Nat → List ByteArray → Int → Bool → Option (Bool)
  | 0, _, _, _ => none
  | k + 1, x7, x10, x87 => if x87 = true then (some false) else ((laws_heldStringS.f k x7 1).bind fun t314 => (if t314 < 0 then (some false) else (if t314 = x10 then (some true) else (some false))))
end
def laws_FnExactCorrectBlock.f (k : Nat) (l0 : List ByteArray) : Option (Bool) := (laws_szStringS.f k l0 1048576).bind fun t280 => (if t280 < 0 then (some true) else ((laws_toStringS.f k l0).bind fun t281 => ((spec_CorrectBlock.f k t281).bind fun bt284 => ((laws_toStringS.f k l0).bind fun t288 => ((impl_CorrectBlock.f k t288).bind fun bt291 => ((laws_eqStringS.f k bt291.1 bt284.1).bind fun t295 => (if t295 = true then (laws_FnExactCorrectBlock.j0 k l0 bt284.1 bt284.2 t288 bt291.1 bt291.2 (bt291.2 != bt284.2)) else (laws_FnExactCorrectBlock.j0 k l0 bt284.1 bt284.2 t288 bt291.1 bt291.2 true))))))))
theorem laws_FnExactCorrectBlock.mono_l : ∀ k, (∀ y0 y1 y2 y3 y4 y5 y6, LeO (laws_FnExactCorrectBlock.j0 k y0 y1 y2 y3 y4 y5 y6) (laws_FnExactCorrectBlock.j0 (k + 1) y0 y1 y2 y3 y4 y5 y6)) ∧ (∀ y0 y1 y2 y3 y4, LeO (laws_FnExactCorrectBlock.j1 k y0 y1 y2 y3 y4) (laws_FnExactCorrectBlock.j1 (k + 1) y0 y1 y2 y3 y4)) ∧ (∀ y0 y1 y2, LeO (laws_FnExactCorrectBlock.j2 k y0 y1 y2) (laws_FnExactCorrectBlock.j2 (k + 1) y0 y1 y2))
  | 0 => ⟨fun _ _ _ _ _ _ _ r h => by simp [laws_FnExactCorrectBlock.j0] at h, fun _ _ _ _ _ r h => by simp [laws_FnExactCorrectBlock.j1] at h, fun _ _ _ r h => by simp [laws_FnExactCorrectBlock.j2] at h⟩
  | k + 1 => by
    obtain ⟨ih0, ih1, ih2⟩ := laws_FnExactCorrectBlock.mono_l k
    refine ⟨?_, ?_, ?_⟩
    · intro y0 y1 y2 y3 y4 y5 y6
      unfold laws_FnExactCorrectBlock.j0
      repeat' first
      | (with_reducible exact ih0 _ _ _ _ _ _ _)
      | (with_reducible exact ih1 _ _ _ _ _)
      | (with_reducible exact ih2 _ _ _)
      | (with_reducible exact impl_CorrectBlock.mono _ _)
      | (with_reducible exact laws_eqStringS.mono _ _ _)
      | (with_reducible exact laws_heldStringS.mono _ _ _)
      | (with_reducible exact laws_markStringS.mono _ _ _)
      | (with_reducible exact laws_szStringS.mono _ _ _)
      | (with_reducible exact laws_toStringS.mono _ _)
      | (with_reducible exact spec_CorrectBlock.mono _ _)
      | (with_reducible exact LeO.refl _)
      | (with_reducible exact LeO.none _)
      | (with_reducible refine LeO.ite ?_ ?_)
      | (with_reducible refine LeO.bind ?_ (fun _ => ?_))
      | exact ih0 _ _ _ _ _ _ _
      | exact ih1 _ _ _ _ _
      | exact ih2 _ _ _
      | exact impl_CorrectBlock.mono _ _
      | exact laws_eqStringS.mono _ _ _
      | exact laws_heldStringS.mono _ _ _
      | exact laws_markStringS.mono _ _ _
      | exact laws_szStringS.mono _ _ _
      | exact laws_toStringS.mono _ _
      | exact spec_CorrectBlock.mono _ _
      | exact LeO.none _
      | refine LeO.ite ?_ ?_
      | refine LeO.bind ?_ (fun _ => ?_)
    · intro y0 y1 y2 y3 y4
      unfold laws_FnExactCorrectBlock.j1
      repeat' first
      | (with_reducible exact ih0 _ _ _ _ _ _ _)
      | (with_reducible exact ih1 _ _ _ _ _)
      | (with_reducible exact ih2 _ _ _)
      | (with_reducible exact impl_CorrectBlock.mono _ _)
      | (with_reducible exact laws_eqStringS.mono _ _ _)
      | (with_reducible exact laws_heldStringS.mono _ _ _)
      | (with_reducible exact laws_markStringS.mono _ _ _)
      | (with_reducible exact laws_szStringS.mono _ _ _)
      | (with_reducible exact laws_toStringS.mono _ _)
      | (with_reducible exact spec_CorrectBlock.mono _ _)
      | (with_reducible exact LeO.refl _)
      | (with_reducible exact LeO.none _)
      | (with_reducible refine LeO.ite ?_ ?_)
      | (with_reducible refine LeO.bind ?_ (fun _ => ?_))
      | exact ih0 _ _ _ _ _ _ _
      | exact ih1 _ _ _ _ _
      | exact ih2 _ _ _
      | exact impl_CorrectBlock.mono _ _
      | exact laws_eqStringS.mono _ _ _
      | exact laws_heldStringS.mono _ _ _
      | exact laws_markStringS.mono _ _ _
      | exact laws_szStringS.mono _ _ _
      | exact laws_toStringS.mono _ _
      | exact spec_CorrectBlock.mono _ _
      | exact LeO.none _
      | refine LeO.ite ?_ ?_
      | refine LeO.bind ?_ (fun _ => ?_)
    · intro y0 y1 y2
      unfold laws_FnExactCorrectBlock.j2
      repeat' first
      | (with_reducible exact ih0 _ _ _ _ _ _ _)
      | (with_reducible exact ih1 _ _ _ _ _)
      | (with_reducible exact ih2 _ _ _)
      | (with_reducible exact impl_CorrectBlock.mono _ _)
      | (with_reducible exact laws_eqStringS.mono _ _ _)
      | (with_reducible exact laws_heldStringS.mono _ _ _)
      | (with_reducible exact laws_markStringS.mono _ _ _)
      | (with_reducible exact laws_szStringS.mono _ _ _)
      | (with_reducible exact laws_toStringS.mono _ _)
      | (with_reducible exact spec_CorrectBlock.mono _ _)
      | (with_reducible exact LeO.refl _)
      | (with_reducible exact LeO.none _)
      | (with_reducible refine LeO.ite ?_ ?_)
      | (with_reducible refine LeO.bind ?_ (fun _ => ?_))
      | exact ih0 _ _ _ _ _ _ _
      | exact ih1 _ _ _ _ _
      | exact ih2 _ _ _
      | exact impl_CorrectBlock.mono _ _
      | exact laws_eqStringS.mono _ _ _
      | exact laws_heldStringS.mono _ _ _
      | exact laws_markStringS.mono _ _ _
      | exact laws_szStringS.mono _ _ _
      | exact laws_toStringS.mono _ _
      | exact spec_CorrectBlock.mono _ _
      | exact LeO.none _
      | refine LeO.ite ?_ ?_
      | refine LeO.bind ?_ (fun _ => ?_)
theorem laws_FnExactCorrectBlock.mono : ∀ a0 k, LeO (laws_FnExactCorrectBlock.f k a0) (laws_FnExactCorrectBlock.f (k + 1) a0) := by
  intro a0 k
  obtain ⟨ih0, ih1, ih2⟩ := laws_FnExactCorrectBlock.mono_l k
  unfold laws_FnExactCorrectBlock.f
  repeat' first
      | (with_reducible exact ih0 _ _ _ _ _ _ _)
      | (with_reducible exact ih1 _ _ _ _ _)
      | (with_reducible exact ih2 _ _ _)
      | (with_reducible exact impl_CorrectBlock.mono _ _)
      | (with_reducible exact laws_eqStringS.mono _ _ _)
      | (with_reducible exact laws_heldStringS.mono _ _ _)
      | (with_reducible exact laws_markStringS.mono _ _ _)
      | (with_reducible exact laws_szStringS.mono _ _ _)
      | (with_reducible exact laws_toStringS.mono _ _)
      | (with_reducible exact spec_CorrectBlock.mono _ _)
      | (with_reducible exact LeO.refl _)
      | (with_reducible exact LeO.none _)
      | (with_reducible refine LeO.ite ?_ ?_)
      | (with_reducible refine LeO.bind ?_ (fun _ => ?_))
      | exact ih0 _ _ _ _ _ _ _
      | exact ih1 _ _ _ _ _
      | exact ih2 _ _ _
      | exact impl_CorrectBlock.mono _ _
      | exact laws_eqStringS.mono _ _ _
      | exact laws_heldStringS.mono _ _ _
      | exact laws_markStringS.mono _ _ _
      | exact laws_szStringS.mono _ _ _
      | exact laws_toStringS.mono _ _
      | exact spec_CorrectBlock.mono _ _
      | exact LeO.none _
      | refine LeO.ite ?_ ?_
      | refine LeO.bind ?_ (fun _ => ?_)
theorem laws_FnExactCorrectBlock.j0_t {k : Nat} : ∀ {a0_ a1_ a2_ a3_ a4_ a5_}, laws_FnExactCorrectBlock.j0 k a0_ a1_ a2_ a3_ a4_ a5_ true = some true → False := by
  intros; rename_i h; revert h; cases k <;> simp [laws_FnExactCorrectBlock.j0]
theorem laws_FnExactCorrectBlock.j1_t {k : Nat} : ∀ {a0_ a1_ a2_ a3_}, laws_FnExactCorrectBlock.j1 k a0_ a1_ a2_ a3_ true = some true → False := by
  intros; rename_i h; revert h; cases k <;> simp [laws_FnExactCorrectBlock.j1]
theorem laws_FnExactCorrectBlock.j2_t {k : Nat} : ∀ {a0_ a1_}, laws_FnExactCorrectBlock.j2 k a0_ a1_ true = some true → False := by
  intros; rename_i h; revert h; cases k <;> simp [laws_FnExactCorrectBlock.j2]
set_option maxHeartbeats 8000000 in
set_option maxRecDepth 100000 in
theorem laws_FnExactCorrectBlock.calls (k : Nat) (A0 : Option Addr) (c0 : Nat) (l0 : List ByteArray) (r : Bool) (w : World) (hr0 : Kd.C Kd.string w A0 l0.length l0) (hc0 : l0.length ≤ c0) (h : laws_FnExactCorrectBlock.f k l0 = some r) (hr_ : r = true) :
  Calls Try.prog 8 #[.slice A0 l0.length c0] w fun e w' => e = .returned (.bool r) ∧ Below w.heap.size w w' := by
 have HR0 := zm hr0
 have HC0 := zm hc0
 clear hr0 hc0
 have HB := zm (Below.refl w.heap.size w)
 have H : ((laws_szStringS.f k l0 1048576).bind fun t280 => (if t280 < 0 then (some true) else ((laws_toStringS.f k l0).bind fun t281 => ((spec_CorrectBlock.f k t281).bind fun bt284 => ((laws_toStringS.f k l0).bind fun t288 => ((impl_CorrectBlock.f k t288).bind fun bt291 => ((laws_eqStringS.f k bt291.1 bt284.1).bind fun t295 => (if t295 = true then (laws_FnExactCorrectBlock.j0 k l0 bt284.1 bt284.2 t288 bt291.1 bt291.2 (bt291.2 != bt284.2)) else (laws_FnExactCorrectBlock.j0 k l0 bt284.1 bt284.2 t288 bt291.1 bt291.2 true))))))))) = some r := h
 clear h
 replace H := Option.bind_eq_some_iff.mp H
 obtain ⟨t280, A20, H⟩ := H
 (try dsimp only at H)
 have A2 := zm A20
 clear A20
 by_cases c3 : t280 < 0
 ·
  rw [if_pos c3] at H
  have c3b0 : decide (t280 < 0) = true := decide_eq_true c3
  clear c3
  obtain rfl := Option.some.inj H
  go_enter Try.func8, Try.ntmps8
  go_wp2_with (first | ((with_reducible refine gate_callee (f := 38) rfl ?_); refine goesA_ (some 16) Try.func38 #[.slice A0 l0.length c0, .int .i64 1048576] rfl ?_; (with_reducible refine (laws_szStringS.calls k _ _ l0 1048576 t280 _ ?side1 ?side2 A2.out).mono ?_); (case side1 => repeat (first | exact HR0.out | (with_reducible refine Kd.C_alloc ?_ _) | (with_reducible refine Kd.C_drewN ?_ _) | (with_reducible refine Kd.C_drew ?_))); (case side2 => exact HC0.out); rintro e w' ⟨rfl, ⟨nd, rfl⟩⟩; refine ⟨_, rfl, ?_⟩))
  go_ret
  exact ⟨zr, zb⟩
 ·
  rw [if_neg c3] at H
  have c3b0 : decide (t280 < 0) = false := decide_eq_false c3
  clear c3
  replace H := Option.bind_eq_some_iff.mp H
  obtain ⟨t281, A40, H⟩ := H
  (try dsimp only at H)
  have A4 := zm A40
  clear A40
  replace H := Option.bind_eq_some_iff.mp H
  obtain ⟨⟨t284, t285⟩, A50, H⟩ := H
  (try dsimp only at H)
  have A5 := zm A50
  clear A50
  replace H := Option.bind_eq_some_iff.mp H
  obtain ⟨t288, A60, H⟩ := H
  (try dsimp only at H)
  have A6 := zm A60
  clear A60
  replace H := Option.bind_eq_some_iff.mp H
  obtain ⟨⟨t291, t292⟩, A70, H⟩ := H
  (try dsimp only at H)
  have A7 := zm A70
  clear A70
  have HC8 := zm H
  clear H
  go_enter Try.func8, Try.ntmps8
  go_upto_region 8 with (first | ((with_reducible refine gate_callee (f := 38) rfl ?_); refine goesA_ (some 16) Try.func38 #[.slice A0 l0.length c0, .int .i64 1048576] rfl ?_; (with_reducible refine (laws_szStringS.calls k _ _ l0 1048576 t280 _ ?side1 ?side2 A2.out).mono ?_); (case side1 => repeat (first | exact HR0.out | (with_reducible refine Kd.C_alloc ?_ _) | (with_reducible refine Kd.C_drewN ?_ _) | (with_reducible refine Kd.C_drew ?_))); (case side2 => exact HC0.out); rintro e w' ⟨rfl, ⟨nd, rfl⟩⟩; refine ⟨_, rfl, ?_⟩) | ((with_reducible refine gate_callee (f := 40) rfl ?_); refine goesA_ (some 21) Try.func40 #[.slice A0 l0.length c0] rfl ?_; (with_reducible refine (laws_toStringS.calls k _ _ l0 t281 _ ?side1 ?side2 A4.out).mono ?_); (case side1 => repeat (first | exact HR0.out | (with_reducible refine Kd.C_alloc ?_ _) | (with_reducible refine Kd.C_drewN ?_ _) | (with_reducible refine Kd.C_drew ?_))); (case side2 => exact HC0.out); rintro e w9 ⟨v282, rfl, ho0, hb⟩; refine ⟨_, rfl, ?_⟩; have n0_ := zm (Kd.R_lower ho0 (below_size zb)); have n1_ := zm (below_step zb hb); clear HB; have HO283 := n0_; have HB := n1_; clear n0_ n1_; (try clear hb); (try clear hb2); (try clear hk); (try clear hi); (try clear ho0); obtain ⟨Ao10, co10, eo10⟩ := Kd.R_slice HO283.out; subst eo10) | ((with_reducible refine gate_callee (f := 45) rfl ?_); refine goesA_ (some 22) Try.func45 #[.slice Ao10 t281.length co10] rfl ?_; (with_reducible refine (spec_CorrectBlock.calls k _ _ t281 t284 t285 _ ?side1 ?side2 A5.out).mono ?_); (case side1 => repeat (first | exact (Kd.R_reads' HO283.out).2.2 | (with_reducible refine Kd.C_alloc ?_ _) | (with_reducible refine Kd.C_drewN ?_ _) | (with_reducible refine Kd.C_drew ?_))); (case side2 => exact (Kd.R_reads' HO283.out).2.1); rintro e w11 ⟨v286, rfl, ho0, hb⟩; refine ⟨_, rfl, ?_⟩; have n0_ := zm (Kd.R_elder' (by (with_reducible repeat (first | apply Kd.R_alloc | apply Kd.R_drewN | apply Kd.R_drew)); exact HO283.out) (Kd.R_base ho0) hb); have n1_ := zm (Kd.R_lower (Kd.R_new' ho0 (Kd.R_lt (by (with_reducible repeat (first | apply Kd.R_alloc | apply Kd.R_drewN | apply Kd.R_drew)); exact HO283.out))) (below_size zb)); have n2_ := zm (below_step zb hb); clear HO283; clear HB; have HO283 := n0_; have HO287 := n1_; have HB := n2_; clear n0_ n1_ n2_; (try clear hb); (try clear hb2); (try clear hk); (try clear hi); (try clear ho0)) | ((with_reducible refine gate_callee (f := 40) rfl ?_); refine goesA_ (some 26) Try.func40 #[.slice A0 l0.length c0] rfl ?_; (with_reducible refine (laws_toStringS.calls k _ _ l0 t288 _ ?side1 ?side2 A6.out).mono ?_); (case side1 => repeat (first | exact (Kd.C_below HR0.out HB.out) | (with_reducible refine Kd.C_alloc ?_ _) | (with_reducible refine Kd.C_drewN ?_ _) | (with_reducible refine Kd.C_drew ?_))); (case side2 => exact HC0.out); rintro e w12 ⟨v289, rfl, ho0, hb⟩; refine ⟨_, rfl, ?_⟩; have n0_ := zm (Kd.R_elder' (by (with_reducible repeat (first | apply Kd.R_alloc | apply Kd.R_drewN | apply Kd.R_drew)); exact HO283.out) (Kd.R_base ho0) hb); have n1_ := zm (Kd.R_elder' (by (with_reducible repeat (first | apply Kd.R_alloc | apply Kd.R_drewN | apply Kd.R_drew)); exact HO287.out) (Kd.R_base ho0) hb); have n2_ := zm (Kd.R_lower (Kd.R_new' (Kd.R_new' ho0 (Kd.R_lt (by (with_reducible repeat (first | apply Kd.R_alloc | apply Kd.R_drewN | apply Kd.R_drew)); exact HO283.out))) (Kd.R_lt (by (with_reducible repeat (first | apply Kd.R_alloc | apply Kd.R_drewN | apply Kd.R_drew)); exact HO287.out))) (below_size zb)); have n3_ := zm (below_step zb hb); clear HO283; clear HO287; clear HB; have HO283 := n0_; have HO287 := n1_; have HO290 := n2_; have HB := n3_; clear n0_ n1_ n2_ n3_; (try clear hb); (try clear hb2); (try clear hk); (try clear hi); (try clear ho0); obtain ⟨Ao13, co13, eo13⟩ := Kd.R_slice HO290.out; subst eo13) | ((with_reducible refine gate_callee (f := 46) rfl ?_); refine goesA_ (some 29) Try.func46 #[.slice Ao13 t288.length co13] rfl ?_; (with_reducible refine (impl_CorrectBlock.calls k _ _ t288 t291 t292 _ ?side1 ?side2 A7.out).mono ?_); (case side1 => repeat (first | exact (Kd.R_reads' HO290.out).2.2 | (with_reducible refine Kd.C_alloc ?_ _) | (with_reducible refine Kd.C_drewN ?_ _) | (with_reducible refine Kd.C_drew ?_))); (case side2 => exact (Kd.R_reads' HO290.out).2.1); rintro e w14 ⟨v293, rfl, ho0, hb⟩; refine ⟨_, rfl, ?_⟩; have n0_ := zm (Kd.R_elder' (by (with_reducible repeat (first | apply Kd.R_alloc | apply Kd.R_drewN | apply Kd.R_drew)); exact HO283.out) (Kd.R_base ho0) hb); have n1_ := zm (Kd.R_elder' (by (with_reducible repeat (first | apply Kd.R_alloc | apply Kd.R_drewN | apply Kd.R_drew)); exact HO287.out) (Kd.R_base ho0) hb); have n2_ := zm (Kd.R_elder' (by (with_reducible repeat (first | apply Kd.R_alloc | apply Kd.R_drewN | apply Kd.R_drew)); exact HO290.out) (Kd.R_base ho0) hb); have n3_ := zm (Kd.R_lower (Kd.R_new' (Kd.R_new' (Kd.R_new' ho0 (Kd.R_lt (by (with_reducible repeat (first | apply Kd.R_alloc | apply Kd.R_drewN | apply Kd.R_drew)); exact HO283.out))) (Kd.R_lt (by (with_reducible repeat (first | apply Kd.R_alloc | apply Kd.R_drewN | apply Kd.R_drew)); exact HO287.out))) (Kd.R_lt (by (with_reducible repeat (first | apply Kd.R_alloc | apply Kd.R_drewN | apply Kd.R_drew)); exact HO290.out))) (below_size zb)); have n4_ := zm (below_step zb hb); clear HO283; clear HO287; clear HO290; clear HB; have HO283 := n0_; have HO287 := n1_; have HO290 := n2_; have HO294 := n3_; have HB := n4_; clear n0_ n1_ n2_ n3_ n4_; (try clear hb); (try clear hb2); (try clear hk); (try clear hi); (try clear ho0)))
  (try simp only [Act.put, List.setIfInBounds_toArray, List.set_cons_zero, List.set_cons_succ])
  go_cut [40] (fun v40 wc => ∃ (kq : Nat) (x40_7 : Bool), v40 = .bool x40_7 ∧ Aside0 (laws_FnExactCorrectBlock.j0 kq l0 t284 t285 t288 t291 t292 x40_7 = some r) ∧ Aside0 (kq ≤ k) ∧ Aside0 (Kd.R Kd.string 9 wc w.heap.size (fun k_ => some k_ ≠ ((.slice Ao13 t288.length co13) : Value).ownBlock ∧ some k_ ≠ (v293 : Value).ownBlock) v286 t284) ∧ Aside0 (Kd.R Kd.string 9 wc w.heap.size (fun k_ => some k_ ≠ (v286 : Value).ownBlock ∧ some k_ ≠ (v293 : Value).ownBlock) (.slice Ao13 t288.length co13) t288) ∧ Aside0 (Kd.R Kd.string 9 wc w.heap.size (fun k_ => some k_ ≠ (v286 : Value).ownBlock ∧ some k_ ≠ ((.slice Ao13 t288.length co13) : Value).ownBlock) v293 t291) ∧ Aside0 (Below w.heap.size w wc))
  case first =>
   have H := HC8.out
   clear HC8
   replace H := Option.bind_eq_some_iff.mp H
   obtain ⟨t295, A150, H⟩ := H
   (try dsimp only at H)
   have A15 := zm A150
   clear A150
   by_cases c16 : t295 = true
   ·
    subst c16
    have H1 : (laws_FnExactCorrectBlock.j0 k l0 t284 t285 t288 t291 t292 (t292 != t285)) = some r := by rw [if_pos rfl] at H; exact H
    clear H
    have H := H1
    clear H1
    have H' := zm H
    clear H
    obtain ⟨Ao17, co17, eo17⟩ := Kd.R_slice HO294.out
    subst eo17
    obtain ⟨Ao18, co18, eo18⟩ := Kd.R_slice HO287.out
    subst eo18
    go_wp2_with (first | ((with_reducible refine gate_callee (f := 42) rfl ?_); refine goesA_ (some 34) Try.func42 #[.slice Ao17 t291.length co17, .slice Ao18 t284.length co18] rfl ?_; (with_reducible refine (laws_eqStringS.calls k _ _ t291 _ _ t284 true _ ?side1 ?side2 ?side3 ?side4 A15.out).mono ?_); (case side1 => repeat (first | exact (Kd.R_reads' HO294.out).2.2 | (with_reducible refine Kd.C_alloc ?_ _) | (with_reducible refine Kd.C_drewN ?_ _) | (with_reducible refine Kd.C_drew ?_))); (case side2 => exact (Kd.R_reads' HO294.out).2.1); (case side3 => repeat (first | exact (Kd.R_reads' HO287.out).2.2 | (with_reducible refine Kd.C_alloc ?_ _) | (with_reducible refine Kd.C_drewN ?_ _) | (with_reducible refine Kd.C_drew ?_))); (case side4 => exact (Kd.R_reads' HO287.out).2.1); rintro e w' ⟨rfl, ⟨nd, rfl⟩⟩; refine ⟨_, rfl, ?_⟩))
    go_meet
    case rel => exact ⟨_, ((t292 != t285)), (by first | rfl | (simp; done) | (simp [*]; done)), H', ⟨by first | omega | exact Nat.le_refl _⟩, ⟨by (with_reducible repeat (first | apply Kd.R_alloc | apply Kd.R_drewN | apply Kd.R_drew)); first | exact Kd.R_mono HO287.out (fun _ hk => ⟨hk.1.2, hk.2⟩) | exact Kd.R_mono HO287.out (fun _ hk => by simp only [hk, ne_eq, not_false_eq_true, and_self])⟩, ⟨by (with_reducible repeat (first | apply Kd.R_alloc | apply Kd.R_drewN | apply Kd.R_drew)); first | exact Kd.R_mono HO290.out (fun _ hk => ⟨hk.1.2, hk.2⟩) | exact Kd.R_mono HO290.out (fun _ hk => by simp only [hk, ne_eq, not_false_eq_true, and_self])⟩, ⟨by (with_reducible repeat (first | apply Kd.R_alloc | apply Kd.R_drewN | apply Kd.R_drew)); first | exact Kd.R_mono HO294.out (fun _ hk => ⟨hk.1.2, hk.2⟩) | exact Kd.R_mono HO294.out (fun _ hk => by simp only [hk, ne_eq, not_false_eq_true, and_self])⟩, ⟨zb⟩⟩
   ·
    replace c16 := Bool.eq_false_iff.mpr c16
    subst c16
    have H1 : (laws_FnExactCorrectBlock.j0 k l0 t284 t285 t288 t291 t292 true) = some r := by rw [if_neg (show ¬ (false = true) by decide)] at H; exact H
    clear H
    have H := H1
    clear H1
    exact (laws_FnExactCorrectBlock.j0_t (H.trans (congrArg some hr_))).elim
  case rest =>
   clear HC8
   (try clear c1); (try clear p2); (try clear c3); (try clear c3b0); (try clear c4); (try clear c8); (try clear c16)
   obtain ⟨kq, x40_7, rfl, HA, HJ7, HO_4, HO_6, HO_7, HB⟩ := hcut
   cases kq with
   | zero => exact absurd HA.out (by simp [laws_FnExactCorrectBlock.j0])
   | succ kj7 =>
    have H := HA.out
    clear HA
    simp only [laws_FnExactCorrectBlock.j0] at H
    by_cases c19 : x40_7 = true
    ·
     subst c19
     have H1 : (some false) = some r := by rw [if_pos rfl] at H; exact H
     clear H
     have H := H1
     clear H1
     exact absurd ((Option.some.inj H).trans hr_) (by decide)
    ·
     replace c19 := Bool.eq_false_iff.mpr c19
     subst c19
     have H1 : ((laws_toStringS.f kj7 l0).bind fun t296 => ((laws_eqStringS.f kj7 t288 t296).bind fun t299 => (if t299 = true then ((laws_markStringS.f kj7 t288 1).bind fun bt300 => (if bt300.1 < 0 then (laws_FnExactCorrectBlock.j1 kj7 l0 t284 t285 t291 true) else ((laws_eqStringS.f kj7 t291 t284).bind fun t302 => (if t302 = true then (laws_FnExactCorrectBlock.j1 kj7 l0 t284 t285 t291 (t292 != t285)) else (laws_FnExactCorrectBlock.j1 kj7 l0 t284 t285 t291 true))))) else (some false)))) = some r := by rw [if_neg (show ¬ (false = true) by decide)] at H; exact H
     clear H
     have H := H1
     clear H1
     replace H := Option.bind_eq_some_iff.mp H
     obtain ⟨t296, A200, H⟩ := H
     (try dsimp only at H)
     have A20 := zm A200
     clear A200
     replace H := Option.bind_eq_some_iff.mp H
     obtain ⟨t299, A210, H⟩ := H
     (try dsimp only at H)
     have A21 := zm A210
     clear A210
     by_cases c22 : t299 = true
     ·
      subst c22
      have H1 : ((laws_markStringS.f kj7 t288 1).bind fun bt300 => (if bt300.1 < 0 then (laws_FnExactCorrectBlock.j1 kj7 l0 t284 t285 t291 true) else ((laws_eqStringS.f kj7 t291 t284).bind fun t302 => (if t302 = true then (laws_FnExactCorrectBlock.j1 kj7 l0 t284 t285 t291 (t292 != t285)) else (laws_FnExactCorrectBlock.j1 kj7 l0 t284 t285 t291 true))))) = some r := by rw [if_pos rfl] at H; exact H
      clear H
      have H := H1
      clear H1
      replace H := Option.bind_eq_some_iff.mp H
      obtain ⟨⟨t300, t301⟩, A230, H⟩ := H
      (try dsimp only at H)
      have A23 := zm A230
      clear A230
      have HC24 := zm H
      clear H
      go_upto_region 14 with (first | ((with_reducible refine gate_callee (f := 40) rfl ?_); refine goesA_ (some 43) Try.func40 #[.slice A0 l0.length c0] rfl ?_; (with_reducible refine (laws_toStringS.calls kj7 _ _ l0 t296 _ ?side1 ?side2 A20.out).mono ?_); (case side1 => repeat (first | exact (Kd.C_below HR0.out HB.out) | (with_reducible refine Kd.C_alloc ?_ _) | (with_reducible refine Kd.C_drewN ?_ _) | (with_reducible refine Kd.C_drew ?_))); (case side2 => exact HC0.out); rintro e w25 ⟨v297, rfl, ho0, hb⟩; refine ⟨_, rfl, ?_⟩; have n0_ := zm (Kd.R_elder' (by (with_reducible repeat (first | apply Kd.R_alloc | apply Kd.R_drewN | apply Kd.R_drew)); exact HO_4.out) (Kd.R_base ho0) hb); have n1_ := zm (Kd.R_elder' (by (with_reducible repeat (first | apply Kd.R_alloc | apply Kd.R_drewN | apply Kd.R_drew)); exact HO_6.out) (Kd.R_base ho0) hb); have n2_ := zm (Kd.R_elder' (by (with_reducible repeat (first | apply Kd.R_alloc | apply Kd.R_drewN | apply Kd.R_drew)); exact HO_7.out) (Kd.R_base ho0) hb); have n3_ := zm (Kd.R_lower (Kd.R_new' (Kd.R_new' (Kd.R_new' ho0 (Kd.R_lt (by (with_reducible repeat (first | apply Kd.R_alloc | apply Kd.R_drewN | apply Kd.R_drew)); exact HO_4.out))) (Kd.R_lt (by (with_reducible repeat (first | apply Kd.R_alloc | apply Kd.R_drewN | apply Kd.R_drew)); exact HO_6.out))) (Kd.R_lt (by (with_reducible repeat (first | apply Kd.R_alloc | apply Kd.R_drewN | apply Kd.R_drew)); exact HO_7.out))) (below_size zb)); have n4_ := zm (below_step zb hb); clear HO_4; clear HO_6; clear HO_7; clear HB; have HO_4 := n0_; have HO_6 := n1_; have HO_7 := n2_; have HO298 := n3_; have HB := n4_; clear n0_ n1_ n2_ n3_ n4_; (try clear hb); (try clear hb2); (try clear hk); (try clear hi); (try clear ho0); obtain ⟨Ao26, co26, eo26⟩ := Kd.R_slice HO298.out; subst eo26) | ((with_reducible refine gate_callee (f := 42) rfl ?_); refine goesA_ (some 44) Try.func42 #[.slice Ao13 t288.length co13, .slice Ao26 t296.length co26] rfl ?_; (with_reducible refine (laws_eqStringS.calls kj7 _ _ t288 _ _ t296 true _ ?side1 ?side2 ?side3 ?side4 A21.out).mono ?_); (case side1 => repeat (first | exact (Kd.R_reads' HO_6.out).2.2 | (with_reducible refine Kd.C_alloc ?_ _) | (with_reducible refine Kd.C_drewN ?_ _) | (with_reducible refine Kd.C_drew ?_))); (case side2 => exact (Kd.R_reads' HO_6.out).2.1); (case side3 => repeat (first | exact (Kd.R_reads' HO298.out).2.2 | (with_reducible refine Kd.C_alloc ?_ _) | (with_reducible refine Kd.C_drewN ?_ _) | (with_reducible refine Kd.C_drew ?_))); (case side4 => exact (Kd.R_reads' HO298.out).2.1); rintro e w' ⟨rfl, ⟨nd, rfl⟩⟩; refine ⟨_, rfl, ?_⟩) | ((with_reducible refine gate_callee (f := 43) rfl ?_); refine goesA_ (some 48) Try.func43 #[.slice Ao13 t288.length co13, .int .i64 1] rfl ?_; (with_reducible refine (laws_markStringS.calls kj7 (fun k_ => some k_ = (.slice Ao13 t288.length co13 : Value).ownBlock) (.slice Ao13 t288.length co13) t288 1 t300 t301 w _ ?side1 ?side2 A23.out).mono ?_); (case side1 => repeat (first | (with_reducible first | exact HB.out | apply below_alloc | apply pw_below_drewN | apply below_drew1) | exact HB.out)); (case side2 => exact Kd.R_tight rfl HO_6.out); rintro e w27 ⟨rfl, hy0, hb, hkp⟩; refine ⟨_, rfl, ?_⟩; have n0_ := zm (Kd.R_mono (ok' := fun k_ => some k_ ≠ (.slice Ao13 t288.length co13 : Value).ownBlock ∧ some k_ ≠ (v293 : Value).ownBlock ∧ some k_ ≠ (.slice Ao26 t296.length co26 : Value).ownBlock) (Kd.R_keptB (HO_4.out) hkp (fun k_ hk_ hs_ => (hk_.1.1) hs_)) (fun k_ hk_ => ⟨hk_.1.1.1, hk_.1.1.2, hk_.1.2⟩)); have n1_ := zm (Kd.R_reok rfl hy0 (fun k_ e_ => HO_6.out.1 k_ e_)); have n2_ := zm (Kd.R_mono (ok' := fun k_ => some k_ ≠ (v286 : Value).ownBlock ∧ some k_ ≠ (.slice Ao13 t288.length co13 : Value).ownBlock ∧ some k_ ≠ (.slice Ao26 t296.length co26 : Value).ownBlock) (Kd.R_keptB (HO_7.out) hkp (fun k_ hk_ hs_ => (hk_.1.2) hs_)) (fun k_ hk_ => ⟨hk_.1.1.1, hk_.1.1.2, hk_.1.2⟩)); have n3_ := zm (Kd.R_mono (ok' := fun k_ => some k_ ≠ (v286 : Value).ownBlock ∧ some k_ ≠ (.slice Ao13 t288.length co13 : Value).ownBlock ∧ some k_ ≠ (v293 : Value).ownBlock) (Kd.R_keptB (HO298.out) hkp (fun k_ hk_ hs_ => (hk_.1.2) hs_)) (fun k_ hk_ => ⟨hk_.1.1.1.2, hk_.1.1.2, hk_.1.2⟩)); have n4_ := zm (hb); clear HO_4; clear HO_6; clear HO_7; clear HO298; clear HB; have HO_4 := n0_; have HO_6 := n1_; have HO_7 := n2_; have HO298 := n3_; have HB := n4_; clear n0_ n1_ n2_ n3_ n4_; (try clear hb); (try clear hkp); (try clear hy0)))
      (try simp only [Act.put, List.setIfInBounds_toArray, List.set_cons_zero, List.set_cons_succ])
      go_cut [61] (fun v61 wc => ∃ (kq : Nat) (x61_23 : Bool), v61 = .bool x61_23 ∧ Aside0 (laws_FnExactCorrectBlock.j1 kq l0 t284 t285 t291 x61_23 = some r) ∧ Aside0 (kq ≤ kj7) ∧ Aside0 (Kd.R Kd.string 9 wc w.heap.size (fun k_ => some k_ ≠ (v293 : Value).ownBlock) v286 t284) ∧ Aside0 (Kd.R Kd.string 9 wc w.heap.size (fun k_ => some k_ ≠ (v286 : Value).ownBlock) v293 t291) ∧ Aside0 (Below w.heap.size w wc))
      case first =>
       have H := HC24.out
       clear HC24
       by_cases c28 : t300 < 0
       ·
        rw [if_pos c28] at H
        have c28b0 : decide (t300 < 0) = true := decide_eq_true c28
        clear c28
        (first | rw [c28b0] | (simp only [i64_w, i32_w]; rw [c28b0]) | skip)
        exact (laws_FnExactCorrectBlock.j1_t (H.trans (congrArg some hr_))).elim
       ·
        rw [if_neg c28] at H
        have c28b0 : decide (t300 < 0) = false := decide_eq_false c28
        clear c28
        (first | rw [c28b0] | (simp only [i64_w, i32_w]; rw [c28b0]) | skip)
        replace H := Option.bind_eq_some_iff.mp H
        obtain ⟨t302, A290, H⟩ := H
        (try dsimp only at H)
        have A29 := zm A290
        clear A290
        by_cases c30 : t302 = true
        ·
         subst c30
         have H1 : (laws_FnExactCorrectBlock.j1 kj7 l0 t284 t285 t291 (t292 != t285)) = some r := by rw [if_pos rfl] at H; exact H
         clear H
         have H := H1
         clear H1
         have H' := zm H
         clear H
         obtain ⟨Ao31, co31, eo31⟩ := Kd.R_slice HO_7.out
         subst eo31
         obtain ⟨Ao32, co32, eo32⟩ := Kd.R_slice HO_4.out
         subst eo32
         go_wp2_with (first | (go_at_call 42; (with_reducible refine (laws_eqStringS.calls kj7 _ _ t291 _ _ t284 true _ ?side1 ?side2 ?side3 ?side4 A29.out).mono ?_); (case side1 => repeat (first | exact (Kd.R_reads' HO_7.out).2.2 | (with_reducible refine Kd.C_alloc ?_ _) | (with_reducible refine Kd.C_drewN ?_ _) | (with_reducible refine Kd.C_drew ?_))); (case side2 => exact (Kd.R_reads' HO_7.out).2.1); (case side3 => repeat (first | exact (Kd.R_reads' HO_4.out).2.2 | (with_reducible refine Kd.C_alloc ?_ _) | (with_reducible refine Kd.C_drewN ?_ _) | (with_reducible refine Kd.C_drew ?_))); (case side4 => exact (Kd.R_reads' HO_4.out).2.1); rintro e w' ⟨rfl, ⟨nd, rfl⟩⟩))
         go_meet
         case rel => exact ⟨_, ((t292 != t285)), (by first | rfl | (simp; done) | (simp [*]; done)), H', ⟨by have := HJ7.out; first | omega | exact Nat.le_refl _⟩, ⟨by (with_reducible repeat (first | apply Kd.R_alloc | apply Kd.R_drewN | apply Kd.R_drew)); exact zM HO_4.out⟩, ⟨by (with_reducible repeat (first | apply Kd.R_alloc | apply Kd.R_drewN | apply Kd.R_drew)); exact zM HO_7.out⟩, ⟨zb⟩⟩
        ·
         replace c30 := Bool.eq_false_iff.mpr c30
         subst c30
         have H1 : (laws_FnExactCorrectBlock.j1 kj7 l0 t284 t285 t291 true) = some r := by rw [if_neg (show ¬ (false = true) by decide)] at H; exact H
         clear H
         have H := H1
         clear H1
         exact (laws_FnExactCorrectBlock.j1_t (H.trans (congrArg some hr_))).elim
      case rest =>
       clear HC24
       (try clear c1); (try clear c2); (try clear p2); (try clear c3); (try clear c3b0); (try clear c4); (try clear c8); (try clear c16); (try clear c19); (try clear c22); (try clear c28); (try clear c28b0); (try clear c30); (try clear p2)
       obtain ⟨kq, x61_23, rfl, HA, HJ23, HO_4, HO_7, HB⟩ := hcut
       cases kq with
       | zero => exact absurd HA.out (by simp [laws_FnExactCorrectBlock.j1])
       | succ kj23 =>
        have H := HA.out
        clear HA
        simp only [laws_FnExactCorrectBlock.j1] at H
        by_cases c33 : x61_23 = true
        ·
         subst c33
         have H1 : (some false) = some r := by rw [if_pos rfl] at H; exact H
         clear H
         have H := H1
         clear H1
         exact absurd ((Option.some.inj H).trans hr_) (by decide)
        ·
         replace c33 := Bool.eq_false_iff.mpr c33
         subst c33
         have H1 : ((laws_markStringS.f kj23 t291 1).bind fun bt303 => ((laws_heldStringS.f kj23 bt303.2 1).bind fun t305 => (if t305 < 0 then (some false) else (if t305 = bt303.1 then ((laws_toStringS.f kj23 l0).bind fun t306 => ((impl_CorrectBlock.f kj23 t306).bind fun bt309 => ((laws_eqStringS.f kj23 bt309.1 t284).bind fun t313 => (if t313 = true then (laws_FnExactCorrectBlock.j2 kj23 bt303.2 bt303.1 (bt309.2 != t285)) else (laws_FnExactCorrectBlock.j2 kj23 bt303.2 bt303.1 true))))) else (some false))))) = some r := by rw [if_neg (show ¬ (false = true) by decide)] at H; exact H
         clear H
         have H := H1
         clear H1
         replace H := Option.bind_eq_some_iff.mp H
         obtain ⟨⟨t303, t304⟩, A340, H⟩ := H
         (try dsimp only at H)
         have A34 := zm A340
         clear A340
         replace H := Option.bind_eq_some_iff.mp H
         obtain ⟨t305, A350, H⟩ := H
         (try dsimp only at H)
         have A35 := zm A350
         clear A350
         by_cases c36 : t305 < 0
         ·
          rw [if_pos c36] at H
          have c36b0 : decide (t305 < 0) = true := decide_eq_true c36
          clear c36
          exact absurd ((Option.some.inj H).trans hr_) (by decide)
         ·
          rw [if_neg c36] at H
          have c36b0 : decide (t305 < 0) = false := decide_eq_false c36
          clear c36
          by_cases c37 : t305 = t303
          ·
           rw [if_pos c37] at H
           have c37b0 : (t305 == t303) = true := beq_iff_eq.mpr c37
           have c37b1 : (t305 != t303) = false := bne_eq_false_iff_eq.mpr c37
           clear c37
           replace H := Option.bind_eq_some_iff.mp H
           obtain ⟨t306, A380, H⟩ := H
           (try dsimp only at H)
           have A38 := zm A380
           clear A380
           replace H := Option.bind_eq_some_iff.mp H
           obtain ⟨⟨t309, t310⟩, A390, H⟩ := H
           (try dsimp only at H)
           have A39 := zm A390
           clear A390
           have HC40 := zm H
           clear H
           obtain ⟨Ao41, co41, eo41⟩ := Kd.R_slice HO_7.out
           subst eo41
           go_upto_region 25 with (first | ((with_reducible refine gate_callee (f := 43) rfl ?_); refine goesA_ (some 64) Try.func43 #[.slice Ao41 t291.length co41, .int .i64 1] rfl ?_; (with_reducible refine (laws_markStringS.calls kj23 (fun k_ => some k_ = (.slice Ao41 t291.length co41 : Value).ownBlock) (.slice Ao41 t291.length co41) t291 1 t303 t304 w _ ?side1 ?side2 A34.out).mono ?_); (case side1 => repeat (first | (with_reducible first | exact HB.out | apply below_alloc | apply pw_below_drewN | apply below_drew1) | exact HB.out)); (case side2 => exact Kd.R_tight rfl HO_7.out); rintro e w42 ⟨rfl, hy0, hb, hkp⟩; refine ⟨_, rfl, ?_⟩; have n0_ := zm (Kd.R_mono (ok' := fun k_ => some k_ ≠ (.slice Ao41 t291.length co41 : Value).ownBlock) (Kd.R_keptB (HO_4.out) hkp (fun k_ hk_ hs_ => (hk_) hs_)) (fun k_ hk_ => hk_.1)); have n1_ := zm (Kd.R_reok rfl hy0 (fun k_ e_ => HO_7.out.1 k_ e_)); have n2_ := zm (hb); clear HO_4; clear HO_7; clear HB; have HO_4 := n0_; have HO_7 := n1_; have HB := n2_; clear n0_ n1_ n2_; (try clear hb); (try clear hkp); (try clear hy0)) | ((with_reducible refine gate_callee (f := 44) rfl ?_); refine goesL_ (some 67) rfl rfl Try.func44 (by kernel_rfl) rfl #[.slice Ao41 t304.length co41, .int .i64 1] rfl (by (try simp only [List.map_toArray, List.map_cons, List.map_nil]); first | done | (rw [show t304.length = t291.length from (Kd.R_reads' HO_7.out).1.symm] <;> rfl) | rfl | (simp only [List.length_drop, List.length_take]; rfl)) ?_; (with_reducible refine (laws_heldStringS.calls kj23 _ _ t304 1 t305 _ ?side1 ?side2 A35.out).mono ?_); (case side1 => repeat (first | exact (Kd.R_reads' HO_7.out).2.2 | (with_reducible refine Kd.C_alloc ?_ _) | (with_reducible refine Kd.C_drewN ?_ _) | (with_reducible refine Kd.C_drew ?_))); (case side2 => rw [show t304.length = t291.length from (Kd.R_reads' HO_7.out).1.symm]; exact (Kd.R_reads' HO_7.out).2.1); rintro e w43 ⟨rfl, hb⟩; refine ⟨_, rfl, ?_⟩; have n0_ := zm (Kd.R_below (by (with_reducible repeat (first | apply Kd.R_alloc | apply Kd.R_drewN | apply Kd.R_drew)); exact HO_4.out) hb); have n1_ := zm (Kd.R_below (by (with_reducible repeat (first | apply Kd.R_alloc | apply Kd.R_drewN | apply Kd.R_drew)); exact HO_7.out) hb); have n2_ := zm (below_step zb hb); clear HO_4; clear HO_7; clear HB; have HO_4 := n0_; have HO_7 := n1_; have HB := n2_; clear n0_ n1_ n2_; (try clear hb); (try clear hb2); (try clear hk); (try clear hi)) | ((with_reducible refine gate_callee (f := 40) rfl ?_); refine goesA_ (some 75) Try.func40 #[.slice A0 l0.length c0] rfl ?_; (with_reducible refine (laws_toStringS.calls kj23 _ _ l0 t306 _ ?side1 ?side2 A38.out).mono ?_); (case side1 => repeat (first | exact (Kd.C_below HR0.out HB.out) | (with_reducible refine Kd.C_alloc ?_ _) | (with_reducible refine Kd.C_drewN ?_ _) | (with_reducible refine Kd.C_drew ?_))); (case side2 => exact HC0.out); rintro e w44 ⟨v307, rfl, ho0, hb⟩; refine ⟨_, rfl, ?_⟩; have n0_ := zm (Kd.R_elder' (by (with_reducible repeat (first | apply Kd.R_alloc | apply Kd.R_drewN | apply Kd.R_drew)); exact HO_4.out) (Kd.R_base ho0) hb); have n1_ := zm (Kd.R_elder' (by (with_reducible repeat (first | apply Kd.R_alloc | apply Kd.R_drewN | apply Kd.R_drew)); exact HO_7.out) (Kd.R_base ho0) hb); have n2_ := zm (Kd.R_lower (Kd.R_new' (Kd.R_new' ho0 (Kd.R_lt (by (with_reducible repeat (first | apply Kd.R_alloc | apply Kd.R_drewN | apply Kd.R_drew)); exact HO_4.out))) (Kd.R_lt (by (with_reducible repeat (first | apply Kd.R_alloc | apply Kd.R_drewN | apply Kd.R_drew)); exact HO_7.out))) (below_size zb)); have n3_ := zm (below_step zb hb); clear HO_4; clear HO_7; clear HB; have HO_4 := n0_; have HO_7 := n1_; have HO308 := n2_; have HB := n3_; clear n0_ n1_ n2_ n3_; (try clear hb); (try clear hb2); (try clear hk); (try clear hi); (try clear ho0); obtain ⟨Ao45, co45, eo45⟩ := Kd.R_slice HO308.out; subst eo45) | ((with_reducible refine gate_callee (f := 46) rfl ?_); refine goesA_ (some 76) Try.func46 #[.slice Ao45 t306.length co45] rfl ?_; (with_reducible refine (impl_CorrectBlock.calls kj23 _ _ t306 t309 t310 _ ?side1 ?side2 A39.out).mono ?_); (case side1 => repeat (first | exact (Kd.R_reads' HO308.out).2.2 | (with_reducible refine Kd.C_alloc ?_ _) | (with_reducible refine Kd.C_drewN ?_ _) | (with_reducible refine Kd.C_drew ?_))); (case side2 => exact (Kd.R_reads' HO308.out).2.1); rintro e w46 ⟨v311, rfl, ho0, hb⟩; refine ⟨_, rfl, ?_⟩; have n0_ := zm (Kd.R_elder' (by (with_reducible repeat (first | apply Kd.R_alloc | apply Kd.R_drewN | apply Kd.R_drew)); exact HO_4.out) (Kd.R_base ho0) hb); have n1_ := zm (Kd.R_elder' (by (with_reducible repeat (first | apply Kd.R_alloc | apply Kd.R_drewN | apply Kd.R_drew)); exact HO_7.out) (Kd.R_base ho0) hb); have n2_ := zm (Kd.R_elder' (by (with_reducible repeat (first | apply Kd.R_alloc | apply Kd.R_drewN | apply Kd.R_drew)); exact HO308.out) (Kd.R_base ho0) hb); have n3_ := zm (Kd.R_lower (Kd.R_new' (Kd.R_new' (Kd.R_new' ho0 (Kd.R_lt (by (with_reducible repeat (first | apply Kd.R_alloc | apply Kd.R_drewN | apply Kd.R_drew)); exact HO_4.out))) (Kd.R_lt (by (with_reducible repeat (first | apply Kd.R_alloc | apply Kd.R_drewN | apply Kd.R_drew)); exact HO_7.out))) (Kd.R_lt (by (with_reducible repeat (first | apply Kd.R_alloc | apply Kd.R_drewN | apply Kd.R_drew)); exact HO308.out))) (below_size zb)); have n4_ := zm (below_step zb hb); clear HO_4; clear HO_7; clear HO308; clear HB; have HO_4 := n0_; have HO_7 := n1_; have HO308 := n2_; have HO312 := n3_; have HB := n4_; clear n0_ n1_ n2_ n3_ n4_; (try clear hb); (try clear hb2); (try clear hk); (try clear hi); (try clear ho0)))
           (try simp only [Act.put, List.setIfInBounds_toArray, List.set_cons_zero, List.set_cons_succ])
           go_cut [87] (fun v87 wc => ∃ (kq : Nat) (x87_39 : Bool), v87 = .bool x87_39 ∧ Aside0 (laws_FnExactCorrectBlock.j2 kq t304 t303 x87_39 = some r) ∧ Aside0 (kq ≤ kj23) ∧ Aside0 (Kd.R Kd.string 9 wc w.heap.size (fun _ => True) (.slice Ao41 t291.length co41) t304) ∧ Aside0 (Below w.heap.size w wc))
           case first =>
            have H := HC40.out
            clear HC40
            replace H := Option.bind_eq_some_iff.mp H
            obtain ⟨t313, A470, H⟩ := H
            (try dsimp only at H)
            have A47 := zm A470
            clear A470
            by_cases c48 : t313 = true
            ·
             subst c48
             have H1 : (laws_FnExactCorrectBlock.j2 kj23 t304 t303 (t310 != t285)) = some r := by rw [if_pos rfl] at H; exact H
             clear H
             have H := H1
             clear H1
             have H' := zm H
             clear H
             obtain ⟨Ao49, co49, eo49⟩ := Kd.R_slice HO312.out
             subst eo49
             obtain ⟨Ao50, co50, eo50⟩ := Kd.R_slice HO_4.out
             subst eo50
             go_wp2_with (first | ((with_reducible refine gate_callee (f := 42) rfl ?_); refine goesA_ (some 81) Try.func42 #[.slice Ao49 t309.length co49, .slice Ao50 t284.length co50] rfl ?_; (with_reducible refine (laws_eqStringS.calls kj23 _ _ t309 _ _ t284 true _ ?side1 ?side2 ?side3 ?side4 A47.out).mono ?_); (case side1 => repeat (first | exact (Kd.R_reads' HO312.out).2.2 | (with_reducible refine Kd.C_alloc ?_ _) | (with_reducible refine Kd.C_drewN ?_ _) | (with_reducible refine Kd.C_drew ?_))); (case side2 => exact (Kd.R_reads' HO312.out).2.1); (case side3 => repeat (first | exact (Kd.R_reads' HO_4.out).2.2 | (with_reducible refine Kd.C_alloc ?_ _) | (with_reducible refine Kd.C_drewN ?_ _) | (with_reducible refine Kd.C_drew ?_))); (case side4 => exact (Kd.R_reads' HO_4.out).2.1); rintro e w' ⟨rfl, ⟨nd, rfl⟩⟩; refine ⟨_, rfl, ?_⟩))
             go_meet
             case rel => exact ⟨_, ((t310 != t285)), (by first | rfl | (simp; done) | (simp [*]; done)), H', ⟨by have := HJ7.out; have := HJ23.out; first | omega | exact Nat.le_refl _⟩, ⟨by (with_reducible repeat (first | apply Kd.R_alloc | apply Kd.R_drewN | apply Kd.R_drew)); exact Kd.R_mono HO_7.out (fun _ hk => trivial)⟩, ⟨zb⟩⟩
            ·
             replace c48 := Bool.eq_false_iff.mpr c48
             subst c48
             have H1 : (laws_FnExactCorrectBlock.j2 kj23 t304 t303 true) = some r := by rw [if_neg (show ¬ (false = true) by decide)] at H; exact H
             clear H
             have H := H1
             clear H1
             exact (laws_FnExactCorrectBlock.j2_t (H.trans (congrArg some hr_))).elim
           case rest =>
            clear HC40
            (try clear c1); (try clear c2); (try clear p2); (try clear c3); (try clear c3b0); (try clear c4); (try clear c8); (try clear c16); (try clear c19); (try clear c22); (try clear c28); (try clear c28b0); (try clear c30); (try clear c33); (try clear c36); (try clear c36b0); (try clear c37); (try clear c37b0); (try clear c37b1); (try clear c38); (try clear c40); (try clear c42); (try clear c43); (try clear c44); (try clear c45); (try clear c46); (try clear c48); (try clear p2)
            obtain ⟨kq, x87_39, rfl, HA, HJ39, HO_7, HB⟩ := hcut
            have hl7_39 := (Kd.R_reads' HO_7.out).1
            rw [hl7_39] at HO_7
            (try simp only [hl7_39])
            cases kq with
            | zero => exact absurd HA.out (by simp [laws_FnExactCorrectBlock.j2])
            | succ kj39 =>
             have H := HA.out
             clear HA
             simp only [laws_FnExactCorrectBlock.j2] at H
             by_cases c51 : x87_39 = true
             ·
              subst c51
              have H1 : (some false) = some r := by rw [if_pos rfl] at H; exact H
              clear H
              have H := H1
              clear H1
              exact absurd ((Option.some.inj H).trans hr_) (by decide)
             ·
              replace c51 := Bool.eq_false_iff.mpr c51
              subst c51
              have H1 : ((laws_heldStringS.f kj39 t304 1).bind fun t314 => (if t314 < 0 then (some false) else (if t314 = t303 then (some true) else (some false)))) = some r := by rw [if_neg (show ¬ (false = true) by decide)] at H; exact H
              clear H
              have H := H1
              clear H1
              replace H := Option.bind_eq_some_iff.mp H
              obtain ⟨t314, A520, H⟩ := H
              (try dsimp only at H)
              have A52 := zm A520
              clear A520
              by_cases c53 : t314 < 0
              ·
               rw [if_pos c53] at H
               have c53b0 : decide (t314 < 0) = true := decide_eq_true c53
               clear c53
               exact absurd ((Option.some.inj H).trans hr_) (by decide)
              ·
               rw [if_neg c53] at H
               have c53b0 : decide (t314 < 0) = false := decide_eq_false c53
               clear c53
               by_cases c54 : t314 = t303
               ·
                rw [if_pos c54] at H
                have c54b0 : (t314 == t303) = true := beq_iff_eq.mpr c54
                have c54b1 : (t314 != t303) = false := bne_eq_false_iff_eq.mpr c54
                clear c54
                obtain rfl := Option.some.inj H
                go_wp2_with (first | ((with_reducible refine gate_callee (f := 44) rfl ?_); refine goesA_ (some 90) Try.func44 #[.slice Ao41 t304.length co41, .int .i64 1] rfl ?_; (with_reducible refine (laws_heldStringS.calls kj39 _ _ t304 1 t314 _ ?side1 ?side2 A52.out).mono ?_); (case side1 => repeat (first | exact (Kd.R_reads' HO_7.out).2.2 | (with_reducible refine Kd.C_alloc ?_ _) | (with_reducible refine Kd.C_drewN ?_ _) | (with_reducible refine Kd.C_drew ?_))); (case side2 => exact (Kd.R_reads' HO_7.out).2.1); rintro e w55 ⟨rfl, hb⟩; refine ⟨_, rfl, ?_⟩; have n0_ := zm (Kd.R_below (by (with_reducible repeat (first | apply Kd.R_alloc | apply Kd.R_drewN | apply Kd.R_drew)); exact HO_7.out) hb); have n1_ := zm (below_step zb hb); clear HO_7; clear HB; have HO_7 := n0_; have HB := n1_; clear n0_ n1_; (try clear hb); (try clear hb2); (try clear hk); (try clear hi)))
                go_ret
                exact ⟨zr, zb⟩
               ·
                rw [if_neg c54] at H
                have c54b0 : (t314 == t303) = false := beq_eq_false_iff_ne.mpr c54
                have c54b1 : (t314 != t303) = true := bne_iff_ne.mpr c54
                exact absurd ((Option.some.inj H).trans hr_) (by decide)
          ·
           rw [if_neg c37] at H
           have c37b0 : (t305 == t303) = false := beq_eq_false_iff_ne.mpr c37
           have c37b1 : (t305 != t303) = true := bne_iff_ne.mpr c37
           exact absurd ((Option.some.inj H).trans hr_) (by decide)
     ·
      replace c22 := Bool.eq_false_iff.mpr c22
      subst c22
      have H1 : (some false) = some r := by rw [if_neg (show ¬ (false = true) by decide)] at H; exact H
      clear H
      have H := H1
      clear H1
      exact absurd ((Option.some.inj H).trans hr_) (by decide)

end Go.Proofs.Ytjjjikdpegogcaa.PBk
