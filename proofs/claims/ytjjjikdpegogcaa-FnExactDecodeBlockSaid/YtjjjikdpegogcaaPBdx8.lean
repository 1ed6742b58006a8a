-- Written for this claim by a program of this session (wip/tpl/patchprint.py), not by print.sh.
import Derived.Test.YtjjjikdpegogcaaPBdx0
namespace Go.Proofs.Ytjjjikdpegogcaa.PBd
open Go.RowKit Go.Proofs.YtjjjikdpegogcaaW.PrintWords Go.Proofs.YtjjjikdpegogcaaW.PrintLast Go.Proofs.YtjjjikdpegogcaaW.PrintMore
attribute [local go_sem] max2_int min2_int max_two min_two max_three min_three max_four min_four   -- for this text's walks alone
set_option linter.unusedVariables false
set_option linter.unusedSimpArgs false

/-! ### impl_withChar: function 92 -/
theorem impl_withChar.info_b : (Try.prog.info? 5).map (fun i => (i.zero, i.size, i.bytes)) = some (some (.int .u8 0), 1, 1) := by kernel_rfl
theorem impl_withChar.info_s : (Try.prog.info? 9).map (fun i => (i.zero, i.size, i.bytes)) = some (some (.string ⟨#[]⟩), 1, 16) := by kernel_rfl
theorem impl_withChar.gateC {P : Program} {ops : Array Oper} {Q : Exit → Act → World → Prop} {rest : List Oper} {o : Oper} {a : Act} {W : World} {s : Nat} {xs : Array Operand} {ts : Array TypeId} (_ho : o.op = .call { callee := .value (.tmp s), args := xs, argTypes := ts }) (h : wpList P ops Q (o :: rest) a W) : wpList P ops Q (o :: rest) a W := h
theorem impl_withChar.goesC {P : Program} {ops : Array Oper} {Q : Exit → Act → World → Prop} {rest : List Oper} {oi : Oper} {a : Act} {w : World} (N : Option Tmp) {f : FuncId} {fn : Func} {s : Operand} {xs : Array Operand} {ts : Array TypeId} (hf : P.funcs[f]? = some fn) (args cap : Array Value)
    (hop : oi.op = .call { callee := .value s, args := xs, argTypes := ts }) (hs : a.eval s = .func (.func f) #[] cap) (h : Calls P f (args ++ cap) w fun e w' => ∃ v, e = .returned v ∧ wpList P ops Q rest (a.put N v) w')
    (hd : oi.dst = N := by rfl) (hg : oi.guard = none := by rfl) (hname : (fn.name == "runtime.NumGoroutine") = false := by kernel_rfl) (hb : fn.body.isSome = true := by rfl)
    (hargs : xs.map a.eval = args := by (try simp only [List.map_toArray, List.map_cons, List.map_nil]); first | done | rfl) : wpList P ops Q (oi :: rest) a w := by
  refine wpList_plain hg fun K hK => ?_
  have he := enters_ hf hname hb (args ++ cap) w
  have hrun : (execOp a.eval oi).run P w = .ok (.enter f (args ++ cap)) w := by
    unfold execOp
    rw [hop]
    simp only [resolve]
    rw [hs, hargs]
    simp [Deferred.ofValue, invoke, he]
  unfold Oper.wp
  rw [hrun, Oper.upon_enter]
  refine h.mono fun e w'' hh => ?_
  obtain ⟨v, rfl, hk⟩ := hh
  subst hd
  exact hK _ _ hk
def impl_withCharFn.f (a0 : Int) (a1 : Int) (a2 : Int) (a3 : Int) (a4 : Int) (l5 : List ByteArray) : Option (Int) := if a0 = a2 then (if a1 = a3 then (some a4) else (if 0 ≤ a0 then (if a0 < (l5.length : Int) then (if 0 ≤ a1 then (if a1 < ((rdOf ByteArray.empty l5 a0).size : Int) then (some (bt (rdOf ByteArray.empty l5 a0) a1)) else (none)) else (none)) else (none)) else (none))) else (if 0 ≤ a0 then (if a0 < (l5.length : Int) then (if 0 ≤ a1 then (if a1 < ((rdOf ByteArray.empty l5 a0).size : Int) then (some (bt (rdOf ByteArray.empty l5 a0) a1)) else (none)) else (none)) else (none)) else (none))
set_option maxHeartbeats 8000000 in
set_option maxRecDepth 100000 in
theorem impl_withCharFn.calls (a0 : Int) (a1 : Int) (a2 : Int) (a3 : Int) (a4 : Int) (A5 : Option Addr) (c5 : Nat) (l5 : List ByteArray) (r : Int) (g1 g2 g3 g4 : Nat) (w : World) (hb1 : w.cell? ⟨g1, 0, none⟩ = some (.int .i64 a2)) (hb2 : w.cell? ⟨g2, 0, none⟩ = some (.int .i64 a3)) (hb3 : w.cell? ⟨g3, 0, none⟩ = some (.int .u8 a4)) (hb4 : w.cell? ⟨g4, 0, none⟩ = some (.slice A5 l5.length c5)) (hr5 : Kd.C Kd.string w A5 l5.length l5) (hc5 : l5.length ≤ c5) (h : impl_withCharFn.f a0 a1 a2 a3 a4 l5 = some r) :
  Calls Try.prog 129 #[.int .i64 a0, .int .i64 a1, .pointer (some ⟨g1, 0, none⟩), .pointer (some ⟨g2, 0, none⟩), .pointer (some ⟨g3, 0, none⟩), .pointer (some ⟨g4, 0, none⟩)] w fun e w' => e = .returned (.int .u8 r) ∧ Drawn0 w w' := by
 have HR5 := zm hr5
 have HC5 := zm hc5
 clear hr5 hc5
 have H : (if a0 = a2 then (if a1 = a3 then (some a4) else (if 0 ≤ a0 then (if a0 < (l5.length : Int) then (if 0 ≤ a1 then (if a1 < ((rdOf ByteArray.empty l5 a0).size : Int) then (some (bt (rdOf ByteArray.empty l5 a0) a1)) else (none)) else (none)) else (none)) else (none))) else (if 0 ≤ a0 then (if a0 < (l5.length : Int) then (if 0 ≤ a1 then (if a1 < ((rdOf ByteArray.empty l5 a0).size : Int) then (some (bt (rdOf ByteArray.empty l5 a0) a1)) else (none)) else (none)) else (none)) else (none))) = some r := h
 clear h
 by_cases c7 : a0 = a2
 ·
  rw [if_pos c7] at H
  have c7b0 : (a0 == a2) = true := beq_iff_eq.mpr c7
  have c7b1 : (a0 != a2) = false := bne_eq_false_iff_eq.mpr c7
  clear c7
  by_cases c8 : a1 = a3
  ·
   rw [if_pos c8] at H
   have c8b0 : (a1 == a3) = true := beq_iff_eq.mpr c8
   have c8b1 : (a1 != a3) = false := bne_eq_false_iff_eq.mpr c8
   clear c8
   obtain rfl := Option.some.inj H
   go_enter Try.func129, Try.ntmps129
   go_wp2
   go_ret
   exact ⟨by first | rfl | (simp; done) | (simp [*]; done), by repeat (first | exact Drawn0.refl _ | apply Drawn0.step)⟩
  ·
   rw [if_neg c8] at H
   have c8b0 : (a1 == a3) = false := beq_eq_false_iff_ne.mpr c8
   have c8b1 : (a1 != a3) = true := bne_iff_ne.mpr c8
   by_cases c9 : 0 ≤ a0
   ·
    rw [if_pos c9] at H
    have c9b0 : decide (0 ≤ a0) = true := decide_eq_true c9
    clear c9
    by_cases c10 : a0 < (l5.length : Int)
    ·
     rw [if_pos c10] at H
     have c10b0 : decide (a0 < (l5.length : Int)) = true := decide_eq_true c10
     clear c10
     by_cases c11 : 0 ≤ a1
     ·
      rw [if_pos c11] at H
      have c11b0 : decide (0 ≤ a1) = true := decide_eq_true c11
      clear c11
      by_cases c12 : a1 < ((rdOf ByteArray.empty l5 a0).size : Int)
      ·
       rw [if_pos c12] at H
       have c12b0 : decide (a1 < ((rdOf ByteArray.empty l5 a0).size : Int)) = true := decide_eq_true c12
       clear c12
       obtain rfl := Option.some.inj H
       have p152 : 0 ≤ (a0 : Int) := zd
       have q152 : a0 < (l5.length : Int) := zd
       obtain ⟨ad152, e152, hx152_0⟩ := Kd.at_string HR5.out a0 p152 q152
       cases e152
       replace p152 := eq_true p152
       replace q152 := eq_true q152
       have p13 : 0 ≤ (a1 : Int) := zd
       have q13 : a1 < ((rdOf ByteArray.empty l5 a0).size : Int) := zd
       have hx13 := bt_at (rdOf ByteArray.empty l5 a0) a1
       replace p13 := eq_true p13
       replace q13 := eq_true q13
       go_enter Try.func129, Try.ntmps129
       go_wp2
       go_ret
       exact ⟨by first | rfl | (simp; done) | (simp [*]; done), by repeat (first | exact Drawn0.refl _ | apply Drawn0.step)⟩
      ·
       rw [if_neg c12] at H
       exact absurd H (by simp)
     ·
      rw [if_neg c11] at H
      exact absurd H (by simp)
    ·
     rw [if_neg c10] at H
     exact absurd H (by simp)
   ·
    rw [if_neg c9] at H
    exact absurd H (by simp)
 ·
  rw [if_neg c7] at H
  have c7b0 : (a0 == a2) = false := beq_eq_false_iff_ne.mpr c7
  have c7b1 : (a0 != a2) = true := bne_iff_ne.mpr c7
  by_cases c14 : 0 ≤ a0
  ·
   rw [if_pos c14] at H
   have c14b0 : decide (0 ≤ a0) = true := decide_eq_true c14
   clear c14
   by_cases c15 : a0 < (l5.length : Int)
   ·
    rw [if_pos c15] at H
    have c15b0 : decide (a0 < (l5.length : Int)) = true := decide_eq_true c15
    clear c15
    by_cases c16 : 0 ≤ a1
    ·
     rw [if_pos c16] at H
     have c16b0 : decide (0 ≤ a1) = true := decide_eq_true c16
     clear c16
     by_cases c17 : a1 < ((rdOf ByteArray.empty l5 a0).size : Int)
     ·
      rw [if_pos c17] at H
      have c17b0 : decide (a1 < ((rdOf ByteArray.empty l5 a0).size : Int)) = true := decide_eq_true c17
      clear c17
      obtain rfl := Option.some.inj H
      have p153 : 0 ≤ (a0 : Int) := zd
      have q153 : a0 < (l5.length : Int) := zd
      obtain ⟨ad153, e153, hx153_0⟩ := Kd.at_string HR5.out a0 p153 q153
      cases e153
      replace p153 := eq_true p153
      replace q153 := eq_true q153
      have p18 : 0 ≤ (a1 : Int) := zd
      have q18 : a1 < ((rdOf ByteArray.empty l5 a0).size : Int) := zd
      have hx18 := bt_at (rdOf ByteArray.empty l5 a0) a1
      replace p18 := eq_true p18
      replace q18 := eq_true q18
      go_enter Try.func129, Try.ntmps129
      go_wp2
      go_ret
      exact ⟨by first | rfl | (simp; done) | (simp [*]; done), by repeat (first | exact Drawn0.refl _ | apply Drawn0.step)⟩
     ·
      rw [if_neg c17] at H
      exact absurd H (by simp)
    ·
     rw [if_neg c16] at H
     exact absurd H (by simp)
   ·
    rw [if_neg c15] at H
    exact absurd H (by simp)
  ·
   rw [if_neg c14] at H
   exact absurd H (by simp)

mutual
def impl_drawn.l0 : Nat → Int → Int → Int → Int → Int → List ByteArray → List ByteArray → Int → Option (List ByteArray)
  | 0, _, _, _, _, _, _, _, _ => none
  | k + 1, x0, x1, x2, x3, x4, x5, x7, x8 => if x8 < x0 then (if 0 ≤ x1 then (if (x1 : Int).toNat ≤ 281474976710656 then ((some (List.replicate (x1 : Int).toNat 0 : List Int)).bind fun y157 => (impl_drawn.l1 k x0 x1 x2 x3 x4 x5 x7 x8 y157 (y157.length : Int) 0)) else (none)) else (none)) else (some x7)
def impl_drawn.l1 : Nat → Int → Int → Int → Int → Int → List ByteArray → List ByteArray → Int → List Int → Int → Int → Option (List ByteArray)
  | 0, _, _, _, _, _, _, _, _, _, _, _ => none
  | k + 1, x0, x1, x2, x3, x4, x5, x7, x8, x9, x20, x21 => if x21 < x20 then ((impl_withCharFn.f x8 x21 x2 x3 x4 x5).bind fun t160 => (if 0 ≤ x21 then (if x21 < (x9.length : Int) then (impl_drawn.l1 k x0 x1 x2 x3 x4 x5 x7 x8 (x9.set (x21 : Int).toNat t160) x20 (wrap64 (x21 + 1))) else (none)) else (none))) else (if x7.length < 8796093022208 then (impl_drawn.l0 k x0 x1 x2 x3 x4 x5 (x7 ++ [strOfNums x9]) (wrap64 (x8 + 1))) else (none))
end
def impl_drawn.f (k : Nat) (a0 : Int) (a1 : Int) (a2 : Int) (a3 : Int) (a4 : Int) (l5 : List ByteArray) : Option (List ByteArray) := impl_drawn.l0 k a0 a1 a2 a3 a4 l5 (([] : List ByteArray)) 0
theorem impl_drawn.mono_l : ∀ k, (∀ y0 y1 y2 y3 y4 y5 y6 y7, LeO (impl_drawn.l0 k y0 y1 y2 y3 y4 y5 y6 y7) (impl_drawn.l0 (k + 1) y0 y1 y2 y3 y4 y5 y6 y7)) ∧ (∀ y0 y1 y2 y3 y4 y5 y6 y7 y8 y9 y10, LeO (impl_drawn.l1 k y0 y1 y2 y3 y4 y5 y6 y7 y8 y9 y10) (impl_drawn.l1 (k + 1) y0 y1 y2 y3 y4 y5 y6 y7 y8 y9 y10))
  | 0 => ⟨fun _ _ _ _ _ _ _ _ r h => by simp [impl_drawn.l0] at h, fun _ _ _ _ _ _ _ _ _ _ _ r h => by simp [impl_drawn.l1] at h⟩
  | k + 1 => by
    obtain ⟨ih0, ih1⟩ := impl_drawn.mono_l k
    refine ⟨?_, ?_⟩
    · intro y0 y1 y2 y3 y4 y5 y6 y7
      unfold impl_drawn.l0
      repeat' first
      | (with_reducible exact ih0 _ _ _ _ _ _ _ _)
      | (with_reducible exact ih1 _ _ _ _ _ _ _ _ _ _ _)
      | (with_reducible exact LeO.refl _)
      | (with_reducible exact LeO.none _)
      | (with_reducible refine LeO.ite ?_ ?_)
      | (with_reducible refine LeO.bind ?_ (fun _ => ?_))
      | exact ih0 _ _ _ _ _ _ _ _
      | exact ih1 _ _ _ _ _ _ _ _ _ _ _
      | exact LeO.none _
      | refine LeO.ite ?_ ?_
      | refine LeO.bind ?_ (fun _ => ?_)
    · intro y0 y1 y2 y3 y4 y5 y6 y7 y8 y9 y10
      unfold impl_drawn.l1
      repeat' first
      | (with_reducible exact ih0 _ _ _ _ _ _ _ _)
      | (with_reducible exact ih1 _ _ _ _ _ _ _ _ _ _ _)
      | (with_reducible exact LeO.refl _)
      | (with_reducible exact LeO.none _)
      | (with_reducible refine LeO.ite ?_ ?_)
      | (with_reducible refine LeO.bind ?_ (fun _ => ?_))
      | exact ih0 _ _ _ _ _ _ _ _
      | exact ih1 _ _ _ _ _ _ _ _ _ _ _
      | exact LeO.none _
      | refine LeO.ite ?_ ?_
      | refine LeO.bind ?_ (fun _ => ?_)
theorem impl_drawn.mono : ∀ a0 a1 a2 a3 a4 a5 k, LeO (impl_drawn.f k a0 a1 a2 a3 a4 a5) (impl_drawn.f (k + 1) a0 a1 a2 a3 a4 a5) := by
  intro a0 a1 a2 a3 a4 a5 k
  obtain ⟨ih0, ih1⟩ := impl_drawn.mono_l k
  unfold impl_drawn.f
  repeat' first
      | (with_reducible exact ih0 _ _ _ _ _ _ _ _)
      | (with_reducible exact ih1 _ _ _ _ _ _ _ _ _ _ _)
      | (with_reducible exact LeO.refl _)
      | (with_reducible exact LeO.none _)
      | (with_reducible refine LeO.ite ?_ ?_)
      | (with_reducible refine LeO.bind ?_ (fun _ => ?_))
      | exact ih0 _ _ _ _ _ _ _ _
      | exact ih1 _ _ _ _ _ _ _ _ _ _ _
      | exact LeO.none _
      | refine LeO.ite ?_ ?_
      | refine LeO.bind ?_ (fun _ => ?_)
set_option maxHeartbeats 8000000 in
set_option maxRecDepth 100000 in
theorem impl_drawn.calls (k : Nat) (a0 : Int) (a1 : Int) (a2 : Int) (a3 : Int) (a4 : Int) (A5 : Option Addr) (c5 : Nat) (l5 : List ByteArray) (r : List ByteArray) (g1 g2 g3 g4 : Nat) (w : World) (hb1 : w.cell? ⟨g1, 0, none⟩ = some (.int .i64 a2)) (hb2 : w.cell? ⟨g2, 0, none⟩ = some (.int .i64 a3)) (hb3 : w.cell? ⟨g3, 0, none⟩ = some (.int .u8 a4)) (hb4 : w.cell? ⟨g4, 0, none⟩ = some (.slice A5 l5.length c5)) (hr5 : Kd.C Kd.string w A5 l5.length l5) (hc5 : l5.length ≤ c5) (h : impl_drawn.f k a0 a1 a2 a3 a4 l5 = some r) :
  Calls Try.prog 128 #[.int .i64 a0, .int .i64 a1, .func (.func 129) #[] #[.pointer (some ⟨g1, 0, none⟩), .pointer (some ⟨g2, 0, none⟩), .pointer (some ⟨g3, 0, none⟩), .pointer (some ⟨g4, 0, none⟩)]] w fun e w' => ∃ v0_ : Value, e = .returned (v0_) ∧ Kd.R Kd.string 9 w' w.heap.size (fun _ => True) v0_ r ∧ Below w.heap.size w w' := by
 have HG1 := zm hb1
 have HG2 := zm hb2
 have HG3 := zm hb3
 have HG4 := zm hb4
 clear hb1 hb2 hb3 hb4
 have HR5 := zm hr5
 have HC5 := zm hc5
 clear hr5 hc5
 have HB := zm (Below.refl w.heap.size w)
 have H : (impl_drawn.l0 k a0 a1 a2 a3 a4 l5 (([] : List ByteArray)) 0) = some r := h
 clear h
 obtain ⟨y154, hy154⟩ : ∃ y_ : List ByteArray, y_ = (([] : List ByteArray)) := ⟨_, rfl⟩
 replace H : (impl_drawn.l0 k a0 a1 a2 a3 a4 l5 y154 0) = some r := by first | (rw [hy154]; with_reducible exact H) | (have H2_ := (Option.bind_some _ _).symm.trans H; rw [hy154]; with_reducible exact H2_) | (have H2_ := (Option.bind_some _ _).symm.trans H; with_reducible exact H2_) | with_reducible exact H | (rw [hy154]; exact H) | exact H
 have Ny154 := zm hy154
 clear hy154
 have H' := zm H
 clear H
 go_enter Try.func128, Try.ntmps128
 go_wp2_with (first | ((with_reducible refine gate_dst (N := 11) rfl ?_); refine Kd.R_lit Kd.string _ 9 ?hg (N := 11) ?hd (xs := ([] : List ByteArray)) (inner := []) (ok := fun _ => True) (okp := fun _ => True) ?hr ?hp (fun _ hk => hk) trivial (Below.refl _ _) (Nat.le_refl _) (by simp) ?_; (case hd => rfl); (case hg => rfl); (case hr => first | (go_simp; done) | (go_simp; rfl)); (case hp => exact (Reps.none _ _)); intro v155 w7 ho8 hb hg_ hnew_; clear hg_ hnew_; (first | rw [← Ny154.out] at ho8 | (simp only [Int.reduceToNat] at ho8; rw [← Ny154.out] at ho8)); have n0_ := zm (Kd.R_lower ho8 (below_size zb)); have n1_ := zm (below_step zb hb); clear HB; have HO156 := n0_; have HB := n1_; clear n0_ n1_; clear hb ho8))
 go_loopg [7, 8] k (fun kq v7 v8 w' => ∃ (x7_1 : List ByteArray) (x8_1 : Int), v8 = .int .i64 x8_1 ∧ Aside0 (impl_drawn.l0 kq a0 a1 a2 a3 a4 l5 x7_1 x8_1 = some r) ∧ Aside0 (kq ≤ k) ∧ Aside0 (Kd.R Kd.string 9 w' w.heap.size (fun _ => True) v7 x7_1) ∧ Aside0 (Below w.heap.size w w'))
 case atStart => exact ⟨(y154), (0), (by first | rfl | (simp; done) | (simp [*]; done)), H', ⟨Nat.le_refl _⟩, ⟨by (with_reducible repeat (first | apply Kd.R_alloc | apply Kd.R_drewN | apply Kd.R_drew)); exact HO156.out⟩, ⟨zb⟩⟩
 case round =>
  clear H'
  (try clear c1); (try clear p2); (try clear c5)
  obtain ⟨x7_1, x8_1, rfl, HA, HK1, HO_7, HB⟩ := hrel
  cases gk with
  | zero => exact absurd HA.out (by simp [impl_drawn.l0])
  | succ k1 =>
   have H := HA.out
   clear HA
   simp only [impl_drawn.l0] at H
   by_cases c9 : x8_1 < a0
   ·
    rw [if_pos c9] at H
    have c9b0 : decide (x8_1 < a0) = true := decide_eq_true c9
    clear c9
    by_cases c10 : 0 ≤ a1
    ·
     rw [if_pos c10] at H
     have c10b0 := eq_true c10
     have c10b1 : decide (0 ≤ a1) = true := decide_eq_true c10
     clear c10
     by_cases c11 : (a1 : Int).toNat ≤ 281474976710656
     ·
      rw [if_pos c11] at H
      have c11b0 := eq_true c11
      have c11b1 : decide ((a1 : Int).toNat ≤ 281474976710656) = true := decide_eq_true c11
      clear c11
      obtain ⟨y157, hy157⟩ : ∃ y_ : List Int, y_ = (List.replicate (a1 : Int).toNat 0) := ⟨_, rfl⟩
      replace H : (impl_drawn.l1 k1 a0 a1 a2 a3 a4 l5 x7_1 x8_1 y157 (y157.length : Int) 0) = some r := by first | (rw [hy157]; with_reducible exact H) | (have H2_ := (Option.bind_some _ _).symm.trans H; rw [hy157]; with_reducible exact H2_) | (have H2_ := (Option.bind_some _ _).symm.trans H; with_reducible exact H2_) | with_reducible exact H | (rw [hy157]; exact H) | exact H
      have Ny157 := zm hy157
      clear hy157
      have H' := zm H
      clear H
      go_wp2_with (first | ((with_reducible refine gate_dst (N := 18) rfl ?_); refine Kd.R_make (Kd.int .u8) _ 5 rfl (N := 18) rfl 126 _ _ rfl a1 rfl rfl Try.underlying126 (.int .u8 0) 1 impl_withChar.info_b rfl (by decide) (by omega) 0 (ok := fun _ => True) (okp := fun _ => True) rfl (fun _ hk => hk) trivial (of_decide_eq_true (by first | (with_reducible assumption) | assumption)) (Nat.le_trans (Nat.mul_le_mul_right _ (of_decide_eq_true (by first | (with_reducible assumption) | assumption) : a1.toNat ≤ 281474976710656)) (by omega)) (Below.refl _ _) (Nat.le_refl _) ?_; intro v158 w12 ho13 hb hg_ hnew_; clear hg_ hnew_; (first | rw [← Ny157.out] at ho13 | (simp only [Int.reduceToNat] at ho13; rw [← Ny157.out] at ho13)); have n0_ := zm (Kd.R_below (by (with_reducible repeat (first | apply Kd.R_alloc | apply Kd.R_drewN | apply Kd.R_drew)); exact HO_7.out) hb); have n1_ := zm (Kd.R_lower ho13 (below_size zb)); have n2_ := zm (below_step zb hb); clear HO_7; clear HB; have HO_7 := n0_; have HO159 := n1_; have HB := n2_; clear n0_ n1_ n2_; clear hb ho13; obtain ⟨Ao14, co14, eo14⟩ := Kd.R_slice HO159.out; subst eo14))
      go_loopg [21] k1 (fun kq v21 w' => ∃ (x9_2 : List Int) (x21_2 : Int), v21 = .int .i64 x21_2 ∧ Aside0 (impl_drawn.l1 kq a0 a1 a2 a3 a4 l5 x7_1 x8_1 x9_2 (y157.length : Int) x21_2 = some r) ∧ Aside0 (kq ≤ k1) ∧ Aside0 (Kd.R Kd.string 9 w' w.heap.size (fun _ => True) u7 x7_1) ∧ Aside0 (Kd.R (Kd.int .u8) 5 w' w.heap.size (fun _ => True) (.slice Ao14 y157.length co14) x9_2) ∧ Aside0 (Below w.heap.size w w'))
      case atStart => exact ⟨(y157), (0), (by first | rfl | (simp; done) | (simp [*]; done)), H', ⟨Nat.le_refl _⟩, ⟨by (with_reducible repeat (first | apply Kd.R_alloc | apply Kd.R_drewN | apply Kd.R_drew)); exact HO_7.out⟩, ⟨by (with_reducible repeat (first | apply Kd.R_alloc | apply Kd.R_drewN | apply Kd.R_drew)); exact HO159.out⟩, ⟨zb⟩⟩
      case round =>
       clear H'
       (try clear c1); (try clear p2); (try clear c5); (try clear c9); (try clear c9b0); (try clear c10); (try clear c10b0); (try clear c10b1); (try clear c11); (try clear c11b0); (try clear c11b1); (try clear c12); (try clear p2)
       obtain ⟨x9_2, x21_2, rfl, HA, HK2, HO_7, HO_9, HB⟩ := hrel
       have hl9_2 := (Kd.R_reads' HO_9.out).1
       rw [hl9_2] at HO_9
       (try simp only [hl9_2])
       (try simp only [hl9_2] at HO_7)
       cases gk with
       | zero => exact absurd HA.out (by simp [impl_drawn.l1])
       | succ k2 =>
        have H := HA.out
        clear HA
        simp only [impl_drawn.l1] at H
        by_cases c15 : x21_2 < (y157.length : Int)
        ·
         rw [if_pos c15] at H
         have c15b0 : decide (x21_2 < (y157.length : Int)) = true := decide_eq_true c15
         clear c15
         replace H := Option.bind_eq_some_iff.mp H
         obtain ⟨t160, A160, H⟩ := H
         (try dsimp only at H)
         have A16 := zm A160
         clear A160
         by_cases c17 : 0 ≤ x21_2
         ·
          rw [if_pos c17] at H
          have c17b0 : decide (0 ≤ x21_2) = true := decide_eq_true c17
          clear c17
          by_cases c18 : x21_2 < (x9_2.length : Int)
          ·
           rw [if_pos c18] at H
           have c18b0 : decide (x21_2 < (x9_2.length : Int)) = true := decide_eq_true c18
           clear c18
           obtain ⟨y161, hy161⟩ : ∃ y_ : List Int, y_ = (x9_2.set (x21_2 : Int).toNat t160) := ⟨_, rfl⟩
           replace H : (impl_drawn.l1 k2 a0 a1 a2 a3 a4 l5 x7_1 x8_1 y161 (y157.length : Int) (wrap64 (x21_2 + 1))) = some r := by first | (rw [hy161]; with_reducible exact H) | (have H2_ := (Option.bind_some _ _).symm.trans H; rw [hy161]; with_reducible exact H2_) | (have H2_ := (Option.bind_some _ _).symm.trans H; with_reducible exact H2_) | with_reducible exact H | (rw [hy161]; exact H) | exact H
           have Ny161 := zm hy161
           clear hy161
           have H' := zm H
           clear H
           go_wp2_with (first | ((with_reducible refine impl_withChar.gateC (s := 26) rfl ?_); refine impl_withChar.goesC (some 29) Try.func129 #[.int .i64 x8_1, .int .i64 x21_2] #[.pointer (some ⟨g1, 0, none⟩), .pointer (some ⟨g2, 0, none⟩), .pointer (some ⟨g3, 0, none⟩), .pointer (some ⟨g4, 0, none⟩)] rfl rfl ?_; (refine (impl_withCharFn.calls x8_1 x21_2 a2 a3 a4 _ _ l5 t160 g1 g2 g3 g4 _ (zx HB.out HG1.out) (zx HB.out HG2.out) (zx HB.out HG3.out) (zx HB.out HG4.out) ?side1 ?side2 A16.out).mono ?_); (case side1 => repeat (first | exact (Kd.C_below HR5.out HB.out) | (with_reducible refine Kd.C_alloc ?_ _) | (with_reducible refine Kd.C_drewN ?_ _) | (with_reducible refine Kd.C_drew ?_))); (case side2 => exact HC5.out); rintro e w' ⟨rfl, ⟨nd, rfl⟩⟩; refine ⟨_, rfl, ?_⟩; (try (rw [drewN_self wr]; generalize hq_ : World.drewN wr _ = wr; have n0_ : Aside0 (Kd.R Kd.string 9 wr w.heap.size (fun _ => True) u7 x7_1) := ⟨by rw [← hq_]; exact (by (with_reducible repeat (first | apply Kd.R_alloc | apply Kd.R_drewN | apply Kd.R_drew)); exact HO_7.out)⟩; have n1_ : Aside0 (Kd.R (Kd.int .u8) 5 wr w.heap.size (fun _ => True) (.slice Ao14 x9_2.length co14) x9_2) := ⟨by rw [← hq_]; exact (by (with_reducible repeat (first | apply Kd.R_alloc | apply Kd.R_drewN | apply Kd.R_drew)); exact HO_9.out)⟩; have n2_ : Aside0 (Below w.heap.size w wr) := ⟨by rw [← hq_]; exact zb⟩; clear HO_7 HO_9 HB hq_; have HO_7 := n0_; have HO_9 := n1_; have HB := n2_; clear n0_ n1_ n2_)); have p19 : 0 ≤ (x21_2 : Int) := zd; have q19 : (x21_2 : Int) < ((x9_2.length : Int) : Int) := zd; obtain ⟨go19, co19, eo19, gb19, gl19, cl19, HG19⟩ := Kd.R_form HO_9.out (by omega); (first | cases eo19 | (injection eo19 with ea_ en_ ec_; (first | subst ea_ | (injection ea_ with ea_; subst ea_)); subst ec_; clear en_)); have GB19 := zm gb19; have GG19 := zm HG19; clear gb19 gl19 HG19; obtain ⟨hx19_0, hf19_0⟩ := Kd.R_celln 0 HO_9.out (x21_2 : Int) p19 q19; replace p19 := eq_true p19; replace q19 := eq_true q19; obtain ⟨hy20_, hz20_⟩ := Kd.R_celln 0 HO_9.out (x21_2 : Int) (of_decide_eq_true (by first | (with_reducible assumption) | assumption)) (of_decide_eq_true (by first | (with_reducible assumption) | assumption)); have HP20 := Kd.R_putg HO_9.out (x21_2 : Int) t160) | ((with_reducible refine gate_store (t := 5) (p := 30) rfl ?_); refine store_event (t := 5) (p := 30) (v := ?vo_w21) (w1 := (wr.setCell ⟨go19, (x21_2 : Int).toNat, none⟩ (.int .u8 t160))) ?hg ?ho ?hn ?hr ?_; (case ho => rfl); (case hg => rfl); (case hn => rfl); (case hr => first | (go_simp; done) | (go_simp; rfl)); intro w21 hw; have hg : wr.grownBy w21 (some go19) := (by rw [hw]; exact HP20.2); have hp_ : Kd.R (Kd.int .u8) 5 w21 w.heap.size (fun _ => True) (.slice (some ⟨go19, 0, none⟩) x9_2.length co14) y161 := (by rw [hw, Ny161.out]; exact HP20.1); clear HP20; have n0_ := zm (Kd.R_over' (v := (.slice (some ⟨go19, 0, none⟩) x9_2.length co14)) (by (with_reducible repeat (first | apply Kd.R_alloc | apply Kd.R_drewN | apply Kd.R_drew)); exact HO_7.out) (Kd.R_typed HO_9.out) (by decide) hg); have n1_ := zm (hp_); have n2_ := zm ((by rw [hw]; exact below_set (HB.out) GB19.out : Below w.heap.size w w21)); clear HO_7; clear HO_9; clear HB; have HO_7 := n0_; have HO_9 := n1_; have HB := n2_; clear n0_ n1_ n2_; clear hg hw hp_))
           (try simp only [← hl9_2])
           go_roundg k2
           case measure => have := HK1.out; have := HK2.out; omega
           case rel => exact ⟨(y161), (wrap64 (x21_2 + 1)), (by first | rfl | (simp; done) | (simp [*]; done)), H', ⟨by have := HK1.out; have := HK2.out; omega⟩, ⟨by (try simp only [hl9_2]); (with_reducible repeat (first | apply Kd.R_alloc | apply Kd.R_drewN | apply Kd.R_drew)); exact HO_7.out⟩, ⟨by (try simp only [hl9_2]); (with_reducible repeat (first | apply Kd.R_alloc | apply Kd.R_drewN | apply Kd.R_drew)); exact HO_9.out⟩, ⟨zb⟩⟩
          ·
           rw [if_neg c18] at H
           exact absurd H (by simp)
         ·
          rw [if_neg c17] at H
          exact absurd H (by simp)
        ·
         rw [if_neg c15] at H
         have c15b0 : decide (x21_2 < (y157.length : Int)) = false := decide_eq_false c15
         (try (have c15z0 := c15b0; simp only [hl9_2] at c15z0))
         (try (have c15z0 := c15b0; simp only [hl9_2] at c15z0))
         clear c15
         by_cases c22 : x7_1.length < 8796093022208
         ·
          rw [if_pos c22] at H
          have LMc22 := zm c22
          clear c22
          obtain ⟨y162, hy162⟩ : ∃ y_ : List ByteArray, y_ = (x7_1 ++ [strOfNums x9_2]) := ⟨_, rfl⟩
          replace H : (impl_drawn.l0 k2 a0 a1 a2 a3 a4 l5 y162 (wrap64 (x8_1 + 1))) = some r := by first | (rw [hy162]; with_reducible exact H) | (have H2_ := (Option.bind_some _ _).symm.trans H; rw [hy162]; with_reducible exact H2_) | (have H2_ := (Option.bind_some _ _).symm.trans H; with_reducible exact H2_) | with_reducible exact H | (rw [hy162]; exact H) | exact H
          have Ny162 := zm hy162
          clear hy162
          have H' := zm H
          clear H
          have hcv23 := own_string (P := Try.prog) Try.underlying126 Try.underlying5 Try.underlying9 (Kd.own_of_R HO_9.out)
          go_wp2_with (first | ((with_reducible refine gate_builtin (b := .append) (xs := #[.tmp 32, .tmp 35]) rfl ?_); at_builtin; refine Kd.R_append Kd.string (w0 := w) w.heap.size rfl (.tmp 32) (.tmp 35) 66 9 (.string ⟨#[]⟩) 16 rfl Try.underlying66 impl_withChar.info_s rfl (by decide) (by omega) u7 x7_1 (strOfNums x9_2) [.string (strOfNums x9_2)] (fun _ => True) (fun _ => False) rfl rfl ?aP (fun _ hk => hk.elim) ?aF ?aO ?aB ?aS ?aL ?_; (case aP => exact rfl); (case aB => exact zb); (case aF => exact (fun _ _ => trivial)); (case aO => exact (by (with_reducible repeat (first | apply Kd.R_alloc | apply Kd.R_drewN | apply Kd.R_drew)); exact HO_7.out)); (case aS => exact (below_size zb)); (case aL => have := LMc22.out; omega); intro v163 w24 ho hb hg hat; rw [← Ny162.out] at ho; have n0_ := zm (Kd.R_over' (by (with_reducible repeat (first | apply Kd.R_alloc | apply Kd.R_drewN | apply Kd.R_drew)); exact HO_9.out) (Kd.R_typed (by (with_reducible repeat (first | apply Kd.R_alloc | apply Kd.R_drewN | apply Kd.R_drew)); exact HO_7.out)) (by decide) hg); have n1_ := zm (hb); have n2_ := zm (ho); clear HO_9; clear HB; clear HO_7; have HO_9 := n0_; have HB := n1_; have HO164 := n2_; clear n0_ n1_ n2_; clear ho hb hg hat))
          (try simp only [← hl9_2])
          go_roundg k2
          case measure => have := HK1.out; have := HK2.out; omega
          case rel => exact ⟨(y162), (wrap64 (x8_1 + 1)), (by first | rfl | (simp; done) | (simp [*]; done)), H', ⟨by have := HK1.out; have := HK2.out; omega⟩, ⟨by (try simp only [hl9_2]); (with_reducible repeat (first | apply Kd.R_alloc | apply Kd.R_drewN | apply Kd.R_drew)); exact HO164.out⟩, ⟨zb⟩⟩
         ·
          rw [if_neg c22] at H
          exact absurd H (by simp)
     ·
      rw [if_neg c11] at H
      exact absurd H (by simp)
    ·
     rw [if_neg c10] at H
     exact absurd H (by simp)
   ·
    rw [if_neg c9] at H
    have c9b0 : decide (x8_1 < a0) = false := decide_eq_false c9
    clear c9
    obtain rfl := Option.some.inj H
    go_wp2
    go_ret
    exact ⟨_, zr, by (with_reducible repeat (first | apply Kd.R_alloc | apply Kd.R_drewN | apply Kd.R_drew)); exact HO_7.out, zb⟩
def impl_withChar.f (k : Nat) (l0 : List ByteArray) (a1 : Int) (a2 : Int) (a3 : Int) : Option (List ByteArray) := if 0 < (l0.length : Int) then ((impl_drawn.f k (l0.length : Int) ((rdOf ByteArray.empty l0 0).size : Int) a1 a2 a3 l0).bind fun t166 => (some t166)) else (none)
theorem impl_withChar.mono : ∀ a0 a1 a2 a3 k, LeO (impl_withChar.f k a0 a1 a2 a3) (impl_withChar.f (k + 1) a0 a1 a2 a3) := by
  intro a0 a1 a2 a3 k
  unfold impl_withChar.f
  repeat' first
      | (with_reducible exact impl_drawn.mono _ _ _ _ _ _ _)
      | (with_reducible exact LeO.refl _)
      | (with_reducible exact LeO.none _)
      | (with_reducible refine LeO.ite ?_ ?_)
      | (with_reducible refine LeO.bind ?_ (fun _ => ?_))
      | exact impl_drawn.mono _ _ _ _ _ _ _
      | exact LeO.none _
      | refine LeO.ite ?_ ?_
      | refine LeO.bind ?_ (fun _ => ?_)
def impl_withChar.T1 : Bool × List (List Nat × List Nat) := (true, [([], []), ([0], [0]), ([], []), ([2], [2]), ([3], [3]), ([4], [4]), ([], []), ([1, 5, 6], [1, 5, 6]), ([7, 7, 0, 1, 2, 3, 4, 5, 6, 7], [7])])
def impl_withChar.B1 : List Nat := [0, 1, 0, 4, 12, 28, 0, 127, 255]
theorem impl_withChar.tab1 : rtab .any (opsOf Try.f92 1) = impl_withChar.T1 := by kernel_rfl
theorem impl_withChar.bits1 : waitsOk impl_withChar.T1.2 impl_withChar.B1 = true := by kernel_rfl
set_option maxHeartbeats 8000000 in
set_option maxRecDepth 100000 in
theorem impl_withChar.calls (k : Nat) (A0 : Option Addr) (c0 : Nat) (l0 : List ByteArray) (a1 : Int) (a2 : Int) (a3 : Int) (r : List ByteArray) (w : World) (hr0 : Kd.C Kd.string w A0 l0.length l0) (hc0 : l0.length ≤ c0) (h : impl_withChar.f k l0 a1 a2 a3 = some r) :
  Calls Try.prog 92 #[.slice A0 l0.length c0, .int .i64 a1, .int .i64 a2, .int .u8 a3] w fun e w' => ∃ v0_ : Value, e = .returned (v0_) ∧ Kd.R Kd.string 9 w' w.heap.size (fun _ => True) v0_ r ∧ Below w.heap.size w w' := by
 have H : (if 0 < (l0.length : Int) then ((impl_drawn.f k (l0.length : Int) ((rdOf ByteArray.empty l0 0).size : Int) a1 a2 a3 l0).bind fun t166 => (some t166)) else (none)) = some r := h
 clear h
 by_cases c5 : 0 < (l0.length : Int)
 ·
  rw [if_pos c5] at H
  have c5b0 : decide (0 < (l0.length : Int)) = true := decide_eq_true c5
  have c5b1 : decide (0 < l0.length) = true := decide_eq_true (by omega)
  replace H := Option.bind_eq_some_iff.mp H
  obtain ⟨t166, A60, H⟩ := H
  (try dsimp only at H)
  have A6 := zm A60
  clear A60
  obtain rfl := Option.some.inj H
  obtain ⟨ad165, e165, hw165_0⟩ := Kd.at_string hr0 0 (by omega) c5
  (try rw [show ((0 : Int)).toNat = 0 from rfl] at hw165_0)
  (try rw [show 0 * 1 = 0 from rfl] at hw165_0)
  (try rw [Addr.add_zero'] at hw165_0)
  cases e165
  have qi165 : (0 < l0.length) = True := eq_true (by omega)
  clear c5
  obtain ⟨w4, hw4⟩ : ∃ w4, w4 = (((w.alloc (.cells #[.slice (some ad165) l0.length c0] 66)).alloc (.cells #[.int .i64 a1] 3)).alloc (.cells #[.int .i64 a2] 3)).alloc (.cells #[.int .u8 a3] 5) := ⟨_, rfl⟩
  have hB4 : Below w.heap.size w w4 := by rw [hw4]; exact below_alloc (below_alloc (below_alloc (below_alloc (Below.refl _ _) _) _) _) _
  have hg4 : w4.cell? ⟨w.heap.size, 0, none⟩ = some (.slice (some ad165) l0.length c0) := by
    rw [hw4, World.cell?_alloc_past _ _ _ (by simp <;> omega), World.cell?_alloc_past _ _ _ (by simp <;> omega), World.cell?_alloc_past _ _ _ (by simp), World.cell?_alloc_at _ _ _ _ rfl]; try rfl
  have hg1 : w4.cell? ⟨w.heap.size + 1, 0, none⟩ = some (.int .i64 a1) := by
    rw [hw4, World.cell?_alloc_past _ _ _ (by simp <;> omega), World.cell?_alloc_past _ _ _ (by simp), World.cell?_alloc_at _ _ _ _ (by simp)]; try rfl
  have hg2 : w4.cell? ⟨w.heap.size + 1 + 1, 0, none⟩ = some (.int .i64 a2) := by
    rw [hw4, World.cell?_alloc_past _ _ _ (by simp), World.cell?_alloc_at _ _ _ _ (by simp)]; try rfl
  have hg3 : w4.cell? ⟨w.heap.size + 1 + 1 + 1, 0, none⟩ = some (.int .u8 a3) := by
    rw [hw4, World.cell?_alloc_at _ _ _ _ (by simp)]; try rfl
  have hst : w4.cell? ad165 = some (.string (rdOf ByteArray.empty l0 0)) := zx hB4 hw165_0
  have hr4 : Kd.C Kd.string w4 (some ad165) l0.length l0 := Kd.C_below hr0 hB4
  go_enter Try.func92, Try.ntmps92
  go_wp2
  rw [← hw4]
  clear hw4
  refine start_ (n := 9) (S := fun w' => w'.cell? ⟨w.heap.size, 0, none⟩ = some (.slice (some ad165) l0.length c0) ∧ w'.cell? ad165 = some (.string (rdOf ByteArray.empty l0 0))) (ds := []) #[false, false, false, false, false, false, false, false, false] (by kernel_rfl) rfl rfl ⟨hg4, hst⟩ (fun hHeld => ?_); refine with_tabW impl_withChar.tab1 impl_withChar.bits1 (fun HT_ HW_ => ?_)
  have hB7 : Below w.heap.size w w4.drew := below_drew1 hB4
  have hg47 : w4.drew.cell? ⟨w.heap.size, 0, none⟩ = some (.slice (some ad165) l0.length c0) := hg4
  have hg17 : w4.drew.cell? ⟨w.heap.size + 1, 0, none⟩ = some (.int .i64 a1) := hg1
  have hg27 : w4.drew.cell? ⟨w.heap.size + 1 + 1, 0, none⟩ = some (.int .i64 a2) := hg2
  have hg37 : w4.drew.cell? ⟨w.heap.size + 1 + 1 + 1, 0, none⟩ = some (.int .u8 a3) := hg3
  have hst7 : w4.drew.cell? ad165 = some (.string (rdOf ByteArray.empty l0 0)) := hst
  have hr7 : Kd.C Kd.string w4.drew (some ad165) l0.length l0 := Kd.C_drew hr4
  generalize w4.drew = w7 at hB7 hg47 hg17 hg27 hg37 hst7 hr7 hHeld ⊢
  refine pure_ (i := 6) (N := some 15) (v := ?_) (a' := ?_) #[false, false, false, false, false, false, true, false, false] rfl rfl (any_of HT_.out (by kernel_rfl)) (fun _ _ _ h => h) (Or.inl ⟨by rfl, ?_⟩) ?_ ?_
  rotate_left
  ·
   intro w'
   go_simp
   with_reducible rfl
  rotate_left
  ·
   simp only [Act.put, zA, zB, zD, i64_w, i32_w]
   rfl
  refine take_ (i := 0) (N := some 9) (v := ?_) (a' := ?_) #[true, false, false, false, false, false, true, false, false] rfl rfl (take_ofW HT_.out HW_.out (by kernel_rfl)) (fun _ _ _ h => h) (Or.inl ⟨by rfl, ?_⟩) hHeld ?_ ?_
  rotate_left
  ·
   rintro w' ⟨s0, s1⟩
   go_simp
   with_reducible rfl
  rotate_left
  ·
   simp only [Act.put, zA, zB, zD, i64_w, i32_w]
   rfl
  refine pure_ (i := 1) (N := some 10) (v := ?_) (a' := ?_) #[true, true, false, false, false, false, true, false, false] rfl rfl (any_of HT_.out (by kernel_rfl)) (fun _ _ _ h => h) (Or.inl ⟨by rfl, ?_⟩) ?_ ?_
  rotate_left
  ·
   intro w'
   go_simp
   with_reducible rfl
  rotate_left
  ·
   simp only [Act.put, zA, zB, zD, i64_w, i32_w]
   rfl
  refine take_ (i := 2) (N := some 11) (v := ?_) (a' := ?_) #[true, true, true, false, false, false, true, false, false] rfl rfl (take_ofW HT_.out HW_.out (by kernel_rfl)) (fun _ _ _ h => h) (Or.inl ⟨by rfl, ?_⟩) hHeld ?_ ?_
  rotate_left
  ·
   rintro w' ⟨s0, s1⟩
   go_simp
   with_reducible rfl
  rotate_left
  ·
   simp only [Act.put, zA, zB, zD, i64_w, i32_w]
   rfl
  refine pure_ (i := 3) (N := some 12) (v := ?_) (a' := ?_) #[true, true, true, true, false, false, true, false, false] rfl rfl (any_of HT_.out (by kernel_rfl)) (fun _ _ _ h => h) (Or.inl ⟨by rfl, ?_⟩) ?_ ?_
  rotate_left
  ·
   intro w'
   go_simp
   with_reducible rfl
  rotate_left
  ·
   simp only [Act.put, zA, zB, zD, i64_w, i32_w]
   rfl
  refine take_ (i := 4) (N := some 13) (v := ?_) (a' := ?_) #[true, true, true, true, true, false, true, false, false] rfl rfl (take_ofW HT_.out HW_.out (by kernel_rfl)) (fun _ _ _ h => h) (Or.inl ⟨by rfl, ?_⟩) hHeld ?_ ?_
  rotate_left
  ·
   rintro w' ⟨s0, s1⟩
   go_simp
   with_reducible rfl
  rotate_left
  ·
   simp only [Act.put, zA, zB, zD, i64_w, i32_w]
   rfl
  refine pure_ (i := 5) (N := some 14) (v := ?_) (a' := ?_) #[true, true, true, true, true, true, true, false, false] rfl rfl (any_of HT_.out (by kernel_rfl)) (fun _ _ _ h => h) (Or.inl ⟨by rfl, ?_⟩) ?_ ?_
  rotate_left
  ·
   intro w'
   go_simp
   with_reducible rfl
  rotate_left
  ·
   simp only [Act.put, zA, zB, zD, i64_w, i32_w]
   rfl
  refine one_ (i := 7) (N := some 16) #[true, true, true, true, true, true, true, true, false] rfl rfl (one_of HT_.out (by kernel_rfl)) (by decide) (fun K hK => ?_)
  refine goes_ Try.func128 (by kernel_rfl) rfl #[.int .i64 (l0.length : Int), .int .i64 ((rdOf ByteArray.empty l0 0).size : Int), .func (.func 129) #[] #[.pointer (some ⟨w.heap.size + 1, 0, none⟩), .pointer (some ⟨w.heap.size + 1 + 1, 0, none⟩), .pointer (some ⟨w.heap.size + 1 + 1 + 1, 0, none⟩), .pointer (some ⟨w.heap.size, 0, none⟩)]] (by rfl) rfl rfl (by (try simp only [List.map_toArray, List.map_cons, List.map_nil]); first | done | rfl | (simp only [List.length_drop, List.length_take]; rfl)) ?_
  refine (impl_drawn.calls k (l0.length : Int) ((rdOf ByteArray.empty l0 0).size : Int) a1 a2 a3 (some ad165) c0 l0 t166 (w.heap.size + 1) (w.heap.size + 1 + 1) (w.heap.size + 1 + 1 + 1) w.heap.size w7 hg17 hg27 hg37 hg47 hr7 hc0 A6.out).mono ?_
  rintro e w8 ⟨v167, rfl, ho0, hb⟩
  refine ⟨_, rfl, ?_⟩
  have hn0 := Kd.R_lower ho0 hB7.size
  have hn1 : Below w.heap.size w w8 := hB7.trans (hb.mono hB7.size)
  refine hK.out _ _ ⟨(hb.cell (World.block_lt_of_cell? w7 _ hg47)).trans hg47, (hb.cell (World.block_lt_of_cell? w7 _ hst7)).trans hst7⟩ (fun hHeld => ?_)
  clear hK K
  refine norm_ (a' := ?_) ?_ ?_
  rotate_left
  ·
   show Act.put _ (some 16) _ = _
   simp only [Act.put, zA, zB, zD, i64_w, i32_w]
   rfl
  refine pure_ (i := 8) (N := some 8) (v := ?_) (a' := ?_) #[true, true, true, true, true, true, true, true, true] rfl rfl (any_of HT_.out (by kernel_rfl)) (fun _ _ _ h => h) (Or.inl ⟨by rfl, ?_⟩) ?_ ?_
  rotate_left
  ·
   intro w'
   go_simp
   with_reducible rfl
  rotate_left
  ·
   simp only [Act.put, zA, zB, zD, i64_w, i32_w]
   rfl
  refine done_ (done_of HT_.out (by kernel_rfl)) ?_
  try go_wp2
  go_ret
  exact ⟨_, zr, hn0, hn1⟩
 ·
  rw [if_neg c5] at H
  exact absurd H (by simp)

/-! ### impl_blockLine: function 146 -/
theorem impl_blockLine.info_b : (Try.prog.info? 5).map (fun i => (i.zero, i.size, i.bytes)) = some (some (.int .u8 0), 1, 1) := by kernel_rfl
/-- A row of bytes that is read alone (its block may bear a mark behind its end). -/
def Fz (w : World) (base : Nat) (v : Value) (xs : List Int) : Prop := ∃ A c, v = .slice A xs.length c ∧ xs.length ≤ c ∧ Kd.C (Kd.int .u8) w A xs.length xs ∧ ∀ k, v.ownBlock = some k → base ≤ k ∧ k < w.heap.size
theorem Fz.R_slice {w : World} {base : Nat} {v : Value} {xs : List Int} (h : Fz w base v xs) : ∃ A c, v = .slice A xs.length c := by obtain ⟨A, c, e, _⟩ := h; exact ⟨A, c, e⟩
theorem Fz.R_reads' {w : World} {base n c : Nat} {A : Option Addr} {xs : List Int} (h : Fz w base (.slice A n c) xs) : n = xs.length ∧ n ≤ c ∧ Kd.C (Kd.int .u8) w A xs.length xs := by
  obtain ⟨A', c', e, hl, hc, _⟩ := h
  injection e with e1 e2 e3
  subst e1; subst e2; subst e3
  exact ⟨rfl, hl, hc⟩
theorem Fz.R_lower {w : World} {base b : Nat} {v : Value} {xs : List Int} (h : Fz w base v xs) (hb : b ≤ base) : Fz w b v xs := by
  obtain ⟨A, c, e, hl, hc, hk⟩ := h; exact ⟨A, c, e, hl, hc, fun k h2 => ⟨Nat.le_trans hb (hk k h2).1, (hk k h2).2⟩⟩
theorem Fz.R_below {w w1 : World} {base : Nat} {v : Value} {xs : List Int} (h : Fz w base v xs) (hb : Below w.heap.size w w1) : Fz w1 base v xs := by
  obtain ⟨A, c, e, hl, hc, hk⟩ := h; exact ⟨A, c, e, hl, Kd.C_below hc hb, fun k h2 => ⟨(hk k h2).1, Nat.lt_of_lt_of_le (hk k h2).2 hb.size⟩⟩
theorem Fz.R_alloc {w : World} {base : Nat} {v : Value} {xs : List Int} (h : Fz w base v xs) (o : Obj) : Fz (w.alloc o) base v xs := h.R_below (below_alloc (Below.refl _ _) o)
theorem Fz.R_drewN {w : World} {base : Nat} {v : Value} {xs : List Int} (h : Fz w base v xs) (m : Nat) : Fz (w.drewN m) base v xs := h.R_below (pw_below_drewN (Below.refl _ _) m)
theorem Fz.R_drew {w : World} {base : Nat} {v : Value} {xs : List Int} (h : Fz w base v xs) : Fz w.drew base v xs := h.R_below (below_drew1 (Below.refl _ _))
theorem Fz.of_R {w : World} {base : Nat} {ok : Nat → Prop} {v : Value} {xs : List Int} (h : Kd.R (Kd.int .u8) 5 w base ok v xs) : Fz w base v xs := by
  obtain ⟨A, c, e, hl, hc⟩ := Kd.R_reads h
  exact ⟨A, c, e, hl, hc, fun k hk => ⟨Kd.R_base h k hk, Kd.R_lt h k hk⟩⟩
theorem Fz.of_conv {w W : World} (hb : Below w.heap.size w W) (s : ByteArray) (hs : s.size ≤ 9223372036854775807) : Fz (Go.Lib.bytesWorld W 5 s) w.heap.size (.slice (some ⟨W.heap.size, 0, none⟩) s.size (grownCap W s.size 0 5)) (bytesOf s) := by
  refine ⟨some ⟨W.heap.size, 0, none⟩, grownCap W s.size 0 5, by rw [bytesOf_length], by rw [bytesOf_length]; exact grownCap_ge W s.size 0 5, ?_, fun k hk => ?_⟩
  · rw [bytesOf_length]
    have h := bytes_reads W 5 s hs
    refine ⟨h.1, h.2.1, fun hp => ?_⟩
    obtain ⟨ad, e, hc⟩ := h.2.2 hp
    refine ⟨ad, e, fun j p hj => ⟨[.int .u8 p], rfl, rfl, fun i u hu => ?_⟩⟩
    have hjl : j < (bytesOf s).length := (List.getElem?_eq_some_iff.1 hj).1
    match i, hu with
    | 0, hu =>
      injection hu with hu
      subst hu
      have := hc j (by rw [← bytesOf_length s]; exact hjl)
      rw [List.getD_eq_getElem?_getD, hj] at this
      simpa [Kd.int, Kd.scalar] using this
  · simp only [Value.ownBlock, Option.some.injEq] at hk
    subst hk
    refine ⟨hb.size, ?_⟩
    rw [Go.Lib.bytesWorld_size]; omega
def impl_blockLine.l0 : Nat → List ByteArray → Int → List Int → List ByteArray → Int → Int → Option (List Int)
  | 0, _, _, _, _, _, _ => none
  | k + 1, x0, x1, x5, x18, x19, x20 => if x20 < x19 then (if 0 ≤ x20 then (if x20 < (x18.length : Int) then (if 0 ≤ (wrap64 (x1 - (x0.length : Int))) then (if (wrap64 (x1 - (x0.length : Int))) < ((rdOf ByteArray.empty x18 x20).size : Int) then (if x5.length < 140737488355328 then (impl_blockLine.l0 k x0 x1 (x5 ++ [bt (rdOf ByteArray.empty x18 x20) (wrap64 (x1 - (x0.length : Int)))]) x18 x19 (wrap64 (x20 + 1))) else (none)) else (none)) else (none)) else (none)) else (none)) else (some x5)
def impl_blockLine.f (k : Nat) (l0 : List ByteArray) (a1 : Int) : Option (List Int) := if a1 < (l0.length : Int) then (if 0 ≤ a1 then (if (rdOf ByteArray.empty l0 a1).size ≤ 9223372036854775807 then (some (bytesOf (rdOf ByteArray.empty l0 a1))) else (none)) else (none)) else (impl_blockLine.l0 k l0 a1 (([] : List Int)) l0 (l0.length : Int) 0)
theorem impl_blockLine.mono_l : ∀ k, (∀ y0 y1 y2 y3 y4 y5, LeO (impl_blockLine.l0 k y0 y1 y2 y3 y4 y5) (impl_blockLine.l0 (k + 1) y0 y1 y2 y3 y4 y5))
  | 0 => fun _ _ _ _ _ _ r h => by simp [impl_blockLine.l0] at h
  | k + 1 => by
    have ih0 := impl_blockLine.mono_l k
    · intro y0 y1 y2 y3 y4 y5
      unfold impl_blockLine.l0
      repeat' first
      | (with_reducible exact ih0 _ _ _ _ _ _)
      | (with_reducible exact LeO.refl _)
      | (with_reducible exact LeO.none _)
      | (with_reducible refine LeO.ite ?_ ?_)
      | (with_reducible refine LeO.bind ?_ (fun _ => ?_))
      | exact ih0 _ _ _ _ _ _
      | exact LeO.none _
      | refine LeO.ite ?_ ?_
      | refine LeO.bind ?_ (fun _ => ?_)
theorem impl_blockLine.mono : ∀ a0 a1 k, LeO (impl_blockLine.f k a0 a1) (impl_blockLine.f (k + 1) a0 a1) := by
  intro a0 a1 k
  have ih0 := impl_blockLine.mono_l k
  unfold impl_blockLine.f
  repeat' first
      | (with_reducible exact ih0 _ _ _ _ _ _)
      | (with_reducible exact LeO.refl _)
      | (with_reducible exact LeO.none _)
      | (with_reducible refine LeO.ite ?_ ?_)
      | (with_reducible refine LeO.bind ?_ (fun _ => ?_))
      | exact ih0 _ _ _ _ _ _
      | exact LeO.none _
      | refine LeO.ite ?_ ?_
      | refine LeO.bind ?_ (fun _ => ?_)
set_option maxHeartbeats 8000000 in
set_option maxRecDepth 100000 in
theorem impl_blockLine.calls (k : Nat) (A0 : Option Addr) (c0 : Nat) (l0 : List ByteArray) (a1 : Int) (r : List Int) (w : World) (hr0 : Kd.C Kd.string w A0 l0.length l0) (hc0 : l0.length ≤ c0) (h : impl_blockLine.f k l0 a1 = some r) :
  Calls Try.prog 146 #[.slice A0 l0.length c0, .int .i64 a1] w fun e w' => ∃ v0_ : Value, e = .returned (v0_) ∧ Fz w' w.heap.size v0_ r ∧ Below w.heap.size w w' := by
 have HR0 := zm hr0
 have HC0 := zm hc0
 clear hr0 hc0
 have HB := zm (Below.refl w.heap.size w)
 have H : (if a1 < (l0.length : Int) then (if 0 ≤ a1 then (if (rdOf ByteArray.empty l0 a1).size ≤ 9223372036854775807 then (some (bytesOf (rdOf ByteArray.empty l0 a1))) else (none)) else (none)) else (impl_blockLine.l0 k l0 a1 (([] : List Int)) l0 (l0.length : Int) 0)) = some r := h
 clear h
 by_cases c3 : a1 < (l0.length : Int)
 ·
  rw [if_pos c3] at H
  have c3b0 : decide (a1 < (l0.length : Int)) = true := decide_eq_true c3
  clear c3
  by_cases c4 : 0 ≤ a1
  ·
   rw [if_pos c4] at H
   have c4b0 : decide (0 ≤ a1) = true := decide_eq_true c4
   clear c4
   by_cases c5 : (rdOf ByteArray.empty l0 a1).size ≤ 9223372036854775807
   · rw [if_pos c5] at H
     obtain rfl := Option.some.inj H
     have p169 : 0 ≤ (a1 : Int) := zd
     have q169 : a1 < (l0.length : Int) := zd
     obtain ⟨ad169, e169, hx169_0⟩ := Kd.at_string HR0.out a1 p169 q169
     cases e169
     replace p169 := eq_true p169
     replace q169 := eq_true q169
     go_enter Try.func146, Try.ntmps146
     have hkb := fun W => print_bytes (P := Try.prog) 9 126 5 Try.underlying9 Try.underlying126 Try.underlying5 (rdOf ByteArray.empty l0 a1) W
     go_wp2
     go_ret
     exact ⟨_, zr, Fz.of_conv (Below.refl _ _) _ c5, bytes_below (Below.refl _ _) (Nat.le_refl _) 5 _⟩
   · rw [if_neg c5] at H
     exact absurd H (by simp)
  ·
   rw [if_neg c4] at H
   exact absurd H (by simp)
 ·
  rw [if_neg c3] at H
  have c3b0 : decide (a1 < (l0.length : Int)) = false := decide_eq_false c3
  clear c3
  obtain ⟨y173, hy173⟩ : ∃ y_ : List Int, y_ = (([] : List Int)) := ⟨_, rfl⟩
  replace H : (impl_blockLine.l0 k l0 a1 y173 l0 (l0.length : Int) 0) = some r := by first | (rw [hy173]; with_reducible exact H) | (have H2_ := (Option.bind_some _ _).symm.trans H; rw [hy173]; with_reducible exact H2_) | (have H2_ := (Option.bind_some _ _).symm.trans H; with_reducible exact H2_) | with_reducible exact H | (rw [hy173]; exact H) | exact H
  have Ny173 := zm hy173
  clear hy173
  have H' := zm H
  clear H
  go_enter Try.func146, Try.ntmps146
  go_wp2_with (first | ((with_reducible refine gate_dst (N := 17) rfl ?_); refine Kd.R_lit (Kd.int .u8) _ 5 ?hg (N := 17) ?hd (xs := ([] : List Int)) (inner := []) (ok := fun _ => True) (okp := fun _ => True) ?hr ?hp (fun _ hk => hk) trivial (Below.refl _ _) (Nat.le_refl _) (by simp) ?_; (case hd => rfl); (case hg => rfl); (case hr => first | (go_simp; done) | (go_simp; rfl)); (case hp => exact (Reps.none _ _)); intro v174 w7 ho8 hb hg_ hnew_; clear hg_ hnew_; (first | rw [← Ny173.out] at ho8 | (simp only [Int.reduceToNat] at ho8; rw [← Ny173.out] at ho8)); have n0_ := zm (Kd.R_lower ho8 (below_size zb)); have n1_ := zm (below_step zb hb); clear HB; have HO175 := n0_; have HB := n1_; clear n0_ n1_; clear hb ho8))
  go_loopg [5, 20] k (fun kq v5 v20 w' => ∃ (x5_1 : List Int) (x20_1 : Int), v20 = .int .i64 x20_1 ∧ Aside0 (impl_blockLine.l0 kq l0 a1 x5_1 l0 (l0.length : Int) x20_1 = some r) ∧ Aside0 (kq ≤ k) ∧ Aside0 (Kd.R (Kd.int .u8) 5 w' w.heap.size (fun _ => True) v5 x5_1) ∧ Aside0 (Below w.heap.size w w'))
  case atStart => exact ⟨(y173), (0), (by first | rfl | (simp; done) | (simp [*]; done)), H', ⟨Nat.le_refl _⟩, ⟨by (with_reducible repeat (first | apply Kd.R_alloc | apply Kd.R_drewN | apply Kd.R_drew)); exact HO175.out⟩, ⟨zb⟩⟩
  case round =>
   clear H'
   (try clear c1); (try clear p1); (try clear q1); (try clear hx1); (try clear p2); (try clear c3); (try clear c3b0); (try clear c4); (try clear c4b0); (try clear hx169_0); (try clear p169); (try clear q169)
   obtain ⟨x5_1, x20_1, rfl, HA, HK1, HO_5, HB⟩ := hrel
   cases gk with
   | zero => exact absurd HA.out (by simp [impl_blockLine.l0])
   | succ k1 =>
    have H := HA.out
    clear HA
    simp only [impl_blockLine.l0] at H
    by_cases c9 : x20_1 < (l0.length : Int)
    ·
     rw [if_pos c9] at H
     have c9b0 : decide (x20_1 < (l0.length : Int)) = true := decide_eq_true c9
     clear c9
     by_cases c10 : 0 ≤ x20_1
     ·
      rw [if_pos c10] at H
      have c10b0 : decide (0 ≤ x20_1) = true := decide_eq_true c10
      clear c10
      by_cases c11 : x20_1 < (l0.length : Int)
      ·
       rw [if_pos c11] at H
       have c11b0 : decide (x20_1 < (l0.length : Int)) = true := decide_eq_true c11
       clear c11
       obtain ⟨ji12, hji12⟩ : ∃ j_ : Int, (wrap64 (a1 - (l0.length : Int))) = j_ := ⟨_, rfl⟩
       replace H : (if 0 ≤ (ji12) then (if (ji12) < ((rdOf ByteArray.empty l0 x20_1).size : Int) then (if x5_1.length < 140737488355328 then (impl_blockLine.l0 k1 l0 a1 (x5_1 ++ [bt (rdOf ByteArray.empty l0 x20_1) (ji12)]) l0 (l0.length : Int) (wrap64 (x20_1 + 1))) else (none)) else (none)) else (none)) = some r := by first | (rw [hji12] at H; exact H) | (simp only [hji12] at H ⊢; exact H)
       have hji12w : (IntKind.i64.wrap (a1 - (l0.length : Int))) = ji12 := (i64_w _).trans hji12
       by_cases c13 : 0 ≤ (ji12)
       ·
        rw [if_pos c13] at H
        have c13b0 : decide (0 ≤ (ji12)) = true := decide_eq_true c13
        clear c13
        by_cases c14 : (ji12) < ((rdOf ByteArray.empty l0 x20_1).size : Int)
        ·
         rw [if_pos c14] at H
         have c14b0 : decide ((ji12) < ((rdOf ByteArray.empty l0 x20_1).size : Int)) = true := decide_eq_true c14
         clear c14
         by_cases c16 : x5_1.length < 140737488355328
         ·
          rw [if_pos c16] at H
          have LMc16 := zm c16
          clear c16
          obtain ⟨y177, hy177⟩ : ∃ y_ : List Int, y_ = (x5_1 ++ [bt (rdOf ByteArray.empty l0 x20_1) (ji12)]) := ⟨_, rfl⟩
          replace H : (impl_blockLine.l0 k1 l0 a1 y177 l0 (l0.length : Int) (wrap64 (x20_1 + 1))) = some r := by first | (rw [hy177]; with_reducible exact H) | (have H2_ := (Option.bind_some _ _).symm.trans H; rw [hy177]; with_reducible exact H2_) | (have H2_ := (Option.bind_some _ _).symm.trans H; with_reducible exact H2_) | with_reducible exact H | (rw [hy177]; exact H) | exact H
          have Ny177 := zm hy177
          clear hy177
          have H' := zm H
          clear H
          have p176 : 0 ≤ (x20_1 : Int) := zd
          have q176 : x20_1 < (l0.length : Int) := zd
          obtain ⟨ad176, e176, hx176_0⟩ := Kd.at_string HR0.out x20_1 p176 q176
          cases e176
          replace hx176_0 := zx HB.out hx176_0
          replace p176 := eq_true p176
          replace q176 := eq_true q176
          have p15 : 0 ≤ ((ji12) : Int) := zd
          have q15 : (ji12) < ((rdOf ByteArray.empty l0 x20_1).size : Int) := zd
          have hx15 := bt_at (rdOf ByteArray.empty l0 x20_1) (ji12)
          replace p15 := eq_true p15
          replace q15 := eq_true q15
          go_wp2_with (first | ((with_reducible refine gate_builtin (b := .append) (xs := #[.tmp 24, .tmp 31]) rfl ?_); at_builtin; refine Kd.R_append (Kd.int .u8) (w0 := w) w.heap.size rfl (.tmp 24) (.tmp 31) 126 5 (.int .u8 0) 1 rfl Try.underlying126 impl_blockLine.info_b rfl (by decide) (by omega) u5 x5_1 (bt (rdOf ByteArray.empty l0 x20_1) (ji12)) [.int .u8 (bt (rdOf ByteArray.empty l0 x20_1) (ji12))] (fun _ => True) (fun _ => False) rfl rfl ?aP (fun _ hk => hk.elim) ?aF ?aO ?aB ?aS ?aL ?_; (case aP => exact rfl); (case aB => exact zb); (case aF => exact (fun _ _ => trivial)); (case aO => exact (by (with_reducible repeat (first | apply Kd.R_alloc | apply Kd.R_drewN | apply Kd.R_drew)); exact HO_5.out)); (case aS => exact (below_size zb)); (case aL => have := LMc16.out; omega); intro v178 w17 ho hb hg hat; rw [← Ny177.out] at ho; have n0_ := zm (hb); have n1_ := zm (ho); clear HB; clear HO_5; have HB := n0_; have HO179 := n1_; clear n0_ n1_; clear ho hb hg hat))
          go_roundg k1
          case measure => have := HK1.out; omega
          case rel => exact ⟨(y177), (wrap64 (x20_1 + 1)), (by first | rfl | (simp; done) | (simp [*]; done)), H', ⟨by have := HK1.out; omega⟩, ⟨by (with_reducible repeat (first | apply Kd.R_alloc | apply Kd.R_drewN | apply Kd.R_drew)); exact HO179.out⟩, ⟨zb⟩⟩
         ·
          rw [if_neg c16] at H
          exact absurd H (by simp)
        ·
         rw [if_neg c14] at H
         exact absurd H (by simp)
       ·
        rw [if_neg c13] at H
        exact absurd H (by simp)
      ·
       rw [if_neg c11] at H
       exact absurd H (by simp)
     ·
      rw [if_neg c10] at H
      exact absurd H (by simp)
    ·
     rw [if_neg c9] at H
     have c9b0 : decide (x20_1 < (l0.length : Int)) = false := decide_eq_false c9
     clear c9
     obtain rfl := Option.some.inj H
     go_wp2
     go_ret
     exact ⟨_, zr, Fz.of_R (by (with_reducible repeat (first | apply Kd.R_alloc | apply Kd.R_drewN | apply Kd.R_drew)); exact HO_5.out), zb⟩


end Go.Proofs.Ytjjjikdpegogcaa.PBd
