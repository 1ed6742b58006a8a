import Derived.Test.YtjdkdbeenggfaaaPErx0
import Derived.Test.YtjdkdbeenggfaaaPErx1
import Derived.Test.YtjdkdbeenggfaaaPErx2
namespace Go.Proofs.Ytjdkdbeenggfaaa.PEr
open Go.RowKit Go.Proofs.YtjdkdbeenggfaaaW.PrintWords Go.Proofs.YtjdkdbeenggfaaaW.PrintLast Go.Proofs.YtjdkdbeenggfaaaW.PrintMore
attribute [local go_sem] max2_int min2_int max_two min_two max_three min_three max_four min_four   -- for this text's walks alone
set_option linter.unusedVariables false
set_option linter.unusedSimpArgs false
def M8.f (a0 : Int) : Option (Int) := if (Int.tmod a0 2) = 1 then (some 111) else (some 46)
set_option maxHeartbeats 8000000 in
set_option maxRecDepth 100000 in
theorem M8.calls (a0 : Int) (r : Int) (w : World) (h : M8.f a0 = some r) :
  Calls Try.prog 59 #[.int .i64 a0] w fun e w' => e = .returned (.int .u8 r) ∧ Drawn0 w w' := by
 have H : (if (Int.tmod a0 2) = 1 then (some 111) else (some 46)) = some r := h;clear h;by_cases c2 : (Int.tmod a0 2) = 1
 rotate_left
 ·
  rw [if_neg c2] at H;have c2b0 : ((Int.tmod a0 2) == 1) = false := beq_eq_false_iff_ne.mpr c2;have c2b1 : ((Int.tmod a0 2) != 1) = true := bne_iff_ne.mpr c2;obtain rfl := Option.some.inj H;go_enter Try.func59, Try.ntmps59;go_wp2;go_ret
  exact ⟨zz, zw⟩
 rw [if_pos c2] at H;have c2b0 : ((Int.tmod a0 2) == 1) = true := beq_iff_eq.mpr c2;have c2b1 : ((Int.tmod a0 2) != 1) = false := bne_eq_false_iff_eq.mpr c2;clear c2;obtain rfl := Option.some.inj H;go_enter Try.func59, Try.ntmps59;go_wp2;go_ret
 exact ⟨zz, zw⟩
theorem V8.q3s : (Try.prog.info? 5).map (fun i => (i.zero, i.size, i.bytes)) = some (some (.int .u8 0), 1, 1) := by kernel_rfl
theorem V8.q8s : (Try.prog.info? 9).map (fun i => (i.zero, i.size, i.bytes)) = some (some (.string ⟨#[]⟩), 1, 16) := by kernel_rfl
theorem V8.q9g {P : Program} {ops : Array Oper} {Q : Exit → Act → World → Prop} {rest : List Oper} {o : Oper} {a : Act} {W : World} {s : Nat} {xs : Array Operand} {ts : Array TypeId} (_ho : o.op = .call { callee := .value (.tmp s), args := xs, argTypes := ts }) (h : wpList P ops Q (o :: rest) a W) : wpList P ops Q (o :: rest) a W := h
theorem V8.q9s {P : Program} {ops : Array Oper} {Q : Exit → Act → World → Prop} {rest : List Oper} {oi : Oper} {a : Act} {w : World} (N : Option Tmp) {f : FuncId} {fn : Func} {s : Operand} {xs : Array Operand} {ts : Array TypeId} (hf : P.funcs[f]? = some fn) (args cap : Array Value)
    (hop : oi.op = .call { callee := .value s, args := xs, argTypes := ts }) (hs : a.eval s = .func (.func f) #[] cap) (h : Calls P f (args ++ cap) w fun e w' => ∃ v, e = .returned v ∧ wpList P ops Q rest (a.put N v) w')
    (hd : oi.dst = N := by rfl) (hg : oi.guard = none := by rfl) (hname : (fn.name == "runtime.NumGoroutine") = false := by kernel_rfl) (hb : fn.body.isSome = true := by rfl)
    (hargs : xs.map a.eval = args := by (try simp only [List.map_toArray, List.map_cons, List.map_nil]); first | done | rfl) : wpList P ops Q (oi :: rest) a w := by
  refine wpList_plain hg fun K hK => ?_
  have he := enters_ hf hname hb (args ++ cap) w
  have hrun : (execOp a.eval oi).run P w = .ok (.enter f (args ++ cap)) w := by
    unfold execOp
    rw [hop]
    simp only [resolve]
    rw [hs, hargs]
    simp [Deferred.ofValue, invoke, he]
  unfold Oper.wp
  rw [hrun, Oper.upon_enter]
  refine h.mono fun e w'' hh => ?_
  obtain ⟨v, rfl, hk⟩ := hh
  subst hd
  exact hK _ _ hk
def P6.f (a0 : Int) (a1 : Int) (a2 : Int) (a3 : Int) (a4 : Int) (l5 : List ByteArray) : Option (Int) := if a0 = a2 then (if a1 = a3 then (some a4) else (if 0 ≤ a0 then (if a0 < (l5.length : Int) then (if 0 ≤ a1 then (if a1 < ((rdOf ByteArray.empty l5 a0).size : Int) then (some (bt (rdOf ByteArray.empty l5 a0) a1)) else (none)) else (none)) else (none)) else (none))) else (if 0 ≤ a0 then (if a0 < (l5.length : Int) then (if 0 ≤ a1 then (if a1 < ((rdOf ByteArray.empty l5 a0).size : Int) then (some (bt (rdOf ByteArray.empty l5 a0) a1)) else (none)) else (none)) else (none)) else (none))
set_option maxHeartbeats 8000000 in
set_option maxRecDepth 100000 in
theorem P6.calls (a0 : Int) (a1 : Int) (a2 : Int) (a3 : Int) (a4 : Int) (A5 : Option Addr) (c5 : Nat) (l5 : List ByteArray) (r : Int) (g1 g2 g3 g4 : Nat) (w : World) (hb1 : w.cell? ⟨g1, 0, none⟩ = some (.int .i64 a2)) (hb2 : w.cell? ⟨g2, 0, none⟩ = some (.int .i64 a3)) (hb3 : w.cell? ⟨g3, 0, none⟩ = some (.int .u8 a4)) (hb4 : w.cell? ⟨g4, 0, none⟩ = some (.slice A5 l5.length c5)) (hr5 : Kd.C Kd.string w A5 l5.length l5) (hc5 : l5.length ≤ c5) (h : P6.f a0 a1 a2 a3 a4 l5 = some r) :
  Calls Try.prog 113 #[.int .i64 a0, .int .i64 a1, .pointer (some ⟨g1, 0, none⟩), .pointer (some ⟨g2, 0, none⟩), .pointer (some ⟨g3, 0, none⟩), .pointer (some ⟨g4, 0, none⟩)] w fun e w' => e = .returned (.int .u8 r) ∧ Drawn0 w w' := by
 have HR5 := zm hr5;have HC5 := zm hc5;clear hr5 hc5;have H : (if a0 = a2 then (if a1 = a3 then (some a4) else (if 0 ≤ a0 then (if a0 < (l5.length : Int) then (if 0 ≤ a1 then (if a1 < ((rdOf ByteArray.empty l5 a0).size : Int) then (some (bt (rdOf ByteArray.empty l5 a0) a1)) else (none)) else (none)) else (none)) else (none))) else (if 0 ≤ a0 then (if a0 < (l5.length : Int) then (if 0 ≤ a1 then (if a1 < ((rdOf ByteArray.empty l5 a0).size : Int) then (some (bt (rdOf ByteArray.empty l5 a0) a1)) else (none)) else (none)) else (none)) else (none))) = some r := h;clear h;by_cases c7 : a0 = a2
 rotate_left
 ·
  rw [if_neg c7] at H;have c7b0 : (a0 == a2) = false := beq_eq_false_iff_ne.mpr c7;have c7b1 : (a0 != a2) = true := bne_iff_ne.mpr c7;obtain ⟨c14, H⟩ := zJ H;have c14b0 := decide_eq_true c14;clear c14;obtain ⟨c15, H⟩ := zJ H;have c15b0 := decide_eq_true c15;clear c15;obtain ⟨c16, H⟩ := zJ H;have c16b0 := decide_eq_true c16;clear c16;obtain ⟨c17, H⟩ := zJ H;have c17b0 := decide_eq_true c17;clear c17;obtain rfl := Option.some.inj H;have p153 : 0 ≤ (a0 : Int) := zd;have q153 : a0 < (l5.length : Int) := zd;obtain ⟨ad153, e153, hx153_0⟩ := Kd.at_string HR5.out a0 p153 q153;cases e153;replace p153 := eq_true p153;replace q153 := eq_true q153;have p18 : 0 ≤ (a1 : Int) := zd;have q18 : a1 < ((rdOf ByteArray.empty l5 a0).size : Int) := zd;have hx18 := bt_at (rdOf ByteArray.empty l5 a0) a1;replace p18 := eq_true p18;replace q18 := eq_true q18;go_enter Try.func113, Try.ntmps113;go_wp2;go_ret
  exact ⟨zz, zw⟩
 rw [if_pos c7] at H;have c7b0 : (a0 == a2) = true := beq_iff_eq.mpr c7;have c7b1 : (a0 != a2) = false := bne_eq_false_iff_eq.mpr c7;clear c7;by_cases c8 : a1 = a3
 ·
  rw [if_pos c8] at H;have c8b0 : (a1 == a3) = true := beq_iff_eq.mpr c8;have c8b1 : (a1 != a3) = false := bne_eq_false_iff_eq.mpr c8;clear c8;obtain rfl := Option.some.inj H;go_enter Try.func113, Try.ntmps113;go_wp2;go_ret
  exact ⟨zz, zw⟩
 rw [if_neg c8] at H;have c8b0 : (a1 == a3) = false := beq_eq_false_iff_ne.mpr c8;have c8b1 : (a1 != a3) = true := bne_iff_ne.mpr c8;obtain ⟨c9, H⟩ := zJ H;have c9b0 := decide_eq_true c9;clear c9;obtain ⟨c10, H⟩ := zJ H;have c10b0 := decide_eq_true c10;clear c10;obtain ⟨c11, H⟩ := zJ H;have c11b0 := decide_eq_true c11;clear c11;obtain ⟨c12, H⟩ := zJ H;have c12b0 := decide_eq_true c12;clear c12;obtain rfl := Option.some.inj H;have p152 : 0 ≤ (a0 : Int) := zd;have q152 : a0 < (l5.length : Int) := zd;obtain ⟨ad152, e152, hx152_0⟩ := Kd.at_string HR5.out a0 p152 q152;cases e152;replace p152 := eq_true p152;replace q152 := eq_true q152;have p13 : 0 ≤ (a1 : Int) := zd;have q13 : a1 < ((rdOf ByteArray.empty l5 a0).size : Int) := zd;have hx13 := bt_at (rdOf ByteArray.empty l5 a0) a1;replace p13 := eq_true p13;replace q13 := eq_true q13;go_enter Try.func113, Try.ntmps113;go_wp2;go_ret
 exact ⟨zz, zw⟩
mutual
def Y1.l0 : Nat → Int → Int → Int → Int → Int → List ByteArray → List ByteArray → Int → Option (List ByteArray)
  | 0, _, _, _, _, _, _, _, _ => none
  | k + 1, x0, x1, x2, x3, x4, x5, x7, x8 => if x8 < x0 then (if 0 ≤ x1 then (if (x1 : Int).toNat ≤ 281474976710656 then ((some (List.replicate (x1 : Int).toNat 0 : List Int)).bind fun y157 => (Y1.l1 k x0 x1 x2 x3 x4 x5 x7 x8 y157 (y157.length : Int) 0)) else (none)) else (none)) else (some x7)
def Y1.l1 : Nat → Int → Int → Int → Int → Int → List ByteArray → List ByteArray → Int → List Int → Int → Int → Option (List ByteArray)
  | 0, _, _, _, _, _, _, _, _, _, _, _ => none
  | k + 1, x0, x1, x2, x3, x4, x5, x7, x8, x9, x20, x21 => if x21 < x20 then ((P6.f x8 x21 x2 x3 x4 x5).bind fun t160 => (if 0 ≤ x21 then (if x21 < (x9.length : Int) then (Y1.l1 k x0 x1 x2 x3 x4 x5 x7 x8 (x9.set (x21 : Int).toNat t160) x20 (wrap64 (x21 + 1))) else (none)) else (none))) else (if x7.length < 8796093022208 then (Y1.l0 k x0 x1 x2 x3 x4 x5 (x7 ++ [strOfNums x9]) (wrap64 (x8 + 1))) else (none))
end
def Y1.f (k : Nat) (a0 : Int) (a1 : Int) (a2 : Int) (a3 : Int) (a4 : Int) (l5 : List ByteArray) : Option (List ByteArray) := Y1.l0 k a0 a1 a2 a3 a4 l5 (([] : List ByteArray)) 0
set_option maxHeartbeats 8000000 in
set_option maxRecDepth 100000 in
theorem Y1.calls (k : Nat) (a0 : Int) (a1 : Int) (a2 : Int) (a3 : Int) (a4 : Int) (A5 : Option Addr) (c5 : Nat) (l5 : List ByteArray) (r : List ByteArray) (g1 g2 g3 g4 : Nat) (w : World) (hb1 : w.cell? ⟨g1, 0, none⟩ = some (.int .i64 a2)) (hb2 : w.cell? ⟨g2, 0, none⟩ = some (.int .i64 a3)) (hb3 : w.cell? ⟨g3, 0, none⟩ = some (.int .u8 a4)) (hb4 : w.cell? ⟨g4, 0, none⟩ = some (.slice A5 l5.length c5)) (hr5 : Kd.C Kd.string w A5 l5.length l5) (hc5 : l5.length ≤ c5) (h : Y1.f k a0 a1 a2 a3 a4 l5 = some r) :
  Calls Try.prog 112 #[.int .i64 a0, .int .i64 a1, .func (.func 113) #[] #[.pointer (some ⟨g1, 0, none⟩), .pointer (some ⟨g2, 0, none⟩), .pointer (some ⟨g3, 0, none⟩), .pointer (some ⟨g4, 0, none⟩)]] w fun e w' => ∃ v0_ : Value, e = .returned (v0_) ∧ Kd.R Kd.string 9 w' w.heap.size (fun _ => True) v0_ r ∧ Below w.heap.size w w' := by
 have HG1 := zm hb1;have HG2 := zm hb2;have HG3 := zm hb3;have HG4 := zm hb4;clear hb1 hb2 hb3 hb4;have HR5 := zm hr5;have HC5 := zm hc5;clear hr5 hc5;have HB := zm (Below.refl w.heap.size w);have H : (Y1.l0 k a0 a1 a2 a3 a4 l5 (([] : List ByteArray)) 0) = some r := h;clear h;obtain ⟨y154, hy154⟩ : ∃ y_ : List ByteArray, y_ = (([] : List ByteArray)) := ⟨_, rfl⟩;(first | (rw [← hy154] at H; with_reducible replace H := zO H) | rw [← hy154] at H);have Ny154 := zm hy154;clear hy154;have H' := zm H;clear H;go_enter Try.func112, Try.ntmps112;go_wp2_with (first | ((with_reducible refine gate_dst (N := 11) rfl ?_); refine Kd.R_lit Kd.string _ 9 ?hg (N := 11) ?hd (xs := ([] : List ByteArray)) (inner := []) (ok := fun _ => True) (okp := fun _ => True) ?hr ?hp (fun _ hk => hk) trivial (Below.refl _ _) (Nat.le_refl _) (by simp) ?_; (case hd => rfl); (case hg => rfl); (case hr => first | (go_simp; done) | (go_simp; rfl)); (case hp => exact (Reps.none _ _)); intro v155 w7 ho8 hb hg_ hnew_; clear hg_ hnew_; (first | rw [← Ny154.out] at ho8 | (simp only [Int.reduceToNat] at ho8; rw [← Ny154.out] at ho8)); have HO156 := zm (Kd.R_lower ho8 (below_size zb)); replace HB := zm (below_step zb hb); clear hb ho8))
 go_loopg [7, 8] k (fun kq v7 v8 w' => ∃ (x7_1 : List ByteArray) (x8_1 : Int), v8 = .int .i64 x8_1 ∧ Aside0 (Y1.l0 kq a0 a1 a2 a3 a4 l5 x7_1 x8_1 = some r) ∧ Aside0 (kq ≤ k) ∧ Aside0 (Kd.R Kd.string 9 w' w.heap.size (fun _ => True) v7 x7_1) ∧ Aside0 (Below w.heap.size w w'))
 case atStart => exact ⟨(y154), (0), zz, H', ⟨Nat.le_refl _⟩, ⟨zP HO156.out⟩, ⟨zb⟩⟩
 case round =>
  clear H';(try clear p2);obtain ⟨x7_1, x8_1, rfl, HA, HK1, HO_7, HB⟩ := hrel;cases gk with
  | zero => exact absurd HA.out (by simp [Y1.l0])
  | succ k1 =>
   have H := HA.out;clear HA;simp only [Y1.l0] at H;by_cases c9 : x8_1 < a0
   rotate_left
   ·
    rw [if_neg c9] at H;have c9b0 := decide_eq_false c9;clear c9;obtain rfl := Option.some.inj H;go_wp2;go_ret
    exact ⟨_, zr, zP HO_7.out, zb⟩
   rw [if_pos c9] at H;have c9b0 := decide_eq_true c9;clear c9;obtain ⟨c10, H⟩ := zJ H;have c10b0 := eq_true c10;have c10b1 := decide_eq_true c10;clear c10;obtain ⟨c11, H⟩ := zJ H;have c11b0 := eq_true c11;have c11b1 := decide_eq_true c11;clear c11;obtain ⟨y157, hy157⟩ : ∃ y_ : List Int, y_ = (List.replicate (a1 : Int).toNat 0) := ⟨_, rfl⟩;(first | (rw [← hy157] at H; with_reducible replace H := zO H) | rw [← hy157] at H);have Ny157 := zm hy157;clear hy157;have H' := zm H;clear H;go_wp2_with (first | ((with_reducible refine gate_dst (N := 18) rfl ?_); refine Kd.R_make (Kd.int .u8) _ 5 rfl (N := 18) rfl 22 _ _ rfl a1 rfl rfl Try.underlying22 (.int .u8 0) 1 V8.q3s rfl (by decide) (by omega) 0 (ok := fun _ => True) (okp := fun _ => True) rfl (fun _ hk => hk) trivial (of_decide_eq_true (by first | (with_reducible assumption) | assumption)) (Nat.le_trans (Nat.mul_le_mul_right _ (of_decide_eq_true (by first | (with_reducible assumption) | assumption) : a1.toNat ≤ 281474976710656)) (by omega)) (Below.refl _ _) (Nat.le_refl _) ?_; intro v158 w12 ho13 hb hg_ hnew_; clear hg_ hnew_; (first | rw [← Ny157.out] at ho13 | (simp only [Int.reduceToNat] at ho13; rw [← Ny157.out] at ho13)); replace HO_7 := zm (Kd.R_below (zP HO_7.out) hb); have HO159 := zm (Kd.R_lower ho13 (below_size zb)); replace HB := zm (below_step zb hb); clear hb ho13; obtain ⟨Ao14, co14, eo14⟩ := Kd.R_slice HO159.out; subst eo14))
   go_loopg [21] k1 (fun kq v21 w' => ∃ (x9_2 : List Int) (x21_2 : Int), v21 = .int .i64 x21_2 ∧ Aside0 (Y1.l1 kq a0 a1 a2 a3 a4 l5 x7_1 x8_1 x9_2 (y157.length : Int) x21_2 = some r) ∧ Aside0 (kq ≤ k1) ∧ Aside0 (Kd.R Kd.string 9 w' w.heap.size (fun _ => True) u7 x7_1) ∧ Aside0 (Kd.R (Kd.int .u8) 5 w' w.heap.size (fun _ => True) (.slice Ao14 y157.length co14) x9_2) ∧ Aside0 (Below w.heap.size w w'))
   case atStart => exact ⟨(y157), (0), zz, H', ⟨Nat.le_refl _⟩, ⟨zP HO_7.out⟩, ⟨zP HO159.out⟩, ⟨zb⟩⟩
   case round =>
    clear H';(try clear p2); (try clear c9b0); (try clear c10b0); (try clear c10b1); (try clear c11b0); (try clear c11b1); (try clear p2);obtain ⟨x9_2, x21_2, rfl, HA, HK2, HO_7, HO_9, HB⟩ := hrel;have hl9_2 := (Kd.R_reads' HO_9.out).1;rw [hl9_2] at HO_9;(try simp only [hl9_2]);(try simp only [hl9_2] at HO_7);cases gk with
    | zero => exact absurd HA.out (by simp [Y1.l1])
    | succ k2 =>
     have H := HA.out;clear HA;simp only [Y1.l1] at H;by_cases c15 : x21_2 < (y157.length : Int)
     rotate_left
     ·
      rw [if_neg c15] at H;have c15b0 := decide_eq_false c15;(try (have c15z0 := c15b0; simp only [hl9_2] at c15z0));(try (have c15z0 := c15b0; simp only [hl9_2] at c15z0));clear c15;obtain ⟨c22, H⟩ := zJ H;have LMc22 := zm c22;clear c22;obtain ⟨y162, hy162⟩ : ∃ y_ : List ByteArray, y_ = (x7_1 ++ [strOfNums x9_2]) := ⟨_, rfl⟩;(first | (rw [← hy162] at H; with_reducible replace H := zO H) | rw [← hy162] at H);have Ny162 := zm hy162;clear hy162;have H' := zm H;clear H;have hcv23 := own_string (P := Try.prog) Try.underlying22 Try.underlying5 Try.underlying9 (Kd.own_of_R HO_9.out);go_wp2_with (first | ((with_reducible refine gate_builtin (b := .append) (xs := #[.tmp 32, .tmp 35]) rfl ?_); at_builtin; refine Kd.R_append Kd.string (w0 := w) w.heap.size rfl (.tmp 32) (.tmp 35) 23 9 (.string ⟨#[]⟩) 16 rfl Try.underlying23 V8.q8s rfl (by decide) (by omega) u7 x7_1 (strOfNums x9_2) [.string (strOfNums x9_2)] (fun _ => True) (fun _ => False) rfl rfl ?aP (fun _ hk => hk.elim) ?aF ?aO ?aB ?aS ?aL ?_; (case aP => exact rfl); (case aB => exact zb); (case aF => exact (fun _ _ => trivial)); (case aO => exact (zP HO_7.out)); (case aS => exact (below_size zb)); (case aL => have := LMc22.out; omega); intro v163 w24 ho hb hg hat; rw [← Ny162.out] at ho; replace HO_9 := zm (Kd.R_over' (zP HO_9.out) (Kd.R_typed (zP HO_7.out)) (by decide) hg); replace HB := zm (hb); have HO164 := zm (ho); clear HO_7; clear ho hb hg hat))
      (try simp only [← hl9_2]);go_roundg k2
      case measure => have := HK1.out; have := HK2.out; omega
      case rel => exact ⟨(y162), (wrap64 (x8_1 + 1)), zz, H', ⟨by have := HK1.out; have := HK2.out; omega⟩, ⟨by (try simp only [hl9_2]); (with_reducible repeat (first | apply Kd.R_alloc | apply Kd.R_drewN | apply Kd.R_drew)); exact HO164.out⟩, ⟨zb⟩⟩
     rw [if_pos c15] at H;have c15b0 := decide_eq_true c15;clear c15;obtain ⟨t160, A16, H⟩ := zI H;(try dsimp only at H);obtain ⟨c17, H⟩ := zJ H;have c17b0 := decide_eq_true c17;clear c17;obtain ⟨c18, H⟩ := zJ H;have c18b0 := decide_eq_true c18;clear c18;obtain ⟨y161, hy161⟩ : ∃ y_ : List Int, y_ = (x9_2.set (x21_2 : Int).toNat t160) := ⟨_, rfl⟩;(first | (rw [← hy161] at H; with_reducible replace H := zO H) | rw [← hy161] at H);have Ny161 := zm hy161;clear hy161;have H' := zm H;clear H;go_wp2_with (first | ((with_reducible refine V8.q9g (s := 26) rfl ?_); refine V8.q9s (some 29) Try.func113 #[.int .i64 x8_1, .int .i64 x21_2] #[.pointer (some ⟨g1, 0, none⟩), .pointer (some ⟨g2, 0, none⟩), .pointer (some ⟨g3, 0, none⟩), .pointer (some ⟨g4, 0, none⟩)] rfl rfl ?_; (refine (P6.calls x8_1 x21_2 a2 a3 a4 _ _ l5 t160 g1 g2 g3 g4 _ (zx HB.out HG1.out) (zx HB.out HG2.out) (zx HB.out HG3.out) (zx HB.out HG4.out) ?side1 ?side2 A16.out).mono ?_); (case side1 => exact zC HR5.out); (case side2 => exact HC5.out); rintro e w' ⟨rfl, ⟨nd, rfl⟩⟩; refine ⟨_, rfl, ?_⟩; (try (rw [drewN_self wr]; generalize hq_ : World.drewN wr _ = wr; have n0_ : Aside0 (Kd.R Kd.string 9 wr w.heap.size (fun _ => True) u7 x7_1) := ⟨by rw [← hq_]; exact (zP HO_7.out)⟩; have n1_ : Aside0 (Kd.R (Kd.int .u8) 5 wr w.heap.size (fun _ => True) (.slice Ao14 x9_2.length co14) x9_2) := ⟨by rw [← hq_]; exact (zP HO_9.out)⟩; have n2_ : Aside0 (Below w.heap.size w wr) := ⟨by rw [← hq_]; exact zb⟩; clear HO_7 HO_9 HB hq_; have HO_7 := n0_; have HO_9 := n1_; have HB := n2_; clear n0_ n1_ n2_)); have p19 : 0 ≤ (x21_2 : Int) := zd; have q19 : (x21_2 : Int) < ((x9_2.length : Int) : Int) := zd; obtain ⟨go19, co19, eo19, gb19, gl19, cl19, HG19⟩ := Kd.R_form HO_9.out (by omega); (first | cases eo19 | (injection eo19 with ea_ en_ ec_; (first | subst ea_ | (injection ea_ with ea_; subst ea_)); subst ec_; clear en_)); have GB19 := zm gb19; have GG19 := zm HG19; clear gb19 gl19 HG19; obtain ⟨hx19_0, hf19_0⟩ := Kd.R_celln 0 HO_9.out (x21_2 : Int) p19 q19; replace p19 := eq_true p19; replace q19 := eq_true q19; obtain ⟨hy20_, hz20_⟩ := Kd.R_celln 0 HO_9.out (x21_2 : Int) (of_decide_eq_true (by first | (with_reducible assumption) | assumption)) (of_decide_eq_true (by first | (with_reducible assumption) | assumption)); have HP20 := Kd.R_putg HO_9.out (x21_2 : Int) t160) | ((with_reducible refine gate_store (t := 5) (p := 30) rfl ?_); refine store_event (t := 5) (p := 30) (v := ?vo_w21) (w1 := (wr.setCell ⟨go19, (x21_2 : Int).toNat, none⟩ (.int .u8 t160))) ?hg ?ho ?hn ?hr ?_; (case ho => rfl); (case hg => rfl); (case hn => rfl); (case hr => first | (go_simp; done) | (go_simp; rfl)); intro w21 hw; have hg : wr.grownBy w21 (some go19) := (by rw [hw]; exact HP20.2); have hp_ : Kd.R (Kd.int .u8) 5 w21 w.heap.size (fun _ => True) (.slice (some ⟨go19, 0, none⟩) x9_2.length co14) y161 := (by rw [hw, Ny161.out]; exact HP20.1); clear HP20; replace HO_7 := zm (Kd.R_over' (v := (.slice (some ⟨go19, 0, none⟩) x9_2.length co14)) (zP HO_7.out) (Kd.R_typed HO_9.out) (by decide) hg); replace HO_9 := zm (hp_); replace HB := zm ((by rw [hw]; exact below_set (HB.out) GB19.out : Below w.heap.size w w21)); clear hg hw hp_))
     (try simp only [← hl9_2]);go_roundg k2
     case measure => have := HK1.out; have := HK2.out; omega
     case rel => exact ⟨(y161), (wrap64 (x21_2 + 1)), zz, H', ⟨by have := HK1.out; have := HK2.out; omega⟩, ⟨by (try simp only [hl9_2]); (with_reducible repeat (first | apply Kd.R_alloc | apply Kd.R_drewN | apply Kd.R_drew)); exact HO_7.out⟩, ⟨by (try simp only [hl9_2]); (with_reducible repeat (first | apply Kd.R_alloc | apply Kd.R_drewN | apply Kd.R_drew)); exact HO_9.out⟩, ⟨zb⟩⟩
def V8.f (k : Nat) (l0 : List ByteArray) (a1 : Int) (a2 : Int) (a3 : Int) : Option (List ByteArray) := if 0 < (l0.length : Int) then ((Y1.f k (l0.length : Int) ((rdOf ByteArray.empty l0 0).size : Int) a1 a2 a3 l0).bind fun t166 => (some t166)) else (none)
def V8.T1 : Bool × List (List Nat × List Nat) := (true, [([], []), ([0], [0]), ([], []), ([2], [2]), ([3], [3]), ([4], [4]), ([], []), ([1, 5, 6], [1, 5, 6]), ([7, 7, 0, 1, 2, 3, 4, 5, 6, 7], [7])])
def V8.B1 : List Nat := [0, 1, 0, 4, 12, 28, 0, 127, 255]
theorem V8.q7v : rtab .any (opsOf Try.f67 1) = V8.T1 := by kernel_rfl
theorem V8.q60 : waitsOk V8.T1.2 V8.B1 = true := by kernel_rfl
set_option maxHeartbeats 8000000 in
set_option maxRecDepth 100000 in
theorem V8.calls (k : Nat) (A0 : Option Addr) (c0 : Nat) (l0 : List ByteArray) (a1 : Int) (a2 : Int) (a3 : Int) (r : List ByteArray) (w : World) (hr0 : Kd.C Kd.string w A0 l0.length l0) (hc0 : l0.length ≤ c0) (h : V8.f k l0 a1 a2 a3 = some r) :
  Calls Try.prog 67 #[.slice A0 l0.length c0, .int .i64 a1, .int .i64 a2, .int .u8 a3] w fun e w' => ∃ v0_ : Value, e = .returned (v0_) ∧ Kd.R Kd.string 9 w' w.heap.size (fun _ => True) v0_ r ∧ Below w.heap.size w w' := by
 have H : (if 0 < (l0.length : Int) then ((Y1.f k (l0.length : Int) ((rdOf ByteArray.empty l0 0).size : Int) a1 a2 a3 l0).bind fun t166 => (some t166)) else (none)) = some r := h;clear h;obtain ⟨c5, H⟩ := zJ H;have c5b0 := decide_eq_true c5;have c5b1 : decide (0 < l0.length) = true := decide_eq_true (by omega);obtain ⟨t166, A6, H⟩ := zI H;(try dsimp only at H);obtain rfl := Option.some.inj H;obtain ⟨ad165, e165, hw165_0⟩ := Kd.at_string hr0 0 (by omega) c5;(try rw [show ((0 : Int)).toNat = 0 from rfl] at hw165_0);(try rw [show 0 * 1 = 0 from rfl] at hw165_0);(try rw [Addr.add_zero'] at hw165_0);cases e165;have qi165 : (0 < l0.length) = True := eq_true (by omega)
 clear c5;obtain ⟨w4, hw4⟩ : ∃ w4, w4 = (((w.alloc (.cells #[.slice (some ad165) l0.length c0] 23)).alloc (.cells #[.int .i64 a1] 3)).alloc (.cells #[.int .i64 a2] 3)).alloc (.cells #[.int .u8 a3] 5) := ⟨_, rfl⟩;have hB4 : Below w.heap.size w w4 := by rw [hw4]; exact below_alloc (below_alloc (below_alloc (below_alloc (Below.refl _ _) _) _) _) _
 have hg4 : w4.cell? ⟨w.heap.size, 0, none⟩ = some (.slice (some ad165) l0.length c0) := by
   rw [hw4, World.cell?_alloc_past _ _ _ (by simp <;> omega), World.cell?_alloc_past _ _ _ (by simp <;> omega), World.cell?_alloc_past _ _ _ (by simp), World.cell?_alloc_at _ _ _ _ rfl]; try rfl
 have hg1 : w4.cell? ⟨w.heap.size + 1, 0, none⟩ = some (.int .i64 a1) := by
   rw [hw4, World.cell?_alloc_past _ _ _ (by simp <;> omega), World.cell?_alloc_past _ _ _ (by simp), World.cell?_alloc_at _ _ _ _ (by simp)]; try rfl
 have hg2 : w4.cell? ⟨w.heap.size + 1 + 1, 0, none⟩ = some (.int .i64 a2) := by
   rw [hw4, World.cell?_alloc_past _ _ _ (by simp), World.cell?_alloc_at _ _ _ _ (by simp)]; try rfl
 have hg3 : w4.cell? ⟨w.heap.size + 1 + 1 + 1, 0, none⟩ = some (.int .u8 a3) := by
   rw [hw4, World.cell?_alloc_at _ _ _ _ (by simp)]; try rfl
 have hst : w4.cell? ad165 = some (.string (rdOf ByteArray.empty l0 0)) := zx hB4 hw165_0
 have hr4 : Kd.C Kd.string w4 (some ad165) l0.length l0 := Kd.C_below hr0 hB4
 go_enter Try.func67, Try.ntmps67;go_wp2;rw [← hw4];clear hw4;refine start_ (n := 9) (S := fun w' => w'.cell? ⟨w.heap.size, 0, none⟩ = some (.slice (some ad165) l0.length c0) ∧ w'.cell? ad165 = some (.string (rdOf ByteArray.empty l0 0))) (ds := []) #[F,F,F,F,F,F,F,F,F] (by kernel_rfl) rfl rfl ⟨hg4, hst⟩ (fun hHeld => ?_); refine with_tabW V8.q7v V8.q60 (fun HT_ HW_ => ?_)
 have hB7 : Below w.heap.size w w4.drew := below_drew1 hB4
 have hg47 : w4.drew.cell? ⟨w.heap.size, 0, none⟩ = some (.slice (some ad165) l0.length c0) := hg4
 have hg17 : w4.drew.cell? ⟨w.heap.size + 1, 0, none⟩ = some (.int .i64 a1) := hg1
 have hg27 : w4.drew.cell? ⟨w.heap.size + 1 + 1, 0, none⟩ = some (.int .i64 a2) := hg2
 have hg37 : w4.drew.cell? ⟨w.heap.size + 1 + 1 + 1, 0, none⟩ = some (.int .u8 a3) := hg3
 have hst7 : w4.drew.cell? ad165 = some (.string (rdOf ByteArray.empty l0 0)) := hst
 have hr7 : Kd.C Kd.string w4.drew (some ad165) l0.length l0 := Kd.C_drew hr4
 generalize w4.drew = w7 at hB7 hg47 hg17 hg27 hg37 hst7 hr7 hHeld ⊢;refine zU 6 15 #[F,F,F,F,F,F,T,F,F] ?_;refine take_ (i := 0) (N := some 9) (v := ?_) (a' := ?_) #[T,F,F,F,F,F,T,F,F] rfl rfl (take_ofW HT_.out HW_.out (by kernel_rfl)) (fun _ _ _ h => h) (Or.inl ⟨by rfl, ?_⟩) hHeld ?_ ?_
 rotate_left
 ·
  rintro w' ⟨s0, s1⟩;go_simp
  with_reducible rfl
 rotate_left
 ·
  simp only [Act.put, zA, zB, zD, i64_w, i32_w]
  rfl
 refine zU 1 10 #[T,T,F,F,F,F,T,F,F] ?_;refine take_ (i := 2) (N := some 11) (v := ?_) (a' := ?_) #[T,T,T,F,F,F,T,F,F] rfl rfl (take_ofW HT_.out HW_.out (by kernel_rfl)) (fun _ _ _ h => h) (Or.inl ⟨by rfl, ?_⟩) hHeld ?_ ?_
 rotate_left
 ·
  rintro w' ⟨s0, s1⟩;go_simp
  with_reducible rfl
 rotate_left
 ·
  simp only [Act.put, zA, zB, zD, i64_w, i32_w]
  rfl
 refine zU 3 12 #[T,T,T,T,F,F,T,F,F] ?_;refine take_ (i := 4) (N := some 13) (v := ?_) (a' := ?_) #[T,T,T,T,T,F,T,F,F] rfl rfl (take_ofW HT_.out HW_.out (by kernel_rfl)) (fun _ _ _ h => h) (Or.inl ⟨by rfl, ?_⟩) hHeld ?_ ?_
 rotate_left
 ·
  rintro w' ⟨s0, s1⟩;go_simp
  with_reducible rfl
 rotate_left
 ·
  simp only [Act.put, zA, zB, zD, i64_w, i32_w]
  rfl
 refine zU 5 14 #[T,T,T,T,T,T,T,F,F] ?_;refine one_ (i := 7) (N := some 16) #[T,T,T,T,T,T,T,T,F] rfl rfl (one_of HT_.out (by kernel_rfl)) (by decide) (fun K hK => ?_)
 refine goes_ Try.func112 (by kernel_rfl) rfl #[.int .i64 (l0.length : Int), .int .i64 ((rdOf ByteArray.empty l0 0).size : Int), .func (.func 113) #[] #[.pointer (some ⟨w.heap.size + 1, 0, none⟩), .pointer (some ⟨w.heap.size + 1 + 1, 0, none⟩), .pointer (some ⟨w.heap.size + 1 + 1 + 1, 0, none⟩), .pointer (some ⟨w.heap.size, 0, none⟩)]] (by rfl) rfl rfl (by (try simp only [List.map_toArray, List.map_cons, List.map_nil]); first | done | rfl | (simp only [List.length_drop, List.length_take]; rfl)) ?_
 refine (Y1.calls k (l0.length : Int) ((rdOf ByteArray.empty l0 0).size : Int) a1 a2 a3 (some ad165) c0 l0 t166 (w.heap.size + 1) (w.heap.size + 1 + 1) (w.heap.size + 1 + 1 + 1) w.heap.size w7 hg17 hg27 hg37 hg47 hr7 hc0 A6.out).mono ?_
 rintro e w8 ⟨v167, rfl, ho0, hb⟩;refine ⟨_, rfl, ?_⟩
 have hn0 := Kd.R_lower ho0 hB7.size;have hn1 : Below w.heap.size w w8 := hB7.trans (hb.mono hB7.size)
 refine hK.out _ _ ⟨(hb.cell (World.block_lt_of_cell? w7 _ hg47)).trans hg47, (hb.cell (World.block_lt_of_cell? w7 _ hst7)).trans hst7⟩ (fun hHeld => ?_)
 clear hK K;refine norm_ (a' := ?_) ?_ ?_;rotate_left
 ·
  show Act.put _ (some 16) _ = _
  simp only [Act.put, zA, zB, zD, i64_w, i32_w]
  rfl
 refine zU 8 8 #[T,T,T,T,T,T,T,T,T] ?_;refine done_ (done_of HT_.out (by kernel_rfl)) ?_
 try go_wp2
 go_ret
 exact ⟨_, zr, hn0, hn1⟩
mutual
def V7.l0 : Nat → List ByteArray → Int → Int → Option (List ByteArray × Bool)
  | 0, _, _, _ => none
  | k + 1, x0, x15, x16 => if x16 < x15 then ((V4.f k x0 x16).bind fun bt185 => (if bt185.2 = 1 then ((J4.f k x0 x16).bind fun t187 => (V7.l1 k x0 x16 bt185.1 x15 x16 t187 (t187.length : Int) 0)) else (V7.l0 k x0 x15 (wrap64 (x16 + 1))))) else (some (x0, false))
def V7.l1 : Nat → List ByteArray → Int → Int → Int → Int → List Int → Int → Int → Option (List ByteArray × Bool)
  | 0, _, _, _, _, _, _, _, _ => none
  | k + 1, x0, x4, x5, x15, x16, x29, x30, x31 => if x31 < x30 then (if 0 ≤ x31 then (if x31 < (x29.length : Int) then (if (rd x29 x31) = 63 then (if x4 < (x0.length : Int) then ((M8.f x5).bind fun t191 => ((V8.f k x0 x4 x31 t191).bind fun t192 => (some (t192, true)))) else ((M8.f x5).bind fun t195 => ((V8.f k x0 x31 (wrap64 (x4 - (x0.length : Int))) t195).bind fun t196 => (some (t196, true))))) else (V7.l1 k x0 x4 x5 x15 x16 x29 x30 (wrap64 (x31 + 1)))) else (none)) else (none)) else (V7.l0 k x0 x15 (wrap64 (x16 + 1)))
end
def V7.f (k : Nat) (l0 : List ByteArray) : Option (List ByteArray × Bool) := if 0 < (l0.length : Int) then (V7.l0 k l0 (wrap64 ((l0.length : Int) + ((rdOf ByteArray.empty l0 0).size : Int))) 0) else (none)
set_option maxHeartbeats 8000000 in
set_option maxRecDepth 100000 in
theorem V7.calls (k : Nat) (P0_ : Nat → Prop) (u9000_ : Value) (l0 : List ByteArray) (r1 : List ByteArray) (r2 : Bool) (w0 w : World) (hB : Below w0.heap.size w0 w) (ho0 : Kd.R Kd.string 9 w w0.heap.size P0_ u9000_ l0) (h : V7.f k l0 = some (r1, r2)) :
  Calls Try.prog 123 #[u9000_] w fun e w' => ∃ v0_ : Value, e = .returned (.tuple #[v0_, .bool r2]) ∧ Kd.R Kd.string 9 w' w0.heap.size (fun k_ => (P0_ k_ ∨ w.heap.size ≤ k_)) v0_ r1 ∧ Below w0.heap.size w0 w' ∧ Kept w w' (fun k_ => P0_ k_) := by
 have HO0 := zm (show Kd.R Kd.string 9 w w0.heap.size (fun k_ => (P0_ k_ ∨ w.heap.size ≤ k_)) u9000_ l0 from Kd.R_mono ho0 (fun k_ hk => (.inl hk)));have HK := zm (Kept.refl w (fun k_ => P0_ k_));have HW0 := zm hB.size;have HB := zm hB;clear hB;have H : (if 0 < (l0.length : Int) then (V7.l0 k l0 (wrap64 ((l0.length : Int) + ((rdOf ByteArray.empty l0 0).size : Int))) 0) else (none)) = some (r1, r2) := h;clear h;obtain ⟨c2, H⟩ := zJ H;have c2b0 := decide_eq_true c2;have c2b1 : decide (0 < l0.length) = true := decide_eq_true (by omega);clear c2;have H' := zm H;clear H;obtain ⟨Ao3, co3, eo3⟩ := Kd.R_slice HO0.out;subst eo3;have p184 : 0 ≤ (0 : Int) := (by omega);have q184 : 0 < (l0.length : Int) := zd;obtain ⟨ad184, e184, hx184_0⟩ := Kd.at_string (Kd.R_reads' HO0.out).2.2 0 p184 q184;cases e184;have qi184 : (0 < l0.length) = True := eq_true (by omega)
 (try rw [show ((0 : Int)).toNat = 0 from rfl] at hx184_0);(try rw [Addr.add_zero'] at hx184_0);replace p184 := eq_true p184;replace q184 := eq_true q184;go_enter Try.func123, Try.ntmps123;go_wp2;go_loopg [16] k (fun kq v16 w' => ∃ (x16_1 : Int), v16 = .int .i64 x16_1 ∧ Aside0 (V7.l0 kq l0 (wrap64 ((l0.length : Int) + ((rdOf ByteArray.empty l0 0).size : Int))) x16_1 = some (r1, r2)) ∧ Aside0 (kq ≤ k) ∧ Aside0 (Kd.R Kd.string 9 w' w0.heap.size (fun k_ => (P0_ k_ ∨ w.heap.size ≤ k_)) (.slice (some ad184) l0.length co3) l0) ∧ Aside0 (Kept w w' (fun k_ => P0_ k_)) ∧ Aside0 (Below w0.heap.size w0 w'))
 case atStart => exact ⟨(0), zz, H', ⟨Nat.le_refl _⟩, ⟨zP HO0.out⟩, ⟨zH⟩, ⟨zb⟩⟩
 case round =>
  clear H';(try clear p1); (try clear q1); (try clear hx1); (try clear qi1); (try clear c2b0); (try clear c2b1); (try clear p2); (try clear hx184_0); (try clear p184); (try clear q184);obtain ⟨x16_1, rfl, HA, HK1, HO_0, HK, HB⟩ := hrel;cases gk with
  | zero => exact absurd HA.out (by simp [V7.l0])
  | succ k1 =>
   have H := HA.out;clear HA;simp only [V7.l0] at H;by_cases c4 : x16_1 < (wrap64 ((l0.length : Int) + ((rdOf ByteArray.empty l0 0).size : Int)))
   rotate_left
   ·
    rw [if_neg c4] at H;have c4b0 := decide_eq_false c4;clear c4;simp only [Option.some.injEq, Prod.mk.injEq] at H;obtain ⟨rfl, rfl⟩ := H;go_wp2;go_ret2
    exact ⟨_, zr, zP HO_0.out, zb, zH⟩
   rw [if_pos c4] at H;have c4b0 := decide_eq_true c4;clear c4;obtain ⟨⟨t185, t186⟩, A5, H⟩ := zI H;(try dsimp only at H);by_cases c6 : t186 = 1
   rotate_left
   ·
    rw [if_neg c6] at H;have c6b0 : (t186 == 1) = false := beq_eq_false_iff_ne.mpr c6;have c6b1 : (t186 != 1) = true := bne_iff_ne.mpr c6;have H' := zm H;clear H;go_wp2_with (first | ((with_reducible refine gate_callee (f := 58) rfl ?_); refine goesA_ (some 22) Try.func58 #[.slice (some ad184) l0.length co3, .int .i64 x16_1] rfl ?_; (with_reducible refine (V4.calls k1 _ _ l0 x16_1 t185 t186 _ ?side1 ?side2 A5.out).mono ?_); (case side1 => exact (Kd.R_reads' (zP HO_0.out)).2.2); (case side2 => exact (Kd.R_reads' HO_0.out).2.1); rintro e w22 ⟨rfl, hb⟩; refine ⟨_, rfl, ?_⟩; replace HO_0 := zm (Kd.R_below (zP HO_0.out) hb); replace HK := zm (Kept.below (S := (fun k_ => P0_ k_)) zH hb); replace HB := zm (below_step zb hb); (try clear hb)))
    go_roundg k1
    case measure => have := HK1.out; omega
    case rel => exact ⟨(wrap64 (x16_1 + 1)), zz, H', ⟨by have := HK1.out; omega⟩, ⟨zP HO_0.out⟩, ⟨zH⟩, ⟨zb⟩⟩
   rw [if_pos c6] at H;have c6b0 : (t186 == 1) = true := beq_iff_eq.mpr c6;have c6b1 : (t186 != 1) = false := bne_eq_false_iff_eq.mpr c6;clear c6;obtain ⟨t187, A7, H⟩ := zI H;(try dsimp only at H);have H' := zm H;clear H;go_wp2_with (first | ((with_reducible refine gate_callee (f := 58) rfl ?_); refine goesA_ (some 22) Try.func58 #[.slice (some ad184) l0.length co3, .int .i64 x16_1] rfl ?_; (with_reducible refine (V4.calls k1 _ _ l0 x16_1 t185 t186 _ ?side1 ?side2 A5.out).mono ?_); (case side1 => exact (Kd.R_reads' (zP HO_0.out)).2.2); (case side2 => exact (Kd.R_reads' HO_0.out).2.1); rintro e w8 ⟨rfl, hb⟩; refine ⟨_, rfl, ?_⟩; replace HO_0 := zm (Kd.R_below (zP HO_0.out) hb); replace HK := zm (Kept.below (S := (fun k_ => P0_ k_)) zH hb); replace HB := zm (below_step zb hb); (try clear hb)) | ((with_reducible refine gate_callee (f := 110) rfl ?_); refine goesA_ (some 29) Try.func110 #[.slice (some ad184) l0.length co3, .int .i64 x16_1] rfl ?_; (with_reducible refine (J4.calls k1 _ _ l0 x16_1 t187 _ ?side1 ?side2 A7.out).mono ?_); (case side1 => exact (Kd.R_reads' (zP HO_0.out)).2.2); (case side2 => exact (Kd.R_reads' HO_0.out).2.1); rintro e w9 ⟨v188, rfl, ho0, hb⟩; refine ⟨_, rfl, ?_⟩; replace HO_0 := zm (Kd.R_below (zP HO_0.out) hb); have HO189 := zm (Fz.R_lower ho0 (below_size zb)); replace HK := zm (Kept.below (S := (fun k_ => P0_ k_)) zH hb); replace HB := zm (below_step zb hb); (try clear hb); (try clear ho0); obtain ⟨Ao10, co10, eo10⟩ := Fz.R_slice HO189.out; subst eo10))
   go_loopg [31] k1 (fun kq v31 w' => ∃ (x31_2 : Int), v31 = .int .i64 x31_2 ∧ Aside0 (V7.l1 kq l0 x16_1 t185 (wrap64 ((l0.length : Int) + ((rdOf ByteArray.empty l0 0).size : Int))) x16_1 t187 (t187.length : Int) x31_2 = some (r1, r2)) ∧ Aside0 (kq ≤ k1) ∧ Aside0 (Kd.R Kd.string 9 w' w0.heap.size (fun k_ => (P0_ k_ ∨ w.heap.size ≤ k_)) (.slice (some ad184) l0.length co3) l0) ∧ Aside0 (Fz w' w0.heap.size (.slice Ao10 t187.length co10) t187) ∧ Aside0 (Kept w w' (fun k_ => P0_ k_)) ∧ Aside0 (Below w0.heap.size w0 w'))
   case atStart => exact ⟨(0), zz, H', ⟨Nat.le_refl _⟩, ⟨zP HO_0.out⟩, ⟨by (with_reducible repeat (first | apply Fz.R_alloc | apply Fz.R_drewN | apply Fz.R_drew)); exact HO189.out⟩, ⟨zH⟩, ⟨zb⟩⟩
   case round =>
    clear H';(try clear p1); (try clear q1); (try clear hx1); (try clear qi1); (try clear c2b0); (try clear c2b1); (try clear p2); (try clear c4b0); (try clear c6b0); (try clear c6b1); (try clear p6); (try clear hx184_0); (try clear p1); (try clear p184); (try clear p2); (try clear q1); (try clear q184);obtain ⟨x31_2, rfl, HA, HK2, HO_0, HO_29, HK, HB⟩ := hrel;cases gk with
    | zero => exact absurd HA.out (by simp [V7.l1])
    | succ k2 =>
     have H := HA.out;clear HA;simp only [V7.l1] at H;by_cases c11 : x31_2 < (t187.length : Int)
     rotate_left
     ·
      rw [if_neg c11] at H;have c11b0 := decide_eq_false c11;clear c11;have H' := zm H;clear H;go_wp2;go_roundg k2
      case measure => have := HK1.out; have := HK2.out; omega
      case rel => exact ⟨(wrap64 (x16_1 + 1)), zz, H', ⟨by have := HK1.out; have := HK2.out; omega⟩, ⟨zP HO_0.out⟩, ⟨zH⟩, ⟨zb⟩⟩
     rw [if_pos c11] at H;have c11b0 := decide_eq_true c11;clear c11;obtain ⟨c12, H⟩ := zJ H;have c12b0 := decide_eq_true c12;clear c12;obtain ⟨c13, H⟩ := zJ H;have c13b0 := decide_eq_true c13;clear c13;by_cases c14 : (rd t187 x31_2) = 63
     rotate_left
     ·
      rw [if_neg c14] at H;have c14b0 : ((rd t187 x31_2) == 63) = false := beq_eq_false_iff_ne.mpr c14;have c14b1 : ((rd t187 x31_2) != 63) = true := bne_iff_ne.mpr c14;have H' := zm H;clear H;have p190 : 0 ≤ (x31_2 : Int) := zd;have q190 : x31_2 < (t187.length : Int) := zd;obtain ⟨ad190, e190, hx190_0⟩ := Kd.at_int (Fz.R_reads' HO_29.out).2.2 x31_2 p190 q190;cases e190;replace p190 := eq_true p190;replace q190 := eq_true q190;go_wp2;go_roundg k2
      case measure => have := HK1.out; have := HK2.out; omega
      case rel => exact ⟨(wrap64 (x31_2 + 1)), zz, H', ⟨by have := HK1.out; have := HK2.out; omega⟩, ⟨zP HO_0.out⟩, ⟨by (with_reducible repeat (first | apply Fz.R_alloc | apply Fz.R_drewN | apply Fz.R_drew)); exact HO_29.out⟩, ⟨zH⟩, ⟨zb⟩⟩
     rw [if_pos c14] at H;have c14b0 : ((rd t187 x31_2) == 63) = true := beq_iff_eq.mpr c14;have c14b1 : ((rd t187 x31_2) != 63) = false := bne_eq_false_iff_eq.mpr c14;clear c14;by_cases c15 : x16_1 < (l0.length : Int)
     rotate_left
     ·
      rw [if_neg c15] at H;have c15b0 := decide_eq_false c15;clear c15;obtain ⟨t195, A19, H⟩ := zI H;(try dsimp only at H);obtain ⟨t196, A20, H⟩ := zI H;(try dsimp only at H);simp only [Option.some.injEq, Prod.mk.injEq] at H;obtain ⟨rfl, rfl⟩ := H;have p190 : 0 ≤ (x31_2 : Int) := zd;have q190 : x31_2 < (t187.length : Int) := zd;obtain ⟨ad190, e190, hx190_0⟩ := Kd.at_int (Fz.R_reads' HO_29.out).2.2 x31_2 p190 q190;cases e190;replace p190 := eq_true p190;replace q190 := eq_true q190;go_wp2_with (first | ((with_reducible refine gate_callee (f := 59) rfl ?_); refine goesA_ (some 55) Try.func59 #[.int .i64 t185] rfl ?_; (with_reducible refine (M8.calls t185 t195 _ A19.out).mono ?_); rintro e w' ⟨rfl, ⟨nd, rfl⟩⟩; refine ⟨_, rfl, ?_⟩) | ((with_reducible refine gate_callee (f := 67) rfl ?_); refine goesA_ (some 56) Try.func67 #[.slice (some ad184) l0.length co3, .int .i64 x31_2, .int .i64 (wrap64 (x16_1 - (l0.length : Int))), .int .u8 t195] rfl ?_; (with_reducible refine (V8.calls k2 _ _ l0 x31_2 (wrap64 (x16_1 - (l0.length : Int))) t195 t196 _ ?side1 ?side2 A20.out).mono ?_); (case side1 => exact (Kd.R_reads' (zP HO_0.out)).2.2); (case side2 => exact (Kd.R_reads' HO_0.out).2.1); rintro e w21 ⟨v197, rfl, ho0, hb⟩; refine ⟨_, rfl, ?_⟩; have n0_ := zm (Kd.R_elder' (zP HO_0.out) (Kd.R_base ho0) hb); replace HO_29 := zm (Fz.R_below (by (with_reducible repeat (first | apply Fz.R_alloc | apply Fz.R_drewN | apply Fz.R_drew)); exact HO_29.out) hb); have HO198 := zm (Kd.R_lower (Kd.R_new' (Kd.R_newM (M := fun k_ => (P0_ k_ ∨ w.heap.size ≤ k_)) ho0 (by first | exact HK.out.1 | exact (show Kept w _ (fun k_ => P0_ k_) from zH).1) (fun k_ h_ => .inr h_)) (Kd.R_lt (zP HO_0.out))) (below_size zb)); replace HK := zm (Kept.below (S := (fun k_ => P0_ k_)) zH hb); replace HB := zm (below_step zb hb); replace HO_0 := n0_; clear n0_; (try clear hb); (try clear ho0)))
      go_ret2
      exact ⟨_, zr, zP (Kd.R_mono HO198.out (fun _ hk => hk.1.1)), zb, zH⟩
     rw [if_pos c15] at H;have c15b0 := decide_eq_true c15;clear c15;obtain ⟨t191, A16, H⟩ := zI H;(try dsimp only at H);obtain ⟨t192, A17, H⟩ := zI H;(try dsimp only at H);simp only [Option.some.injEq, Prod.mk.injEq] at H;obtain ⟨rfl, rfl⟩ := H;have p190 : 0 ≤ (x31_2 : Int) := zd;have q190 : x31_2 < (t187.length : Int) := zd;obtain ⟨ad190, e190, hx190_0⟩ := Kd.at_int (Fz.R_reads' HO_29.out).2.2 x31_2 p190 q190;cases e190;replace p190 := eq_true p190;replace q190 := eq_true q190;go_wp2_with (first | ((with_reducible refine gate_callee (f := 59) rfl ?_); refine goesA_ (some 46) Try.func59 #[.int .i64 t185] rfl ?_; (with_reducible refine (M8.calls t185 t191 _ A16.out).mono ?_); rintro e w' ⟨rfl, ⟨nd, rfl⟩⟩; refine ⟨_, rfl, ?_⟩) | ((with_reducible refine gate_callee (f := 67) rfl ?_); refine goesA_ (some 47) Try.func67 #[.slice (some ad184) l0.length co3, .int .i64 x16_1, .int .i64 x31_2, .int .u8 t191] rfl ?_; (with_reducible refine (V8.calls k2 _ _ l0 x16_1 x31_2 t191 t192 _ ?side1 ?side2 A17.out).mono ?_); (case side1 => exact (Kd.R_reads' (zP HO_0.out)).2.2); (case side2 => exact (Kd.R_reads' HO_0.out).2.1); rintro e w18 ⟨v193, rfl, ho0, hb⟩; refine ⟨_, rfl, ?_⟩; have n0_ := zm (Kd.R_elder' (zP HO_0.out) (Kd.R_base ho0) hb); replace HO_29 := zm (Fz.R_below (by (with_reducible repeat (first | apply Fz.R_alloc | apply Fz.R_drewN | apply Fz.R_drew)); exact HO_29.out) hb); have HO194 := zm (Kd.R_lower (Kd.R_new' (Kd.R_newM (M := fun k_ => (P0_ k_ ∨ w.heap.size ≤ k_)) ho0 (by first | exact HK.out.1 | exact (show Kept w _ (fun k_ => P0_ k_) from zH).1) (fun k_ h_ => .inr h_)) (Kd.R_lt (zP HO_0.out))) (below_size zb)); replace HK := zm (Kept.below (S := (fun k_ => P0_ k_)) zH hb); replace HB := zm (below_step zb hb); replace HO_0 := n0_; clear n0_; (try clear hb); (try clear ho0)))
     go_ret2
     exact ⟨_, zr, zP (Kd.R_mono HO194.out (fun _ hk => hk.1.1)), zb, zH⟩
end Go.Proofs.Ytjdkdbeenggfaaa.PEr
