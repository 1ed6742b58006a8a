import Derived.Test.YtkfledgkhgcicaaGreatPFgx0
import Derived.Test.YtkfledgkhgcicaaGreatPFgx3
import Derived.Test.YtkfledgkhgcicaaGreatPFgx8
import Derived.Test.YtkfledgkhgcicaaGreatPFgx9
import Derived.Test.YtkfledgkhgcicaaGreatPFgx13
namespace Go.Proofs.YtkfledgkhgcicaaGreat.PFg
open Go.RowKit Go.Proofs.YtkfledgkhgcicaaGreatW.PrintWords Go.Proofs.YtkfledgkhgcicaaGreatW.PrintLast Go.Proofs.YtkfledgkhgcicaaGreatW.PrintMore
attribute [local go_sem] P8 P5 E5 E8 M4 M0 P6 P7   -- for this text's walks alone
set_option linter.unusedVariables false
set_option linter.unusedSimpArgs false
def X6.l0 : Nat → List Int → List Int → Int → Int → Option (Bool)
  | 0, _, _, _, _ => none
  | k + 1, x0, x1, x12, x13 => if x13 < x12 then (if 0 ≤ x13 then (if x13 < (x0.length : Int) then (if x13 < (x1.length : Int) then (if (rd x0 x13) = (rd x1 x13) then (X6.l0 k x0 x1 x12 (wrap64 (x13 + 1))) else (some false)) else (none)) else (none)) else (none)) else (some true)
def X6.f (k : Nat) (l0 : List Int) (l1 : List Int) : Option (Bool) := if (l0.length : Int) = (l1.length : Int) then (X6.l0 k l0 l1 (l0.length : Int) 0) else (some false)
set_option maxHeartbeats 8000000 in
set_option maxRecDepth 100000 in
theorem X6.calls (k : Nat) (A0 : Option Addr) (c0 : Nat) (l0 : List Int) (A1 : Option Addr) (c1 : Nat) (l1 : List Int) (r : Bool) (w : World) (hr0 : Kd.C (Kd.int .i64) w A0 l0.length l0) (hc0 : l0.length ≤ c0) (hr1 : Kd.C (Kd.int .i64) w A1 l1.length l1) (hc1 : l1.length ≤ c1) (h : X6.f k l0 l1 = some r) :
  Calls Tryz.prog 35 #[.slice A0 l0.length c0, .slice A1 l1.length c1] w fun e w' => e = .returned (.bool r) ∧ G6 w w' := by
 have HR0 := zm hr0;have HC0 := zm hc0;clear hr0 hc0;have HR1 := zm hr1;have HC1 := zm hc1;clear hr1 hc1;have H : (if (l0.length : Int) = (l1.length : Int) then (X6.l0 k l0 l1 (l0.length : Int) 0) else (some false)) = some r := h;clear h;by_cases c3 : (l0.length : Int) = (l1.length : Int)
 rotate_left
 ·
  rw [if_neg c3] at H;have c3b0 : ((l0.length : Int) == (l1.length : Int)) = false := beq_eq_false_iff_ne.mpr c3;have c3b1 : ((l0.length : Int) != (l1.length : Int)) = true := bne_iff_ne.mpr c3;have c3b2 : (l0.length == l1.length) = false := by first | simpa using c3 | (simp at c3 ⊢; omega)
  obtain rfl := Option.some.inj H;go_enter Tryz.func35, Tryz.ntmps35;go_wp2;repeat (go_quiet (fail); try go_wp2)
  go_ret
  exact ⟨zz, zw⟩
 rw [if_pos c3] at H;have c3b0 : ((l0.length : Int) == (l1.length : Int)) = true := beq_iff_eq.mpr c3;have c3b1 : ((l0.length : Int) != (l1.length : Int)) = false := bne_eq_false_iff_eq.mpr c3;have c3b2 : (l0.length == l1.length) = true := by first | simpa using c3 | (simp at c3 ⊢; omega)
 clear c3;have H' := zm H;clear H;go_enter Tryz.func35, Tryz.ntmps35;go_wp2;repeat (go_quiet (fail); try go_wp2)
 go_loopg [13] k (fun kq v13 w' => ∃ (x13_1 : Int), v13 = .int .i64 x13_1 ∧ z8 (X6.l0 kq l0 l1 (l0.length : Int) x13_1 = some r) ∧ z8 (kq ≤ k) ∧ G6 w w')
 case atStart => exact ⟨(0), zz, H', ⟨Nat.le_refl _⟩, zw⟩
 case round =>
  clear H';(try clear p2); (try clear c3b0); (try clear c3b1); (try clear c3b2);obtain ⟨x13_1, rfl, HA, HK1, ⟨m1, rfl⟩⟩ := hrel;cases gk with
  | zero => exact absurd HA.out (by simp [X6.l0])
  | succ k1 =>
   have H := HA.out;clear HA;simp only [X6.l0] at H;by_cases c4 : x13_1 < (l0.length : Int)
   rotate_left
   ·
    rw [if_neg c4] at H;have c4b0 := decide_eq_false c4;clear c4;obtain rfl := Option.some.inj H;go_wp2;repeat (go_quiet (fail); try go_wp2)
    go_ret
    exact ⟨zz, zw⟩
   rw [if_pos c4] at H;have c4b0 := decide_eq_true c4;clear c4;obtain ⟨c5, H⟩ := zJ H;have c5b0 := decide_eq_true c5;clear c5;obtain ⟨c6, H⟩ := zJ H;have c6b0 := decide_eq_true c6;clear c6;obtain ⟨c7, H⟩ := zJ H;have c7b0 := decide_eq_true c7;clear c7;by_cases c8 : (rd l0 x13_1) = (rd l1 x13_1)
   rotate_left
   ·
    rw [if_neg c8] at H;have c8b0 : ((rd l0 x13_1) == (rd l1 x13_1)) = false := beq_eq_false_iff_ne.mpr c8;have c8b1 : ((rd l0 x13_1) != (rd l1 x13_1)) = true := bne_iff_ne.mpr c8;obtain rfl := Option.some.inj H;have p457 : 0 ≤ (x13_1 : Int) := zd;have q457 : x13_1 < (l0.length : Int) := zd;obtain ⟨ad457, e457, hx457_0⟩ := Kd.Y9 HR0.out x13_1 p457 q457;cases e457;replace p457 := eq_true p457;replace q457 := eq_true q457;have p458 : 0 ≤ (x13_1 : Int) := zd;have q458 : x13_1 < (l1.length : Int) := zd;obtain ⟨ad458, e458, hx458_0⟩ := Kd.Y9 HR1.out x13_1 p458 q458;cases e458;replace p458 := eq_true p458;replace q458 := eq_true q458;go_wp2;repeat (go_quiet (fail); try go_wp2)
    go_ret
    exact ⟨zz, zw⟩
   rw [if_pos c8] at H;have c8b0 : ((rd l0 x13_1) == (rd l1 x13_1)) = true := beq_iff_eq.mpr c8;have c8b1 : ((rd l0 x13_1) != (rd l1 x13_1)) = false := bne_eq_false_iff_eq.mpr c8;clear c8;have H' := zm H;clear H;have p457 : 0 ≤ (x13_1 : Int) := zd;have q457 : x13_1 < (l0.length : Int) := zd;obtain ⟨ad457, e457, hx457_0⟩ := Kd.Y9 HR0.out x13_1 p457 q457;cases e457;replace p457 := eq_true p457;replace q457 := eq_true q457;have p458 : 0 ≤ (x13_1 : Int) := zd;have q458 : x13_1 < (l1.length : Int) := zd;obtain ⟨ad458, e458, hx458_0⟩ := Kd.Y9 HR1.out x13_1 p458 q458;cases e458;replace p458 := eq_true p458;replace q458 := eq_true q458;go_wp2;repeat (go_quiet (fail); try go_wp2)
   go_roundg k1
   case measure => have := HK1.out; omega
   case rel => exact ⟨(wrap64 (x13_1 + 1)), zz, H', ⟨by have := HK1.out; omega⟩, zw⟩
theorem q6r (b : List Int) : ∀ (xs ys a pa : List Int), a = pa ++ xs → b = pa ++ ys → a.length = b.length → a.length < 4611686018427387904 → X6.l0 (xs.length + 1) a b (a.length : Int) (pa.length : Int) = some (decide (xs = ys))
  | [], ys, a, pa, ha, hb, hl, _ => by
    have e1 : a.length = pa.length := by rw [ha]; simp
    have e2 : b.length = pa.length + ys.length := by rw [hb]; simp
    simp only [List.length_nil, X6.l0]
    rw [if_neg (by omega)]
    have : ys = [] := List.eq_nil_of_length_eq_zero (by omega)
    subst this; rfl
  | x :: xs, ys, a, pa, ha, hb, hl, hm => by
    have e1 : a.length = pa.length + (xs.length + 1) := by rw [ha]; simp
    have e2 : b.length = pa.length + ys.length := by rw [hb]; simp
    have e3 : rd a (pa.length : Int) = x := by rw [ha]; simp [rd]
    rw [show (x :: xs).length + 1 = (xs.length + 1) + 1 from rfl, X6.l0, if_pos (by omega), if_pos (by omega), if_pos (by omega), if_pos (by omega)]
    cases ys with
    | nil => simp at e2; omega
    | cons y ys =>
      have e4 : rd b (pa.length : Int) = y := by rw [hb]; simp [rd]
      rw [e3, e4]
      by_cases c : x = y
      · subst c
        have ew : wrap64 ((pa.length : Int) + 1) = ((pa ++ [x]).length : Int) := by
          unfold wrap64
          simp
          omega
        rw [if_pos rfl, ew, q6r b xs ys a (pa ++ [x]) (by rw [ha]; simp) (by rw [hb]; simp) hl hm]
        simp
      · rw [if_neg c]; simp [c]
theorem v2w (x y : List Int) (h : x.length < 4611686018427387904) : X6.f (x.length + 1) x y = some (decide (x = y)) := by
  unfold X6.f
  by_cases c : x.length = y.length
  · rw [if_pos (by omega)]
    exact q6r y x y x [] rfl rfl c h
  · rw [if_neg (by omega)]
    have : x ≠ y := fun e => c (by rw [e])
    simp [this]
def q3c (l1 l2 : List (List Int)) : Option Bool := if l1.length < 4611686018427387904 ∧ (∀ x, x ∈ l1 → x.length < 4611686018427387904) then some (decide (l1 = l2)) else none
set_option maxHeartbeats 4000000 in
set_option maxRecDepth 100000 in
theorem q6q (A1 : Option Addr) (c1 : Nat) (l1 : List (List Int)) (A2 : Option Addr) (c2 : Nat) (l2 : List (List Int)) (r : Bool) (w : World) (h1 : Kd.C (Kd.slice 3 (Kd.int .i64)) w A1 l1.length l1) (_hc1 : l1.length ≤ c1) (h2 : Kd.C (Kd.slice 3 (Kd.int .i64)) w A2 l2.length l2) (_hc2 : l2.length ≤ c2) (h : q3c l1 l2 = some r) :
    Calls Tryz.prog 34 #[.slice A1 l1.length c1, .slice A2 l2.length c2, .func (.func 35) #[] #[]] w fun e w' => e = .returned (.bool r) ∧ G6 w w' := by
  unfold q3c at h
  split at h
  case isFalse => cases h
  rename_i hh
  obtain ⟨hl, hx⟩ := hh
  have HR : Hid (decide (l1 = l2) = r) := Option.some.inj h
  clear h
  have eg : ∀ args W, (callFunc 35 args).run Tryz.prog W = .ok (.enter 35 args) W := enters_of Tryz.func35 (by kernel_rfl) rfl
  by_cases hlen : l1.length = l2.length
  · have hb : ((l1.length : Int) != (l2.length : Int)) = false := by simp; omega
    have HX : Hid (∀ x, x ∈ l1 → x.length < 4611686018427387904) := hx
    have H1 : Hid (Kd.C (Kd.slice 3 (Kd.int .i64)) w A1 l1.length l1) := h1
    have H2 : Hid (Kd.C (Kd.slice 3 (Kd.int .i64)) w A2 l2.length l2) := h2
    have HL : Hid (l1.length = l2.length) := hlen
    clear hx h1 h2 hlen
    go_enter Tryz.func34, Tryz.ntmps34
    go_wp2
    go_loopw [17] (fun vi wr => ∃ (i : Nat), vi = .int .i64 i ∧ i ≤ l1.length ∧ Hid (G6 w wr ∧ l1.take i = l2.take i)) (fun vi _ => l1.length - (intOf vi).toNat)
    case atStart => exact ⟨0, by go_num, by omega, G6.refl _, rfl⟩
    case round =>
      obtain ⟨i, rfl, hi, HI⟩ := hrel
      by_cases hlt : i < l1.length
      · have hB : Below w.heap.size w wr := by obtain ⟨n, hn⟩ := HI.out.1.out; rw [hn]; exact M5 (Below.refl _ _) n
        obtain ⟨ad1, B1, k1, e1, hx1, hk1, hr1⟩ := q0g (Kd.O1 H1.out hB) (i : Int) (by omega) (by omega)
        obtain ⟨ad2, B2, k2, e2, hx2, hk2, hr2⟩ := q0g (Kd.O1 H2.out hB) (i : Int) (by omega) (by have := HL.out; omega)
        subst e1
        subst e2
        simp only [Int.toNat_natCast] at hx1 hx2
        have p2 : (i : Int) < (l2.length : Int) := by have := HL.out; omega
        have hmem : y8 l1 i ∈ l1 := by unfold y8; simp [hlt]
        have hc := X6.calls _ B1 k1 (y8 l1 i) B2 k2 (y8 l2 i) _ wr hr1 hk1 hr2 hk2 (v2w (y8 l1 i) (y8 l2 i) (HX.out _ hmem))
        by_cases c : y8 l1 i = y8 l2 i
        · rw [decide_eq_true c] at hc
          have HC : Hid (y8 l1 i = y8 l2 i) := c
          clear c
          go_wp2_with (go_at_fn 35; refine hc.mono ?_; rintro e w' ⟨rfl, hd⟩)
          go_roundw
          case rel =>
            refine ⟨i + 1, by go_num, by omega, ⟨⟨?_⟩, ?_⟩⟩
            · obtain ⟨a, ha⟩ := HI.out.1.out
              obtain ⟨b, hb⟩ := hd.out
              exact ⟨a + b, by rw [hb, ha, World.drewN_drewN]⟩
            · have q := HC.out
              have hl2 := HL.out
              rw [List.take_add_one, List.take_add_one, HI.out.2]
              unfold y8 at q
              simp only [Int.toNat_natCast] at q
              rw [List.getElem?_eq_getElem hlt, List.getElem?_eq_getElem (by omega)]
              rw [List.getD_eq_getElem?_getD, List.getD_eq_getElem?_getD, List.getElem?_eq_getElem hlt, List.getElem?_eq_getElem (by omega)] at q
              simp only [Option.getD_some] at q
              rw [q]
          case measure => simp [intOf]; omega
        · rw [decide_eq_false c] at hc
          have hne : Hid (decide (l1 = l2) = false) := decide_eq_false (fun e => c (by rw [e]))
          clear c
          go_wp2_with (go_at_fn 35; refine hc.mono ?_; rintro e w' ⟨rfl, hd⟩)
          (try simp only [Exit.inBlock, Exit.then]); refine bodyPost_ret (results_tmp rfl _ _ _) rfl ?_
          refine ⟨by have z := HR.out; rw [hne.out] at z; subst z; rfl, ⟨?_⟩⟩
          obtain ⟨a, ha⟩ := HI.out.1.out
          obtain ⟨b, hb⟩ := hd.out
          exact ⟨a + b, by rw [hb, ha, World.drewN_drewN]⟩
      · have he : Hid (decide (l1 = l2) = true) := decide_eq_true (by
          have q := HI.out.2
          have hl2 := HL.out
          rwa [List.take_of_length_le (by omega), List.take_of_length_le (by omega)] at q)
        go_wp2
        go_ret
        exact ⟨by have z := HR.out; rw [he.out] at z; subst z; rfl, HI.out.1⟩
  · have hb : ((l1.length : Int) != (l2.length : Int)) = true := by simp; omega
    have hne : Hid (decide (l1 = l2) = false) := decide_eq_false (fun e => hlen (by rw [e]))
    go_enter Tryz.func34, Tryz.ntmps34
    go_wp2
    go_ret
    exact ⟨by have z := HR.out; rw [hne.out] at z; subst z; rfl, G6.refl _⟩
def q33 (x : Int) : Bool := decide (-9223372036854775808 ≤ x ∧ x ≤ 9223372036854775807)
def q2j (f : Int → Option Int) (k : Int) (v : Option Int) : Int → Option Int := fun t => if t = k then v else f t
def soe : List (List Int) → List S48 → (Int → Option Int) → Option (List S48)
  | [], out, _ => some out
  | e :: l, out, M => if e.length = 3 then (if (M (rd e 1)).isSome = decide (rd e 2 = 1) then none else match M (rd e 1) with
      | some s => soe l (out ++ [⟨rd e 1, s, rd e 0⟩]) (q2j M (rd e 1) none)
      | none => soe l out (q2j M (rd e 1) (some (rd e 0)))) else none
noncomputable def D8.f (k : Nat) (l0 : List (List Int)) : Option (List S48 × Bool) :=
  if (l0.length : Int) > 120 then some ([], false) else if (l0.all fun e => e.all q33) = true then (match soe l0 [] (fun _ => none) with
    | none => some ([], false)
    | some out => (O5.f out).bind fun t => if t.2 = true then (K4.f k t.1).bind fun ev => (q3c ev l0).bind fun b => if b = true then some (t.1, true) else some ([], false) else some ([], false)) else none
theorem v5b {x : Int} (h : q33 x = true) : (Lit.int .i64 x).wf = true := by
  have := of_decide_eq_true h
  simp [Lit.wf, IntKind.min, IntKind.max, IntKind.bits, IntKind.signed]; omega
theorem q4y : Go.Maps.Keyed Tryz.prog 3 := Go.Maps.int_keyed Tryz.underlying3
/-- Block g is a map of at most n entries that answers as M does. -/
def MF (w : World) (g n : Nat) (M : Int → Option Int) : Prop := ∃ D : DataW Unit, w.ownsMap Tryz.prog 3 (plainElem Tryz.prog 3) g n D ∧ ∀ k : Int, q33 k = true → Go.Maps.has D (.int .i64 k) = (M k).isSome ∧ D.atKey (.int .i64 k) (.lit (.int .i64 0)) = .lit (.int .i64 ((M k).getD 0))
theorem v9a {w : World} {g n : Nat} {M : Int → Option Int} {D : DataW Unit} (hD : Go.Maps.IsMap D) (h : ∀ k : Int, q33 k = true → Go.Maps.has D (.int .i64 k) = (M k).isSome ∧ D.atKey (.int .i64 k) (.lit (.int .i64 0)) = .lit (.int .i64 ((M k).getD 0))) (x v : Int) (hx : q33 x = true)
    (ho : w.ownsMap Tryz.prog 3 (plainElem Tryz.prog 3) g n (D.put (.int .i64 x) (.lit (.int .i64 v)))) : MF w g n (q2j M x (some v)) := by
  refine ⟨_, ho, fun k hk => ?_⟩
  unfold q2j
  by_cases c : k = x
  · subst c
    rw [if_pos rfl]
    exact ⟨Go.Maps.has_put_same hD (by trivial) _, Go.Maps.atKey_put_same hD (by trivial) _ _⟩
  · rw [if_neg c, Go.Maps.has_put_other (by simpa using c), Go.Maps.atKey_put_other (by simpa using c)]
    exact h k hk
theorem v8e {w : World} {g n : Nat} {M : Int → Option Int} {D : DataW Unit} (h : ∀ k : Int, q33 k = true → Go.Maps.has D (.int .i64 k) = (M k).isSome ∧ D.atKey (.int .i64 k) (.lit (.int .i64 0)) = .lit (.int .i64 ((M k).getD 0))) (x : Int)
    (ho : w.ownsMap Tryz.prog 3 (plainElem Tryz.prog 3) g n (D.del (.int .i64 x))) : MF w g n (q2j M x none) := by
  refine ⟨_, ho, fun k hk => ?_⟩
  unfold q2j
  by_cases c : k = x
  · subst c
    rw [if_pos rfl]
    exact ⟨Go.Maps.has_del_same, Go.Maps.atKey_del_same _⟩
  · rw [if_neg c, Go.Maps.has_del_other (by simpa using c), Go.Maps.atKey_del_other (by simpa using c)]
    exact h k hk
theorem v7u (w : World) : MF (w.alloc (.map #[] 0)) w.heap.size 0 (fun _ => none) := ⟨_, World.ownsMap_made _ _ _ _, fun k _ => ⟨rfl, rfl⟩⟩
theorem j0j {w w' : World} {g n : Nat} {M : Int → Option Int} {row : Option Nat} (h : MF w g n M) (hg : w.grownBy w' row) (hne : some g ≠ row) : MF w' g n M := by
  obtain ⟨D, ho, hD⟩ := h
  exact ⟨D, ho.kept hg hne, hD⟩
theorem j07 {w w' : World} {g n : Nat} {M : Int → Option Int} (h : MF w g n M) (hb : w'.heap[g]? = w.heap[g]?) : MF w' g n M := by
  obtain ⟨D, ⟨es, clock, h1, h2⟩, hD⟩ := h
  exact ⟨D, ⟨es, clock, hb.trans h1, h2⟩, hD⟩
theorem v7q (w : World) (ok : Nat → Prop) (hok : ok w.heap.size) : Kd.R k48 48 (w.alloc (.cells #[] 48)) w.heap.size ok (.slice (some ⟨w.heap.size, 0, none⟩) 0 0) [] := by
  refine ⟨fun k hk => ?_, [], ⟨rfl, .inr ⟨w.heap.size, 0, #[], rfl, Nat.le_refl _, v1c w _, Nat.le_refl _, Nat.zero_le _, rfl, rfl⟩⟩, Q9.none _ _⟩
  have : k = w.heap.size := by simpa [Value.ownBlock] using hk.symm
  rw [this]; exact hok
theorem v5m {a b c : Int} {l : List (List Int)} {out : List S48} {M : Int → Option Int} (hM : M b = none) (h : c = 1) : soe ([a, b, c] :: l) out M = soe l out (q2j M b (some a)) := by
  rw [soe, if_pos (show ([a, b, c] : List Int).length = 3 from rfl), show rd [a, b, c] 1 = b from rfl, show rd [a, b, c] 2 = c from rfl, show rd [a, b, c] 0 = a from rfl, hM, if_neg (by simp [h])]
theorem v5y {a b c s : Int} {l : List (List Int)} {out : List S48} {M : Int → Option Int} (hM : M b = some s) (h : ¬ c = 1) : soe ([a, b, c] :: l) out M = soe l (out ++ [⟨b, s, a⟩]) (q2j M b none) := by
  rw [soe, if_pos (show ([a, b, c] : List Int).length = 3 from rfl), show rd [a, b, c] 1 = b from rfl, show rd [a, b, c] 2 = c from rfl, show rd [a, b, c] 0 = a from rfl, hM, if_neg (by simp [h])]
theorem v1t {a b c : Int} {l : List (List Int)} {out : List S48} {M : Int → Option Int} (h : (M b).isSome = decide (c = 1)) : soe ([a, b, c] :: l) out M = none := by
  rw [soe, if_pos (show ([a, b, c] : List Int).length = 3 from rfl), show rd [a, b, c] 1 = b from rfl, show rd [a, b, c] 2 = c from rfl, if_pos h]
def v8k : Bool × List (List Nat × List Nat) := (true, [([], []), ([], []), ([1], [1]), ([2], [2]), ([], []), ([], []), ([5], [5]), ([6], [6]), ([3, 4, 7], [3, 4, 7]), ([8], [8]), ([0, 9], [0, 9]), ([10, 10, 0, 1, 2, 3, 4, 5, 6, 7, 8, 9, 10], [0, 10])])
def j09 : List Nat := [0, 0, 2, 6, 0, 0, 32, 96, 254, 510, 1023, 2047]
theorem v7j : I5 .any (opsOf Tryz.f16 14) = v8k := by kernel_rfl
theorem v5l : q04 v8k.2 j09 = true := by kernel_rfl
theorem q90 (w : World) : (zeroValue 3).run Tryz.prog w = .ok (.int .i64 0) w := by kernel_rfl
theorem v9u : (Tryz.prog.info? 48).map (fun i => (i.zero, i.size, i.bytes)) = some (some (.agg #[.int .i64 0, .int .i64 0, .int .i64 0]), 3, 24) := by kernel_rfl
set_option maxHeartbeats 8000000 in
set_option maxRecDepth 100000 in
theorem D8.calls (k : Nat) (A0 : Option Addr) (c0 : Nat) (l0 : List (List Int)) (r1 : List (S48)) (r2 : Bool) (w : World) (hr0 : Kd.C (Kd.slice 3 (Kd.int .i64)) w A0 l0.length l0) (hc0 : l0.length ≤ c0) (h : D8.f k l0 = some (r1, r2)) :
  Calls Tryz.prog 16 #[.slice A0 l0.length c0] w fun e w' => ∃ v0_ : Value, e = .returned (.tuple #[v0_, .bool r2]) ∧ Kd.R k48 48 w' w.heap.size (fun _ => True) v0_ r1 ∧ Below w.heap.size w w' := by
  have hmm := @run_makeMap Tryz.prog;unfold D8.f at h
  by_cases c120 : (l0.length : Int) > 120
  · rw [if_pos c120] at h
    obtain ⟨rfl, rfl⟩ := Prod.mk.inj (Option.some.inj h);go_enter Tryz.func16, Tryz.ntmps16;go_wp2;go_ret2
    exact ⟨_, rfl, Kd.U8 _ _ _ _ _, Below.refl _ _⟩
  · rw [if_neg c120] at h
    by_cases hall : (l0.all fun e => e.all q33) = true
    case neg => rw [if_neg hall] at h; cases h
    rw [if_pos hall] at h;have HALL : Hid (∀ e, e ∈ l0 → ∀ x, x ∈ e → q33 x = true) := fun e he x hx => List.all_eq_true.1 (List.all_eq_true.1 hall e he) x hx
    have H : Hid ((match soe l0 [] (fun _ => none) with
      | none => some ([], false)
      | some out => (O5.f out).bind fun t => if t.2 = true then (K4.f k t.1).bind fun ev => (q3c ev l0).bind fun b => if b = true then some (t.1, true) else some ([], false) else some ([], false)) = some (r1, r2)) := h
    have HR : Hid (Kd.C (Kd.slice 3 (Kd.int .i64)) w A0 l0.length l0) := hr0
    have h120 : l0.length ≤ 120 := by omega
    have c120b : decide ((120 : Int) < (l0.length : Int)) = false := decide_eq_false (by omega);clear h hall hr0 c120;go_enter Tryz.func16, Tryz.ntmps16;go_wp2;go_loopw [4, 19] (fun vo vi wr => ∃ (i : Nat) (out : List S48) (M : Int → Option Int), vi = .int .i64 i ∧ i ≤ l0.length ∧ out.length ≤ i ∧
        Hid (Kd.R k48 48 wr w.heap.size (fun k => k ≠ w.heap.size + 1) vo out ∧ MF wr (w.heap.size + 1) i M ∧ Below w.heap.size w wr ∧ w.heap.size + 1 < wr.heap.size ∧ soe (l0.drop i) out M = soe l0 [] (fun _ => none))) (fun vo vi _ => l0.length - (intOf vi).toNat)
    case atStart =>
      refine ⟨0, [], fun _ => none, by go_num, by omega, by simp, ⟨Kd.l9 (v7q w _ (by omega)) ((Below.refl _ _).alloc (Nat.le_refl _) _), ?_, ?_, by simp, rfl⟩⟩
      · have := v7u (w.alloc (.cells #[] 48))
        rwa [show (w.alloc (.cells #[] 48)).heap.size = w.heap.size + 1 by simp] at this
      · exact ((Below.refl _ _).alloc (Nat.le_refl _) _).alloc (by simp) _
    case round =>
      obtain ⟨i, out, M, rfl, hi, hout, HI⟩ := hrel;by_cases hlt : i < l0.length
      · have hB : Below w.heap.size w wr := HI.out.2.2.1
        obtain ⟨ad1, B1, k1, e1, hx0, hk1, hr1⟩ := q0g HR.out (i : Int) (by omega) (by omega);subst e1;have hx1 := zx hB hx0;simp only [Int.toNat_natCast] at hx1;clear hx0;obtain ⟨e, he⟩ : ∃ e, e = y8 l0 i := ⟨_, rfl⟩;rw [← he] at hx1 hk1 hr1;have hdr : l0.drop i = e :: l0.drop (i + 1) := by
          rw [List.drop_eq_getElem_cons hlt, he];unfold y8
          simp [hlt]
        have hmem : e ∈ l0 := by rw [he]; unfold y8; simp [hlt]
        have HE : Hid (l0.drop i = e :: l0.drop (i + 1) ∧ e ∈ l0) := ⟨hdr, hmem⟩
        clear hdr hmem he;by_cases h3 : e.length = 3
        · obtain ⟨a, b, c, rfl⟩ : ∃ a b c, e = [a, b, c] := by
            match e, h3 with
            | [a, b, c], _ => exact ⟨a, b, c, rfl⟩
          obtain ⟨ad, eB, y0⟩ := Kd.Y9 hr1 0 (by omega) (by simp);obtain ⟨ad', eB', y1⟩ := Kd.Y9 hr1 1 (by omega) (by simp);obtain ⟨ad2, eB2, y2⟩ := Kd.Y9 hr1 2 (by omega) (by simp);subst eB;obtain rfl : ad = ad' := by injection eB'
          obtain rfl : ad = ad2 := by injection eB2
          have y0 : w.cell? ad = some (.int .i64 a) := by
            rw [show ((0 : Int)).toNat = 0 from rfl, Addr.add_zero'] at y0; exact y0
          have y1 : w.cell? ⟨ad.block, ad.off + 1, none⟩ = some (.int .i64 b) := y1
          have y2 : w.cell? ⟨ad.block, ad.off + 2, none⟩ = some (.int .i64 c) := y2
          clear eB' eB2 h3;have Y : Hid (w.cell? ad = some (.int .i64 a) ∧ w.cell? ⟨ad.block, ad.off + 1, none⟩ = some (.int .i64 b) ∧ w.cell? ⟨ad.block, ad.off + 2, none⟩ = some (.int .i64 c)) := ⟨y0, y1, y2⟩
          have z0 := zx hB y0;have z1 := zx hB y1;have z2 := zx hB y2;clear y0 y1 y2 hr1 hB;have hal := HALL.out _ HE.out.2;have ha : q33 a = true := hal a (by simp)
          have hb : q33 b = true := hal b (by simp)
          have HA : Hid (q33 a = true) := ha
          have HBb : Hid (q33 b = true) := hb
          obtain ⟨D, hown, hD⟩ := HI.out.2.1;have hDb := hD b hb;have hkey : keyOf Tryz.prog 3 (.int .i64 b) = some (.int .i64 b) := Go.Maps.keyOf_int_mk Tryz.underlying3 (v5b hb)
          have HKEY : Hid _ := hkey
          have HOWN : Hid (wr.ownsMap Tryz.prog 3 (plainElem Tryz.prog 3) (w.heap.size + 1) i D) := hown
          have HD : Hid (Go.Maps.IsMap D ∧ ∀ k : Int, q33 k = true → Go.Maps.has D (.int .i64 k) = (M k).isSome ∧ D.atKey (.int .i64 k) (.lit (.int .i64 0)) = .lit (.int .i64 ((M k).getD 0))) := ⟨hown.isMap, hD⟩
          clear hal ha hb hown hD hkey;have soe1 : soe l0 [] (fun _ => none) = soe ([a, b, c] :: l0.drop (i + 1)) out M := by rw [← HI.out.2.2.2.2, HE.out.1]
          have SOE : Hid _ := soe1
          clear soe1;cases hM : M b with
          | none =>
            rw [hM] at hDb;have hhas : Go.Maps.has D (.int .i64 b) = false := hDb.1
            clear hDb;by_cases h2 : c = 1
            · have h2b : (c == 1) = true := by simp [h2]
              have h2' := h2
              clear h2;have HC1 : Hid (c = 1) := h2'
              clear h2';go_wp2_with (at_lookup; refine wpList_lookup_own_ok_int _ rfl _ _ 52 rfl 3 3 .i64 q4y Tryz.underlying52 Tryz.underlying3 (q90 _) (w.heap.size + 1) i D rfl HOWN.out _ _ rfl HKEY.out ?_; intro cv hat hwc; rw [hhas]; clear hat hwc)
              go_still_tail 7, (by kernel_rfl)
              change wpList _ _ _ _ _ wr.drew
              have HI2 : Hid (Kd.R k48 48 wr.drew w.heap.size (fun k => k ≠ w.heap.size + 1) u4 out ∧ wr.drew.ownsMap Tryz.prog 3 (plainElem Tryz.prog 3) (w.heap.size + 1) i D ∧ Below w.heap.size w wr.drew ∧ w.heap.size + 1 < wr.drew.heap.size) := ⟨Kd.K7 HI.out.1, HOWN.out.drew, HI.out.2.2.1.drew, HI.out.2.2.2.1⟩
              generalize wr.drew = w2 at HI2 ⊢;go_wp2_with (at_mapUpdate; refine wpList_mapUpdate_own _ rfl _ _ _ 52 rfl 3 3 q4y Tryz.underlying52 (plainElem Tryz.prog 3) (w.heap.size + 1) i D rfl HI2.out.2.1 (by unfold maxLen; omega) _ _ _ rfl rfl HKEY.out _ [] (plainElem_int Tryz.underlying3 (v5b HA.out)) ?_; intro w3 hown3 hgrow3)
              go_roundw
              case rel =>
                have hsz := hgrow3.size;exact ⟨i + 1, out, q2j M b (some a), by go_num, by omega, by omega, ⟨Kd.v1i HI2.out.1 hgrow3 (fun k hk e => hk (by injection e)), v9a HD.out.1 HD.out.2 b a HBb.out hown3,
                  Below.grown HI2.out.2.2.1 hgrow3 (by have := HI2.out.2.2.1.size; omega) (fun k hk => by injection hk with hk; omega), by have := HI2.out.2.2.2; omega, by rw [SOE.out, v5m hM HC1.out]⟩⟩
              case measure => simp [intOf]; omega
            · have h2b : (c == 1) = false := by simp [h2]
              have hs : soe l0 [] (fun _ => none) = none := by
                rw [SOE.out, v1t (by rw [hM]; simp [h2])]
              have hh := H.out;rw [hs] at hh;obtain ⟨hh1, hh2⟩ := Prod.mk.inj (Option.some.inj hh);clear hh hs;subst hh1;subst hh2;clear h2;go_wp2_with (at_lookup; refine wpList_lookup_own_ok_int _ rfl _ _ 52 rfl 3 3 .i64 q4y Tryz.underlying52 Tryz.underlying3 (q90 _) (w.heap.size + 1) i D rfl HOWN.out _ _ rfl HKEY.out ?_; intro cv hat hwc; rw [hhas]; clear hat hwc)
              go_ret2
              exact ⟨_, rfl, Kd.U8 _ _ _ _ _, HI.out.2.2.1⟩
          | some s =>
            rw [hM] at hDb;have hhas : Go.Maps.has D (.int .i64 b) = true := hDb.1
            have hatk : Hid (D.atKey (.int .i64 b) (.lit (.int .i64 0)) = .lit (.int .i64 s)) := hDb.2
            clear hDb;by_cases h2 : c = 1
            · have h2b : (c == 1) = true := by simp [h2]
              have hs : soe l0 [] (fun _ => none) = none := by
                rw [SOE.out, v1t (by rw [hM]; simp [h2])]
              have hh := H.out;rw [hs] at hh;obtain ⟨hh1, hh2⟩ := Prod.mk.inj (Option.some.inj hh);clear hh hs;subst hh1;subst hh2;clear h2;go_wp2_with (at_lookup; refine wpList_lookup_own_ok_int _ rfl _ _ 52 rfl 3 3 .i64 q4y Tryz.underlying52 Tryz.underlying3 (q90 _) (w.heap.size + 1) i D rfl HOWN.out _ _ rfl HKEY.out ?_; intro cv hat hwc; rw [hhas]; clear hat hwc)
              go_ret2
              exact ⟨_, rfl, Kd.U8 _ _ _ _ _, HI.out.2.2.1⟩
            · have h2b : (c == 1) = false := by simp [h2]
              have HC1 : Hid (¬ c = 1) := h2
              clear h2;go_wp2_with (at_lookup; refine wpList_lookup_own_ok_int _ rfl _ _ 52 rfl 3 3 .i64 q4y Tryz.underlying52 Tryz.underlying3 (q90 _) (w.heap.size + 1) i D rfl HOWN.out _ _ rfl HKEY.out ?_; intro cv hat hwc; rw [hhas]; have hcv : cv = s := (by have q := hat.symm.trans hatk.out; injection q with q; injection q); clear hat hwc; rw [hcv]; clear hcv)
              refine F7 (n := 12) (S := fun w' => w'.cell? ad = some (.int .i64 a) ∧ w'.cell? ⟨ad.block, ad.off + 1, none⟩ = some (.int .i64 b)) (ds := [9, 10]) #[F,F,F,F,F,F,F,F,F,F,F,F] (by kernel_rfl) rfl rfl ⟨z0, z1⟩ (fun hHeld => ?_)
              refine H6 v7j v5l (fun HT_ HW_ => ?_)
              have HI2 : Hid (Kd.R k48 48 wr.drew w.heap.size (fun k => k ≠ w.heap.size + 1) u4 out ∧ wr.drew.ownsMap Tryz.prog 3 (plainElem Tryz.prog 3) (w.heap.size + 1) i D ∧ Below w.heap.size w wr.drew ∧ w.heap.size + 1 < wr.drew.heap.size) := ⟨Kd.K7 HI.out.1, HOWN.out.drew, HI.out.2.2.1.drew, HI.out.2.2.2.1⟩
              have Z0 : wr.drew.cell? ad = some (.int .i64 a) := z0
              have Z1 : wr.drew.cell? ⟨ad.block, ad.off + 1, none⟩ = some (.int .i64 b) := z1
              clear z0 z1 z2;generalize wr.drew = w2 at HI2 Z0 Z1 hHeld ⊢;refine zU 0 41 #[T,F,F,F,F,F,F,F,F,F,F,F] ?_;refine zU 1 42 #[T,T,F,F,F,F,F,F,F,F,F,F] ?_;refine zU 2 43 #[T,T,T,F,F,F,F,F,F,F,F,F] ?_;refine zU 4 45 #[T,T,T,F,T,F,F,F,F,F,F,F] ?_;refine zU 5 46 #[T,T,T,F,T,T,F,F,F,F,F,F] ?_;refine zU 6 47 #[T,T,T,F,T,T,T,F,F,F,F,F] ?_;refine G9 (i := 3) (N := some 44) (v := ?_) (a' := ?_) #[T,T,T,T,T,T,T,F,F,F,F,F] rfl rfl (Z9 HT_.out HW_.out (by kernel_rfl)) (fun _ _ _ h => h) (Or.inl ⟨by rfl, ?_⟩) hHeld ?_ ?_
              rotate_left
              · rintro w' ⟨s0, s1⟩
                go_simp
                with_reducible rfl
              rotate_left
              · simp only [Act.put, zA, zB, zD]
                rfl
              refine G9 (i := 7) (N := some 48) (v := ?_) (a' := ?_) #[T,T,T,T,T,T,T,T,F,F,F,F] rfl rfl (Z9 HT_.out HW_.out (by kernel_rfl)) (fun _ _ _ h => h) (Or.inl ⟨by rfl, ?_⟩) hHeld ?_ ?_
              rotate_left
              · rintro w' ⟨s0, s1⟩
                go_simp
                with_reducible rfl
              rotate_left
              · simp only [Act.put, zA, zB, zD]
                rfl
              refine zU 8 49 #[T,T,T,T,T,T,T,T,T,F,F,F] ?_;refine q4h (i := 9) (N := some 50) #[T,T,T,T,T,T,T,T,T,T,F,F] rfl rfl (K3 HT_.out (by kernel_rfl)) (by decide) (fun K hK => ?_)
              refine v0f (w1 := ?_) (v := ?_) (by rfl) rfl ?_ ?_
              rotate_left 2
              · go_simp
                constructor
                · rfl
                · rfl
              refine hK.out _ _ ?_
              clear hK K;refine Y8 (a' := ?_) ?_ ?_;rotate_left
              · show Act.put _ (some 50) _ = _
                simp only [Act.put, zA, zB, zD]
                rfl
              refine q4h (i := 10) (N := some 51) #[T,T,T,T,T,T,T,T,T,T,T,F] rfl rfl (K3 HT_.out (by kernel_rfl)) (by decide) (fun K hK => ?_)
              refine Kd.q3m k48 (w0 := w) w.heap.size (by rfl) (.tmp 41) (.tmp 50) 24 48 (.agg #[(.int .i64 0), (.int .i64 0), (.int .i64 0)]) 24 rfl Tryz.underlying24 v9u rfl (by decide) (by omega) u4 out (⟨b, s, a⟩ : S48) [.int .i64 b, .int .i64 s, .int .i64 a] (fun k => k ≠ w.heap.size + 1) (fun _ => False) rfl rfl ?aP (fun _ hk => hk.elim) ?aF ?aO ?aB ?aS ?aL ?_
              (case aP => exact O0 _ _ _ (⟨b, s, a⟩ : S48))
              (case aB => exact HI2.out.2.2.1)
              (case aF => exact fun k hk => by have := HI2.out.2.2.2; omega)
              (case aO => exact HI2.out.1)
              (case aS => have := HI2.out.2.2.1.size; omega)
              (case aL => omega)
              intro v5 w3 ho hb3 hg hat;refine hK.out _ _ ?_
              clear hK K;refine Y8 (a' := ?_) ?_ ?_;rotate_left
              · show Act.put _ (some 51) _ = _
                simp only [Act.put, zA, zB, zD]
                rfl
              refine zU 11 4 #[T,T,T,T,T,T,T,T,T,T,T,T] ?_;refine O7 (U0 HT_.out (by kernel_rfl)) ?_
              clear hHeld Z0 Z1;have hown3 := HI2.out.2.1.kept hg (fun e => by
                have := HI2.out.1.1 (w.heap.size + 1) e.symm
                exact this rfl)
              have hYc := zx hb3 Y.out.2.1;go_wp2_with (at_delete; refine wpList_delete_own _ rfl _ _ 52 3 rfl 3 q4y Tryz.underlying52 (plainElem Tryz.prog 3) (w.heap.size+1) i D rfl hown3 _ _ rfl HKEY.out ?_; intro w4 hown4 hturn4)
              go_roundw
              case rel =>
                have hsz := hturn4.grown.size;have hb4 := Below.grown hb3 hturn4.grown (by have := hb3.size; have := HI2.out.2.2.1.size; omega) (fun k hk => by injection hk with hk; omega);exact ⟨i + 1, out ++ [⟨b, s, a⟩], q2j M b none, by go_num, by omega, by simp; omega, ⟨Kd.v1i ho hturn4.grown (fun k hk e => hk (by injection e)), v8e HD.out.2 b (hown4.mono (by omega)), hb4, by have := HI2.out.2.2.2; have := hg.size; omega, by rw [SOE.out, v5y hM HC1.out]⟩⟩
              case measure => simp [intOf]; omega
        · have h3b : ((e.length : Int) != 3) = true := by simp; omega
          have hs : soe l0 [] (fun _ => none) = none := by
            rw [← HI.out.2.2.2.2, HE.out.1]; unfold soe; rw [if_neg h3]
          have hh := H.out;rw [hs] at hh;obtain ⟨hh1, hh2⟩ := Prod.mk.inj (Option.some.inj hh);clear hh hs;subst hh1;subst hh2;go_wp2;go_ret2
          exact ⟨_, rfl, Kd.U8 _ _ _ _ _, HI.out.2.2.1⟩
      · obtain rfl : i = l0.length := by omega
        have hso : soe l0 [] (fun _ => none) = some out := by rw [← HI.out.2.2.2.2, List.drop_length]; rfl
        have hh := H.out;rw [hso] at hh;replace hh : ((O5.f out).bind fun t => if t.2 = true then (K4.f k t.1).bind fun ev => (q3c ev l0).bind fun b => if b = true then some (t.1, true) else some ([], false) else some ([], false)) = some (r1, r2) := hh
        obtain ⟨A, cap, rfl, hcap, hC⟩ := Kd.q1u HI.out.1;obtain ⟨⟨d, q⟩, h1, h2⟩ := Option.bind_eq_some_iff.1 hh;clear hh hso;have HC1 := O5.calls A cap out d q wr hC hcap h1;cases q with
        | false =>
          obtain ⟨hh1, hh2⟩ := Prod.mk.inj (Option.some.inj h2);subst hh1;subst hh2;go_wp2_with (first | (go_at_call 33; refine HC1.mono ?_; rintro e w1 ⟨v0, rfl, hR, hB⟩))
          go_ret2
          exact ⟨_, rfl, Kd.U8 _ _ _ _ _, HI.out.2.2.1.trans (hB.mono HI.out.2.2.1.size)⟩
        | true =>
          obtain ⟨ev, h3, h4⟩ := Option.bind_eq_some_iff.1 (show ((K4.f k d).bind fun ev => (q3c ev l0).bind fun b => if b = true then some (d, true) else some ([], false)) = some (r1, r2) from h2);obtain ⟨q, h5, h6⟩ := Option.bind_eq_some_iff.1 h4;clear h2 h4;have HEV : Hid (∀ (A : Option Addr) (cap : Nat) (w1 : World), Kd.C k48 w1 A d.length d → d.length ≤ cap → Calls Tryz.prog 24 #[.slice A d.length cap] w1 fun e w' => ∃ v0_ : Value, e = .returned (v0_) ∧ Kd.S (Kd.slice 3 (Kd.int .i64)) 33 w' w1.heap.size (fun _ => True) v0_ ev ∧ Below w1.heap.size w1 w') :=
            fun A cap w1 hr hc => K4.calls k A cap d ev w1 hr hc h3
          have HEQ : Hid (∀ (A : Option Addr) (cap : Nat) (w2 : World), Kd.C (Kd.slice 3 (Kd.int .i64)) w2 A ev.length ev → ev.length ≤ cap → Kd.C (Kd.slice 3 (Kd.int .i64)) w2 A0 l0.length l0 → Calls Tryz.prog 34 #[.slice A ev.length cap, .slice A0 l0.length c0, .func (.func 35) #[] #[]] w2 fun e w' => e = .returned (.bool q) ∧ G6 w2 w') :=
            fun A cap w2 h1 h2 h3 => q6q A cap ev A0 c0 l0 q w2 h1 h2 h3 hc0 h5
          clear h1 h3 h5;cases q with
          | false =>
            obtain ⟨hh1, hh2⟩ := Prod.mk.inj (Option.some.inj h6);subst hh1;subst hh2;go_wp2_with (first | (go_at_call 33; refine HC1.mono ?_; rintro e w1 ⟨v0, rfl, hR, hB⟩; obtain ⟨A', cap', rfl, hcap', hC'⟩ := Kd.q1u hR) | (go_at_call 24; refine (HEV.out A' cap' w1 hC' hcap').mono ?_; rintro e w2 ⟨v1, rfl, hS2, hB2⟩; obtain ⟨A2, cap2, rfl, hcap2, hC2⟩ := Kd.v1f hS2; have hC0 := Kd.O1 HR.out (HI.out.2.2.1.trans ((hB.mono HI.out.2.2.1.size).trans (hB2.mono (Nat.le_trans HI.out.2.2.1.size hB.size)))) ) | (go_at_call 34; refine (HEQ.out A2 cap2 w2 hC2 hcap2 hC0).mono ?_; rintro e w3 ⟨rfl, hD3⟩))
            go_ret2
            exact ⟨_, rfl, Kd.U8 _ _ _ _ _, HI.out.2.2.1.trans ((hB.mono HI.out.2.2.1.size).trans ((hB2.mono (Nat.le_trans HI.out.2.2.1.size hB.size)).trans (hD3.below.mono (Nat.le_trans HI.out.2.2.1.size (Nat.le_trans hB.size hB2.size)))))⟩
          | true =>
            obtain ⟨hh1, hh2⟩ := Prod.mk.inj (Option.some.inj h6);subst hh1;subst hh2;go_wp2_with (first | (go_at_call 33; refine HC1.mono ?_; rintro e w1 ⟨v0, rfl, hR, hB⟩; obtain ⟨A', cap', rfl, hcap', hC'⟩ := Kd.q1u hR) | (go_at_call 24; refine (HEV.out A' cap' w1 hC' hcap').mono ?_; rintro e w2 ⟨v1, rfl, hS2, hB2⟩; obtain ⟨A2, cap2, rfl, hcap2, hC2⟩ := Kd.v1f hS2; have hC0 := Kd.O1 HR.out (HI.out.2.2.1.trans ((hB.mono HI.out.2.2.1.size).trans (hB2.mono (Nat.le_trans HI.out.2.2.1.size hB.size)))) ) | (go_at_call 34; refine (HEQ.out A2 cap2 w2 hC2 hcap2 hC0).mono ?_; rintro e w3 ⟨rfl, hD3⟩))
            go_ret2
            exact ⟨_, rfl, Kd.V4 (Kd.l9 (Kd.l9 hR hB2) hD3.below) HI.out.2.2.1.size, HI.out.2.2.1.trans ((hB.mono HI.out.2.2.1.size).trans ((hB2.mono (Nat.le_trans HI.out.2.2.1.size hB.size)).trans (hD3.below.mono (Nat.le_trans HI.out.2.2.1.size (Nat.le_trans hB.size hB2.size)))))⟩
def W9.l0 : Nat → Int → List (S48) → Int → Int → Option (Int)
  | 0, _, _, _, _ => none
  | k + 1, x3, x6, x7, x8 => if x8 < x7 then (if 0 ≤ x8 then (if x8 < (x6.length : Int) then (W9.l0 k (mx x3 ((q8 x6 x8).f2)) x6 x7 (wrap64 (x8 + 1))) else (none)) else (none)) else (some x3)
def W9.f (k : Nat) (l0 : List (S48)) : Option (Int) := W9.l0 k 0 l0 (l0.length : Int) 0
set_option maxHeartbeats 8000000 in
set_option maxRecDepth 100000 in
theorem W9.calls (k : Nat) (A0 : Option Addr) (c0 : Nat) (l0 : List (S48)) (r : Int) (w : World) (hr0 : Kd.C k48 w A0 l0.length l0) (hc0 : l0.length ≤ c0) (h : W9.f k l0 = some r) :
  Calls Tryz.prog 36 #[.slice A0 l0.length c0] w fun e w' => e = .returned (.int .i64 r) ∧ Below w.heap.size w w' := by
 have hu48 := Tryz.underlying48;have HR0 := zm hr0;have HC0 := zm hc0;clear hr0 hc0;have HB := zm (Below.refl w.heap.size w);have H : (W9.l0 k 0 l0 (l0.length : Int) 0) = some r := h;clear h;have H' := zm H;clear H;go_enter Tryz.func36, Tryz.ntmps36;go_wp2;go_loopg [3, 8] k (fun kq v3 v8 w' => ∃ (x3_1 : Int) (x8_1 : Int), v3 = .int .i64 x3_1 ∧ v8 = .int .i64 x8_1 ∧ z8 (W9.l0 kq x3_1 l0 (l0.length : Int) x8_1 = some r) ∧ z8 (kq ≤ k) ∧ z8 (Below w.heap.size w w'))
 case atStart => exact ⟨(0), (0), zz, zz, H', ⟨Nat.le_refl _⟩, ⟨zb⟩⟩
 case round =>
  clear H';obtain ⟨x3_1, x8_1, rfl, rfl, HA, HK1, HB⟩ := hrel;cases gk with
  | zero => exact absurd HA.out (by simp [W9.l0])
  | succ k1 =>
   have H := HA.out;clear HA;simp only [W9.l0] at H;by_cases c2 : x8_1 < (l0.length : Int)
   rotate_left
   ·
    rw [if_neg c2] at H;have c2b0 := decide_eq_false c2;clear c2;obtain rfl := Option.some.inj H;go_wp2;go_ret
    exact ⟨zr, zb⟩
   rw [if_pos c2] at H;have c2b0 := decide_eq_true c2;clear c2;obtain ⟨c3, H⟩ := zJ H;have c3b0 := decide_eq_true c3;clear c3;obtain ⟨c4, H⟩ := zJ H;have c4b0 := decide_eq_true c4;clear c4;obtain ⟨ji5, hji5⟩ : ∃ j_ : Int, (mx x3_1 ((q8 l0 x8_1).f2)) = j_ := ⟨_, rfl⟩;replace H : (W9.l0 k1 ji5 l0 (l0.length : Int) (wrap64 (x8_1 + 1))) = some r := by first | (rw [hji5] at H; exact H) | (simp only [hji5] at H ⊢; exact H)
   have hji5_ : (if x3_1 < ((q8 l0 x8_1).f2) then ((q8 l0 x8_1).f2) else x3_1) = ji5 := hji5
   have H' := zm H;clear H;have p459 : 0 ≤ (x8_1 : Int) := zd;have q459 : x8_1 < (l0.length : Int) := zd;obtain ⟨ad459, e459, hx459_0, hx459_1, hx459_2⟩ := H9 HR0.out x8_1 p459 q459;cases e459;replace hx459_0 := zx HB.out hx459_0;replace hx459_1 := zx HB.out hx459_1;replace hx459_2 := zx HB.out hx459_2;replace p459 := eq_true p459;replace q459 := eq_true q459;go_wp2_with (first | ((with_reducible refine Q6 (N := 5) rfl ?_); refine V5 ?hg (N := 5) ?hd (cs := #[.int .i64 0, .int .i64 0, .int .i64 0]) (t := 48) ?hr ?_; (case hd => rfl); (case hg => rfl); (case hr => first | (go_simp; done) | (go_simp; rfl)); intro gb460 hg w6 hbox hb; have n0_ := zm (q9 zb hb); have BK460 := zm (hbox); have GW460 := zm (zs hg zb : w.heap.size ≤ gb460); have GE460 := zm (zs hg zb : w.heap.size ≤ gb460); replace HB := n0_; clear n0_; clear hb hbox hg; obtain ⟨hcz7_0, hcz7_1, hcz7_2, hfz7_0, hfz7_1, hfz7_2⟩ := zc3 BK460.out))
   go_roundg k1
   case measure => have := HK1.out; omega
   case rel => exact ⟨(ji5), (wrap64 (x8_1 + 1)), (by first | rfl | (simp; done) | (simp only [← hji5] <;> (first | rfl | simp)) | (simp [*]; done)), zz, H', ⟨by have := HK1.out; omega⟩, ⟨zb⟩⟩
def U3.f (k : Nat) (l0 : List (S48)) : Option (Int × Bool) := (Q3.f k l0).bind fun t461 => (if t461 = true then ((W9.f k l0).bind fun t462 => (some (t462, true))) else (some (0, false)))
set_option maxHeartbeats 8000000 in
set_option maxRecDepth 100000 in
theorem U3.calls (k : Nat) (A0 : Option Addr) (c0 : Nat) (l0 : List (S48)) (r1 : Int) (r2 : Bool) (w : World) (hr0 : Kd.C k48 w A0 l0.length l0) (hc0 : l0.length ≤ c0) (h : U3.f k l0 = some (r1, r2)) :
  Calls Tryz.prog 17 #[.slice A0 l0.length c0] w fun e w' => e = .returned (.tuple #[.int .i64 r1, .bool r2]) ∧ Below w.heap.size w w' := by
 have HR0 := zm hr0;have HC0 := zm hc0;clear hr0 hc0;have HB := zm (Below.refl w.heap.size w);have H : ((Q3.f k l0).bind fun t461 => (if t461 = true then ((W9.f k l0).bind fun t462 => (some (t462, true))) else (some (0, false)))) = some (r1, r2) := h;clear h;obtain ⟨t461, A2, H⟩ := zI H;(try dsimp only at H);by_cases c3 : t461 = true
 rotate_left
 ·
  replace c3 := Bool.eq_false_iff.mpr c3;subst c3;rw [if_neg (show ¬ (false = true) by decide)] at H;simp only [Option.some.injEq, Prod.mk.injEq] at H;obtain ⟨rfl, rfl⟩ := H;go_enter Tryz.func17, Tryz.ntmps17;go_wp2_with (first | ((with_reducible refine y7 (f := 23) rfl ?_); refine o7 (some 5) Tryz.func23 #[.slice A0 l0.length c0] rfl ?_; (with_reducible refine (Q3.calls k _ _ l0 false _ ?side1 ?side2 A2.out).mono ?_); (case side1 => exact zF HR0.out); (case side2 => exact HC0.out); rintro e w7 ⟨rfl, hb⟩; refine ⟨_, rfl, ?_⟩; replace HB := zm (q9 zb hb); (try clear hb)))
  go_ret2
  exact ⟨zr, zb⟩
 subst c3;rw [if_pos rfl] at H;obtain ⟨t462, A4, H⟩ := zI H;(try dsimp only at H);simp only [Option.some.injEq, Prod.mk.injEq] at H;obtain ⟨rfl, rfl⟩ := H;go_enter Tryz.func17, Tryz.ntmps17;go_wp2_with (first | ((with_reducible refine y7 (f := 23) rfl ?_); refine o7 (some 5) Tryz.func23 #[.slice A0 l0.length c0] rfl ?_; (with_reducible refine (Q3.calls k _ _ l0 true _ ?side1 ?side2 A2.out).mono ?_); (case side1 => exact zF HR0.out); (case side2 => exact HC0.out); rintro e w5 ⟨rfl, hb⟩; refine ⟨_, rfl, ?_⟩; replace HB := zm (q9 zb hb); (try clear hb)) | ((with_reducible refine y7 (f := 36) rfl ?_); refine o7 (some 8) Tryz.func36 #[.slice A0 l0.length c0] rfl ?_; (with_reducible refine (W9.calls k _ _ l0 t462 _ ?side1 ?side2 A4.out).mono ?_); (case side1 => exact zC HR0.out); (case side2 => exact HC0.out); rintro e w6 ⟨rfl, hb⟩; refine ⟨_, rfl, ?_⟩; replace HB := zm (q9 zb hb); (try clear hb)))
 go_ret2
 exact ⟨zr, zb⟩
def U5.f (k : Nat) (l0 : List (S48)) : Option (Int × Bool) := (Q7.f k l0).bind fun t463 => (if t463 = true then ((X5.f k l0).bind fun t464 => (some (t464, true))) else (some (0, false)))
set_option maxHeartbeats 8000000 in
set_option maxRecDepth 100000 in
theorem U5.calls (k : Nat) (A0 : Option Addr) (c0 : Nat) (l0 : List (S48)) (r1 : Int) (r2 : Bool) (w : World) (hr0 : Kd.C k48 w A0 l0.length l0) (hc0 : l0.length ≤ c0) (h : U5.f k l0 = some (r1, r2)) :
  Calls Tryz.prog 18 #[.slice A0 l0.length c0] w fun e w' => e = .returned (.tuple #[.int .i64 r1, .bool r2]) ∧ Below w.heap.size w w' := by
 have HR0 := zm hr0;have HC0 := zm hc0;clear hr0 hc0;have HB := zm (Below.refl w.heap.size w);have H : ((Q7.f k l0).bind fun t463 => (if t463 = true then ((X5.f k l0).bind fun t464 => (some (t464, true))) else (some (0, false)))) = some (r1, r2) := h;clear h;obtain ⟨t463, A2, H⟩ := zI H;(try dsimp only at H);by_cases c3 : t463 = true
 rotate_left
 ·
  replace c3 := Bool.eq_false_iff.mpr c3;subst c3;rw [if_neg (show ¬ (false = true) by decide)] at H;simp only [Option.some.injEq, Prod.mk.injEq] at H;obtain ⟨rfl, rfl⟩ := H;go_enter Tryz.func18, Tryz.ntmps18;go_wp2_with (first | ((with_reducible refine y7 (f := 25) rfl ?_); refine o7 (some 5) Tryz.func25 #[.slice A0 l0.length c0] rfl ?_; (with_reducible refine (Q7.calls k _ _ l0 false _ ?side1 ?side2 A2.out).mono ?_); (case side1 => exact zF HR0.out); (case side2 => exact HC0.out); rintro e w7 ⟨rfl, hb⟩; refine ⟨_, rfl, ?_⟩; replace HB := zm (q9 zb hb); (try clear hb)))
  go_ret2
  exact ⟨zr, zb⟩
 subst c3;rw [if_pos rfl] at H;obtain ⟨t464, A4, H⟩ := zI H;(try dsimp only at H);simp only [Option.some.injEq, Prod.mk.injEq] at H;obtain ⟨rfl, rfl⟩ := H;go_enter Tryz.func18, Tryz.ntmps18;go_wp2_with (first | ((with_reducible refine y7 (f := 25) rfl ?_); refine o7 (some 5) Tryz.func25 #[.slice A0 l0.length c0] rfl ?_; (with_reducible refine (Q7.calls k _ _ l0 true _ ?side1 ?side2 A2.out).mono ?_); (case side1 => exact zF HR0.out); (case side2 => exact HC0.out); rintro e w5 ⟨rfl, hb⟩; refine ⟨_, rfl, ?_⟩; replace HB := zm (q9 zb hb); (try clear hb)) | ((with_reducible refine y7 (f := 29) rfl ?_); refine o7 (some 8) Tryz.func29 #[.slice A0 l0.length c0] rfl ?_; (with_reducible refine (X5.calls k _ _ l0 t464 _ ?side1 ?side2 A4.out).mono ?_); (case side1 => exact zC HR0.out); (case side2 => exact HC0.out); rintro e w6 ⟨rfl, hb⟩; refine ⟨_, rfl, ?_⟩; replace HB := zm (q9 zb hb); (try clear hb)))
 go_ret2
 exact ⟨zr, zb⟩
end Go.Proofs.YtkfledgkhgcicaaGreat.PFg
