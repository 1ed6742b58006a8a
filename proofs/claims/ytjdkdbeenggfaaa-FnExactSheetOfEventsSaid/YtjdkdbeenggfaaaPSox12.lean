-- Written for this claim by a program of this session (wip/tpl/patchprint.py), not by print.sh.
import Derived.Test.YtjdkdbeenggfaaaPSox0
import Derived.Test.YtjdkdbeenggfaaaPSox8
import Derived.Test.YtjdkdbeenggfaaaPSox11
namespace Go.Proofs.Ytjdkdbeenggfaaa.PSo
open Go.RowKit Go.Proofs.YtjdkdbeenggfaaaW.PrintWords Go.Proofs.YtjdkdbeenggfaaaW.PrintLast Go.Proofs.YtjdkdbeenggfaaaW.PrintMore
attribute [local go_sem] max2_int min2_int max_two min_two max_three min_three max_four min_four   -- for this text's walks alone
set_option linter.unusedVariables false
set_option linter.unusedSimpArgs false

/-! ### impl_SheetOfEvents: function 54 -/
theorem equal_rows (b : List Int) : ∀ (xs ys a pa : List Int), a = pa ++ xs → b = pa ++ ys → a.length = b.length → a.length < 4611686018427387904 → slices_Equal_int_int.l0 (xs.length + 1) a b (a.length : Int) (pa.length : Int) = some (decide (xs = ys))
  | [], ys, a, pa, ha, hb, hl, _ => by
    have e1 : a.length = pa.length := by rw [ha]; simp
    have e2 : b.length = pa.length + ys.length := by rw [hb]; simp
    simp only [List.length_nil, slices_Equal_int_int.l0]
    rw [if_neg (by omega)]
    have : ys = [] := List.eq_nil_of_length_eq_zero (by omega)
    subst this; rfl
  | x :: xs, ys, a, pa, ha, hb, hl, hm => by
    have e1 : a.length = pa.length + (xs.length + 1) := by rw [ha]; simp
    have e2 : b.length = pa.length + ys.length := by rw [hb]; simp
    have e3 : rd a (pa.length : Int) = x := by rw [ha]; simp [rd]
    rw [show (x :: xs).length + 1 = (xs.length + 1) + 1 from rfl, slices_Equal_int_int.l0, if_pos (by omega), if_pos (by omega), if_pos (by omega), if_pos (by omega)]
    cases ys with
    | nil => simp at e2; omega
    | cons y ys =>
      have e4 : rd b (pa.length : Int) = y := by rw [hb]; simp [rd]
      rw [e3, e4]
      by_cases c : x = y
      · subst c
        have ew : wrap64 ((pa.length : Int) + 1) = ((pa ++ [x]).length : Int) := by
          unfold wrap64
          simp
          omega
        rw [if_pos rfl, ew, equal_rows b xs ys a (pa ++ [x]) (by rw [ha]; simp) (by rw [hb]; simp) hl hm]
        simp
      · rw [if_neg c]; simp [c]
theorem equal_ints (x y : List Int) (h : x.length < 4611686018427387904) : slices_Equal_int_int.f (x.length + 1) x y = some (decide (x = y)) := by
  unfold slices_Equal_int_int.f
  by_cases c : x.length = y.length
  · rw [if_pos (by omega)]
    exact equal_rows y x y x [] rfl rfl c h
  · rw [if_neg (by omega)]
    have : x ≠ y := fun e => c (by rw [e])
    simp [this]
def eqRows (l1 l2 : List (List Int)) : Option Bool := if l1.length < 4611686018427387904 ∧ (∀ x, x ∈ l1 → x.length < 4611686018427387904) then some (decide (l1 = l2)) else none
set_option maxHeartbeats 4000000 in
set_option maxRecDepth 100000 in
theorem EqualFunc_calls (A1 : Option Addr) (c1 : Nat) (l1 : List (List Int)) (A2 : Option Addr) (c2 : Nat) (l2 : List (List Int)) (r : Bool) (w : World) (h1 : Kd.C (Kd.slice 3 (Kd.int .i64)) w A1 l1.length l1) (_hc1 : l1.length ≤ c1) (h2 : Kd.C (Kd.slice 3 (Kd.int .i64)) w A2 l2.length l2) (_hc2 : l2.length ≤ c2) (h : eqRows l1 l2 = some r) :
    Calls Try.prog 104 #[.slice A1 l1.length c1, .slice A2 l2.length c2, .func (.func 105) #[] #[]] w fun e w' => e = .returned (.bool r) ∧ Drawn0 w w' := by
  unfold eqRows at h
  split at h
  case isFalse => cases h
  rename_i hh
  obtain ⟨hl, hx⟩ := hh
  have HR : Hid (decide (l1 = l2) = r) := Option.some.inj h
  clear h
  have eg : ∀ args W, (callFunc 105 args).run Try.prog W = .ok (.enter 105 args) W := enters_of Try.func105 (by kernel_rfl) rfl
  by_cases hlen : l1.length = l2.length
  · have hb : ((l1.length : Int) != (l2.length : Int)) = false := by simp; omega
    have HX : Hid (∀ x, x ∈ l1 → x.length < 4611686018427387904) := hx
    have H1 : Hid (Kd.C (Kd.slice 3 (Kd.int .i64)) w A1 l1.length l1) := h1
    have H2 : Hid (Kd.C (Kd.slice 3 (Kd.int .i64)) w A2 l2.length l2) := h2
    have HL : Hid (l1.length = l2.length) := hlen
    clear hx h1 h2 hlen
    go_enter Try.func104, Try.ntmps104
    go_wp2
    go_loopw [17] (fun vi wr => ∃ (i : Nat), vi = .int .i64 i ∧ i ≤ l1.length ∧ Hid (Drawn0 w wr ∧ l1.take i = l2.take i)) (fun vi _ => l1.length - (intOf vi).toNat)
    case atStart => exact ⟨0, by go_num, by omega, Drawn0.refl _, rfl⟩
    case round =>
      obtain ⟨i, rfl, hi, HI⟩ := hrel
      by_cases hlt : i < l1.length
      · have hB : Below w.heap.size w wr := by obtain ⟨n, hn⟩ := HI.out.1.out; rw [hn]; exact pw_below_drewN (Below.refl _ _) n
        obtain ⟨ad1, B1, k1, e1, hx1, hk1, hr1⟩ := at_L1 (Kd.C_below H1.out hB) (i : Int) (by omega) (by omega)
        obtain ⟨ad2, B2, k2, e2, hx2, hk2, hr2⟩ := at_L1 (Kd.C_below H2.out hB) (i : Int) (by omega) (by have := HL.out; omega)
        subst e1
        subst e2
        simp only [Int.toNat_natCast] at hx1 hx2
        have p2 : (i : Int) < (l2.length : Int) := by have := HL.out; omega
        have hmem : rd_L1 l1 i ∈ l1 := by unfold rd_L1; simp [hlt]
        have hc := slices_Equal_int_int.calls _ B1 k1 (rd_L1 l1 i) B2 k2 (rd_L1 l2 i) _ wr hr1 hk1 hr2 hk2 (equal_ints (rd_L1 l1 i) (rd_L1 l2 i) (HX.out _ hmem))
        by_cases c : rd_L1 l1 i = rd_L1 l2 i
        · rw [decide_eq_true c] at hc
          have HC : Hid (rd_L1 l1 i = rd_L1 l2 i) := c
          clear c
          go_wp2_with (go_at_fn 105; refine hc.mono ?_; rintro e w' ⟨rfl, hd⟩)
          go_roundw
          case rel =>
            refine ⟨i + 1, by go_num, by omega, ⟨⟨?_⟩, ?_⟩⟩
            · obtain ⟨a, ha⟩ := HI.out.1.out
              obtain ⟨b, hb⟩ := hd.out
              exact ⟨a + b, by rw [hb, ha, World.drewN_drewN]⟩
            · have q := HC.out
              have hl2 := HL.out
              rw [List.take_add_one, List.take_add_one, HI.out.2]
              unfold rd_L1 at q
              simp only [Int.toNat_natCast] at q
              rw [List.getElem?_eq_getElem hlt, List.getElem?_eq_getElem (by omega)]
              rw [List.getD_eq_getElem?_getD, List.getD_eq_getElem?_getD, List.getElem?_eq_getElem hlt, List.getElem?_eq_getElem (by omega)] at q
              simp only [Option.getD_some] at q
              rw [q]
          case measure => simp [intOf]; omega
        · rw [decide_eq_false c] at hc
          have hne : Hid (decide (l1 = l2) = false) := decide_eq_false (fun e => c (by rw [e]))
          clear c
          go_wp2_with (go_at_fn 105; refine hc.mono ?_; rintro e w' ⟨rfl, hd⟩)
          (try simp only [Exit.inBlock, Exit.then]); refine bodyPost_ret (results_tmp rfl _ _ _) rfl ?_
          refine ⟨by have z := HR.out; rw [hne.out] at z; subst z; rfl, ⟨?_⟩⟩
          obtain ⟨a, ha⟩ := HI.out.1.out
          obtain ⟨b, hb⟩ := hd.out
          exact ⟨a + b, by rw [hb, ha, World.drewN_drewN]⟩
      · have he : Hid (decide (l1 = l2) = true) := decide_eq_true (by
          have q := HI.out.2
          have hl2 := HL.out
          rwa [List.take_of_length_le (by omega), List.take_of_length_le (by omega)] at q)
        go_wp2
        go_ret
        exact ⟨by have z := HR.out; rw [he.out] at z; subst z; rfl, HI.out.1⟩
  · have hb : ((l1.length : Int) != (l2.length : Int)) = true := by simp; omega
    have hne : Hid (decide (l1 = l2) = false) := decide_eq_false (fun e => hlen (by rw [e]))
    go_enter Try.func104, Try.ntmps104
    go_wp2
    go_ret
    exact ⟨by have z := HR.out; rw [hne.out] at z; subst z; rfl, Drawn0.refl _⟩
def i64b (x : Int) : Bool := decide (-9223372036854775808 ≤ x ∧ x ≤ 9223372036854775807)
def soeUpd (f : Int → Option Int) (k : Int) (v : Option Int) : Int → Option Int := fun t => if t = k then v else f t
def soe : List (List Int) → List S87 → (Int → Option Int) → Option (List S87)
  | [], out, _ => some out
  | e :: l, out, M => if e.length = 3 then (if (M (rd e 1)).isSome = decide (rd e 2 = 1) then none else match M (rd e 1) with
      | some s => soe l (out ++ [⟨rd e 1, s, rd e 0⟩]) (soeUpd M (rd e 1) none)
      | none => soe l out (soeUpd M (rd e 1) (some (rd e 0)))) else none
noncomputable def impl_SheetOfEvents.f (k : Nat) (l0 : List (List Int)) : Option (List S87 × Bool) :=
  if (l0.length : Int) > 120 then some ([], false) else if (l0.all fun e => e.all i64b) = true then (match soe l0 [] (fun _ => none) with
    | none => some ([], false)
    | some out => (impl_sheetOf.f out).bind fun t => if t.2 = true then (impl_eventsOf.f k t.1).bind fun ev => (eqRows ev l0).bind fun b => if b = true then some (t.1, true) else some ([], false) else some ([], false)) else none
theorem impl_SheetOfEvents.mono : ∀ a0 k, LeO (impl_SheetOfEvents.f k a0) (impl_SheetOfEvents.f (k + 1) a0) := by
  intro a0 k
  unfold impl_SheetOfEvents.f
  refine LeO.ite (LeO.refl _) (LeO.ite ?_ (LeO.none _))
  cases soe a0 [] (fun _ => none) with
  | none => exact LeO.refl _
  | some out => exact LeO.bind (LeO.refl _) fun t => LeO.ite (LeO.bind (impl_eventsOf.mono _ _) fun _ => LeO.refl _) (LeO.refl _)
theorem i64_wf {x : Int} (h : i64b x = true) : (Lit.int .i64 x).wf = true := by
  have := of_decide_eq_true h
  simp [Lit.wf, IntKind.min, IntKind.max, IntKind.bits, IntKind.signed]; omega
theorem law104 : Go.Maps.Keyed Try.prog 3 := Go.Maps.int_keyed Try.underlying3
/-- Block g is a map of at most n entries that answers as M does. -/
def MF (w : World) (g n : Nat) (M : Int → Option Int) : Prop := ∃ D : DataW Unit, w.ownsMap Try.prog 3 (plainElem Try.prog 3) g n D ∧ ∀ k : Int, i64b k = true → Go.Maps.has D (.int .i64 k) = (M k).isSome ∧ D.atKey (.int .i64 k) (.lit (.int .i64 0)) = .lit (.int .i64 ((M k).getD 0))
theorem MF_put {w : World} {g n : Nat} {M : Int → Option Int} {D : DataW Unit} (hD : Go.Maps.IsMap D) (h : ∀ k : Int, i64b k = true → Go.Maps.has D (.int .i64 k) = (M k).isSome ∧ D.atKey (.int .i64 k) (.lit (.int .i64 0)) = .lit (.int .i64 ((M k).getD 0))) (x v : Int) (hx : i64b x = true)
    (ho : w.ownsMap Try.prog 3 (plainElem Try.prog 3) g n (D.put (.int .i64 x) (.lit (.int .i64 v)))) : MF w g n (soeUpd M x (some v)) := by
  refine ⟨_, ho, fun k hk => ?_⟩
  unfold soeUpd
  by_cases c : k = x
  · subst c
    rw [if_pos rfl]
    exact ⟨Go.Maps.has_put_same hD (by trivial) _, Go.Maps.atKey_put_same hD (by trivial) _ _⟩
  · rw [if_neg c, Go.Maps.has_put_other (by simpa using c), Go.Maps.atKey_put_other (by simpa using c)]
    exact h k hk
theorem MF_del {w : World} {g n : Nat} {M : Int → Option Int} {D : DataW Unit} (h : ∀ k : Int, i64b k = true → Go.Maps.has D (.int .i64 k) = (M k).isSome ∧ D.atKey (.int .i64 k) (.lit (.int .i64 0)) = .lit (.int .i64 ((M k).getD 0))) (x : Int)
    (ho : w.ownsMap Try.prog 3 (plainElem Try.prog 3) g n (D.del (.int .i64 x))) : MF w g n (soeUpd M x none) := by
  refine ⟨_, ho, fun k hk => ?_⟩
  unfold soeUpd
  by_cases c : k = x
  · subst c
    rw [if_pos rfl]
    exact ⟨Go.Maps.has_del_same, Go.Maps.atKey_del_same _⟩
  · rw [if_neg c, Go.Maps.has_del_other (by simpa using c), Go.Maps.atKey_del_other (by simpa using c)]
    exact h k hk
theorem MF_made (w : World) : MF (w.alloc (.map #[] 0)) w.heap.size 0 (fun _ => none) := ⟨_, World.ownsMap_made _ _ _ _, fun k _ => ⟨rfl, rfl⟩⟩
theorem MF_kept {w w' : World} {g n : Nat} {M : Int → Option Int} {row : Option Nat} (h : MF w g n M) (hg : w.grownBy w' row) (hne : some g ≠ row) : MF w' g n M := by
  obtain ⟨D, ho, hD⟩ := h
  exact ⟨D, ho.kept hg hne, hD⟩
theorem MF_block {w w' : World} {g n : Nat} {M : Int → Option Int} (h : MF w g n M) (hb : w'.heap[g]? = w.heap[g]?) : MF w' g n M := by
  obtain ⟨D, ⟨es, clock, h1, h2⟩, hD⟩ := h
  exact ⟨D, ⟨es, clock, hb.trans h1, h2⟩, hD⟩
theorem empty87 (w : World) (ok : Nat → Prop) (hok : ok w.heap.size) : Kd.R k87 87 (w.alloc (.cells #[] 87)) w.heap.size ok (.slice (some ⟨w.heap.size, 0, none⟩) 0 0) [] := by
  refine ⟨fun k hk => ?_, [], ⟨rfl, .inr ⟨w.heap.size, 0, #[], rfl, Nat.le_refl _, blk_new w _, Nat.le_refl _, Nat.zero_le _, rfl, rfl⟩⟩, Reps.none _ _⟩
  have : k = w.heap.size := by simpa [Value.ownBlock] using hk.symm
  rw [this]; exact hok
theorem soe_none {a b c : Int} {l : List (List Int)} {out : List S87} {M : Int → Option Int} (hM : M b = none) (h : c = 1) : soe ([a, b, c] :: l) out M = soe l out (soeUpd M b (some a)) := by
  rw [soe, if_pos (show ([a, b, c] : List Int).length = 3 from rfl), show rd [a, b, c] 1 = b from rfl, show rd [a, b, c] 2 = c from rfl, show rd [a, b, c] 0 = a from rfl, hM, if_neg (by simp [h])]
theorem soe_some {a b c s : Int} {l : List (List Int)} {out : List S87} {M : Int → Option Int} (hM : M b = some s) (h : ¬ c = 1) : soe ([a, b, c] :: l) out M = soe l (out ++ [⟨b, s, a⟩]) (soeUpd M b none) := by
  rw [soe, if_pos (show ([a, b, c] : List Int).length = 3 from rfl), show rd [a, b, c] 1 = b from rfl, show rd [a, b, c] 2 = c from rfl, show rd [a, b, c] 0 = a from rfl, hM, if_neg (by simp [h])]
theorem soe_bad {a b c : Int} {l : List (List Int)} {out : List S87} {M : Int → Option Int} (h : (M b).isSome = decide (c = 1)) : soe ([a, b, c] :: l) out M = none := by
  rw [soe, if_pos (show ([a, b, c] : List Int).length = 3 from rfl), show rd [a, b, c] 1 = b from rfl, show rd [a, b, c] 2 = c from rfl, if_pos h]
def soeT : Bool × List (List Nat × List Nat) := (true, [([], []), ([], []), ([1], [1]), ([2], [2]), ([], []), ([], []), ([5], [5]), ([6], [6]), ([3, 4, 7], [3, 4, 7]), ([8], [8]), ([0, 9], [0, 9]), ([10, 10, 0, 1, 2, 3, 4, 5, 6, 7, 8, 9, 10], [0, 10])])
def soeB : List Nat := [0, 0, 2, 6, 0, 0, 32, 96, 254, 510, 1023, 2047]
theorem soe_tab : rtab .any (opsOf Try.f54 14) = soeT := by kernel_rfl
theorem soe_bits : waitsOk soeT.2 soeB = true := by kernel_rfl
theorem zero3 (w : World) : (zeroValue 3).run Try.prog w = .ok (.int .i64 0) w := by kernel_rfl
theorem inf87 : (Try.prog.info? 87).map (fun i => (i.zero, i.size, i.bytes)) = some (some (.agg #[.int .i64 0, .int .i64 0, .int .i64 0]), 3, 24) := by kernel_rfl
set_option maxHeartbeats 8000000 in
set_option maxRecDepth 100000 in
theorem impl_SheetOfEvents.calls (k : Nat) (A0 : Option Addr) (c0 : Nat) (l0 : List (List Int)) (r1 : List (S87)) (r2 : Bool) (w : World) (hr0 : Kd.C (Kd.slice 3 (Kd.int .i64)) w A0 l0.length l0) (hc0 : l0.length ≤ c0) (h : impl_SheetOfEvents.f k l0 = some (r1, r2)) :
  Calls Try.prog 54 #[.slice A0 l0.length c0] w fun e w' => ∃ v0_ : Value, e = .returned (.tuple #[v0_, .bool r2]) ∧ Kd.R k87 87 w' w.heap.size (fun _ => True) v0_ r1 ∧ Below w.heap.size w w' := by
  have hmm := @run_makeMap Try.prog
  unfold impl_SheetOfEvents.f at h
  by_cases c120 : (l0.length : Int) > 120
  · rw [if_pos c120] at h
    obtain ⟨rfl, rfl⟩ := Prod.mk.inj (Option.some.inj h)
    go_enter Try.func54, Try.ntmps54
    go_wp2
    go_ret2
    exact ⟨_, rfl, Kd.R_nil _ _ _ _ _, Below.refl _ _⟩
  · rw [if_neg c120] at h
    by_cases hall : (l0.all fun e => e.all i64b) = true
    case neg => rw [if_neg hall] at h; cases h
    rw [if_pos hall] at h
    have HALL : Hid (∀ e, e ∈ l0 → ∀ x, x ∈ e → i64b x = true) := fun e he x hx => List.all_eq_true.1 (List.all_eq_true.1 hall e he) x hx
    have H : Hid ((match soe l0 [] (fun _ => none) with
      | none => some ([], false)
      | some out => (impl_sheetOf.f out).bind fun t => if t.2 = true then (impl_eventsOf.f k t.1).bind fun ev => (eqRows ev l0).bind fun b => if b = true then some (t.1, true) else some ([], false) else some ([], false)) = some (r1, r2)) := h
    have HR : Hid (Kd.C (Kd.slice 3 (Kd.int .i64)) w A0 l0.length l0) := hr0
    have h120 : l0.length ≤ 120 := by omega
    have c120b : decide ((120 : Int) < (l0.length : Int)) = false := decide_eq_false (by omega)
    clear h hall hr0 c120
    go_enter Try.func54, Try.ntmps54
    go_wp2
    go_loopw [4, 19] (fun vo vi wr => ∃ (i : Nat) (out : List S87) (M : Int → Option Int), vi = .int .i64 i ∧ i ≤ l0.length ∧ out.length ≤ i ∧
        Hid (Kd.R k87 87 wr w.heap.size (fun k => k ≠ w.heap.size + 1) vo out ∧ MF wr (w.heap.size + 1) i M ∧ Below w.heap.size w wr ∧ w.heap.size + 1 < wr.heap.size ∧ soe (l0.drop i) out M = soe l0 [] (fun _ => none))) (fun vo vi _ => l0.length - (intOf vi).toNat)
    case atStart =>
      refine ⟨0, [], fun _ => none, by go_num, by omega, by simp, ⟨Kd.R_below (empty87 w _ (by omega)) ((Below.refl _ _).alloc (Nat.le_refl _) _), ?_, ?_, by simp, rfl⟩⟩
      · have := MF_made (w.alloc (.cells #[] 87))
        rwa [show (w.alloc (.cells #[] 87)).heap.size = w.heap.size + 1 by simp] at this
      · exact ((Below.refl _ _).alloc (Nat.le_refl _) _).alloc (by simp) _
    case round =>
      obtain ⟨i, out, M, rfl, hi, hout, HI⟩ := hrel
      by_cases hlt : i < l0.length
      · have hB : Below w.heap.size w wr := HI.out.2.2.1
        obtain ⟨ad1, B1, k1, e1, hx0, hk1, hr1⟩ := at_L1 HR.out (i : Int) (by omega) (by omega)
        subst e1
        have hx1 := zx hB hx0
        simp only [Int.toNat_natCast] at hx1
        clear hx0
        obtain ⟨e, he⟩ : ∃ e, e = rd_L1 l0 i := ⟨_, rfl⟩
        rw [← he] at hx1 hk1 hr1
        have hdr : l0.drop i = e :: l0.drop (i + 1) := by
          rw [List.drop_eq_getElem_cons hlt, he]
          unfold rd_L1
          simp [hlt]
        have hmem : e ∈ l0 := by rw [he]; unfold rd_L1; simp [hlt]
        have HE : Hid (l0.drop i = e :: l0.drop (i + 1) ∧ e ∈ l0) := ⟨hdr, hmem⟩
        clear hdr hmem he
        by_cases h3 : e.length = 3
        · obtain ⟨a, b, c, rfl⟩ : ∃ a b c, e = [a, b, c] := by
            match e, h3 with
            | [a, b, c], _ => exact ⟨a, b, c, rfl⟩
          obtain ⟨ad, eB, y0⟩ := Kd.at_int hr1 0 (by omega) (by simp)
          obtain ⟨ad', eB', y1⟩ := Kd.at_int hr1 1 (by omega) (by simp)
          obtain ⟨ad2, eB2, y2⟩ := Kd.at_int hr1 2 (by omega) (by simp)
          subst eB
          obtain rfl : ad = ad' := by injection eB'
          obtain rfl : ad = ad2 := by injection eB2
          have y0 : w.cell? ad = some (.int .i64 a) := by
            rw [show ((0 : Int)).toNat = 0 from rfl, Addr.add_zero'] at y0; exact y0
          have y1 : w.cell? ⟨ad.block, ad.off + 1, none⟩ = some (.int .i64 b) := y1
          have y2 : w.cell? ⟨ad.block, ad.off + 2, none⟩ = some (.int .i64 c) := y2
          clear eB' eB2 h3
          have Y : Hid (w.cell? ad = some (.int .i64 a) ∧ w.cell? ⟨ad.block, ad.off + 1, none⟩ = some (.int .i64 b) ∧ w.cell? ⟨ad.block, ad.off + 2, none⟩ = some (.int .i64 c)) := ⟨y0, y1, y2⟩
          have z0 := zx hB y0
          have z1 := zx hB y1
          have z2 := zx hB y2
          clear y0 y1 y2 hr1 hB
          have hal := HALL.out _ HE.out.2
          have ha : i64b a = true := hal a (by simp)
          have hb : i64b b = true := hal b (by simp)
          have HA : Hid (i64b a = true) := ha
          have HBb : Hid (i64b b = true) := hb
          obtain ⟨D, hown, hD⟩ := HI.out.2.1
          have hDb := hD b hb
          have hkey : keyOf Try.prog 3 (.int .i64 b) = some (.int .i64 b) := Go.Maps.keyOf_int_mk Try.underlying3 (i64_wf hb)
          have HKEY : Hid _ := hkey
          have HOWN : Hid (wr.ownsMap Try.prog 3 (plainElem Try.prog 3) (w.heap.size + 1) i D) := hown
          have HD : Hid (Go.Maps.IsMap D ∧ ∀ k : Int, i64b k = true → Go.Maps.has D (.int .i64 k) = (M k).isSome ∧ D.atKey (.int .i64 k) (.lit (.int .i64 0)) = .lit (.int .i64 ((M k).getD 0))) := ⟨hown.isMap, hD⟩
          clear hal ha hb hown hD hkey
          have soe1 : soe l0 [] (fun _ => none) = soe ([a, b, c] :: l0.drop (i + 1)) out M := by rw [← HI.out.2.2.2.2, HE.out.1]
          have SOE : Hid _ := soe1
          clear soe1
          cases hM : M b with
          | none =>
            rw [hM] at hDb
            have hhas : Go.Maps.has D (.int .i64 b) = false := hDb.1
            clear hDb
            by_cases h2 : c = 1
            · have h2b : (c == 1) = true := by simp [h2]
              have h2' := h2
              clear h2
              have HC1 : Hid (c = 1) := h2'
              clear h2'
              go_wp2_with (at_lookup; refine wpList_lookup_own_ok_int _ rfl _ _ 104 rfl 3 3 .i64 law104 Try.underlying104 Try.underlying3 (zero3 _) (w.heap.size + 1) i D rfl HOWN.out _ _ rfl HKEY.out ?_; intro cv hat hwc; rw [hhas]; clear hat hwc)
              go_still_tail 7, (by kernel_rfl)
              change wpList _ _ _ _ _ wr.drew
              have HI2 : Hid (Kd.R k87 87 wr.drew w.heap.size (fun k => k ≠ w.heap.size + 1) u4 out ∧ wr.drew.ownsMap Try.prog 3 (plainElem Try.prog 3) (w.heap.size + 1) i D ∧ Below w.heap.size w wr.drew ∧ w.heap.size + 1 < wr.drew.heap.size) := ⟨Kd.R_drew HI.out.1, HOWN.out.drew, HI.out.2.2.1.drew, HI.out.2.2.2.1⟩
              generalize wr.drew = w2 at HI2 ⊢
              go_wp2_with (at_mapUpdate; refine wpList_mapUpdate_own _ rfl _ _ _ 104 rfl 3 3 law104 Try.underlying104 (plainElem Try.prog 3) (w.heap.size + 1) i D rfl HI2.out.2.1 (by unfold maxLen; omega) _ _ _ rfl rfl HKEY.out _ [] (plainElem_int Try.underlying3 (i64_wf HA.out)) ?_; intro w3 hown3 hgrow3)
              go_roundw
              case rel =>
                have hsz := hgrow3.size
                exact ⟨i + 1, out, soeUpd M b (some a), by go_num, by omega, by omega, ⟨Kd.R_grown HI2.out.1 hgrow3 (fun k hk e => hk (by injection e)), MF_put HD.out.1 HD.out.2 b a HBb.out hown3,
                  Below.grown HI2.out.2.2.1 hgrow3 (by have := HI2.out.2.2.1.size; omega) (fun k hk => by injection hk with hk; omega), by have := HI2.out.2.2.2; omega, by rw [SOE.out, soe_none hM HC1.out]⟩⟩
              case measure => simp [intOf]; omega
            · have h2b : (c == 1) = false := by simp [h2]
              have hs : soe l0 [] (fun _ => none) = none := by
                rw [SOE.out, soe_bad (by rw [hM]; simp [h2])]
              have hh := H.out
              rw [hs] at hh
              obtain ⟨hh1, hh2⟩ := Prod.mk.inj (Option.some.inj hh)
              clear hh hs
              subst hh1
              subst hh2
              clear h2
              go_wp2_with (at_lookup; refine wpList_lookup_own_ok_int _ rfl _ _ 104 rfl 3 3 .i64 law104 Try.underlying104 Try.underlying3 (zero3 _) (w.heap.size + 1) i D rfl HOWN.out _ _ rfl HKEY.out ?_; intro cv hat hwc; rw [hhas]; clear hat hwc)
              go_ret2
              exact ⟨_, rfl, Kd.R_nil _ _ _ _ _, HI.out.2.2.1⟩
          | some s =>
            rw [hM] at hDb
            have hhas : Go.Maps.has D (.int .i64 b) = true := hDb.1
            have hatk : Hid (D.atKey (.int .i64 b) (.lit (.int .i64 0)) = .lit (.int .i64 s)) := hDb.2
            clear hDb
            by_cases h2 : c = 1
            · have h2b : (c == 1) = true := by simp [h2]
              have hs : soe l0 [] (fun _ => none) = none := by
                rw [SOE.out, soe_bad (by rw [hM]; simp [h2])]
              have hh := H.out
              rw [hs] at hh
              obtain ⟨hh1, hh2⟩ := Prod.mk.inj (Option.some.inj hh)
              clear hh hs
              subst hh1
              subst hh2
              clear h2
              go_wp2_with (at_lookup; refine wpList_lookup_own_ok_int _ rfl _ _ 104 rfl 3 3 .i64 law104 Try.underlying104 Try.underlying3 (zero3 _) (w.heap.size + 1) i D rfl HOWN.out _ _ rfl HKEY.out ?_; intro cv hat hwc; rw [hhas]; clear hat hwc)
              go_ret2
              exact ⟨_, rfl, Kd.R_nil _ _ _ _ _, HI.out.2.2.1⟩
            · have h2b : (c == 1) = false := by simp [h2]
              have HC1 : Hid (¬ c = 1) := h2
              clear h2
              go_wp2_with (at_lookup; refine wpList_lookup_own_ok_int _ rfl _ _ 104 rfl 3 3 .i64 law104 Try.underlying104 Try.underlying3 (zero3 _) (w.heap.size + 1) i D rfl HOWN.out _ _ rfl HKEY.out ?_; intro cv hat hwc; rw [hhas]; have hcv : cv = s := (by have q := hat.symm.trans hatk.out; injection q with q; injection q); clear hat hwc; rw [hcv]; clear hcv)
              refine start_ (n := 12) (S := fun w' => w'.cell? ad = some (.int .i64 a) ∧ w'.cell? ⟨ad.block, ad.off + 1, none⟩ = some (.int .i64 b)) (ds := [9, 10]) #[F,F,F,F,F,F,F,F,F,F,F,F] (by kernel_rfl) rfl rfl ⟨z0, z1⟩ (fun hHeld => ?_)
              refine with_tabW soe_tab soe_bits (fun HT_ HW_ => ?_)
              have HI2 : Hid (Kd.R k87 87 wr.drew w.heap.size (fun k => k ≠ w.heap.size + 1) u4 out ∧ wr.drew.ownsMap Try.prog 3 (plainElem Try.prog 3) (w.heap.size + 1) i D ∧ Below w.heap.size w wr.drew ∧ w.heap.size + 1 < wr.drew.heap.size) := ⟨Kd.R_drew HI.out.1, HOWN.out.drew, HI.out.2.2.1.drew, HI.out.2.2.2.1⟩
              have Z0 : wr.drew.cell? ad = some (.int .i64 a) := z0
              have Z1 : wr.drew.cell? ⟨ad.block, ad.off + 1, none⟩ = some (.int .i64 b) := z1
              clear z0 z1 z2
              generalize wr.drew = w2 at HI2 Z0 Z1 hHeld ⊢
              refine zU 0 41 #[T,F,F,F,F,F,F,F,F,F,F,F] ?_
              refine zU 1 42 #[T,T,F,F,F,F,F,F,F,F,F,F] ?_
              refine zU 2 43 #[T,T,T,F,F,F,F,F,F,F,F,F] ?_
              refine zU 4 45 #[T,T,T,F,T,F,F,F,F,F,F,F] ?_
              refine zU 5 46 #[T,T,T,F,T,T,F,F,F,F,F,F] ?_
              refine zU 6 47 #[T,T,T,F,T,T,T,F,F,F,F,F] ?_
              refine take_ (i := 3) (N := some 44) (v := ?_) (a' := ?_) #[T,T,T,T,T,T,T,F,F,F,F,F] rfl rfl (take_ofW HT_.out HW_.out (by kernel_rfl)) (fun _ _ _ h => h) (Or.inl ⟨by rfl, ?_⟩) hHeld ?_ ?_
              rotate_left
              · rintro w' ⟨s0, s1⟩
                go_simp
                with_reducible rfl
              rotate_left
              · simp only [Act.put, zA, zB, zD]
                rfl
              refine take_ (i := 7) (N := some 48) (v := ?_) (a' := ?_) #[T,T,T,T,T,T,T,T,F,F,F,F] rfl rfl (take_ofW HT_.out HW_.out (by kernel_rfl)) (fun _ _ _ h => h) (Or.inl ⟨by rfl, ?_⟩) hHeld ?_ ?_
              rotate_left
              · rintro w' ⟨s0, s1⟩
                go_simp
                with_reducible rfl
              rotate_left
              · simp only [Act.put, zA, zB, zD]
                rfl
              refine zU 8 49 #[T,T,T,T,T,T,T,T,T,F,F,F] ?_
              refine last_ (i := 9) (N := some 50) #[T,T,T,T,T,T,T,T,T,T,F,F] rfl rfl (one_of HT_.out (by kernel_rfl)) (by decide) (fun K hK => ?_)
              refine value_ (w1 := ?_) (v := ?_) (by rfl) rfl ?_ ?_
              rotate_left 2
              · go_simp
                constructor
                · rfl
                · rfl
              refine hK.out _ _ ?_
              clear hK K
              refine norm_ (a' := ?_) ?_ ?_
              rotate_left
              · show Act.put _ (some 50) _ = _
                simp only [Act.put, zA, zB, zD]
                rfl
              refine last_ (i := 10) (N := some 51) #[T,T,T,T,T,T,T,T,T,T,T,F] rfl rfl (one_of HT_.out (by kernel_rfl)) (by decide) (fun K hK => ?_)
              refine Kd.R_append_step k87 (w0 := w) w.heap.size (by rfl) (.tmp 41) (.tmp 50) 39 87 (.agg #[(.int .i64 0), (.int .i64 0), (.int .i64 0)]) 24 rfl Try.underlying39 inf87 rfl (by decide) (by omega) u4 out (⟨b, s, a⟩ : S87) [.int .i64 b, .int .i64 s, .int .i64 a] (fun k => k ≠ w.heap.size + 1) (fun _ => False) rfl rfl ?aP (fun _ hk => hk.elim) ?aF ?aO ?aB ?aS ?aL ?_
              (case aP => exact k87_mkM _ _ _ (⟨b, s, a⟩ : S87))
              (case aB => exact HI2.out.2.2.1)
              (case aF => exact fun k hk => by have := HI2.out.2.2.2; omega)
              (case aO => exact HI2.out.1)
              (case aS => have := HI2.out.2.2.1.size; omega)
              (case aL => omega)
              intro v5 w3 ho hb3 hg hat
              refine hK.out _ _ ?_
              clear hK K
              refine norm_ (a' := ?_) ?_ ?_
              rotate_left
              · show Act.put _ (some 51) _ = _
                simp only [Act.put, zA, zB, zD]
                rfl
              refine zU 11 4 #[T,T,T,T,T,T,T,T,T,T,T,T] ?_
              refine done_ (done_of HT_.out (by kernel_rfl)) ?_
              clear hHeld Z0 Z1
              have hown3 := HI2.out.2.1.kept hg (fun e => by
                have := HI2.out.1.1 (w.heap.size + 1) e.symm
                exact this rfl)
              have hYc := zx hb3 Y.out.2.1
              go_wp2_with (at_delete; refine wpList_delete_own _ rfl _ _ 104 3 rfl 3 law104 Try.underlying104 (plainElem Try.prog 3) (w.heap.size+1) i D rfl hown3 _ _ rfl HKEY.out ?_; intro w4 hown4 hturn4)
              go_roundw
              case rel =>
                have hsz := hturn4.grown.size
                have hb4 := Below.grown hb3 hturn4.grown (by have := hb3.size; have := HI2.out.2.2.1.size; omega) (fun k hk => by injection hk with hk; omega)
                exact ⟨i + 1, out ++ [⟨b, s, a⟩], soeUpd M b none, by go_num, by omega, by simp; omega, ⟨Kd.R_grown ho hturn4.grown (fun k hk e => hk (by injection e)), MF_del HD.out.2 b (hown4.mono (by omega)), hb4, by have := HI2.out.2.2.2; have := hg.size; omega, by rw [SOE.out, soe_some hM HC1.out]⟩⟩
              case measure => simp [intOf]; omega
        · have h3b : ((e.length : Int) != 3) = true := by simp; omega
          have hs : soe l0 [] (fun _ => none) = none := by
            rw [← HI.out.2.2.2.2, HE.out.1]; unfold soe; rw [if_neg h3]
          have hh := H.out
          rw [hs] at hh
          obtain ⟨hh1, hh2⟩ := Prod.mk.inj (Option.some.inj hh)
          clear hh hs
          subst hh1
          subst hh2
          go_wp2
          go_ret2
          exact ⟨_, rfl, Kd.R_nil _ _ _ _ _, HI.out.2.2.1⟩
      · obtain rfl : i = l0.length := by omega
        have hso : soe l0 [] (fun _ => none) = some out := by rw [← HI.out.2.2.2.2, List.drop_length]; rfl
        have hh := H.out
        rw [hso] at hh
        replace hh : ((impl_sheetOf.f out).bind fun t => if t.2 = true then (impl_eventsOf.f k t.1).bind fun ev => (eqRows ev l0).bind fun b => if b = true then some (t.1, true) else some ([], false) else some ([], false)) = some (r1, r2) := hh
        obtain ⟨A, cap, rfl, hcap, hC⟩ := Kd.R_reads HI.out.1
        obtain ⟨⟨d, q⟩, h1, h2⟩ := Option.bind_eq_some_iff.1 hh
        clear hh hso
        have HC1 := impl_sheetOf.calls A cap out d q wr hC hcap h1
        cases q with
        | false =>
          obtain ⟨hh1, hh2⟩ := Prod.mk.inj (Option.some.inj h2)
          subst hh1
          subst hh2
          go_wp2_with (first | (go_at_call 103; refine HC1.mono ?_; rintro e w1 ⟨v0, rfl, hR, hB⟩))
          go_ret2
          exact ⟨_, rfl, Kd.R_nil _ _ _ _ _, HI.out.2.2.1.trans (hB.mono HI.out.2.2.1.size)⟩
        | true =>
          obtain ⟨ev, h3, h4⟩ := Option.bind_eq_some_iff.1 (show ((impl_eventsOf.f k d).bind fun ev => (eqRows ev l0).bind fun b => if b = true then some (d, true) else some ([], false)) = some (r1, r2) from h2)
          obtain ⟨q, h5, h6⟩ := Option.bind_eq_some_iff.1 h4
          clear h2 h4
          have HEV : Hid (∀ (A : Option Addr) (cap : Nat) (w1 : World), Kd.C k87 w1 A d.length d → d.length ≤ cap → Calls Try.prog 77 #[.slice A d.length cap] w1 fun e w' => ∃ v0_ : Value, e = .returned (v0_) ∧ Kd.S (Kd.slice 3 (Kd.int .i64)) 54 w' w1.heap.size (fun _ => True) v0_ ev ∧ Below w1.heap.size w1 w') :=
            fun A cap w1 hr hc => impl_eventsOf.calls k A cap d ev w1 hr hc h3
          have HEQ : Hid (∀ (A : Option Addr) (cap : Nat) (w2 : World), Kd.C (Kd.slice 3 (Kd.int .i64)) w2 A ev.length ev → ev.length ≤ cap → Kd.C (Kd.slice 3 (Kd.int .i64)) w2 A0 l0.length l0 → Calls Try.prog 104 #[.slice A ev.length cap, .slice A0 l0.length c0, .func (.func 105) #[] #[]] w2 fun e w' => e = .returned (.bool q) ∧ Drawn0 w2 w') :=
            fun A cap w2 h1 h2 h3 => EqualFunc_calls A cap ev A0 c0 l0 q w2 h1 h2 h3 hc0 h5
          clear h1 h3 h5
          cases q with
          | false =>
            obtain ⟨hh1, hh2⟩ := Prod.mk.inj (Option.some.inj h6)
            subst hh1
            subst hh2
            go_wp2_with (first | (go_at_call 103; refine HC1.mono ?_; rintro e w1 ⟨v0, rfl, hR, hB⟩; obtain ⟨A', cap', rfl, hcap', hC'⟩ := Kd.R_reads hR) | (go_at_call 77; refine (HEV.out A' cap' w1 hC' hcap').mono ?_; rintro e w2 ⟨v1, rfl, hS2, hB2⟩; obtain ⟨A2, cap2, rfl, hcap2, hC2⟩ := Kd.S_reads hS2; have hC0 := Kd.C_below HR.out (HI.out.2.2.1.trans ((hB.mono HI.out.2.2.1.size).trans (hB2.mono (Nat.le_trans HI.out.2.2.1.size hB.size)))) ) | (go_at_call 104; refine (HEQ.out A2 cap2 w2 hC2 hcap2 hC0).mono ?_; rintro e w3 ⟨rfl, hD3⟩))
            go_ret2
            exact ⟨_, rfl, Kd.R_nil _ _ _ _ _, HI.out.2.2.1.trans ((hB.mono HI.out.2.2.1.size).trans ((hB2.mono (Nat.le_trans HI.out.2.2.1.size hB.size)).trans (hD3.below.mono (Nat.le_trans HI.out.2.2.1.size (Nat.le_trans hB.size hB2.size)))))⟩
          | true =>
            obtain ⟨hh1, hh2⟩ := Prod.mk.inj (Option.some.inj h6)
            subst hh1
            subst hh2
            go_wp2_with (first | (go_at_call 103; refine HC1.mono ?_; rintro e w1 ⟨v0, rfl, hR, hB⟩; obtain ⟨A', cap', rfl, hcap', hC'⟩ := Kd.R_reads hR) | (go_at_call 77; refine (HEV.out A' cap' w1 hC' hcap').mono ?_; rintro e w2 ⟨v1, rfl, hS2, hB2⟩; obtain ⟨A2, cap2, rfl, hcap2, hC2⟩ := Kd.S_reads hS2; have hC0 := Kd.C_below HR.out (HI.out.2.2.1.trans ((hB.mono HI.out.2.2.1.size).trans (hB2.mono (Nat.le_trans HI.out.2.2.1.size hB.size)))) ) | (go_at_call 104; refine (HEQ.out A2 cap2 w2 hC2 hcap2 hC0).mono ?_; rintro e w3 ⟨rfl, hD3⟩))
            go_ret2
            exact ⟨_, rfl, Kd.R_lower (Kd.R_below (Kd.R_below hR hB2) hD3.below) HI.out.2.2.1.size, HI.out.2.2.1.trans ((hB.mono HI.out.2.2.1.size).trans ((hB2.mono (Nat.le_trans HI.out.2.2.1.size hB.size)).trans (hD3.below.mono (Nat.le_trans HI.out.2.2.1.size (Nat.le_trans hB.size hB2.size)))))⟩

/-! ### laws_heldHoleS: function 55 -/
def laws_heldHoleS.l0 : Nat → List (S87) → Int → Int → Option (Int)
  | 0, _, _, _ => none
  | k + 1, x0, x1, x5 => if x5 < (x0.length : Int) then (if 0 ≤ x5 then (if ((rd_T87 x0 x5).f0) = x1 then (if ((rd_T87 x0 x5).f1) = (wrap64 (x1 + 1)) then (if ((rd_T87 x0 x5).f2) = (wrap64 ((wrap64 (x1 + 1)) + 1)) then (laws_heldHoleS.l0 k x0 (wrap64 ((wrap64 ((wrap64 (x1 + 1)) + 1)) + 1)) (wrap64 (x5 + 1))) else (some (-1))) else (some (-1))) else (some (-1))) else (none)) else (some x1)
def laws_heldHoleS.f (k : Nat) (l0 : List (S87)) (a1 : Int) : Option (Int) := laws_heldHoleS.l0 k l0 a1 0
theorem laws_heldHoleS.mono_l : ∀ k, (∀ y0 y1 y2, LeO (laws_heldHoleS.l0 k y0 y1 y2) (laws_heldHoleS.l0 (k + 1) y0 y1 y2))
  | 0 => fun _ _ _ r h => by simp [laws_heldHoleS.l0] at h
  | k + 1 => by
    have ih0 := laws_heldHoleS.mono_l k
    · intro y0 y1 y2
      unfold laws_heldHoleS.l0
      repeat' first
      | (with_reducible exact ih0 _ _ _)
      | (with_reducible exact LeO.refl _)
      | (with_reducible exact LeO.none _)
      | (with_reducible refine LeO.ite ?_ ?_)
      | (with_reducible refine LeO.bind ?_ (fun _ => ?_))
      | exact ih0 _ _ _
      | exact LeO.none _
      | refine LeO.ite ?_ ?_
      | refine LeO.bind ?_ (fun _ => ?_)
theorem laws_heldHoleS.mono : ∀ a0 a1 k, LeO (laws_heldHoleS.f k a0 a1) (laws_heldHoleS.f (k + 1) a0 a1) := by
  intro a0 a1 k
  have ih0 := laws_heldHoleS.mono_l k
  unfold laws_heldHoleS.f
  repeat' first
      | (with_reducible exact ih0 _ _ _)
      | (with_reducible exact LeO.refl _)
      | (with_reducible exact LeO.none _)
      | (with_reducible refine LeO.ite ?_ ?_)
      | (with_reducible refine LeO.bind ?_ (fun _ => ?_))
      | exact ih0 _ _ _
      | exact LeO.none _
      | refine LeO.ite ?_ ?_
      | refine LeO.bind ?_ (fun _ => ?_)
set_option maxHeartbeats 8000000 in
set_option maxRecDepth 100000 in
theorem laws_heldHoleS.calls (k : Nat) (A0 : Option Addr) (c0 : Nat) (l0 : List (S87)) (a1 : Int) (r : Int) (w : World) (hr0 : Kd.C k87 w A0 l0.length l0) (hc0 : l0.length ≤ c0) (h : laws_heldHoleS.f k l0 a1 = some r) :
  Calls Try.prog 55 #[.slice A0 l0.length c0, .int .i64 a1] w fun e w' => e = .returned (.int .i64 r) ∧ Drawn0 w w' := by
 have HR0 := zm hr0
 have HC0 := zm hc0
 clear hr0 hc0
 have H : (laws_heldHoleS.l0 k l0 a1 0) = some r := h
 clear h
 have H' := zm H
 clear H
 go_enter Try.func55, Try.ntmps55
 go_wp2
 go_loopg [1, 5] k (fun kq v1 v5 w' => ∃ (x1_1 : Int) (x5_1 : Int), v1 = .int .i64 x1_1 ∧ v5 = .int .i64 x5_1 ∧ Aside0 (laws_heldHoleS.l0 kq l0 x1_1 x5_1 = some r) ∧ Aside0 (kq ≤ k) ∧ Drawn0 w w')
 case atStart => exact ⟨(a1), (0), (by first | rfl | (simp; done) | (simp [*]; done)), (by first | rfl | (simp; done) | (simp [*]; done)), H', ⟨Nat.le_refl _⟩, by repeat (first | exact Drawn0.refl _ | apply Drawn0.step)⟩
 case round =>
  clear H'
  try clear p2
  obtain ⟨x1_1, x5_1, rfl, rfl, HA, HK1, ⟨m1, rfl⟩⟩ := hrel
  cases gk with
  | zero => exact absurd HA.out (by simp [laws_heldHoleS.l0])
  | succ k1 =>
   have H := HA.out
   clear HA
   simp only [laws_heldHoleS.l0] at H
   by_cases c3 : x5_1 < (l0.length : Int)
   rotate_left
   ·
    rw [if_neg c3] at H
    have c3b0 : decide (x5_1 < (l0.length : Int)) = false := decide_eq_false c3
    clear c3
    obtain rfl := Option.some.inj H
    go_wp2
    go_ret
    exact ⟨by first | rfl | (simp; done) | (simp [*]; done), by repeat (first | exact Drawn0.refl _ | apply Drawn0.step)⟩

   rw [if_pos c3] at H
   have c3b0 : decide (x5_1 < (l0.length : Int)) = true := decide_eq_true c3
   clear c3
   by_cases c4 : 0 ≤ x5_1
   rotate_left
   ·
    rw [if_neg c4] at H
    exact absurd H (by simp)
   rw [if_pos c4] at H
   have c4b0 : decide (0 ≤ x5_1) = true := decide_eq_true c4
   clear c4
   by_cases c5 : ((rd_T87 l0 x5_1).f0) = x1_1
   rotate_left
   ·
    rw [if_neg c5] at H
    have c5b0 : (((rd_T87 l0 x5_1).f0) == x1_1) = false := beq_eq_false_iff_ne.mpr c5
    have c5b1 : (((rd_T87 l0 x5_1).f0) != x1_1) = true := bne_iff_ne.mpr c5
    obtain rfl := Option.some.inj H
    have p239 : 0 ≤ (x5_1 : Int) := zd
    have q239 : x5_1 < (l0.length : Int) := zd
    obtain ⟨ad239, e239, hx239_0, hx239_1, hx239_2⟩ := at_T87 HR0.out x5_1 p239 q239
    cases e239
    replace p239 := eq_true p239
    replace q239 := eq_true q239
    go_wp2
    go_ret
    exact ⟨by first | rfl | (simp; done) | (simp [*]; done), by repeat (first | exact Drawn0.refl _ | apply Drawn0.step)⟩
   rw [if_pos c5] at H
   have c5b0 : (((rd_T87 l0 x5_1).f0) == x1_1) = true := beq_iff_eq.mpr c5
   have c5b1 : (((rd_T87 l0 x5_1).f0) != x1_1) = false := bne_eq_false_iff_eq.mpr c5
   clear c5
   by_cases c6 : ((rd_T87 l0 x5_1).f1) = (wrap64 (x1_1 + 1))
   rotate_left
   ·
    rw [if_neg c6] at H
    have c6b0 : (((rd_T87 l0 x5_1).f1) == (wrap64 (x1_1 + 1))) = false := beq_eq_false_iff_ne.mpr c6
    have c6b1 : (((rd_T87 l0 x5_1).f1) != (wrap64 (x1_1 + 1))) = true := bne_iff_ne.mpr c6
    obtain rfl := Option.some.inj H
    have p239 : 0 ≤ (x5_1 : Int) := zd
    have q239 : x5_1 < (l0.length : Int) := zd
    obtain ⟨ad239, e239, hx239_0, hx239_1, hx239_2⟩ := at_T87 HR0.out x5_1 p239 q239
    cases e239
    replace p239 := eq_true p239
    replace q239 := eq_true q239
    have p240 : 0 ≤ (x5_1 : Int) := zd
    have q240 : x5_1 < (l0.length : Int) := zd
    obtain ⟨ad240, e240, hx240_0, hx240_1, hx240_2⟩ := at_T87 HR0.out x5_1 p240 q240
    obtain rfl : ad239 = ad240 := (by injection e240)
    skip
    replace p240 := eq_true p240
    replace q240 := eq_true q240
    go_wp2
    go_ret
    exact ⟨by first | rfl | (simp; done) | (simp [*]; done), by repeat (first | exact Drawn0.refl _ | apply Drawn0.step)⟩
   rw [if_pos c6] at H
   have c6b0 : (((rd_T87 l0 x5_1).f1) == (wrap64 (x1_1 + 1))) = true := beq_iff_eq.mpr c6
   have c6b1 : (((rd_T87 l0 x5_1).f1) != (wrap64 (x1_1 + 1))) = false := bne_eq_false_iff_eq.mpr c6
   clear c6
   by_cases c7 : ((rd_T87 l0 x5_1).f2) = (wrap64 ((wrap64 (x1_1 + 1)) + 1))
   rotate_left
   ·
    rw [if_neg c7] at H
    have c7b0 : (((rd_T87 l0 x5_1).f2) == (wrap64 ((wrap64 (x1_1 + 1)) + 1))) = false := beq_eq_false_iff_ne.mpr c7
    have c7b1 : (((rd_T87 l0 x5_1).f2) != (wrap64 ((wrap64 (x1_1 + 1)) + 1))) = true := bne_iff_ne.mpr c7
    obtain rfl := Option.some.inj H
    have p239 : 0 ≤ (x5_1 : Int) := zd
    have q239 : x5_1 < (l0.length : Int) := zd
    obtain ⟨ad239, e239, hx239_0, hx239_1, hx239_2⟩ := at_T87 HR0.out x5_1 p239 q239
    cases e239
    replace p239 := eq_true p239
    replace q239 := eq_true q239
    have p240 : 0 ≤ (x5_1 : Int) := zd
    have q240 : x5_1 < (l0.length : Int) := zd
    obtain ⟨ad240, e240, hx240_0, hx240_1, hx240_2⟩ := at_T87 HR0.out x5_1 p240 q240
    obtain rfl : ad239 = ad240 := (by injection e240)
    skip
    replace p240 := eq_true p240
    replace q240 := eq_true q240
    have p241 : 0 ≤ (x5_1 : Int) := zd
    have q241 : x5_1 < (l0.length : Int) := zd
    obtain ⟨ad241, e241, hx241_0, hx241_1, hx241_2⟩ := at_T87 HR0.out x5_1 p241 q241
    obtain rfl : ad239 = ad241 := (by injection e241)
    skip
    replace p241 := eq_true p241
    replace q241 := eq_true q241
    go_wp2
    go_ret
    exact ⟨by first | rfl | (simp; done) | (simp [*]; done), by repeat (first | exact Drawn0.refl _ | apply Drawn0.step)⟩
   rw [if_pos c7] at H
   have c7b0 : (((rd_T87 l0 x5_1).f2) == (wrap64 ((wrap64 (x1_1 + 1)) + 1))) = true := beq_iff_eq.mpr c7
   have c7b1 : (((rd_T87 l0 x5_1).f2) != (wrap64 ((wrap64 (x1_1 + 1)) + 1))) = false := bne_eq_false_iff_eq.mpr c7
   clear c7
   have H' := zm H
   clear H
   have p239 : 0 ≤ (x5_1 : Int) := zd
   have q239 : x5_1 < (l0.length : Int) := zd
   obtain ⟨ad239, e239, hx239_0, hx239_1, hx239_2⟩ := at_T87 HR0.out x5_1 p239 q239
   cases e239
   replace p239 := eq_true p239
   replace q239 := eq_true q239
   have p240 : 0 ≤ (x5_1 : Int) := zd
   have q240 : x5_1 < (l0.length : Int) := zd
   obtain ⟨ad240, e240, hx240_0, hx240_1, hx240_2⟩ := at_T87 HR0.out x5_1 p240 q240
   obtain rfl : ad239 = ad240 := (by injection e240)
   skip
   replace p240 := eq_true p240
   replace q240 := eq_true q240
   have p241 : 0 ≤ (x5_1 : Int) := zd
   have q241 : x5_1 < (l0.length : Int) := zd
   obtain ⟨ad241, e241, hx241_0, hx241_1, hx241_2⟩ := at_T87 HR0.out x5_1 p241 q241
   obtain rfl : ad239 = ad241 := (by injection e241)
   skip
   replace p241 := eq_true p241
   replace q241 := eq_true q241
   go_wp2
   go_roundg k1
   case measure => have := HK1.out; omega
   case rel => exact ⟨(wrap64 ((wrap64 ((wrap64 (x1_1 + 1)) + 1)) + 1)), (wrap64 (x5_1 + 1)), (by first | rfl | (simp; done) | (simp [*]; done)), (by first | rfl | (simp; done) | (simp [*]; done)), H', ⟨by have := HK1.out; omega⟩, by repeat (first | exact Drawn0.refl _ | apply Drawn0.step)⟩
end Go.Proofs.Ytjdkdbeenggfaaa.PSo
