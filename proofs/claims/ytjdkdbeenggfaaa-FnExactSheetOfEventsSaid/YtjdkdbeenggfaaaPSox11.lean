-- Written for this claim by a program of this session (wip/tpl/patchprint.py), not by print.sh.
import Derived.Test.YtjdkdbeenggfaaaPSox0
import Derived.Test.YtjdkdbeenggfaaaPSox9
import Derived.Test.YtjdkdbeenggfaaaPSox10
namespace Go.Proofs.Ytjdkdbeenggfaaa.PSo
open Go.RowKit Go.Proofs.YtjdkdbeenggfaaaW.PrintWords Go.Proofs.YtjdkdbeenggfaaaW.PrintLast Go.Proofs.YtjdkdbeenggfaaaW.PrintMore
attribute [local go_sem] max2_int min2_int max_two min_two max_three min_three max_four min_four   -- for this text's walks alone
set_option linter.unusedVariables false
set_option linter.unusedSimpArgs false

/-! ### impl_Hole: function 132 -/
def impl_Hole.f (l0 : List (S87)) : Option ((List (S87))) := (some (([] : List (S87)) : List (S87))).bind fun y231 => (if y231.length + l0.length < 5864062014805 then (some (y231 ++ l0)) else (none))
set_option maxHeartbeats 8000000 in
set_option maxRecDepth 100000 in
theorem impl_Hole.calls (A0 : Option Addr) (c0 : Nat) (l0 : List (S87)) (r : List (S87)) (w : World) (hr0 : Kd.C k87 w A0 l0.length l0) (hc0 : l0.length ≤ c0) (h : impl_Hole.f l0 = some r) :
  Calls Try.prog 132 #[.slice A0 l0.length c0] w fun e w' => ∃ v0_ : Value, e = .returned (v0_) ∧ Kd.R k87 87 w' w.heap.size (fun _ => True) v0_ r ∧ Below w.heap.size w w' := by
 by_cases hA_ : A0 = none
 ·
  subst hA_
  have hq : ∀ (w : World) (l c : Nat), (binOp .eql 39 (.slice none l c) (.slice none 0 0)).run Try.prog w = .ok (.bool true) w := fun w l c => Go.run_eql_slice_nil w 39 87 none l c Try.underlying39
  have e0_ : l0 = [] := by
   rcases Nat.eq_zero_or_pos l0.length with h_ | h_
   ·
    exact List.eq_nil_of_length_eq_zero h_
   ·
    obtain ⟨_, h2_, _⟩ := hr0.2.2 h_; cases h2_
  subst e0_
  obtain rfl : ([] : List (S87)) = r := by simp [impl_Hole.f] at h; first | exact h | exact h.symm
  go_enter Try.func132, Try.ntmps132
  go_wp2
  go_ret
  exact ⟨_, rfl, Kd.R_nil _ _ _ _ _, Below.refl _ _⟩
 have hq : ∀ (w : World) (l c : Nat), (binOp .eql 39 (.slice A0 l c) (.slice none 0 0)).run Try.prog w = .ok (.bool false) w := fun w l c => by
  rw [Go.run_eql_slice_nil w 39 87 A0 l c Try.underlying39]
  cases A0 with
  | none => exact absurd rfl hA_
  | some _ => rfl
 clear hA_
 have HR0 := zm hr0
 have HC0 := zm hc0
 clear hr0 hc0
 have HB := zm (Below.refl w.heap.size w)
 have H : ((some (([] : List (S87)) : List (S87))).bind fun y231 => (if y231.length + l0.length < 5864062014805 then (some (y231 ++ l0)) else (none))) = some r := h
 clear h
 obtain ⟨y231, hy231⟩ : ∃ y_ : List (S87), y_ = (([] : List (S87))) := ⟨_, rfl⟩
 replace H : (if y231.length + l0.length < 5864062014805 then (some (y231 ++ l0)) else (none)) = some r := by first | (rw [hy231]; with_reducible exact H) | (have H2_ := (Option.bind_some _ _).symm.trans H; rw [hy231]; with_reducible exact H2_) | (have H2_ := (Option.bind_some _ _).symm.trans H; with_reducible exact H2_) | with_reducible exact H | (rw [hy231]; exact H) | exact H
 have Ny231 := zm hy231
 clear hy231
 by_cases c2 : y231.length + l0.length < 5864062014805
 rotate_left
 ·
  rw [if_neg c2] at H
  exact absurd H (by simp)

 rw [if_pos c2] at H
 have LMc2 := zm c2
 clear c2
 obtain ⟨y234, hy234⟩ : ∃ y_ : List (S87), y_ = (y231 ++ l0) := ⟨_, rfl⟩
 replace H : (some y234) = some r := by first | (rw [hy234]; with_reducible exact H) | (have H2_ := (Option.bind_some _ _).symm.trans H; rw [hy234]; with_reducible exact H2_) | (have H2_ := (Option.bind_some _ _).symm.trans H; with_reducible exact H2_) | with_reducible exact H | (rw [hy234]; exact H) | exact H
 have Ny234 := zm hy234
 clear hy234
 obtain rfl := Option.some.inj H
 go_enter Try.func132, Try.ntmps132
 go_wp2_with (first | ((with_reducible refine gate_dst (N := 5) rfl ?_); refine Kd.R_lit k87 _ 87 ?hg (N := 5) ?hd (xs := ([] : List (S87))) (inner := []) (ok := fun _ => True) (okp := fun _ => True) ?hr ?hp (fun _ hk => hk) trivial (Below.refl _ _) (Nat.le_refl _) (by simp) ?_; (case hd => rfl); (case hg => rfl); (case hr => first | (go_simp; done) | (go_simp; rfl)); (case hp => exact (Reps.none _ _)); intro v232 w3 ho4 hb hg_ hnew_; clear hg_ hnew_; (first | rw [← Ny231.out] at ho4 | (simp only [Int.reduceToNat] at ho4; rw [← Ny231.out] at ho4)); have HO233 := zm (Kd.R_lower ho4 (below_size zb)); replace HB := zm (below_step zb hb); clear hb ho4) | ((with_reducible refine gate_builtin (b := .append) (xs := #[.tmp 5, .tmp 6]) rfl ?_); at_builtin; refine Kd.R_append_rows k87 (w0 := w) w.heap.size rfl (.tmp 5) (.tmp 6) 39 87 (.agg #[(.int .i64 0), (.int .i64 0), (.int .i64 0)]) 24 rfl Try.underlying39 info87 rfl (by decide) (by omega) v232 y231 l0 _ _ _ (fun _ => True) (fun _ => False) rfl rfl ?aO ?aR (fun _ _ h => h) (fun _ h => h.elim) ?aF ?aB ?aS ?aL ?_; (case aR => repeat (first | exact (Kd.C_below HR0.out HB.out) | (with_reducible refine Kd.C_alloc ?_ _) | (with_reducible refine Kd.C_drewN ?_ _) | (with_reducible refine Kd.C_drew ?_))); (case aB => exact zb); (case aF => exact (fun _ _ => trivial)); (case aO => exact (zP HO233.out)); (case aS => exact (below_size zb)); (case aL => have := LMc2.out; omega); intro v235 w5 ho hb hg hat; rw [← Ny234.out] at ho; replace HB := zm (hb); have HO236 := zm (ho); clear HO233; clear ho hb hg hat))
 go_ret
 exact ⟨_, zr, zP HO236.out, zb⟩
-- NOT PRINTED: function 151 (reflectlite_ValueOf)

-- NOT PRINTED: function 152 (reflectlite_Swapper)

-- NOT PRINTED: function 182 (sort_insertionSort_func)

-- NOT PRINTED: function 205 (sort_swapRange_func)

-- NOT PRINTED: function 193 (sort_rotate_func)

-- NOT PRINTED: function 183 (sort_symMerge_func)

-- NOT PRINTED: function 153 (sort_stable_func)

-- NOT PRINTED: function 154 (reflectlite_Value_Len)

-- NOT PRINTED: function 133 (sort_SliceStable)

/-! ### impl_sheetOf: function 103 -/
def hlt (a b : S87) : Bool := decide (a.f1 < b.f1 ∨ (a.f1 = b.f1 ∧ a.f0 < b.f0))
def SP (d l : List S87) : Prop := d.Perm l ∧ d.Pairwise fun x y => hlt y x = false
def SheetR (l : List S87) (r : List S87 × Bool) : Prop := ∀ d, SP d l → ∃ k, impl_IsSheet.f k d = some r.2 ∧ r.1 = if r.2 = true then d else []
open Classical in
noncomputable def impl_sheetOf.f (l0 : List (S87)) : Option ((List (S87)) × Bool) := if (l0.length : Int) > 60 then some ([], false) else if h : ∃ r, SheetR l0 r then some h.choose else none
instance : Inhabited S87 := ⟨z87⟩
def enc87 (x : S87) : List Value := [.int .i64 x.f0, .int .i64 x.f1, .int .i64 x.f2]
theorem hlt_swo : Go.Sort.SWO hlt := by
  constructor
  · intro x; simp [hlt]
  · intro x y z h1 h2; simp [hlt] at *; omega
  · intro x y z h1 h2; simp [hlt] at *; omega
theorem hlt_eq (a b : S87) : impl_holeLess.f a.f0 a.f1 a.f2 b.f0 b.f1 b.f2 = some (hlt a b) := by
  unfold impl_holeLess.f hlt
  split
  · rename_i h; congr 1; rw [decide_eq_decide]; omega
  · rename_i h; congr 1; rw [decide_eq_decide]; omega
set_option maxHeartbeats 4000000 in
set_option maxRecDepth 100000 in
theorem less87 (blk c Bs size : Nat) (W : World) (dk : Array S87) (hsk : dk.size = size) (hs : W.cell? ⟨Bs, 0, none⟩ = some (.slice (some ⟨blk, 0, none⟩) size c)) (hH : Go.Sort.HoldsK enc87 3 W blk 0 dk) (i j : Nat) (hi : i < size) (hj : j < size) (hsz : size < 4611686018427387904) :
    Calls Try.prog 134 #[.int .i64 i, .int .i64 j, .pointer (some ⟨Bs, 0, none⟩)] W fun e w' => e = .returned (.bool (hlt dk[i]! dk[j]!)) ∧ Below W.heap.size W w' := by
  have hu87 := Try.underlying87
  have cc : ∀ t, t < size → W.cell? ⟨blk, t * 3, none⟩ = some (.int .i64 dk[t]!.f0) ∧ W.cell? ⟨blk, t * 3 + 1, none⟩ = some (.int .i64 dk[t]!.f1) ∧ W.cell? ⟨blk, t * 3 + 2, none⟩ = some (.int .i64 dk[t]!.f2) := fun t ht => by
    have h0 := (hH.cell (i := t) (c := 0) (by omega) (by omega)).1
    have h1 := (hH.cell (i := t) (c := 1) (by omega) (by omega)).1
    have h2 := (hH.cell (i := t) (c := 2) (by omega) (by omega)).1
    simp only [Nat.zero_add, Nat.add_zero] at h0 h1 h2
    exact ⟨h0, h1, h2⟩
  obtain ⟨i0, i1, i2⟩ := cc i hi
  obtain ⟨j0, j1, j2⟩ := cc j hj
  have pi : ((i : Int) < (size : Int)) := by omega
  have pj : ((j : Int) < (size : Int)) := by omega
  clear cc hH
  generalize dk[i]! = x at i0 i1 i2 ⊢
  generalize dk[j]! = y at j0 j1 j2 ⊢
  have hc := impl_holeLess.calls x.f0 x.f1 x.f2 y.f0 y.f1 y.f2 (hlt x y)
  have HE : Aside0 (impl_holeLess.f x.f0 x.f1 x.f2 y.f0 y.f1 y.f2 = some (hlt x y)) := ⟨hlt_eq _ _⟩
  go_enter Try.func134, Try.ntmps134
  go_wp2
  go_still_tail 8, (by kernel_rfl)
  change wpList _ _ _ _ _ W.drew
  have hb : Below W.heap.size W W.drew := Below.drew (Below.refl _ _)
  generalize W.drew = w2 at hb ⊢
  go_wp2_with (go_at_call 119; refine (hc w2 HE.out).mono ?_; rintro e w' ⟨rfl, hbl⟩)
  go_ret
  exact ⟨rfl, hb.trans (hbl.mono hb.size)⟩

theorem enc87_len (x : S87) : (enc87 x).length = 3 := rfl
theorem holds87 {w : World} {base : Nat} {ok : Nat → Prop} {g n cap : Nat} {l : List S87} (h : Kd.R k87 87 w base ok (.slice (some ⟨g, 0, none⟩) n cap) l) (h0 : 0 < l.length) : Go.Sort.HoldsK enc87 3 w g 0 l.toArray := by
  obtain ⟨rfl, _, hC⟩ := Kd.R_reads' h
  obtain ⟨g', cap', e, _, _, cells, hg⟩ := Kd.R_form h h0
  obtain rfl : g = g' := by injection e with e1; injection e1 with e1; injection e1
  obtain ⟨ad, ea, hc⟩ := hC.2.2 h0
  obtain rfl : ad = ⟨g, 0, none⟩ := (Option.some.inj ea).symm
  intro t ht
  have ht' : t < l.length * 3 := by simpa using ht
  have hj : t / 3 < l.length := by omega
  obtain ⟨c, c3, hK, hv⟩ := hc (t / 3) l[t / 3] (List.getElem?_eq_getElem hj)
  obtain rfl := k87_open hK
  have e1 : (Go.Sort.flatK enc87 3 l.toArray)[t]! = (enc87 l[t / 3])[t % 3]! := by
    rw [Go.Sort.get_flatK _ _ _ _ (by simpa using ht')]
    simp [hj]
  have hm : t % 3 < 3 := Nat.mod_lt _ (by omega)
  have hu := hv (t % 3) ((enc87 l[t / 3])[t % 3]!) (by
    show (enc87 l[t / 3])[t % 3]? = _
    rw [List.getElem?_eq_getElem (show t % 3 < (enc87 l[t / 3]).length from hm), List.getElem!_eq_getElem?_getD, List.getElem?_eq_getElem (show t % 3 < (enc87 l[t / 3]).length from hm)]; rfl)
  have ea2 : (Addr.add ⟨g, 0, none⟩ (t / 3 * 3 + t % 3)) = ⟨g, 0 + t, none⟩ := by
    rw [show t / 3 * 3 + t % 3 = t by omega]
    unfold Addr.add
    split
    · rename_i z; subst z; rfl
    · rfl
  change w.cell? (Addr.add ⟨g, 0, none⟩ (t / 3 * 3 + t % 3)) = _ at hu
  rw [ea2] at hu
  refine ⟨by rw [hu, e1]; rfl, ?_⟩
  simp [World.frozen?, hg]
theorem reps87 (w : World) (base : Nat) (ok : Nat → Prop) (l : List S87) : Reps (k87.M w base ok) 3 l (l.flatMap enc87) := by
  have hl : ∀ l : List S87, (l.flatMap enc87).length = l.length * 3 := fun l => by
    induction l with
    | nil => rfl
    | cons x l ih => simp only [List.flatMap_cons, List.length_append, ih, enc87_len, List.length_cons]; omega
  refine ⟨hl l, fun j p hp => ?_⟩
  have : ∀ (l : List S87) (j : Nat) (p : S87), l[j]? = some p → ((l.flatMap enc87).drop (j * 3)).take 3 = enc87 p := by
    intro l
    induction l with
    | nil => intro j p h; simp at h
    | cons x l ih =>
      intro j p h
      cases j with
      | zero => simp at h; subst h; simp [enc87]
      | succ j =>
        simp at h
        rw [List.flatMap_cons, show (j + 1) * 3 = 3 + j * 3 by omega, ← List.drop_drop]
        rw [show List.drop 3 (enc87 x ++ l.flatMap enc87) = l.flatMap enc87 from rfl]
        exact ih j p h
  rw [this l j p hp]
  exact k87_mkM _ _ _ _
theorem flat87 (d : Array S87) : (Go.Sort.flatK enc87 3 d).toList = d.toList.flatMap enc87 := by
  have hl : ∀ l : List S87, (l.flatMap enc87).length = l.length * 3 := fun l => (reps87 ⟨#[], fun _ _ => 0, 0, default, #[]⟩ 0 (fun _ => True) l).1
  apply List.ext_getElem?
  intro t
  by_cases ht : t < d.size * 3
  · have h1 := Go.Sort.get_flatK enc87 3 d t ht
    have hj : t / 3 < d.size := by omega
    have hm : t % 3 < 3 := Nat.mod_lt _ (by omega)
    have e1 : (Go.Sort.flatK enc87 3 d).toList[t]? = some ((Go.Sort.flatK enc87 3 d)[t]!) := by
      rw [getElem!_pos _ t (by simpa using ht)]; simp [ht]
    have h2 := (reps87 ⟨#[], fun _ _ => 0, 0, default, #[]⟩ 0 (fun _ => True) d.toList).2 (t / 3) d[t / 3]! (by rw [getElem!_pos d _ hj]; simp [hj])
    have h3 := k87_openM h2
    have e2 : (d.toList.flatMap enc87)[t]? = (((d.toList.flatMap enc87).drop (t / 3 * 3)).take 3)[t % 3]? := by
      rw [List.getElem?_take, if_pos hm, List.getElem?_drop, show t / 3 * 3 + t % 3 = t by omega]
    rw [e1, h1, e2, h3]
    show some (enc87 d[t / 3]!)[t % 3]! = (enc87 d[t / 3]!)[t % 3]?
    rw [List.getElem?_eq_getElem (show t % 3 < (enc87 d[t / 3]!).length from hm), List.getElem!_eq_getElem?_getD, List.getElem?_eq_getElem (show t % 3 < (enc87 d[t / 3]!).length from hm)]; rfl
  · rw [List.getElem?_eq_none (by simpa using ht), List.getElem?_eq_none (by rw [hl]; simpa using ht)]
theorem sorted87 {w w' : World} {base : Nat} {ok : Nat → Prop} {g n cap : Nat} {l : List S87} {d' : Array S87} (h : Kd.R k87 87 w base ok (.slice (some ⟨g, 0, none⟩) n cap) l) (hg : g < w.heap.size) (hS : Go.Proofs.St.SWK enc87 3 w g 0 d' w') (hs : d'.size = l.length) :
    Kd.R k87 87 w' base ok (.slice (some ⟨g, 0, none⟩) n cap) d'.toList := by
  obtain ⟨hok, inner, ⟨hlen, hc⟩, hr⟩ := h
  obtain ⟨rfl, _⟩ : n = l.length ∧ True := by
    rcases hc with ⟨hv, _⟩ | ⟨g', cap', cur, hv, _⟩
    · cases hv
    · injection hv with h1 h2 h3; exact ⟨h2, trivial⟩
  rcases hc with ⟨hv, _⟩ | ⟨g', cap', cur, hv, hb, hh, hn, hcm, hsz, ht⟩
  · cases hv
  · injection hv with h1 h2 h3
    injection h1 with h1
    injection h1 with h1 _ _
    subst h1; subst h3
    have hb' : w'.heap[g]? = some (.cells (Go.Sort.putCells id 0 (Go.Sort.flatK enc87 3 d') cur) 87 (0, 0)) := by
      have q := hS.block g hg
      rw [q]
      show (w.heap.modify g _)[g]? = _
      rw [Array.getElem?_modify, if_pos rfl, hh]; rfl
    refine ⟨hok, d'.toList.flatMap enc87, ⟨by rw [(reps87 w 0 (fun _ => True) d'.toList).1]; rfl, .inr ⟨g, cap, _, by simp [hs], hb, hb', by simpa [hs] using hn, hcm, by simpa [Go.Sort.putCells] using hsz, ?_⟩⟩, reps87 _ _ _ _⟩
    rw [← flat87]
    apply List.ext_getElem?
    intro t
    have hcs : cur.size = cap * 3 := hsz
    by_cases ht2 : t < d'.size * 3
    · have hin : t < cur.size := by rw [hcs]; omega
      rw [List.getElem?_take, if_pos (by show t < d'.toList.length * 3; simpa using ht2)]
      simp only [Go.Sort.putCells, Array.toList_mapIdx, List.getElem?_mapIdx, Array.getElem?_toList]
      rw [Array.getElem?_eq_getElem hin]
      simp only [Option.map_some]
      rw [if_pos ⟨Nat.zero_le _, by simpa using ht2⟩, Nat.sub_zero, getElem!_pos _ t (by simpa using ht2), Array.getElem?_eq_getElem (by simpa using ht2)]
      rfl
    · rw [List.getElem?_take, if_neg (by show ¬ t < d'.toList.length * 3; simpa using ht2), List.getElem?_eq_none (by simpa using ht2)]
noncomputable def svT : TypeInfo := (Try.prog.info? 39).get (by kernel_rfl)
noncomputable def svE : TypeInfo := (Try.prog.info? 87).get (by kernel_rfl)
theorem svK (n : Nat) (h2 : 2 ≤ n) : Lib.swapperK n svE 25 = 9 := by
  have a : svE.hasPointers = false := by kernel_rfl
  have b : svE.bytes = 24 := by kernel_rfl
  have c : (n == 0) = false := by simp; omega
  have d : (n == 1) = false := by simp; omega
  simp [Lib.swapperK, a, b, c, d]
theorem perm87 {d d' : Array S87} (h : Go.Sort.PermIn 0 d.size d d') : d'.toList.Perm d.toList := by
  have := h.2.2
  rwa [Array.extract_eq_self_of_le (Nat.le_refl _), Array.extract_eq_self_of_le (by rw [h.1]; exact Nat.le_refl _)] at this
theorem pair87 {d : Array S87} (h : Sm.Sorted hlt (Go.Proofs.St.row d) 0 d.size) : d.toList.Pairwise fun x y => hlt y x = false := by
  rw [List.pairwise_iff_getElem]
  intro i j hi hj hij
  have := h i j (Nat.zero_le _) hij (by simpa using hj)
  unfold Go.Proofs.St.row at this
  simp only [Array.length_toList] at hi hj
  rwa [getElem!_pos d j hj, getElem!_pos d i hi] at this
theorem stable_call {w : World} {base : Nat} {ok : Nat → Prop} {A : Option Addr} {n cap : Nat} {l : List S87} (Bs : Nat) (hR : Kd.R k87 87 w base ok (.slice A n cap) l) (hbase : base ≤ w.heap.size) (hBs : w.cell? ⟨Bs, 0, none⟩ = some (.slice A n cap)) (hB1 : Bs < w.heap.size) (hne : ¬ ok Bs) (h60 : l.length ≤ 60) :
    Calls Try.prog 133 #[.iface 39 (.slice A n cap), .func (.func 134) #[] #[.pointer (some ⟨Bs, 0, none⟩)]] w fun e w' => e = .returned (.tuple #[]) ∧ ∃ d : List S87, SP d l ∧ Kd.R k87 87 w' base ok (.slice A n cap) d ∧ w'.cell? ⟨Bs, 0, none⟩ = some (.slice A n cap) ∧ Below base w w' := by
  obtain ⟨hn, _, _⟩ := Kd.R_reads' hR
  by_cases h2 : 2 ≤ l.length
  · obtain ⟨g, cap', e, hbg, hg, cells, hh⟩ := Kd.R_form hR (by omega)
    injection e with e1 e2 e3
    subst e1
    subst e3
    subst hn
    have hH := holds87 hR (by omega)
    have hok : ok g := hR.1 g rfl
    have hBg : Bs ≠ g := fun e => hne (e ▸ hok)
    have hless : Go.Proofs.St.LessB Try.prog 134 #[.pointer (some ⟨Bs, 0, none⟩)] enc87 3 hlt g 0 l.toArray.size w := by
      intro W dk hS hs i j hi hj
      have hHk := Go.Proofs.St.SWK.holds hS hg hH hs
      exact less87 g cap Bs l.toArray.size W dk hs (by rw [Go.Proofs.St.SWK.cell hS ⟨Bs, 0, none⟩ hBg hB1, hBs]; simp) hHk i j hi hj (by simp; omega)
    have hc := Go.Proofs.St.sliceStable (c := cap) Try.laysGt8 39 87 svT svE (by kernel_rfl) (by kernel_rfl) (by kernel_rfl) (by kernel_rfl) 25 (fun _ => by kernel_rfl) (enc := enc87) (k := 3) enc87_len (by kernel_rfl) (fun _ => by kernel_rfl)
      (fun x v hv => by simp [enc87] at hv; rcases hv with rfl | rfl | rfl <;> rfl) hlt_swo 134 _ (enters_of Try.func134 (by kernel_rfl) rfl) l.toArray (by simpa using h2) (by simp; omega) 181 (by rw [svK _ (by simpa using h2)]; kernel_rfl) false
      (fun args W => run_callFunc_extern Try.func181 (by kernel_rfl) (by kernel_rfl) (by kernel_rfl) (e := Extern.ReflectliteSwapper.swap false) (by kernel_rfl) args W) w hless hH hg
    rw [show l.toArray.size = l.length by simp] at hc
    refine hc.mono ?_
    rintro e w' ⟨rfl, d', hS, hP, hSo⟩
    have hs : d'.size = l.length := hP.1
    refine ⟨rfl, d'.toList, ⟨by simpa using perm87 (d := l.toArray) (by simpa using hP), pair87 (by rw [hs]; exact hSo)⟩, sorted87 hR hg hS hs, by rw [Go.Proofs.St.SWK.cell hS ⟨Bs, 0, none⟩ hBg hB1, hBs], ?_⟩
    refine ⟨hS.os, hS.tape, hS.output, Nat.le_trans ?_ hS.size, fun k hk => (hS.block k (by omega)).trans ?_⟩
    · rw [Go.Proofs.St.sizeRow]; exact Nat.le_refl _
    · show (w.heap.modify g _)[k]? = _
      rw [Array.getElem?_modify, if_neg (by omega)]
  · have tiny : ∀ f, Try.prog.funcs.findIdx? (·.name == "internal/reflectlite" ++ ".Swapper$" ++ toString (Lib.swapperK n svE 25)) = some f → Calls Try.prog 133 #[.iface 39 (.slice A n cap), .func (.func 134) #[] #[.pointer (some ⟨Bs, 0, none⟩)]] w fun e w' => e = .returned (.tuple #[]) ∧ ∃ os, w' = Go.Sort.grow w os := fun f hf =>
      Go.Proofs.Any.sort_SliceStable_tiny Try.laysGt8 39 87 svT svE (by kernel_rfl) (by kernel_rfl) (by kernel_rfl) (by kernel_rfl) 25 (fun _ => by kernel_rfl) A n cap (by omega) f hf (.func 134) #[] #[.pointer (some ⟨Bs, 0, none⟩)] w
    have hc : Calls Try.prog 133 #[.iface 39 (.slice A n cap), .func (.func 134) #[] #[.pointer (some ⟨Bs, 0, none⟩)]] w fun e w' => e = .returned (.tuple #[]) ∧ ∃ os, w' = Go.Sort.grow w os := by
      rcases Nat.eq_zero_or_pos n with z | z
      · refine tiny 173 ?_
        rw [z, show Lib.swapperK 0 svE 25 = 1 from rfl]; kernel_rfl
      · obtain rfl : n = 1 := by omega
        refine tiny 174 ?_
        rw [show Lib.swapperK 1 svE 25 = 2 from rfl]; kernel_rfl
    refine hc.mono ?_
    rintro e w' ⟨rfl, os, rfl⟩
    have hb : Below w.heap.size w (Go.Sort.grow w os) := ⟨rfl, rfl, rfl, by simp, fun k hk => by simp only [Go.Sort.grow]; rw [Array.getElem?_append_left hk]⟩
    refine ⟨rfl, l, ⟨List.Perm.refl _, ?_⟩, Kd.R_below hR hb, by rw [hb.cell (p := ⟨Bs, 0, none⟩) hB1, hBs], hb.mono hbase⟩
    rw [List.pairwise_iff_getElem]
    intro i j hi hj hij
    omega
set_option maxHeartbeats 4000000 in
set_option maxRecDepth 100000 in
theorem impl_sheetOf.calls (A0 : Option Addr) (c0 : Nat) (l0 : List (S87)) (r1 : List (S87)) (r2 : Bool) (w : World) (hr0 : Kd.C k87 w A0 l0.length l0) (hc0 : l0.length ≤ c0) (h : impl_sheetOf.f l0 = some (r1, r2)) :
  Calls Try.prog 103 #[.slice A0 l0.length c0] w fun e w' => ∃ v0_ : Value, e = .returned (.tuple #[v0_, .bool r2]) ∧ Kd.R k87 87 w' w.heap.size (fun _ => True) v0_ r1 ∧ Below w.heap.size w w' := by
  unfold impl_sheetOf.f at h
  by_cases c60 : (l0.length : Int) > 60
  · rw [if_pos c60] at h
    obtain ⟨rfl, rfl⟩ := Prod.mk.inj (Option.some.inj h)
    go_enter Try.func103, Try.ntmps103
    go_wp2
    go_ret2
    exact ⟨_, rfl, Kd.R_nil _ _ _ _ _, Below.refl _ _⟩
  · rw [if_neg c60] at h
    have hS : SheetR l0 (r1, r2) := by
      split at h
      · rename_i hx
        have := hx.choose_spec
        rwa [Option.some.inj h] at this
      · cases h
    have HS : Aside0 (SheetR l0 (r1, r2)) := ⟨hS⟩
    clear hS h
    have hcl := impl_Hole.calls A0 c0 l0 l0 w hr0 hc0 (by unfold impl_Hole.f; simp; omega)
    have c60b : decide ((60 : Int) < (l0.length : Int)) = false := decide_eq_false (by omega)
    have h60 : l0.length ≤ 60 := by omega
    clear c60
    have arm : ∀ (w1 : World) (A : Option Addr) (cap : Nat), Kd.R k87 87 w1 w.heap.size (fun _ => True) (.slice A l0.length cap) l0 → Below w.heap.size w w1 →
        Calls Try.prog 133 #[.iface 39 (.slice A l0.length cap), .func (.func 134) #[] #[.pointer (some ⟨w1.heap.size, 0, none⟩)]] (w1.alloc (.cells #[.slice A l0.length cap] 39)) fun e w3 => e = .returned (.tuple #[]) ∧
          ∃ d : List S87, SP d l0 ∧ Kd.R k87 87 w3 w.heap.size (fun _ => True) (.slice A l0.length cap) d ∧ w3.cell? ⟨w1.heap.size, 0, none⟩ = some (.slice A l0.length cap) ∧ Below w.heap.size w w3 ∧ w1.heap.size < w3.heap.size := by
      intro w1 A cap hR hB
      have hb : Below w1.heap.size w1 (w1.alloc (.cells #[.slice A l0.length cap] 39)) := ⟨rfl, rfl, rfl, by simp, fun q hq => by simp only [World.alloc]; rw [Array.getElem?_push_lt hq, Array.getElem?_eq_getElem hq]⟩
      have hR2 := Kd.R_below (Kd.R_mono (Kd.R_bound hR) (ok' := fun k => k < w1.heap.size) (fun k hk => hk.2.2.1)) hb
      refine (stable_call w1.heap.size hR2 (by have := hB.size; simp; omega) (by simp) (by simp) (by omega) h60).mono ?_
      rintro e w3 ⟨rfl, d, h1, h2, h3, h4⟩
      refine ⟨rfl, d, h1, Kd.R_mono h2 (fun _ _ => trivial), h3, (hB.trans (hb.mono hB.size)).trans h4, ?_⟩
      have := h4.size
      simp at this
      omega
    have ARM : Aside0 _ := ⟨arm⟩
    clear arm
    have ISH : Aside0 (∀ (d : List S87) (A : Option Addr) (cap : Nat) (w3 : World), SP d l0 → Kd.R k87 87 w3 w.heap.size (fun _ => True) (.slice A l0.length cap) d → (r1 = if r2 = true then d else []) ∧ Calls Try.prog 76 #[.slice A l0.length cap] w3 fun e w' => e = .returned (.bool r2) ∧ Below w3.heap.size w3 w') := by
      refine ⟨fun d A cap w3 hSP hR3 => ?_⟩
      obtain ⟨k, hk, hr⟩ := HS.out d hSP
      obtain ⟨hn, hcap, hC⟩ := Kd.R_reads' hR3
      refine ⟨hr, ?_⟩
      have := impl_IsSheet.calls k A cap d r2 w3 hC (by omega) hk
      rwa [← hn] at this
    clear HS
    cases r2 with
    | false =>
      go_enter Try.func103, Try.ntmps103
      go_wp2_with (first | (go_at_call 132; refine hcl.mono ?_; rintro e w1 ⟨v0, rfl, hR, hB⟩; obtain ⟨A, cap, rfl, hcap, hC⟩ := Kd.R_reads hR) | (go_at_call 133; refine (ARM.out w1 A cap hR hB).mono ?_; rintro e w3 ⟨rfl, d, hSP, hR3, hB3, hb3, hlt⟩) | (go_at_call 76; refine (ISH.out d A cap w3 hSP hR3).2.mono ?_; rintro e w4 ⟨rfl, hb4⟩))
      go_ret2
      obtain rfl : r1 = [] := by simpa using (ISH.out d A cap w3 hSP hR3).1
      exact ⟨_, rfl, Kd.R_nil _ _ _ _ _, hb3.trans (hb4.mono hb3.size)⟩
    | true =>
      go_enter Try.func103, Try.ntmps103
      go_wp2_with (first | (go_at_call 132; refine hcl.mono ?_; rintro e w1 ⟨v0, rfl, hR, hB⟩; obtain ⟨A, cap, rfl, hcap, hC⟩ := Kd.R_reads hR) | (go_at_call 133; refine (ARM.out w1 A cap hR hB).mono ?_; rintro e w3 ⟨rfl, d, hSP, hR3, hB3, hb3, hlt⟩) | (go_at_call 76; refine (ISH.out d A cap w3 hSP hR3).2.mono ?_; rintro e w4 ⟨rfl, hb4⟩; have hB4 : w4.cell? ⟨w1.heap.size, 0, none⟩ = some (.slice A l0.length cap) := (hb4.cell (p := ⟨w1.heap.size, 0, none⟩) hlt).trans hB3))
      go_ret2
      obtain rfl : r1 = d := by simpa using (ISH.out d A cap w3 hSP hR3).1
      exact ⟨_, rfl, Kd.R_below hR3 hb4, hb3.trans (hb4.mono hb3.size)⟩

-- NOT PRINTED: function 104 (slices_EqualFunc_int_int_int_int)

/-! ### slices_Equal_int_int: function 105 -/
def slices_Equal_int_int.l0 : Nat → List Int → List Int → Int → Int → Option (Bool)
  | 0, _, _, _, _ => none
  | k + 1, x0, x1, x12, x13 => if x13 < x12 then (if 0 ≤ x13 then (if x13 < (x0.length : Int) then (if x13 < (x1.length : Int) then (if (rd x0 x13) = (rd x1 x13) then (slices_Equal_int_int.l0 k x0 x1 x12 (wrap64 (x13 + 1))) else (some false)) else (none)) else (none)) else (none)) else (some true)
def slices_Equal_int_int.f (k : Nat) (l0 : List Int) (l1 : List Int) : Option (Bool) := if (l0.length : Int) = (l1.length : Int) then (slices_Equal_int_int.l0 k l0 l1 (l0.length : Int) 0) else (some false)
theorem slices_Equal_int_int.mono_l : ∀ k, (∀ y0 y1 y2 y3, LeO (slices_Equal_int_int.l0 k y0 y1 y2 y3) (slices_Equal_int_int.l0 (k + 1) y0 y1 y2 y3))
  | 0 => fun _ _ _ _ r h => by simp [slices_Equal_int_int.l0] at h
  | k + 1 => by
    have ih0 := slices_Equal_int_int.mono_l k
    · intro y0 y1 y2 y3
      unfold slices_Equal_int_int.l0
      repeat' first
      | (with_reducible exact ih0 _ _ _ _)
      | (with_reducible exact LeO.refl _)
      | (with_reducible exact LeO.none _)
      | (with_reducible refine LeO.ite ?_ ?_)
      | (with_reducible refine LeO.bind ?_ (fun _ => ?_))
      | exact ih0 _ _ _ _
      | exact LeO.none _
      | refine LeO.ite ?_ ?_
      | refine LeO.bind ?_ (fun _ => ?_)
theorem slices_Equal_int_int.mono : ∀ a0 a1 k, LeO (slices_Equal_int_int.f k a0 a1) (slices_Equal_int_int.f (k + 1) a0 a1) := by
  intro a0 a1 k
  have ih0 := slices_Equal_int_int.mono_l k
  unfold slices_Equal_int_int.f
  repeat' first
      | (with_reducible exact ih0 _ _ _ _)
      | (with_reducible exact LeO.refl _)
      | (with_reducible exact LeO.none _)
      | (with_reducible refine LeO.ite ?_ ?_)
      | (with_reducible refine LeO.bind ?_ (fun _ => ?_))
      | exact ih0 _ _ _ _
      | exact LeO.none _
      | refine LeO.ite ?_ ?_
      | refine LeO.bind ?_ (fun _ => ?_)
set_option maxHeartbeats 8000000 in
set_option maxRecDepth 100000 in
theorem slices_Equal_int_int.calls (k : Nat) (A0 : Option Addr) (c0 : Nat) (l0 : List Int) (A1 : Option Addr) (c1 : Nat) (l1 : List Int) (r : Bool) (w : World) (hr0 : Kd.C (Kd.int .i64) w A0 l0.length l0) (hc0 : l0.length ≤ c0) (hr1 : Kd.C (Kd.int .i64) w A1 l1.length l1) (hc1 : l1.length ≤ c1) (h : slices_Equal_int_int.f k l0 l1 = some r) :
  Calls Try.prog 105 #[.slice A0 l0.length c0, .slice A1 l1.length c1] w fun e w' => e = .returned (.bool r) ∧ Drawn0 w w' := by
 have HR0 := zm hr0
 have HC0 := zm hc0
 clear hr0 hc0
 have HR1 := zm hr1
 have HC1 := zm hc1
 clear hr1 hc1
 have H : (if (l0.length : Int) = (l1.length : Int) then (slices_Equal_int_int.l0 k l0 l1 (l0.length : Int) 0) else (some false)) = some r := h
 clear h
 by_cases c3 : (l0.length : Int) = (l1.length : Int)
 rotate_left
 ·
  rw [if_neg c3] at H
  have c3b0 : ((l0.length : Int) == (l1.length : Int)) = false := beq_eq_false_iff_ne.mpr c3
  have c3b1 : ((l0.length : Int) != (l1.length : Int)) = true := bne_iff_ne.mpr c3
  have c3b2 : (l0.length == l1.length) = false := by first | simpa using c3 | (simp at c3 ⊢; omega)
  obtain rfl := Option.some.inj H
  go_enter Try.func105, Try.ntmps105
  go_wp2
  repeat (go_quiet (fail); try go_wp2)
  go_ret
  exact ⟨by first | rfl | (simp; done) | (simp [*]; done), by repeat (first | exact Drawn0.refl _ | apply Drawn0.step)⟩

 rw [if_pos c3] at H
 have c3b0 : ((l0.length : Int) == (l1.length : Int)) = true := beq_iff_eq.mpr c3
 have c3b1 : ((l0.length : Int) != (l1.length : Int)) = false := bne_eq_false_iff_eq.mpr c3
 have c3b2 : (l0.length == l1.length) = true := by first | simpa using c3 | (simp at c3 ⊢; omega)
 clear c3
 have H' := zm H
 clear H
 go_enter Try.func105, Try.ntmps105
 go_wp2
 repeat (go_quiet (fail); try go_wp2)
 go_loopg [13] k (fun kq v13 w' => ∃ (x13_1 : Int), v13 = .int .i64 x13_1 ∧ Aside0 (slices_Equal_int_int.l0 kq l0 l1 (l0.length : Int) x13_1 = some r) ∧ Aside0 (kq ≤ k) ∧ Drawn0 w w')
 case atStart => exact ⟨(0), (by first | rfl | (simp; done) | (simp [*]; done)), H', ⟨Nat.le_refl _⟩, by repeat (first | exact Drawn0.refl _ | apply Drawn0.step)⟩
 case round =>
  clear H'
  (try clear c1); (try clear p2); (try clear c3); (try clear c3b0); (try clear c3b1); (try clear c3b2)
  obtain ⟨x13_1, rfl, HA, HK1, ⟨m1, rfl⟩⟩ := hrel
  cases gk with
  | zero => exact absurd HA.out (by simp [slices_Equal_int_int.l0])
  | succ k1 =>
   have H := HA.out
   clear HA
   simp only [slices_Equal_int_int.l0] at H
   by_cases c4 : x13_1 < (l0.length : Int)
   rotate_left
   ·
    rw [if_neg c4] at H
    have c4b0 : decide (x13_1 < (l0.length : Int)) = false := decide_eq_false c4
    clear c4
    obtain rfl := Option.some.inj H
    go_wp2
    repeat (go_quiet (fail); try go_wp2)
    go_ret
    exact ⟨by first | rfl | (simp; done) | (simp [*]; done), by repeat (first | exact Drawn0.refl _ | apply Drawn0.step)⟩
   rw [if_pos c4] at H
   have c4b0 : decide (x13_1 < (l0.length : Int)) = true := decide_eq_true c4
   clear c4
   by_cases c5 : 0 ≤ x13_1
   rotate_left
   ·
    rw [if_neg c5] at H
    exact absurd H (by simp)
   rw [if_pos c5] at H
   have c5b0 : decide (0 ≤ x13_1) = true := decide_eq_true c5
   clear c5
   by_cases c6 : x13_1 < (l0.length : Int)
   rotate_left
   ·
    rw [if_neg c6] at H
    exact absurd H (by simp)
   rw [if_pos c6] at H
   have c6b0 : decide (x13_1 < (l0.length : Int)) = true := decide_eq_true c6
   clear c6
   by_cases c7 : x13_1 < (l1.length : Int)
   rotate_left
   ·
    rw [if_neg c7] at H
    exact absurd H (by simp)
   rw [if_pos c7] at H
   have c7b0 : decide (x13_1 < (l1.length : Int)) = true := decide_eq_true c7
   clear c7
   by_cases c8 : (rd l0 x13_1) = (rd l1 x13_1)
   rotate_left
   ·
    rw [if_neg c8] at H
    have c8b0 : ((rd l0 x13_1) == (rd l1 x13_1)) = false := beq_eq_false_iff_ne.mpr c8
    have c8b1 : ((rd l0 x13_1) != (rd l1 x13_1)) = true := bne_iff_ne.mpr c8
    obtain rfl := Option.some.inj H
    have p237 : 0 ≤ (x13_1 : Int) := zd
    have q237 : x13_1 < (l0.length : Int) := zd
    obtain ⟨ad237, e237, hx237_0⟩ := Kd.at_int HR0.out x13_1 p237 q237
    cases e237
    replace p237 := eq_true p237
    replace q237 := eq_true q237
    have p238 : 0 ≤ (x13_1 : Int) := zd
    have q238 : x13_1 < (l1.length : Int) := zd
    obtain ⟨ad238, e238, hx238_0⟩ := Kd.at_int HR1.out x13_1 p238 q238
    cases e238
    replace p238 := eq_true p238
    replace q238 := eq_true q238
    go_wp2
    repeat (go_quiet (fail); try go_wp2)
    go_ret
    exact ⟨by first | rfl | (simp; done) | (simp [*]; done), by repeat (first | exact Drawn0.refl _ | apply Drawn0.step)⟩
   rw [if_pos c8] at H
   have c8b0 : ((rd l0 x13_1) == (rd l1 x13_1)) = true := beq_iff_eq.mpr c8
   have c8b1 : ((rd l0 x13_1) != (rd l1 x13_1)) = false := bne_eq_false_iff_eq.mpr c8
   clear c8
   have H' := zm H
   clear H
   have p237 : 0 ≤ (x13_1 : Int) := zd
   have q237 : x13_1 < (l0.length : Int) := zd
   obtain ⟨ad237, e237, hx237_0⟩ := Kd.at_int HR0.out x13_1 p237 q237
   cases e237
   replace p237 := eq_true p237
   replace q237 := eq_true q237
   have p238 : 0 ≤ (x13_1 : Int) := zd
   have q238 : x13_1 < (l1.length : Int) := zd
   obtain ⟨ad238, e238, hx238_0⟩ := Kd.at_int HR1.out x13_1 p238 q238
   cases e238
   replace p238 := eq_true p238
   replace q238 := eq_true q238
   go_wp2
   repeat (go_quiet (fail); try go_wp2)
   go_roundg k1
   case measure => have := HK1.out; omega
   case rel => exact ⟨(wrap64 (x13_1 + 1)), (by first | rfl | (simp; done) | (simp [*]; done)), H', ⟨by have := HK1.out; omega⟩, by repeat (first | exact Drawn0.refl _ | apply Drawn0.step)⟩
end Go.Proofs.Ytjdkdbeenggfaaa.PSo
