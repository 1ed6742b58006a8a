/- The program's DrivenOut returns what the reference's returns, for all arguments.: the plain part: what the program computes and what the reference computes agree, for all arguments. No conditions beyond the arguments' own kinds. -/
import Derived.Test.YtepkedhmbfkenaaPTbx0
import Derived.Test.YtepkedhmbfkenaaPTbx1
import Derived.Test.YtepkedhmbfkenaaPTbx2
import Derived.Test.YtepkedhmbfkenaaPTbx3
import Derived.Test.YtepkedhmbfkenaaPTbx4
import Derived.Test.YtepkedhmbfkenaaPTbx5
import Derived.Test.YtepkedhmbfkenaaPTbx6
import Derived.Test.YtepkedhmbfkenaaOpn
namespace Go.Proofs.Ytepkedhmbfkenaa.Pure
open Go.RowKit Go.Proofs.Ytepkedhmbfkenaa.PTb Go.Proofs.YtepkedhmbfkenaaW.PrintWords Go.Proofs.YtepkedhmbfkenaaW.PrintLast Go.Proofs.YtepkedhmbfkenaaW.PrintMore
-- ** base
theorem wrapi {x : Int} (h0 : -9223372036854775808 ≤ x) (h1 : x ≤ 9223372036854775807) : wrap64 x = x := by unfold wrap64; omega
theorem evPos {α : Type} {c : Prop} [Decidable c] {g f : Nat → Option α} {r : α} (h : c) (e : Ev g r) : Ev (fun k => if c then g k else f k) r := by
  simp only [if_pos h]; exact e
theorem evNeg {α : Type} {c : Prop} [Decidable c] {g f : Nat → Option α} {r : α} (h : ¬ c) (e : Ev f r) : Ev (fun k => if c then g k else f k) r := by
  simp only [if_neg h]; exact e
theorem evNow {α : Type} {r q : α} (h : r = q) : Ev (fun _ => some r) q := by subst h; exact Ev.now r
theorem evEq {α : Type} {g : Nat → Option α} {r q : α} (h : Ev g r) (e : r = q) : Ev g q := e ▸ h
theorem evBy {α : Type} {c : Prop} [Decidable c] {g f : Nat → Option α} {r : α} (h : c → Ev g r) (h' : ¬ c → Ev f r) : Ev (fun k => if c then g k else f k) r := by
  by_cases hc : c
  · simp only [if_pos hc]; exact h hc
  · simp only [if_neg hc]; exact h' hc
theorem someF {p : Prop} [Decidable p] (h : ¬ p) : some false = some (decide p) := by rw [decide_eq_false h]
theorem someD {p q : Prop} [Decidable p] [Decidable q] (h : p ↔ q) : some (decide p) = some (decide q) := by rw [decide_eq_decide.mpr h]
theorem decT {p : Prop} [Decidable p] (h : p) : true = decide p := by rw [decide_eq_true h]
theorem decD {p q : Prop} [Decidable p] [Decidable q] (h : p ↔ q) : decide p = decide q := decide_eq_decide.mpr h
theorem rgEnd {α : Type} {l pre : List α} (h : l = pre ++ []) : ¬ ((pre.length : Int) < (l.length : Int)) := by subst h; simp
theorem rgHead {α : Type} {l pre suf : List α} {x : α} (h : l = pre ++ x :: suf) (hl : l.length ≤ 4611686018427387904) (z : α) :
    (pre.length : Int) < (l.length : Int) ∧ (0 : Int) ≤ (pre.length : Int) ∧ wrap64 ((pre.length : Int) + 1) = ((pre ++ [x]).length : Int) ∧ l.getD (pre.length : Int).toNat z = x ∧ l = (pre ++ [x]) ++ suf := by
  subst h
  simp at hl
  refine ⟨by simp; omega, by omega, ?_, by simp, by simp⟩
  rw [wrapi (by omega) (by omega)]; simp
theorem in_eq (a b c : Int) : spec_l1In.f a b c = some (decide (b ≤ a ∧ a ≤ c)) := by
  unfold spec_l1In.f
  split
  · exact someD (by omega)
  · exact someF (by omega)
theorem mx_eq (a b : Int) : mx a b = max a b := by unfold mx; omega
-- ** ctl
def ctl (b g : Int) : Prop := 0 ≤ b ∧ b ≤ 200 ∧ 1 ≤ g ∧ g ≤ 100
instance (b g : Int) : Decidable (ctl b g) := by unfold ctl; exact inferInstance
theorem tkGood_eq (b g : Int) : spec_tkGood.f b g = some (decide (ctl b g)) := by
  unfold spec_tkGood.f; rw [in_eq, in_eq]; simp only [Option.bind_some]
  by_cases h : 0 ≤ b ∧ b ≤ 200
  · rw [if_pos (decide_eq_true h)]; exact someD (by unfold ctl; omega)
  · rw [if_neg (by simpa using h)]; exact someF (by unfold ctl; omega)
theorem isController_eq (b g : Int) : impl_IsController.f b g = some (decide (ctl b g)) := by
  unfold impl_IsController.f
  repeat' split
  all_goals first | exact someD (by unfold ctl; omega) | exact someF (by unfold ctl; omega)
-- ** most
theorem l1Most_eq (a b : Int) : spec_l1Most.f a b = some (max a b) := by
  unfold spec_l1Most.f; split <;> (congr 1; omega)
-- ** bound
theorem isMostDrift_eq (m : Int) : impl_isMostDrift.f m = some (decide (0 ≤ m ∧ m ≤ 50)) := by
  unfold impl_isMostDrift.f
  split
  · exact someD (by omega)
  · exact someF (by omega)
theorem tkMost_eq (b g m : Int) : spec_tkMost.f b g m = some (decide (ctl b g ∧ 0 ≤ m ∧ m ≤ 50)) := by
  unfold spec_tkMost.f; simp only [tkGood_eq, in_eq, Option.bind_some, decide_eq_true_eq]
  split
  · rename_i h; exact someD (by simp only [h, true_and])
  · rename_i h; exact someF (fun q => h q.1)
-- ** move
def off (o : Int) : Prop := -1000 ≤ o ∧ o ≤ 1000
instance (o : Int) : Decidable (off o) := by unfold off; exact inferInstance
theorem isOffset_eq (o : Int) : impl_isOffset.f o = some (decide (off o)) := by
  unfold impl_isOffset.f
  split
  · exact someD (by unfold off; omega)
  · exact someF (by unfold off; omega)
def mv (b g o d : Int) : Int := if o + d > b then o + d - g else if o + d < -b then o + d + g else o + d
def mvby (b g o d : Int) : Int := if o + d > b then -g else if o + d < -b then g else 0
def far (o : Int) : Prop := -100000 ≤ o ∧ o ≤ 100000
theorem tkStep_eq {b g o d : Int} (h : ctl b g) (ho : far o) (hd : far d) : spec_tkStep.f b g o d = some (mv b g o d, mvby b g o d) := by
  unfold spec_tkStep.f mv mvby; unfold ctl at h; unfold far at ho hd
  rw [wrapi (x := o + d) (by omega) (by omega), wrapi (x := -b) (by omega) (by omega), wrapi (x := -g) (by omega) (by omega), wrapi (x := o + d - g) (by omega) (by omega), wrapi (x := o + d + g) (by omega) (by omega)]
  split
  · rfl
  · split <;> rfl
theorem moved_eq {b g o d : Int} (h : ctl b g) (ho : far o) (hd : far d) : impl_moved.f b g o d = some (mv b g o d) := by
  unfold impl_moved.f mv; unfold ctl at h; unfold far at ho hd
  rw [wrapi (x := o + d) (by omega) (by omega), wrapi (x := -b) (by omega) (by omega), wrapi (x := o + d - g) (by omega) (by omega), wrapi (x := o + d + g) (by omega) (by omega)]
  split
  · rfl
  · split <;> rfl
-- ** abs
theorem l1Abs_eq {o : Int} (h : -1000000000 ≤ o ∧ o ≤ 1000000000) : spec_l1Abs.f o = some (o.natAbs : Int) := by
  unfold spec_l1Abs.f
  rw [wrapi (by omega) (by omega), l1Most_eq]
  simp only [Option.bind_some]; congr 1; omega
-- ** dist
theorem distance_eq {a b : Int} (ha : -1000000000 ≤ a ∧ a ≤ 1000000000) (hb : -1000000000 ≤ b ∧ b ≤ 1000000000) : impl_distance.f a b = some ((a - b).natAbs : Int) := by
  unfold impl_distance.f
  rw [wrapi (by omega) (by omega), wrapi (by omega) (by omega), mx_eq]
  congr 1; omega
-- ** lists
theorem setAt {α : Type} (A B : List α) (z v : α) (n : Nat) (h : n = A.length) : (A ++ z :: B).set n v = A ++ v :: B := by subst h; simp
-- ** put
def put : List Int → Int → List Int
  | [], n => [n]
  | a :: l, n => if a < n then a :: put l n else if a = n then a :: l else n :: a :: l
theorem l1Put_l0 (l : List Int) (n : Int) (hl : l.length ≤ 1048576) : ∀ (suf pre : List Int), l = pre ++ suf → Ev (fun k => spec_l1Put.l0 k l n (pre.length : Int)) (pre ++ put suf n) := by
  intro suf
  induction suf with
  | nil =>
    intro pre h
    have hp : pre.length ≤ 1048576 := by rw [h] at hl; simpa using hl
    have hL : l.length = pre.length := by rw [h]; simp
    have e1 : l.take (pre.length : Int).toNat = pre := by rw [h]; simp
    have e2 : l.drop (pre.length : Int).toNat = [] := by rw [h]; simp
    refine Ev.step (fun k => spec_l1Put.l0.eq_2 ..) ?_
    simp only [rgEnd h, if_false, Option.bind_some, e1, e2]
    repeat' first | (refine evPos (by first | omega | (simp; omega)) ?_)
    exact evNow (by simp [put])
  | cons x suf ih =>
    intro pre h
    obtain ⟨h1, h2, h3, h4, h5⟩ := rgHead h (by omega) 0
    have hp : pre.length + (suf.length + 1) ≤ 1048576 := by rw [h] at hl; simpa using hl
    have hL : l.length = pre.length + (suf.length + 1) := by rw [h]; simp
    have e1 : l.take (pre.length : Int).toNat = pre := by rw [h]; simp
    have e2 : l.drop (pre.length : Int).toNat = x :: suf := by rw [h]; simp
    refine Ev.step (fun k => spec_l1Put.l0.eq_2 ..) ?_
    simp only [h1, h2, h3, rd, h4, if_true, Option.bind_some, e1, e2]
    refine evBy (fun c => evEq (ih _ h5) (by simp [put, c])) (fun c => evBy (fun c' => evNow (by rw [h]; simp [put, c'])) (fun c' => ?_))
    repeat' first | (refine evPos (by first | omega | (simp; omega)) ?_)
    exact evNow (by simp [put, c, c'])
theorem l1Put_ev {l : List Int} (hl : l.length ≤ 1048576) (n : Int) : Ev (fun k => spec_l1Put.f k l n) (put l n) := by
  unfold spec_l1Put.f; exact l1Put_l0 l n hl l [] rfl
-- ** compact
theorem put_mem (x : Int) : ∀ (l : List Int) (n : Int), x ∈ put l n ↔ x = n ∨ x ∈ l
  | [], n => by simp [put]
  | a :: l, n => by
    have := put_mem x l n
    simp only [put]; split
    · simp only [List.mem_cons, this]
      constructor
      · rintro (h | h | h)
        · exact .inr (.inl h)
        · exact .inl h
        · exact .inr (.inr h)
      · rintro (h | h | h)
        · exact .inr (.inl h)
        · exact .inl h
        · exact .inr (.inr h)
    · split
      · rename_i e; subst e; simp
      · simp
theorem put_srt : ∀ (l : List Int) (n : Int), l.Pairwise (· < ·) → (put l n).Pairwise (· < ·)
  | [], n, _ => by simp [put]
  | a :: l, n, h => by
    obtain ⟨h1, h2⟩ := List.pairwise_cons.1 h
    have ih := put_srt l n h2
    simp only [put]; split
    · rename_i c
      refine List.pairwise_cons.2 ⟨fun x hx => ?_, ih⟩
      rcases (put_mem x l n).1 hx with rfl | q
      · exact c
      · exact h1 x q
    · split
      · exact h
      · rename_i c c'
        refine List.pairwise_cons.2 ⟨fun x hx => ?_, h⟩
        rcases List.mem_cons.1 hx with rfl | q
        · omega
        · have := h1 x q; omega
-- ** FnExactReachedOffset
theorem bget_put (M : List (Int × Bool)) (k t : Int) : Mp.mget false (Mp.mput M k true) t = if t = k then true else Mp.mget false M t := by
  induction M with
  | nil => simp [Mp.mput, Mp.mget]
  | cons q M ih =>
    by_cases c : k = q.1
    · subst c; by_cases e : t = q.1 <;> simp [Mp.mput, Mp.mget, e]
    · by_cases e : t = q.1
      · simp [Mp.mput, Mp.mget, c, e, Ne.symm c]
      · simp [Mp.mput, Mp.mget, c, e, ih]
-- ** limit
theorem isLimit_eq (m : Int) : impl_isLimit.f m = some (decide (0 ≤ m ∧ m ≤ 2000)) := by
  unfold impl_isLimit.f
  split
  · exact someD (by omega)
  · exact someF (by omega)
-- ** driven
theorem srt_len {b : Int} : ∀ (l : List Int) (a : Int), l.Pairwise (· < ·) → (∀ x, x ∈ l → a ≤ x ∧ x ≤ b) → (l.length : Int) ≤ max 0 (b - a + 1)
  | [], a, _, _ => by simp; omega
  | x :: l, a, h, hb => by
    obtain ⟨h1, h2⟩ := List.pairwise_cons.1 h
    have hx := hb x (by simp)
    have ih := srt_len l (x + 1) h2 (fun y hy => ⟨by have := h1 y hy; omega, (hb y (by simp [hy])).2⟩)
    simp; omega
def okO (b g : Int) (n : Nat) (o : Int) : Prop := (o.natAbs : Int) ≤ 50 * n ∨ ((o.natAbs : Int) < g ∧ b < 50)
theorem okO_mv {b g o d : Int} {n : Nat} (h : ctl b g) (hd : -50 ≤ d ∧ d ≤ 50) (ho : okO b g n o) : okO b g (n + 1) (mv b g o d) := by
  unfold okO at ho ⊢; unfold mv; unfold ctl at h
  rcases ho with ho | ho
  · by_cases n0 : n = 0
    · subst n0; split
      · omega
      · split <;> omega
    · have : 1 ≤ n := by omega
      split
      · omega
      · split <;> omega
  · split
    · omega
    · split <;> omega
theorem okO_small {b g o : Int} {n : Nat} (h : ctl b g) (ho : okO b g n o) (hn : n ≤ 20) : -1000 ≤ o ∧ o ≤ 1000 := by
  unfold okO at ho; unfold ctl at h; omega
def exd (b g lim : Int) (e : S108) : List Int → List S108 → List Int → List Int ⊕ List S108 × List Int
  | [], nx, mt => .inr (nx, mt)
  | d :: ds, nx, mt => if lim < ((mv b g e.f0 d).natAbs : Int) then .inl (e.f1 ++ [d]) else if mv b g e.f0 d ∈ mt then exd b g lim e ds nx mt else exd b g lim e ds (nx ++ [⟨mv b g e.f0 d, e.f1 ++ [d]⟩]) (put mt (mv b g e.f0 d))
def exl (b g m lim : Int) : List S108 → List S108 → List Int → List Int ⊕ List S108 × List Int
  | [], nx, mt => .inr (nx, mt)
  | e :: l, nx, mt => match exd b g lim e [-m, 0, m] nx mt with
    | .inl r => .inl r
    | .inr p => exl b g m lim l p.1 p.2
def fin (R : List S108 → List Int → List Int × Bool) : List Int ⊕ List S108 × List Int → List Int × Bool
  | .inl r => (r, true)
  | .inr p => R p.1 p.2
def lev (b g m lim : Int) : Nat → List S108 → List Int → List Int × Bool
  | 0, _, _ => ([], false)
  | _ + 1, [], _ => ([], false)
  | n + 1, e :: l, mt => fin (lev b g m lim n) (exl b g m lim (e :: l) [] mt)
theorem fin_exl (b g m lim : Int) (R : List S108 → List Int → List Int × Bool) (e : S108) (l nx : List S108) (mt : List Int) : fin R (exl b g m lim (e :: l) nx mt) = fin (fun a c => fin R (exl b g m lim l a c)) (exd b g lim e [-m, 0, m] nx mt) := by
  simp only [exl]; cases exd b g lim e [-m, 0, m] nx mt <;> rfl
def okL (b g : Int) (n : Nat) (l : List S108) : Prop := ∀ e, e ∈ l → okO b g n e.f0 ∧ e.f1.length = n
theorem okL_snoc {b g : Int} {n : Nat} {l : List S108} {e : S108} (h : okL b g n l) (he : okO b g n e.f0 ∧ e.f1.length = n) : okL b g n (l ++ [e]) := by
  intro x hx
  rcases List.mem_append.1 hx with q | q
  · exact h x q
  · rw [List.mem_singleton.1 q]; exact he
structure Mt (lim : Int) (mt : List Int) : Prop where
  srt : mt.Pairwise (· < ·)
  bd : ∀ x, x ∈ mt → -1000 ≤ x ∧ x ≤ 1000 ∧ (x.natAbs : Int) ≤ lim
theorem mt_len {lim : Int} {mt : List Int} (h : Mt lim mt) : mt.length ≤ 2001 := by
  have := srt_len mt (-1000) (b := 1000) h.srt (fun x hx => ⟨(h.bd x hx).1, (h.bd x hx).2.1⟩)
  omega
theorem mt_put {lim y : Int} {mt : List Int} (h : Mt lim mt) (h0 : -1000 ≤ y ∧ y ≤ 1000) (h1 : ¬ lim < (y.natAbs : Int)) : Mt lim (put mt y) :=
  ⟨put_srt mt y h.srt, fun x hx => by
    rcases (put_mem x mt y).1 hx with rfl | q
    · omega
    · exact h.bd x q⟩
theorem put_new : ∀ (l : List Int) (n : Int), n ∉ l → (put l n).length = l.length + 1
  | [], n, _ => by simp [put]
  | a :: l, n, h => by
    simp only [List.mem_cons, not_or] at h
    have ih := put_new l n h.2
    simp only [put]; split
    · simp [ih]
    · rw [if_neg (fun e => h.1 e.symm)]; simp
def Sn (M : List (Int × Bool)) (mt : List Int) : Prop := ∀ t, Mp.mget false M t = decide (t ∈ mt)
theorem sn_put {M : List (Int × Bool)} {mt : List Int} {y : Int} (h : Sn M mt) : Sn (Mp.mput M y true) (put mt y) := by
  intro t
  rw [bget_put, h t]
  by_cases c : t = y
  · subst c; rw [if_pos rfl]; exact decT ((put_mem _ _ _).2 (.inl rfl))
  · rw [if_neg c]; exact decD (by rw [put_mem]; simp [c])
theorem clone_eq {l : List Int} (hl : l.length ≤ 1048576) : slices_Clone_int_int.f l = some l := by
  unfold slices_Clone_int_int.f; simp only [Option.bind_some, List.nil_append, List.length_nil]; rw [if_pos (by omega)]
theorem own_eq {l : List Int} (hl : l.length ≤ 1048576) : spec_l1Own.f l = some l := by
  unfold spec_l1Own.f; simp only [Option.bind_some, List.nil_append, List.length_nil]; rw [if_pos (by omega)]
structure Iv (b g lim : Int) (n : Nat) (nx : List S108) (mt : List Int) (M : List (Int × Bool)) : Prop where
  ok : okL b g n nx
  hmt : Mt lim mt
  sn : Sn M mt
  len : nx.length ≤ mt.length
theorem impl_l2 {b g m lim : Int} (hc : ctl b g) (hm : 0 ≤ m ∧ m ≤ 50) {n : Nat} (hn : n + 1 ≤ 20) (list : List S108) (i : Int) (e : S108) (he : okO b g n e.f0 ∧ e.f1.length = n) (R : List S108 → List Int → List Int × Bool)
    (hR : ∀ nx' mt' M', Iv b g lim (n + 1) nx' mt' M' → Ev (fun k => impl_DrivenOut.l1 k m lim nx' list (list.length : Int) (wrap64 (i + 1)) b g M') (R nx' mt')) :
    ∀ (ds pre : List Int) (nx : List S108) (mt : List Int) (M : List (Int × Bool)), [-m, 0, m] = pre ++ ds → Iv b g lim (n + 1) nx mt M →
    Ev (fun k => impl_DrivenOut.l2 k m lim nx list (list.length : Int) i [-m, 0, m] (([-m, 0, m] : List Int).length : Int) (pre.length : Int) b g M e.f0 e.f1) (fin R (exd b g lim e ds nx mt)) := by
  intro ds
  induction ds with
  | nil =>
    intro pre nx mt M h hI
    refine Ev.step (fun k => impl_DrivenOut.l2.eq_2 ..) ?_
    exact evNeg (rgEnd h) (hR nx mt M hI)
  | cons d ds ih =>
    intro pre nx mt M h hI
    obtain ⟨h1, h2, h3, h4, h5⟩ := rgHead h (by simp) 0
    have hd : -50 ≤ d ∧ d ≤ 50 := by
      have : d ∈ ([-m, 0, m] : List Int) := by rw [h]; simp
      simp at this; omega
    have hy := okO_mv hc hd he.1
    have hy' := okO_small hc hy hn
    have ho := okO_small hc he.1 (by omega)
    have hl := mt_len hI.hmt
    have hln := hI.len
    have hel := he.2
    have ih' := fun nx mt M => ih (pre ++ [d]) nx mt M h5
    refine Ev.step (fun k => impl_DrivenOut.l2.eq_2 ..) ?_
    simp only [h1, h2, rd, h4, if_true, moved_eq hc (show far e.f0 by unfold far; omega) (show far d by unfold far; omega), isOffset_eq, Option.bind_some, decide_eq_true_eq]
    refine evPos hy' (Ev.step (fun k => impl_DrivenOut.j5.eq_2 ..) ?_)
    rw [hI.sn]
    by_cases c : mv b g e.f0 d ∈ mt
    · have hb := hI.hmt.bd _ c
      rw [decide_eq_true c]
      simp only [exd]
      rw [if_neg (by omega), if_pos c, h3]
      exact evPos (by simp) (ih' nx mt M hI)
    · rw [decide_eq_false c, clone_eq (by omega), distance_eq (by omega) (by omega), h3]
      simp only [Option.bind_some, exd, Int.sub_zero]
      refine evNeg (by simp) (evPos (by omega) ?_)
      by_cases q : lim < ((mv b g e.f0 d).natAbs : Int)
      · rw [if_pos q]; exact evPos q (Ev.now _)
      · rw [if_neg q, if_neg c]
        refine evNeg q (evPos (by omega) (ih' _ _ _ ⟨okL_snoc hI.ok ⟨hy, by simp; omega⟩, mt_put hI.hmt hy' q, sn_put hI.sn, ?_⟩))
        rw [put_new _ _ c]; simp; omega
theorem impl_l1 {b g m lim : Int} (hc : ctl b g) (hm : 0 ≤ m ∧ m ≤ 50) {n : Nat} (hn : n + 1 ≤ 20) (list : List S108) (hll : list.length ≤ 2001) (hlist : okL b g n list) (R : List S108 → List Int → List Int × Bool)
    (hR : ∀ nx' mt' M', Iv b g lim (n + 1) nx' mt' M' → Ev (fun k => impl_DrivenOut.l0 k m lim nx' b g M') (R nx' mt')) :
    ∀ (l pre nx : List S108) (mt : List Int) (M : List (Int × Bool)), list = pre ++ l → Iv b g lim (n + 1) nx mt M →
    Ev (fun k => impl_DrivenOut.l1 k m lim nx list (list.length : Int) (pre.length : Int) b g M) (fin R (exl b g m lim l nx mt)) := by
  intro l
  induction l with
  | nil =>
    intro pre nx mt M h hI
    refine Ev.step (fun k => impl_DrivenOut.l1.eq_2 ..) ?_
    exact evNeg (rgEnd h) (hR nx mt M hI)
  | cons e l ih =>
    intro pre nx mt M h hI
    obtain ⟨h1, h2, h3, h4, h5⟩ := rgHead h (by omega) z108
    refine Ev.step (fun k => impl_DrivenOut.l1.eq_2 ..) ?_
    simp only [h1, h2, rd_T108, h4, if_true, Option.bind_some]
    rw [wrapi (x := -m) (by omega) (by omega), fin_exl]
    refine impl_l2 hc hm hn list _ e (hlist e (by rw [h]; simp)) _ (fun nx' mt' M' hI' => ?_) [-m, 0, m] [] nx mt M rfl hI
    rw [h3]
    exact ih _ nx' mt' M' h5 hI'
theorem impl_l0 {b g m lim : Int} (hc : ctl b g) (hm : 0 ≤ m ∧ m ≤ 50) : ∀ (N n : Nat) (cur : List S108) (mt : List Int) (M : List (Int × Bool)), N + n = 20 → Iv b g lim n cur mt M → Ev (fun k => impl_DrivenOut.l0 k m lim cur b g M) (lev b g m lim N cur mt) := by
  intro N
  induction N with
  | zero =>
    intro n cur mt M hN hI
    refine Ev.step (fun k => impl_DrivenOut.l0.eq_2 ..) ?_
    cases cur with
    | nil => exact evNeg (by simp) (Ev.step (fun k => impl_DrivenOut.j2.eq_2 ..) (evNeg (by simp) (Ev.now _)))
    | cons e l =>
      have he := (hI.ok e (by simp)).2
      refine evPos (by simp) (evPos (by simp) (Ev.step (fun k => impl_DrivenOut.j2.eq_2 ..) (evNeg ?_ (Ev.now _))))
      simp [rd_T108]; omega
  | succ N ih =>
    intro n cur mt M hN hI
    refine Ev.step (fun k => impl_DrivenOut.l0.eq_2 ..) ?_
    cases cur with
    | nil => exact evNeg (by simp) (Ev.step (fun k => impl_DrivenOut.j2.eq_2 ..) (evNeg (by simp) (Ev.now _)))
    | cons e l =>
      have he := (hI.ok e (by simp)).2
      have hl := mt_len hI.hmt
      have hln := hI.len
      refine evPos (by simp) (evPos (by simp) (Ev.step (fun k => impl_DrivenOut.j2.eq_2 ..) (evPos ?_ ?_)))
      · simp [rd_T108]; omega
      · exact impl_l1 hc hm (by omega) (e :: l) (by omega) hI.ok _ (fun nx' mt' M' h => ih (n + 1) nx' mt' M' (by omega) h) (e :: l) [] [] mt M rfl ⟨fun _ h => by simp at h, hI.hmt, hI.sn, by simp⟩
theorem l1Has_l0 (l : List Int) (x : Int) (hl : l.length ≤ 1048576) : ∀ (suf pre : List Int), l = pre ++ suf → Ev (fun k => spec_l1Has.l0 k x l (l.length : Int) (pre.length : Int)) (decide (x ∈ suf)) := by
  intro suf
  induction suf with
  | nil =>
    intro pre h
    exact Ev.step (fun k => spec_l1Has.l0.eq_2 ..) (evNeg (rgEnd h) (evNow (by simp)))
  | cons y suf ih =>
    intro pre h
    obtain ⟨h1, h2, h3, h4, h5⟩ := rgHead h (by omega) 0
    refine Ev.step (fun k => spec_l1Has.l0.eq_2 ..) ?_
    simp only [h1, h2, h3, rd, h4, if_true]
    refine evBy (fun c => evNow (decT (by rw [c]; simp))) (fun c => evEq (ih _ h5) (decD (by simp [Ne.symm c])))
theorem l1Has_ev {l : List Int} (hl : l.length ≤ 1048576) (x : Int) : Ev (fun k => spec_l1Has.f k l x) (decide (x ∈ l)) := by
  unfold spec_l1Has.f; exact l1Has_l0 l x hl l [] rfl
structure Jv (b g lim : Int) (n : Nat) (q : Nat) (nx : List S108) (mt : List Int) : Prop where
  ok : okL b g n nx
  hmt : Mt lim mt
  len : q + nx.length ≤ mt.length
theorem qAt {α : Type} (f : S108 → α) (z : α) (P : List S108) (e : S108) (B : List S108) : ((P ++ e :: B).map f).getD P.length z = f e := by simp
theorem spec_l1 {b g m lim : Int} (hc : ctl b g) (hm : 0 ≤ m ∧ m ≤ 50) {n : Nat} (hn : n + 1 ≤ 20) (P rest : List S108) (e : S108) (he : okO b g n e.f0 ∧ e.f1.length = n) (R : List S108 → List Int → List Int × Bool)
    (hR : ∀ nx' mt', Jv b g lim (n + 1) (P.length + 1 + rest.length) nx' mt' → Ev (fun k => spec_DrivenOut.l0 k m lim ((P ++ e :: (rest ++ nx')).map (·.f0)) ((P ++ e :: (rest ++ nx')).map (·.f1)) mt' (wrap64 ((P.length : Int) + 1)) b g) (R nx' mt')) :
    ∀ (ds pre : List Int) (nx : List S108) (mt : List Int), [-m, 0, m] = pre ++ ds → Jv b g lim (n + 1) (P.length + 1 + rest.length) nx mt →
    Ev (fun k => spec_DrivenOut.l1 k m lim ((P ++ e :: (rest ++ nx)).map (·.f0)) ((P ++ e :: (rest ++ nx)).map (·.f1)) mt (P.length : Int) [-m, 0, m] (([-m, 0, m] : List Int).length : Int) (pre.length : Int) b g) (fin R (exd b g lim e ds nx mt)) := by
  intro ds
  induction ds with
  | nil =>
    intro pre nx mt h hI
    exact Ev.step (fun k => spec_DrivenOut.l1.eq_2 ..) (evNeg (rgEnd h) (hR nx mt hI))
  | cons d ds ih =>
    intro pre nx mt h hI
    obtain ⟨h1, h2, h3, h4, h5⟩ := rgHead h (by simp) 0
    have hd : -50 ≤ d ∧ d ≤ 50 := by
      have : d ∈ ([-m, 0, m] : List Int) := by rw [h]; simp
      simp at this; omega
    have hy := okO_mv hc hd he.1
    have hy' := okO_small hc hy hn
    have ho := okO_small hc he.1 (by omega)
    have hl := mt_len hI.hmt
    have hln := hI.len
    have hel := he.2
    have ih' := fun nx mt => ih (pre ++ [d]) nx mt h5
    have r0 : rd ((P ++ e :: (rest ++ nx)).map (·.f0)) (P.length : Int) = e.f0 := by unfold rd; rw [Int.toNat_natCast]; exact qAt (·.f0) 0 P e _
    have r1 : rd_L1 ((P ++ e :: (rest ++ nx)).map (·.f1)) (P.length : Int) = e.f1 := by unfold rd_L1; rw [Int.toNat_natCast]; exact qAt (·.f1) [] P e _
    have r2 : rd ([-m, 0, m] : List Int) (pre.length : Int) = d := h4
    have k0 : (P.length : Int) < (((P ++ e :: (rest ++ nx)).map (·.f0)).length : Int) := by simp; omega
    have k1 : (P.length : Int) < (((P ++ e :: (rest ++ nx)).map (·.f1)).length : Int) := by simp; omega
    refine Ev.step (fun k => spec_DrivenOut.l1.eq_2 ..) (evPos h1 (evPos h2 (evPos h1 (evPos (by omega) (evPos k0 ?_)))))
    rw [r0, r1, r2, tkStep_eq hc (show far e.f0 by unfold far; omega) (show far d by unfold far; omega), h3]
    simp only [Option.bind_some]
    rw [l1Abs_eq (by omega), own_eq (by omega)]
    simp only [Option.bind_some, exd]
    by_cases q : lim < ((mv b g e.f0 d).natAbs : Int)
    · rw [if_pos q]; exact evPos q (evPos k1 (evPos (by omega) (Ev.now _)))
    · rw [if_neg q]
      refine evNeg q (Ev.bind (l1Has_ev (by omega) _) ?_)
      by_cases c : mv b g e.f0 d ∈ mt
      · rw [if_pos c, decide_eq_true c]
        exact evPos rfl (ih' nx mt hI)
      · rw [if_neg c, decide_eq_false c]
        refine evNeg (by simp) (Ev.bind (l1Put_ev (by omega) _) (evPos (by simp; omega) (evPos k1 (evPos (by omega) (evPos (by simp; omega) ?_)))))
        have := ih' (nx ++ [⟨mv b g e.f0 d, e.f1 ++ [d]⟩]) (put mt (mv b g e.f0 d)) ⟨okL_snoc hI.ok ⟨hy, by simp; omega⟩, mt_put hI.hmt hy' q, by rw [put_new _ _ c]; simp; omega⟩
        simpa using this
theorem spec_l0 {b g m lim : Int} (hc : ctl b g) (hm : 0 ≤ m ∧ m ≤ 50) : ∀ (N n : Nat) (P cur : List S108) (mt : List Int), N + n = 20 → Jv b g lim n P.length cur mt → Ev (fun k => spec_DrivenOut.l0 k m lim ((P ++ cur).map (·.f0)) ((P ++ cur).map (·.f1)) mt (P.length : Int) b g) (lev b g m lim N cur mt) := by
  have stop : ∀ (n : Nat) (P cur : List S108) (mt : List Int), (cur = [] ∨ n = 20) → Jv b g lim n P.length cur mt → Ev (fun k => spec_DrivenOut.l0 k m lim ((P ++ cur).map (·.f0)) ((P ++ cur).map (·.f1)) mt (P.length : Int) b g) ([], false) := by
    intro n P cur mt hN hI
    refine Ev.step (fun k => spec_DrivenOut.l0.eq_2 ..) ?_
    cases cur with
    | nil => exact evNeg (by simp) (Ev.now _)
    | cons e l =>
      have he := (hI.ok e (by simp)).2
      have r1 : rd_L1 ((P ++ e :: l).map (·.f1)) (P.length : Int) = e.f1 := by unfold rd_L1; rw [Int.toNat_natCast]; exact qAt (·.f1) [] P e _
      refine evPos (by simp; omega) (evPos (by omega) (evPos (by simp; omega) ?_))
      rw [r1]
      refine evPos ?_ (Ev.now _)
      rcases hN with hN | hN
      · simp at hN
      · omega
  intro N
  induction N with
  | zero =>
    intro n P cur mt hN hI
    exact stop n P cur mt (.inr (by omega)) hI
  | succ N ih =>
    intro n P cur mt hN hI
    have go : ∀ (l P nx : List S108) (mt : List Int), okL b g n l → Jv b g lim (n + 1) (P.length + l.length) nx mt → Ev (fun k => spec_DrivenOut.l0 k m lim ((P ++ (l ++ nx)).map (·.f0)) ((P ++ (l ++ nx)).map (·.f1)) mt (P.length : Int) b g) (fin (lev b g m lim N) (exl b g m lim l nx mt)) := by
      intro l
      induction l with
      | nil =>
        intro P nx mt _ hJ
        simp only [exl, fin, List.nil_append]
        exact ih (n + 1) P nx mt (by omega) hJ
      | cons e l ihl =>
        intro P nx mt hok hJ
        have he := hok e (by simp)
        have hl := mt_len hJ.hmt
        have hln := hJ.len
        simp at hln
        have r1 : rd_L1 ((P ++ (e :: l ++ nx)).map (·.f1)) (P.length : Int) = e.f1 := by unfold rd_L1; rw [Int.toNat_natCast]; exact qAt (·.f1) [] P e _
        refine Ev.step (fun k => spec_DrivenOut.l0.eq_2 ..) (evPos (by simp; omega) (evPos (by omega) (evPos (by simp; omega) ?_)))
        rw [r1]
        refine evNeg (by omega) ?_
        simp only [Option.bind_some]
        rw [wrapi (x := -m) (by omega) (by omega), fin_exl]
        refine spec_l1 hc hm (by omega) P l e he _ (fun nx' mt' hJ' => ?_) [-m, 0, m] [] nx mt rfl ⟨hJ.ok, hJ.hmt, by omega⟩
        rw [wrapi (by omega) (by omega)]
        have := ihl (P ++ [e]) nx' mt' (fun x hx => hok x (by simp [hx])) ⟨hJ'.ok, hJ'.hmt, by have := hJ'.len; simp; omega⟩
        simpa using this
    cases cur with
    | nil => exact stop n P [] mt (.inl rfl) hI
    | cons e l =>
      have := go (e :: l) P [] mt hI.ok ⟨fun _ h => by simp at h, hI.hmt, by simpa using hI.len⟩
      simpa [lev] using this
def drvOk (b g m lim : Int) : Prop := ctl b g ∧ (0 ≤ m ∧ m ≤ 50) ∧ (0 ≤ lim ∧ lim ≤ 2000) ∧ m ≠ 0
instance (b g m lim : Int) : Decidable (drvOk b g m lim) := by unfold drvOk; exact inferInstance
def drvRes (b g m lim : Int) : List Int × Bool := if drvOk b g m lim then lev b g m lim 20 [⟨0, []⟩] [0] else ([], false)
theorem mt0 {lim : Int} (h : 0 ≤ lim) : Mt lim [0] := ⟨by simp, fun x hx => by simp at hx; subst hx; omega⟩
theorem ok0 {b g : Int} : okL b g 0 [⟨0, []⟩] := fun e he => by rw [List.mem_singleton.1 he]; exact ⟨.inl (by simp), rfl⟩
theorem specDrv_ev (b g m lim : Int) : Ev (fun k => spec_DrivenOut.f k b g m lim) (drvRes b g m lim) := by
  have bad : ∀ {z : Bool}, z = true → ¬ drvOk b g m lim → Ev (fun k => spec_DrivenOut.j0 k m lim z b g) (drvRes b g m lim) := fun hz h =>
    Ev.step (fun k => spec_DrivenOut.j0.eq_2 ..) (evPos hz (evNow (by unfold drvRes; rw [if_neg h])))
  unfold spec_DrivenOut.f
  simp only [tkMost_eq, in_eq, Option.bind_some, decide_eq_true_eq]
  refine evBy (fun c => evBy (fun c1 => ?_) (fun c1 => bad rfl (fun q => c1 q.2.2.1))) (fun c => bad rfl (fun q => c ⟨q.1, q.2.1⟩))
  by_cases c2 : m = 0
  · exact bad (by simp [c2]) (fun q => q.2.2.2 c2)
  · refine Ev.step (fun k => spec_DrivenOut.j0.eq_2 ..) (evNeg (by simpa using c2) ?_)
    unfold drvRes; rw [if_pos ⟨c.1, c.2, c1, c2⟩]
    exact spec_l0 c.1 c.2 20 0 [] [⟨0, []⟩] [0] rfl ⟨ok0, mt0 c1.1, by simp⟩
theorem implDrv_ev (b g m lim : Int) : Ev (fun k => impl_DrivenOut.f k b g m lim) (drvRes b g m lim) := by
  have bad : ∀ {z : Bool}, z = true → ¬ drvOk b g m lim → Ev (fun k => impl_DrivenOut.j0 k m lim z b g) (drvRes b g m lim) := fun hz h =>
    Ev.step (fun k => impl_DrivenOut.j0.eq_2 ..) (evPos hz (evNow (by unfold drvRes; rw [if_neg h])))
  unfold impl_DrivenOut.f
  simp only [isController_eq, isMostDrift_eq, isLimit_eq, Option.bind_some, decide_eq_true_eq]
  refine evBy (fun c => evBy (fun c1 => evBy (fun c2 => ?_) (fun c2 => bad rfl (fun q => c2 q.2.2.1))) (fun c1 => bad rfl (fun q => c1 q.2.1))) (fun c => bad rfl (fun q => c q.1))
  by_cases c3 : m = 0
  · exact bad (by simp [c3]) (fun q => q.2.2.2 c3)
  · refine Ev.step (fun k => impl_DrivenOut.j0.eq_2 ..) (evNeg (by simpa using c3) ?_)
    unfold drvRes; rw [if_pos ⟨c, c1, c2, c3⟩]
    exact impl_l0 c c1 20 0 [⟨0, []⟩] [0] _ rfl ⟨ok0, mt0 c2.1, fun t => by rw [bget_put]; by_cases z : t = 0 <;> simp [z, Mp.mget], by simp⟩
theorem exd_len (b g lim : Int) (e : S108) : ∀ (ds : List Int) (nx : List S108) (mt r : List Int), exd b g lim e ds nx mt = .inl r → r.length = e.f1.length + 1
  | [], _, _, _, h => by simp [exd] at h
  | d :: ds, nx, mt, r, h => by
    simp only [exd] at h
    split at h
    · injection h with h; rw [← h]; simp
    · split at h
      · exact exd_len b g lim e ds _ _ r h
      · exact exd_len b g lim e ds _ _ r h
-- ** intlaw
theorem eqInt_l0 (l : List Int) (hl : l.length ≤ 4611686018427387904) : ∀ (suf pre : List Int), l = pre ++ suf → Ev (fun k => laws_eqIntS.l0 k l l (pre.length : Int)) true := by
  intro suf
  induction suf with
  | nil =>
    intro pre h
    refine Ev.step (fun k => laws_eqIntS.l0.eq_2 ..) ?_
    simp only [rgEnd h, if_false]
    exact Ev.now _
  | cons x suf ih =>
    intro pre h
    obtain ⟨h1, h2, h3, h4, h5⟩ := rgHead h hl 0
    refine Ev.step (fun k => laws_eqIntS.l0.eq_2 ..) ?_
    simp only [h1, h2, h3, if_true]
    exact ih _ h5
theorem eqInt_ev (l : List Int) (hl : l.length ≤ 4611686018427387904) : Ev (fun k => laws_eqIntS.f k l l) true := by
  unfold laws_eqIntS.f
  exact evPos rfl (eqInt_l0 l hl l [] rfl)
-- ** intmark
def mkInt : List Int → Int → List Int
  | [], _ => []
  | _ :: l, k => k :: mkInt l (k + 1)
theorem mkInt_length : ∀ (l : List Int) (k : Int), (mkInt l k).length = l.length
  | [], _ => rfl
  | _ :: l, k => by simp [mkInt, mkInt_length l]
theorem markInt_l0 : ∀ (suf pre : List Int) (k : Int), pre.length + suf.length ≤ 1048576 → 0 ≤ k → k + (suf.length : Int) ≤ 4611686018427387904 →
    Ev (fun n => laws_markIntS.l0 n (pre ++ suf) k (pre.length : Int)) (k + (suf.length : Int), pre ++ mkInt suf k) := by
  intro suf
  induction suf with
  | nil =>
    intro pre k hl h0 hk
    refine Ev.step (fun k => laws_markIntS.l0.eq_2 ..) ?_
    simp only [rgEnd (l := pre ++ []) (pre := pre) rfl, if_false]
    exact evNow (by simp [mkInt])
  | cons x suf ih =>
    intro pre k hl h0 hk
    obtain ⟨h1, h2, h3, h4, h5⟩ := rgHead (l := pre ++ x :: suf) (pre := pre) rfl (by simp at hl ⊢; omega) 0
    simp at hl hk
    refine Ev.step (fun k => laws_markIntS.l0.eq_2 ..) ?_
    simp only [h1, h2, h3, if_true]
    rw [setAt _ _ _ _ _ (by simp), wrapi (by omega) (by omega)]
    have := ih (pre ++ [k]) (k + 1) (by simp; omega) (by omega) (by omega)
    simp only [List.append_assoc, List.singleton_append] at this
    have e : ((pre ++ [x]).length : Int) = ((pre ++ [k] : List Int).length : Int) := by simp
    rw [e]
    exact evEq this (by simp [mkInt]; omega)
theorem markInt_at (l : List Int) (k : Int) (hl : l.length ≤ 1048576) (h0 : 0 ≤ k) (hk : k ≤ 1000000000) : Ev (fun n => laws_markIntS.f n l k) (k + (l.length : Int), mkInt l k) := by
  unfold laws_markIntS.f
  exact markInt_l0 l [] k (by simpa using hl) h0 (by omega)
theorem markInt_ev (l : List Int) (hl : l.length ≤ 1048576) : Ev (fun n => laws_markIntS.f n l 1) (1 + (l.length : Int), mkInt l 1) := markInt_at l 1 hl (by omega) (by omega)
theorem heldInt_l0 : ∀ (suf pre : List Int) (k : Int), pre.length + suf.length ≤ 1048576 → 0 ≤ k → k + (suf.length : Int) ≤ 4611686018427387904 →
    Ev (fun n => laws_heldIntS.l0 n (pre ++ mkInt suf k) k (pre.length : Int)) (k + (suf.length : Int)) := by
  intro suf
  induction suf with
  | nil =>
    intro pre k hl h0 hk
    refine Ev.step (fun k => laws_heldIntS.l0.eq_2 ..) ?_
    simp only [mkInt, rgEnd (l := pre ++ []) (pre := pre) rfl, if_false]
    exact evNow (by simp)
  | cons x suf ih =>
    intro pre k hl h0 hk
    simp only [mkInt]
    simp at hl hk
    obtain ⟨h1, h2, h3, h4, h5⟩ := rgHead (l := pre ++ k :: mkInt suf (k + 1)) (pre := pre) rfl (by simp [mkInt_length]; omega) 0
    refine Ev.step (fun k => laws_heldIntS.l0.eq_2 ..) ?_
    simp only [h1, h2, h3, rd, h4, if_true]
    rw [wrapi (by omega) (by omega), h5]
    refine evEq (ih (pre ++ [k]) (k + 1) (by simp; omega) (by omega) (by omega)) (by simp; omega)
theorem heldInt_at (l : List Int) (k : Int) (hl : l.length ≤ 1048576) (h0 : 0 ≤ k) (hk : k ≤ 1000000000) : Ev (fun n => laws_heldIntS.f n (mkInt l k) k) (k + (l.length : Int)) := by
  unfold laws_heldIntS.f
  exact heldInt_l0 l [] k (by simpa using hl) h0 (by omega)
theorem heldInt_ev (l : List Int) (hl : l.length ≤ 1048576) : Ev (fun n => laws_heldIntS.f n (mkInt l 1) 1) (1 + (l.length : Int)) := heldInt_at l 1 hl (by omega) (by omega)
-- ** FnExactDrivenOut
theorem exd_nx (b g lim : Int) (e : S108) : ∀ (ds : List Int) (nx : List S108) (mt : List Int) (p : List S108 × List Int), exd b g lim e ds nx mt = .inr p → (∀ x, x ∈ nx → x.f1.length = e.f1.length + 1) → ∀ x, x ∈ p.1 → x.f1.length = e.f1.length + 1
  | [], nx, mt, p, h, hn => by
    simp only [exd] at h; injection h with h; subst h; exact hn
  | d :: ds, nx, mt, p, h, hn => by
    simp only [exd] at h
    split at h
    · cases h
    · split at h
      · exact exd_nx b g lim e ds _ _ p h hn
      · refine exd_nx b g lim e ds _ _ p h (fun x hx => ?_)
        rcases List.mem_append.1 hx with q | q
        · exact hn x q
        · rw [List.mem_singleton.1 q]; simp
theorem exl_len (b g m lim : Int) (n : Nat) : ∀ (l nx : List S108) (mt : List Int), (∀ x, x ∈ l → x.f1.length = n) → (∀ x, x ∈ nx → x.f1.length = n + 1) → (∀ r, exl b g m lim l nx mt = .inl r → r.length = n + 1) ∧ (∀ p, exl b g m lim l nx mt = .inr p → ∀ x, x ∈ p.1 → x.f1.length = n + 1)
  | [], nx, mt, _, hn => ⟨fun r h => by simp [exl] at h, fun p h => by simp only [exl] at h; injection h with h; subst h; exact hn⟩
  | e :: l, nx, mt, hl, hn => by
    have he := hl e (by simp)
    simp only [exl]
    cases c : exd b g lim e [-m, 0, m] nx mt with
    | inl r =>
      have := exd_len b g lim e _ nx mt r c
      exact ⟨fun r' h => by injection h with h; subst h; omega, fun p h => by cases h⟩
    | inr p => exact exl_len b g m lim n l p.1 p.2 (fun x hx => hl x (by simp [hx])) (fun x hx => by rw [exd_nx b g lim e _ nx mt p c (fun x hx => by rw [hn x hx, he]) x hx, he])
theorem lev_len (b g m lim : Int) : ∀ (N n : Nat) (cur : List S108) (mt : List Int), N + n = 20 → (∀ x, x ∈ cur → x.f1.length = n) → (lev b g m lim N cur mt).1.length ≤ 20
  | 0, _, _, _, _, _ => by simp [lev]
  | _ + 1, _, [], _, _, _ => by simp [lev]
  | N + 1, n, e :: l, mt, hN, h => by
    obtain ⟨h1, h2⟩ := exl_len b g m lim n (e :: l) [] mt h (fun _ q => by simp at q)
    simp only [lev]
    cases c : exl b g m lim (e :: l) [] mt with
    | inl r => have := h1 r c; simp only [fin]; omega
    | inr p => exact lev_len b g m lim N (n + 1) p.1 p.2 (by omega) (h2 p c)
theorem drvRes_len (b g m lim : Int) : (drvRes b g m lim).1.length ≤ 20 := by
  unfold drvRes; split
  · exact lev_len b g m lim 20 0 _ _ rfl (fun x hx => by rw [List.mem_singleton.1 hx]; rfl)
  · simp
theorem FnExactDrivenOut (a0_0 a0_1 a1 a2 : Int) (_ : Opn.I64 a0_0) (_ : Opn.I64 a0_1) (_ : Opn.I64 a1) (_ : Opn.I64 a2) : ∃ k, laws_FnExactDrivenOut.f k a0_0 a0_1 a1 a2 = some true := by
  refine Ev.rounds (g := fun k => laws_FnExactDrivenOut.f k a0_0 a0_1 a1 a2) ?_
  unfold laws_FnExactDrivenOut.f laws_toController.f
  simp only [Option.bind_some]
  have hr := drvRes_len a0_0 a0_1 a1 a2
  refine Ev.bind (specDrv_ev _ _ _ _) (Ev.bind (implDrv_ev _ _ _ _) (Ev.bind (eqInt_ev _ (by omega)) ?_))
  simp only [bne_self_eq_false, if_true]
  refine Ev.step (fun k => laws_FnExactDrivenOut.j0.eq_2 ..) (evNeg (by simp) (Ev.bind (markInt_ev _ (by omega)) (Ev.bind (heldInt_ev _ (by omega)) (evNeg (by omega) (evPos rfl ?_)))))
  simp only [laws_toController.f, Option.bind_some]
  refine Ev.bind (implDrv_ev _ _ _ _) (Ev.bind (eqInt_ev _ (by omega)) ?_)
  simp only [bne_self_eq_false, if_true]
  exact Ev.step (fun k => laws_FnExactDrivenOut.j1.eq_2 ..) (evNeg (by simp) (Ev.bind (heldInt_ev _ (by omega)) (evNeg (by omega) (evPos rfl (Ev.now _)))))
end Go.Proofs.Ytepkedhmbfkenaa.Pure
