/- The program's SegmentsText returns what the reference's returns, for all arguments.: the plain part: what the program computes and what the reference computes agree, for all arguments. No conditions beyond the arguments' own kinds. -/
import Derived.Test.YtjjjikdpegogcaaDoorPSgx0
import Derived.Test.YtjjjikdpegogcaaDoorPSgx1
import Derived.Test.YtjjjikdpegogcaaDoorPSgx2
import Derived.Test.YtjjjikdpegogcaaDoorPSgx3
import Derived.Test.YtjjjikdpegogcaaDoorPSgx4
import Derived.Test.YtjjjikdpegogcaaDoorOpn
namespace Go.Proofs.YtjjjikdpegogcaaDoor.Pure
open Go.RowKit Go.Proofs.YtjjjikdpegogcaaDoor.PSg Go.Proofs.YtjjjikdpegogcaaDoorW.PrintWords Go.Proofs.YtjjjikdpegogcaaDoorW.PrintLast Go.Proofs.YtjjjikdpegogcaaDoorW.PrintMore
-- ** base
theorem wrapi {x : Int} (h0 : -9223372036854775808 ≤ x) (h1 : x ≤ 9223372036854775807) : wrap64 x = x := by unfold wrap64; omega
theorem evPos {α : Type} {c : Prop} [Decidable c] {g f : Nat → Option α} {r : α} (h : c) (e : Ev g r) : Ev (fun k => if c then g k else f k) r := by
  simp only [if_pos h]; exact e
theorem evNeg {α : Type} {c : Prop} [Decidable c] {g f : Nat → Option α} {r : α} (h : ¬ c) (e : Ev f r) : Ev (fun k => if c then g k else f k) r := by
  simp only [if_neg h]; exact e
theorem evC {α β : Type} {o : Option α} {f : Nat → α → Option β} {a : α} {r : β} (h : o = some a) (e : Ev (fun n => f n a) r) : Ev (fun n => o.bind (f n)) r := by
  subst h; exact e
theorem evNow {α : Type} {r q : α} (h : r = q) : Ev (fun _ => some r) q := by subst h; exact Ev.now r
theorem evEq {α : Type} {g : Nat → Option α} {r q : α} (h : Ev g r) (e : r = q) : Ev g q := e ▸ h
theorem evIte {α : Type} {c : Prop} [Decidable c] {g f : Nat → Option α} {r q : α} (h : c → Ev g r) (h' : ¬ c → Ev f q) : Ev (fun k => if c then g k else f k) (if c then r else q) := by
  by_cases hc : c
  · simp only [if_pos hc]; exact h hc
  · simp only [if_neg hc]; exact h' hc
theorem evBy {α : Type} {c : Prop} [Decidable c] {g f : Nat → Option α} {r : α} (h : c → Ev g r) (h' : ¬ c → Ev f r) : Ev (fun k => if c then g k else f k) r := by
  by_cases hc : c
  · simp only [if_pos hc]; exact h hc
  · simp only [if_neg hc]; exact h' hc
theorem someF {p : Prop} [Decidable p] (h : ¬ p) : some false = some (decide p) := by rw [decide_eq_false h]
theorem someD {p q : Prop} [Decidable p] [Decidable q] (h : p ↔ q) : some (decide p) = some (decide q) := by rw [decide_eq_decide.mpr h]
theorem rgEnd {α : Type} {l pre : List α} (h : l = pre ++ []) : ¬ ((pre.length : Int) < (l.length : Int)) := by subst h; simp
theorem rgHead {α : Type} {l pre suf : List α} {x : α} (h : l = pre ++ x :: suf) (hl : l.length ≤ 4611686018427387904) (z : α) :
    (pre.length : Int) < (l.length : Int) ∧ (0 : Int) ≤ (pre.length : Int) ∧ wrap64 ((pre.length : Int) + 1) = ((pre ++ [x]).length : Int) ∧ l.getD (pre.length : Int).toNat z = x ∧ l = (pre ++ [x]) ++ suf := by
  subst h
  simp at hl
  refine ⟨by simp; omega, by omega, ?_, by simp, by simp⟩
  rw [wrapi (by omega) (by omega)]; simp
theorem in_eq (a b c : Int) : spec_l1In.f a b c = some (decide (b ≤ a ∧ a ≤ c)) := by
  unfold spec_l1In.f
  split
  · exact someD (by omega)
  · exact someF (by omega)
-- ** lists
theorem setAt {α : Type} (A B : List α) (z v : α) (n : Nat) (h : n = A.length) : (A ++ z :: B).set n v = A ++ v :: B := by subst h; simp
-- ** seglaw
def cvSeg (x : S68) : S65 := ⟨x.f0, x.f1⟩
theorem szSeg_eq (l : List S68) (h : l.length ≤ 9223372036854775807) : laws_szSegmentS.f l 1048576 = some (if l.length ≤ 1048576 then 1048576 - (l.length : Int) else -1) := by
  unfold laws_szSegmentS.f
  rw [wrapi (by omega) (by omega)]
  by_cases c : l.length ≤ 1048576
  · rw [if_neg (by omega), if_pos c]
  · rw [if_pos (by omega), if_neg c]
theorem toSeg_l0 (l : List S68) (hl : l.length ≤ 1048576) : ∀ (suf pre : List S68), l = pre ++ suf →
    Ev (fun k => laws_toSegmentS.l0 k l (pre.map cvSeg ++ List.replicate suf.length z65) (pre.length : Int)) (l.map cvSeg) := by
  intro suf
  induction suf with
  | nil =>
    intro pre h
    refine Ev.step (fun k => laws_toSegmentS.l0.eq_2 ..) ?_
    simp only [rgEnd h, if_false]
    exact evNow (by subst h; simp)
  | cons x suf ih =>
    intro pre h
    obtain ⟨h1, h2, h3, h4, h5⟩ := rgHead h (by omega) z68
    refine Ev.step (fun k => laws_toSegmentS.l0.eq_2 ..) ?_
    simp only [h1, h2, h3, rd_T68, h4, if_true, laws_toSegment.f, Option.bind_some]
    refine evPos (by simp; omega) ?_
    have e : (pre.map cvSeg ++ List.replicate (x :: suf).length z65).set (pre.length : Int).toNat ⟨x.f0, x.f1⟩ = (pre ++ [x]).map cvSeg ++ List.replicate suf.length z65 := by
      rw [List.length_cons, List.replicate_succ, setAt _ _ _ _ _ (by simp)]
      simp [cvSeg]
    rw [e]
    exact ih _ h5
theorem toSeg_ev (l : List S68) (hl : l.length ≤ 1048576) : Ev (fun k => laws_toSegmentS.f k l) (l.map cvSeg) := by
  unfold laws_toSegmentS.f
  refine evPos (by omega) (evPos (by omega) ?_)
  have := toSeg_l0 l hl l [] rfl
  simpa using this
theorem eqSeg_l0 (l : List S65) (hl : l.length ≤ 4611686018427387904) : ∀ (suf pre : List S65), l = pre ++ suf → Ev (fun k => laws_eqSegmentS.l0 k l l (pre.length : Int)) true := by
  intro suf
  induction suf with
  | nil =>
    intro pre h
    refine Ev.step (fun k => laws_eqSegmentS.l0.eq_2 ..) ?_
    simp only [rgEnd h, if_false]
    exact Ev.now _
  | cons x suf ih =>
    intro pre h
    obtain ⟨h1, h2, h3, h4, h5⟩ := rgHead h hl z65
    refine Ev.step (fun k => laws_eqSegmentS.l0.eq_2 ..) ?_
    simp only [h1, h2, h3, if_true, laws_eqSegment.f, Option.bind_some]
    exact ih _ h5
theorem eqSeg_ev (l : List S65) (hl : l.length ≤ 4611686018427387904) : Ev (fun k => laws_eqSegmentS.f k l l) true := by
  unfold laws_eqSegmentS.f
  exact evPos rfl (eqSeg_l0 l hl l [] rfl)
-- ** seggood
def seg (x : S65) : Bool := decide (1 ≤ x.f0 ∧ x.f0 ≤ 500 ∧ 900 ≤ x.f1 ∧ x.f1 ≤ 1100)
theorem seg_iff {x : S65} : seg x = true ↔ 1 ≤ x.f0 ∧ x.f0 ≤ 500 ∧ 900 ≤ x.f1 ∧ x.f1 ≤ 1100 := by simp [seg]
def stps : List S65 → Int
  | [] => 0
  | x :: l => x.f0 + stps l
def goodSegs (l : List S65) : Bool := decide (1 ≤ l.length ∧ l.length ≤ 20) && (l.all seg && decide (stps l ≤ 2000))
theorem good_iff {l : List S65} : goodSegs l = true ↔ (1 ≤ l.length ∧ l.length ≤ 20) ∧ l.all seg = true ∧ stps l ≤ 2000 := by simp [goodSegs]
theorem stSteps_l0 (l : List S65) (hl : l.length ≤ 1048576) : ∀ (suf pre : List S65) (a : Int), l = pre ++ suf → suf.all seg = true → 0 ≤ a → a ≤ 500 * (pre.length : Int) →
    Ev (fun k => spec_stSteps.l0 k a l (l.length : Int) (pre.length : Int)) (a + stps suf) := by
  intro suf
  induction suf with
  | nil =>
    intro pre a h hs h0 ha
    refine Ev.step (fun k => spec_stSteps.l0.eq_2 ..) ?_
    simp only [rgEnd h, if_false]
    exact evNow (by simp [stps])
  | cons x suf ih =>
    intro pre a h hs h0 ha
    obtain ⟨h1, h2, h3, h4, h5⟩ := rgHead h (by omega) z65
    simp only [List.all_cons, Bool.and_eq_true] at hs
    have hx := seg_iff.1 hs.1
    have hpl : pre.length ≤ 1048576 := by omega
    refine Ev.step (fun k => spec_stSteps.l0.eq_2 ..) ?_
    simp only [h1, h2, h3, rd_T65, h4, if_true]
    rw [wrapi (by omega) (by omega)]
    exact evEq (ih _ _ h5 hs.2 (by omega) (by simp; omega)) (by simp only [stps]; omega)
theorem stSteps_ev {l : List S65} (hl : l.length ≤ 1048576) (hs : l.all seg = true) : Ev (fun k => spec_stSteps.f k l) (stps l) :=
  evEq (stSteps_l0 l hl l [] 0 rfl hs (by omega) (by simp)) (by simp)
theorem stSegment_eq (x : S65) : spec_stSegment.f x.f0 x.f1 = some (seg x) := by
  unfold spec_stSegment.f; simp only [in_eq, Option.bind_some, decide_eq_true_eq]
  split
  · exact someD (by omega)
  · exact someF (by omega)
theorem stGood_l0 (l : List S65) (hl : l.length ≤ 1048576) : ∀ (suf pre : List S65), l = pre ++ suf → pre.all seg = true →
    Ev (fun k => spec_stGood.l0 k l l (l.length : Int) (pre.length : Int)) (suf.all seg && decide (stps l ≤ 2000)) := by
  intro suf
  induction suf with
  | nil =>
    intro pre h hp
    refine Ev.step (fun k => spec_stGood.l0.eq_2 ..) ?_
    simp only [rgEnd h, if_false]
    refine Ev.bind (stSteps_ev hl (by rw [h]; simpa using hp)) (evNow (by simp))
  | cons x suf ih =>
    intro pre h hp
    obtain ⟨h1, h2, h3, h4, h5⟩ := rgHead h (by omega) z65
    refine Ev.step (fun k => spec_stGood.l0.eq_2 ..) ?_
    simp only [h1, h2, h3, rd_T65, h4, if_true, stSegment_eq, Option.bind_some]
    refine evBy (fun c => evEq (ih _ h5 (by simp at hp ⊢; exact ⟨hp, c⟩)) (by simp [c])) (fun c => evNow (by simp [c]))
theorem stGood_ev (l : List S65) : Ev (fun k => spec_stGood.f k l) (goodSegs l) := by
  unfold spec_stGood.f goodSegs
  simp only [in_eq, Option.bind_some, decide_eq_true_eq]
  refine evBy (fun c => evEq (stGood_l0 l (by omega) l [] rfl rfl) ?_) (fun c => evNow ?_)
  · rw [show decide (1 ≤ l.length ∧ l.length ≤ 20) = true from decide_eq_true (by omega)]; rfl
  · rw [show decide (1 ≤ l.length ∧ l.length ≤ 20) = false from decide_eq_false (by omega)]; rfl
theorem allSteps_l0 (l : List S65) (hl : l.length ≤ 1048576) : ∀ (suf pre : List S65) (a : Int), l = pre ++ suf → suf.all seg = true → 0 ≤ a → a ≤ 500 * (pre.length : Int) →
    Ev (fun k => impl_allSteps.l0 k a l (l.length : Int) (pre.length : Int)) (a + stps suf) := by
  intro suf
  induction suf with
  | nil =>
    intro pre a h hs h0 ha
    refine Ev.step (fun k => impl_allSteps.l0.eq_2 ..) ?_
    simp only [rgEnd h, if_false]
    exact evNow (by simp [stps])
  | cons x suf ih =>
    intro pre a h hs h0 ha
    obtain ⟨h1, h2, h3, h4, h5⟩ := rgHead h (by omega) z65
    simp only [List.all_cons, Bool.and_eq_true] at hs
    have hx := seg_iff.1 hs.1
    have hpl : pre.length ≤ 1048576 := by omega
    refine Ev.step (fun k => impl_allSteps.l0.eq_2 ..) ?_
    simp only [h1, h2, h3, rd_T65, h4, if_true]
    rw [wrapi (by omega) (by omega)]
    exact evEq (ih _ _ h5 hs.2 (by omega) (by simp; omega)) (by simp only [stps]; omega)
theorem allSteps_ev {l : List S65} (hl : l.length ≤ 1048576) (hs : l.all seg = true) : Ev (fun k => impl_allSteps.f k l) (stps l) :=
  evEq (allSteps_l0 l hl l [] 0 rfl hs (by omega) (by simp)) (by simp)
theorem areSegs_l0 (l : List S65) (hl : l.length ≤ 1048576) : ∀ (suf pre : List S65), l = pre ++ suf → pre.all seg = true →
    Ev (fun k => impl_AreSegments.l0 k l l (l.length : Int) (pre.length : Int)) (suf.all seg && decide (stps l ≤ 2000)) := by
  intro suf
  induction suf with
  | nil =>
    intro pre h hp
    refine Ev.step (fun k => impl_AreSegments.l0.eq_2 ..) ?_
    simp only [rgEnd h, if_false]
    refine Ev.bind (allSteps_ev hl (by rw [h]; simpa using hp)) (evNow (by simp))
  | cons x suf ih =>
    intro pre h hp
    obtain ⟨h1, h2, h3, h4, h5⟩ := rgHead h (by omega) z65
    refine Ev.step (fun k => impl_AreSegments.l0.eq_2 ..) ?_
    simp only [h1, h2, h3, rd_T65, h4, if_true]
    have bad : ¬ (1 ≤ x.f0 ∧ x.f0 ≤ 500 ∧ 900 ≤ x.f1 ∧ x.f1 ≤ 1100) → false = ((x :: suf).all seg && decide (stps l ≤ 2000)) := fun c => by
      have : seg x = false := decide_eq_false c
      simp [this]
    refine evBy (fun c => evNow (bad (by omega))) (fun c => evBy (fun c => evNow (bad (by omega))) (fun c => evBy (fun c => evNow (bad (by omega))) (fun c => evBy (fun c => evNow (bad (by omega))) (fun c => ?_))))
    have hx : seg x = true := seg_iff.2 (by omega)
    exact evEq (ih _ h5 (by simp at hp ⊢; exact ⟨hp, hx⟩)) (by simp [hx])
theorem areSegs_ev (l : List S65) : Ev (fun k => impl_AreSegments.f k l) (goodSegs l) := by
  unfold impl_AreSegments.f goodSegs
  refine evBy (fun c => ?_) (fun c => ?_)
  · refine Ev.step (fun k => impl_AreSegments.j0.eq_2 ..) (evPos rfl (evNow ?_))
    rw [show decide (1 ≤ l.length ∧ l.length ≤ 20) = false from decide_eq_false (by omega)]; rfl
  · refine Ev.step (fun k => impl_AreSegments.j0.eq_2 ..) ?_
    simp only [decide_eq_true_eq]
    refine evBy (fun c' => evNow ?_) (fun c' => evEq (areSegs_l0 l (by omega) l [] rfl rfl) ?_)
    · rw [show decide (1 ≤ l.length ∧ l.length ≤ 20) = false from decide_eq_false (by omega)]; rfl
    · rw [show decide (1 ≤ l.length ∧ l.length ≤ 20) = true from decide_eq_true (by omega)]; rfl
-- ** numtext
-- numbers in text
def txb (b : List UInt8) : ByteArray := ⟨b.toArray⟩
theorem txb_size (b : List UInt8) : (txb b).size = b.length := by simp [txb, ByteArray.size]
theorem txb_app (a b : List UInt8) : txb a ++ txb b = txb (a ++ b) := by
  have : (txb a ++ txb b).data = (txb (a ++ b)).data := by simp [txb]
  exact ByteArray.ext this
theorem dig_len : ∀ (n u : Nat), u < 10 ^ (n + 1) → (Go.Lib.decDigits u).length ≤ n + 1
  | 0, u, h => by rw [Go.Lib.decDigits, dif_pos (by simpa using h)]; simp
  | n + 1, u, h => by
    rw [Go.Lib.decDigits]
    split
    · simp
    · have := dig_len n (u / 10) (by rw [Nat.div_lt_iff_lt_mul (by omega)]; rw [Nat.pow_succ] at h; exact h)
      simp; omega
theorem dig_ten {u : Nat} (h : u ≤ 1000000000) : (Go.Lib.decDigits u).length ≤ 10 := dig_len 9 u (by omega)
theorem digit_eq (u : Nat) (h : u < 10) : strOfNums ([(wrap64 (48 + (u : Int))) % 256] : List Int) = txb [UInt8.ofNat (48 + u)] := by
  have e : (wrap64 (48 + (u : Int))) % 256 = ((48 + u : Nat) : Int) := by rw [wrapi (by omega) (by omega)]; omega
  rw [e]
  simp only [strOfNums, List.map_cons, List.map_nil, Int.toNat_natCast]
  rfl
theorem l1Num_ev : ∀ (u : Nat), u ≤ 1000000000 → Ev (fun k => spec_l1Num.f k (u : Int)) (txb (Go.Lib.decDigits u)) := by
  intro u
  induction u using Nat.strongRecOn with
  | ind u ih =>
    intro h
    refine Ev.step (fun k => spec_l1Num.f.eq_2 ..) ?_
    by_cases c : u < 10
    · refine evPos (by omega) (evNow ?_)
      rw [digit_eq u c, Go.Lib.decDigits, dif_pos c]
    · have e1 : wrap64 (Int.tdiv (u : Int) 10) = ((u / 10 : Nat) : Int) := by rw [Int.tdiv_eq_ediv_of_nonneg (by omega), wrapi (by omega) (by omega)]; omega
      have e2 : Int.tmod (u : Int) 10 = ((u % 10 : Nat) : Int) := by rw [Int.tmod_eq_emod_of_nonneg (by omega)]; omega
      have hl := dig_ten (u := u / 10) (by omega)
      rw [e1, e2]
      refine evNeg (by omega) (Ev.bind (ih (u / 10) (by omega) (by omega)) ?_)
      simp only [Option.bind_some]
      rw [digit_eq (u % 10) (by omega)]
      refine evPos (by rw [txb_size, txb_size]; simp; omega) (evNow ?_)
      rw [txb_app]
      conv => rhs; rw [Go.Lib.decDigits, dif_neg c]
theorem itoa_nat (u : Nat) : Go.Lib.itoa (u : Int) = Go.Lib.decDigits u := by
  unfold Go.Lib.itoa
  rw [if_neg (by omega), Int.toNat_natCast]
theorem numOf {x : Int} (h0 : 0 ≤ x) (h1 : x ≤ 1000000000) : Ev (fun k => spec_l1Num.f k x) (txb (Go.Lib.itoa x)) ∧ (Go.Lib.itoa x).length ≤ 10 := by
  have e : x = ((x.toNat : Nat) : Int) := by omega
  rw [e, itoa_nat]
  exact ⟨l1Num_ev x.toNat (by omega), dig_ten (by omega)⟩
def wordsTx (l : List Int) : List UInt8 := Go.Lib.join (l.map Go.Lib.itoa) [32]
theorem words_two (a b : Int) : wordsTx [a, b] = Go.Lib.itoa a ++ 32 :: Go.Lib.itoa b := by simp [wordsTx, Go.Lib.join, List.intercalate, List.intersperse]
theorem itoa_eq {x : Int} (h0 : 0 ≤ x) (h1 : x ≤ 1000000000) : strconv_Itoa.f x = some (txb (Go.Lib.itoa x)) := by
  unfold strconv_Itoa.f
  rw [if_pos (by omega)]; rfl
theorem words_ev (l : List Int) (hl : l.length ≤ 1000) (hb : ∀ x, x ∈ l → 0 ≤ x ∧ x ≤ 1000000000) (hj : (wordsTx l).length ≤ 140737488355328) : Ev (fun k => impl_words.f k l) (txb (wordsTx l)) := by
  unfold impl_words.f
  have go : ∀ (suf pre : List Int), l = pre ++ suf → Ev (fun k => impl_words.l0 k (pre.map fun x => txb (Go.Lib.itoa x)) l (l.length : Int) (pre.length : Int)) (txb (wordsTx l)) := by
    intro suf
    induction suf with
    | nil =>
      intro pre h
      have e : pre = l := by rw [h]; simp
      refine Ev.step (fun k => impl_words.l0.eq_2 ..) (evNeg (rgEnd h) ?_)
      have e2 : (l.map fun x => txb (Go.Lib.itoa x)).map (fun s => s.data.toList) = l.map Go.Lib.itoa := by
        rw [List.map_map]
        exact List.map_congr_left (fun x _ => by simp [txb])
      have ej : strings_Join.f (l.map fun x => txb (Go.Lib.itoa x)) (⟨#[32]⟩ : ByteArray) = some (txb (wordsTx l)) := by
        unfold strings_Join.f
        rw [e2]
        rw [if_pos ⟨by simp; omega, hj⟩]; rfl
      rw [e]
      exact evC ej (Ev.now _)
    | cons x suf ih =>
      intro pre h
      obtain ⟨h1, h2, h3, h4, h5⟩ := rgHead h (by omega) 0
      have hx := hb x (by rw [h]; simp)
      have hpl : pre.length ≤ l.length := by rw [h]; simp
      refine Ev.step (fun k => impl_words.l0.eq_2 ..) (evPos h1 (evPos h2 (evPos h1 ?_)))
      rw [show rd l (pre.length : Int) = x from h4, h3]
      refine evC (itoa_eq hx.1 hx.2) (evPos (by simp; omega) ?_)
      have := ih (pre ++ [x]) h5
      simp only [List.map_append, List.map_cons, List.map_nil] at this
      exact this
  exact go l [] rfl
theorem words2_ev {a b : Int} (ha : 0 ≤ a ∧ a ≤ 1000000000) (hb : 0 ≤ b ∧ b ≤ 1000000000) : Ev (fun k => impl_words.f k [a, b]) (txb (Go.Lib.itoa a ++ 32 :: Go.Lib.itoa b)) := by
  have h1 := (numOf ha.1 ha.2).2
  have h2 := (numOf hb.1 hb.2).2
  rw [← words_two]
  refine words_ev [a, b] (by simp) (fun x hx => ?_) (by rw [words_two]; simp; omega)
  simp at hx
  rcases hx with rfl | rfl
  · exact ha
  · exact hb
-- ** SegmentsText_
def segLine (x : S65) : List UInt8 := (Go.Lib.itoa x.f0 ++ 32 :: Go.Lib.itoa x.f1) ++ [10]
def segLines (l : List S65) : List UInt8 := l.flatMap segLine
def segTextRes (l : List S65) : ByteArray × Bool := if goodSegs l = true then (txb (segLines l), true) else (⟨#[]⟩, false)
theorem segLine_len {x : S65} (h : seg x = true) : (segLine x).length ≤ 22 := by
  have hx := seg_iff.1 h
  have h1 := (numOf (x := x.f0) (by omega) (by omega)).2
  have h2 := (numOf (x := x.f1) (by omega) (by omega)).2
  simp [segLine]; omega
theorem segLines_len : ∀ {l : List S65}, l.all seg = true → (segLines l).length ≤ 22 * l.length
  | [], _ => by simp [segLines]
  | x :: l, h => by
    simp only [List.all_cons, Bool.and_eq_true] at h
    have h1 := segLine_len h.1
    have h2 := segLines_len h.2
    simp only [segLines, List.flatMap_cons, List.length_append, List.length_cons] at h2 ⊢
    omega
theorem segLines_snoc (l : List S65) (x : S65) : segLines (l ++ [x]) = segLines l ++ segLine x := by simp [segLines]
theorem tx1 : (⟨#[32]⟩ : ByteArray) = txb [32] := rfl
theorem tx2 : (⟨#[10]⟩ : ByteArray) = txb [10] := rfl
theorem specSegText_ev (l : List S65) : Ev (fun k => spec_SegmentsText.f k l) (segTextRes l) := by
  unfold spec_SegmentsText.f segTextRes
  refine Ev.bind (stGood_ev l) (evIte (fun c => ?_) (fun _ => Ev.now _))
  have hg := good_iff.1 c
  have go : ∀ (suf pre : List S65), l = pre ++ suf → Ev (fun k => spec_SegmentsText.l0 k (txb (segLines pre)) l (l.length : Int) (pre.length : Int)) (txb (segLines l), true) := by
    intro suf
    induction suf with
    | nil =>
      intro pre h
      refine Ev.step (fun k => spec_SegmentsText.l0.eq_2 ..) (evNeg (rgEnd h) (evNow ?_))
      rw [h]; simp
    | cons x suf ih =>
      intro pre h
      obtain ⟨h1, h2, h3, h4, h5⟩ := rgHead h (by omega) z65
      have hx : seg x = true := List.all_eq_true.1 hg.2.1 x (by rw [h]; simp)
      have hx' := seg_iff.1 hx
      have hp : pre.all seg = true := List.all_eq_true.2 (fun y hy => List.all_eq_true.1 hg.2.1 y (by rw [h]; simp [hy]))
      have hpl : pre.length ≤ 20 := by have := hg.1; rw [h] at this; simp at this; omega
      have l1 := segLines_len hp
      obtain ⟨n1, d1⟩ := numOf (x := x.f0) (by omega) (by omega)
      obtain ⟨n2, d2⟩ := numOf (x := x.f1) (by omega) (by omega)
      refine Ev.step (fun k => spec_SegmentsText.l0.eq_2 ..) ?_
      simp only [h1, h2, h3, rd_T65, h4, if_true, tx1, tx2]
      refine Ev.bind n1 (evPos (by rw [txb_size]; omega) (Ev.bind n2 ?_))
      simp only [txb_app]
      refine evPos (by rw [txb_size, txb_size]; simp; omega) (evPos (by rw [txb_size]; simp; omega) (evPos (by rw [txb_size, txb_size]; simp; omega) ?_))
      have e : segLines pre ++ (Go.Lib.itoa x.f0 ++ [32] ++ Go.Lib.itoa x.f1 ++ [10]) = segLines (pre ++ [x]) := by rw [segLines_snoc]; simp [segLine]
      rw [e]
      exact ih _ h5
  exact go l [] rfl
theorem implSegText_ev (l : List S65) : Ev (fun k => impl_SegmentsText.f k l) (segTextRes l) := by
  unfold impl_SegmentsText.f segTextRes
  refine Ev.bind (areSegs_ev l) (evIte (fun c => ?_) (fun _ => Ev.now _))
  have hg := good_iff.1 c
  have go : ∀ (suf pre : List S65), l = pre ++ suf → Ev (fun k => impl_SegmentsText.l0 k (txb (segLines pre)) l (l.length : Int) (pre.length : Int)) (txb (segLines l), true) := by
    intro suf
    induction suf with
    | nil =>
      intro pre h
      refine Ev.step (fun k => impl_SegmentsText.l0.eq_2 ..) (evNeg (rgEnd h) (evNow ?_))
      rw [h]; simp
    | cons x suf ih =>
      intro pre h
      obtain ⟨h1, h2, h3, h4, h5⟩ := rgHead h (by omega) z65
      have hx : seg x = true := List.all_eq_true.1 hg.2.1 x (by rw [h]; simp)
      have hx' := seg_iff.1 hx
      have hp : pre.all seg = true := List.all_eq_true.2 (fun y hy => List.all_eq_true.1 hg.2.1 y (by rw [h]; simp [hy]))
      have hpl : pre.length ≤ 20 := by have := hg.1; rw [h] at this; simp at this; omega
      have l1 := segLines_len hp
      have w2 := words2_ev (a := x.f0) (b := x.f1) (by omega) (by omega)
      obtain ⟨n1, d1⟩ := numOf (x := x.f0) (by omega) (by omega)
      obtain ⟨n2, d2⟩ := numOf (x := x.f1) (by omega) (by omega)
      refine Ev.step (fun k => impl_SegmentsText.l0.eq_2 ..) ?_
      simp only [h1, h2, h3, rd_T65, h4, if_true, tx2]
      refine Ev.bind w2 (evPos (by rw [txb_size]; simp; omega) ?_)
      simp only [txb_app]
      refine evPos (by rw [txb_size, txb_size]; simp; omega) ?_
      have e : segLines pre ++ (Go.Lib.itoa x.f0 ++ 32 :: Go.Lib.itoa x.f1 ++ [10]) = segLines (pre ++ [x]) := by rw [segLines_snoc]; rfl
      rw [e]
      exact ih _ h5
  exact go l [] rfl
-- ** FnExactSegmentsText
theorem FnExactSegmentsText (l0 : List S68) (w0 : Opn.Lst (fun x : S68 => Opn.I64 x.f0 ∧ Opn.I64 x.f1) l0) : ∃ k, laws_FnExactSegmentsText.f k l0  = some true := by
  refine Ev.rounds (g := fun k => laws_FnExactSegmentsText.f k l0 ) ?_
  unfold laws_FnExactSegmentsText.f
  rw [szSeg_eq l0 w0.1]
  simp only [Option.bind_some]
  by_cases c : l0.length ≤ 1048576
  · rw [if_pos c]
    refine evNeg (by omega) (Ev.bind (toSeg_ev l0 c) (Ev.bind (specSegText_ev (l0.map cvSeg) ) (Ev.bind (toSeg_ev l0 c) (Ev.bind (implSegText_ev (l0.map cvSeg) ) ?_))))
    refine evPos rfl ?_
    simp only [bne_self_eq_false]
    exact Ev.step (fun k => laws_FnExactSegmentsText.j0.eq_2 ..) (evNeg (by simp) (Ev.bind (toSeg_ev l0 c) (Ev.bind (eqSeg_ev _ (by simp; omega)) (evPos rfl (Ev.now _)))))
  · rw [if_neg c]
    exact evPos (by omega) (Ev.now _)
end Go.Proofs.YtjjjikdpegogcaaDoor.Pure
