/- The program's FaultsText returns what the reference's returns, for all arguments.: the plain part: what the program computes and what the reference computes agree, for all arguments. No conditions beyond the arguments' own kinds. -/
import Derived.Test.YtjjjikdpegogcaaDoorPFtx0
import Derived.Test.YtjjjikdpegogcaaDoorPFtx1
import Derived.Test.YtjjjikdpegogcaaDoorPFtx2
import Derived.Test.YtjjjikdpegogcaaDoorPFtx3
import Derived.Test.YtjjjikdpegogcaaDoorPFtx4
import Derived.Test.YtjjjikdpegogcaaDoorPFtx5
import Derived.Test.YtjjjikdpegogcaaDoorOpn
namespace Go.Proofs.YtjjjikdpegogcaaDoor.Pure
open Go.RowKit Go.Proofs.YtjjjikdpegogcaaDoor.PFt Go.Proofs.YtjjjikdpegogcaaDoorW.PrintWords Go.Proofs.YtjjjikdpegogcaaDoorW.PrintLast Go.Proofs.YtjjjikdpegogcaaDoorW.PrintMore
-- ** base
theorem wrapi {x : Int} (h0 : -9223372036854775808 ≤ x) (h1 : x ≤ 9223372036854775807) : wrap64 x = x := by unfold wrap64; omega
theorem evPos {α : Type} {c : Prop} [Decidable c] {g f : Nat → Option α} {r : α} (h : c) (e : Ev g r) : Ev (fun k => if c then g k else f k) r := by
  simp only [if_pos h]; exact e
theorem evNeg {α : Type} {c : Prop} [Decidable c] {g f : Nat → Option α} {r : α} (h : ¬ c) (e : Ev f r) : Ev (fun k => if c then g k else f k) r := by
  simp only [if_neg h]; exact e
theorem evC {α β : Type} {o : Option α} {f : Nat → α → Option β} {a : α} {r : β} (h : o = some a) (e : Ev (fun n => f n a) r) : Ev (fun n => o.bind (f n)) r := by
  subst h; exact e
theorem evNow {α : Type} {r q : α} (h : r = q) : Ev (fun _ => some r) q := by subst h; exact Ev.now r
theorem evIte {α : Type} {c : Prop} [Decidable c] {g f : Nat → Option α} {r q : α} (h : c → Ev g r) (h' : ¬ c → Ev f q) : Ev (fun k => if c then g k else f k) (if c then r else q) := by
  by_cases hc : c
  · simp only [if_pos hc]; exact h hc
  · simp only [if_neg hc]; exact h' hc
theorem evBy {α : Type} {c : Prop} [Decidable c] {g f : Nat → Option α} {r : α} (h : c → Ev g r) (h' : ¬ c → Ev f r) : Ev (fun k => if c then g k else f k) r := by
  by_cases hc : c
  · simp only [if_pos hc]; exact h hc
  · simp only [if_neg hc]; exact h' hc
theorem someF {p : Prop} [Decidable p] (h : ¬ p) : some false = some (decide p) := by rw [decide_eq_false h]
theorem someD {p q : Prop} [Decidable p] [Decidable q] (h : p ↔ q) : some (decide p) = some (decide q) := by rw [decide_eq_decide.mpr h]
theorem rgEnd {α : Type} {l pre : List α} (h : l = pre ++ []) : ¬ ((pre.length : Int) < (l.length : Int)) := by subst h; simp
theorem rgHead {α : Type} {l pre suf : List α} {x : α} (h : l = pre ++ x :: suf) (hl : l.length ≤ 4611686018427387904) (z : α) :
    (pre.length : Int) < (l.length : Int) ∧ (0 : Int) ≤ (pre.length : Int) ∧ wrap64 ((pre.length : Int) + 1) = ((pre ++ [x]).length : Int) ∧ l.getD (pre.length : Int).toNat z = x ∧ l = (pre ++ [x]) ++ suf := by
  subst h
  simp at hl
  refine ⟨by simp; omega, by omega, ?_, by simp, by simp⟩
  rw [wrapi (by omega) (by omega)]; simp
theorem in_eq (a b c : Int) : spec_l1In.f a b c = some (decide (b ≤ a ∧ a ≤ c)) := by
  unfold spec_l1In.f
  split
  · exact someD (by omega)
  · exact someF (by omega)
-- ** lists
theorem setAt {α : Type} (A B : List α) (z v : α) (n : Nat) (h : n = A.length) : (A ++ z :: B).set n v = A ++ v :: B := by subst h; simp
-- ** intlaw
theorem toInt_l0 (l : List Int) (hl : l.length ≤ 1048576) : ∀ (suf pre : List Int), l = pre ++ suf →
    Ev (fun k => laws_toIntS.l0 k l (pre ++ List.replicate suf.length 0) (pre.length : Int)) l := by
  intro suf
  induction suf with
  | nil =>
    intro pre h
    refine Ev.step (fun k => laws_toIntS.l0.eq_2 ..) ?_
    simp only [rgEnd h, if_false]
    exact evNow (by subst h; simp)
  | cons x suf ih =>
    intro pre h
    obtain ⟨h1, h2, h3, h4, h5⟩ := rgHead h (by omega) 0
    refine Ev.step (fun k => laws_toIntS.l0.eq_2 ..) ?_
    simp only [h1, h2, h3, rd, h4, if_true]
    refine evPos (by simp; omega) ?_
    have e : (pre ++ List.replicate (x :: suf).length 0).set (pre.length : Int).toNat x = (pre ++ [x]) ++ List.replicate suf.length 0 := by
      rw [List.length_cons, List.replicate_succ, setAt _ _ _ _ _ (by simp)]
      simp
    rw [e]
    exact ih _ h5
theorem toInt_ev (l : List Int) (hl : l.length ≤ 1048576) : Ev (fun k => laws_toIntS.f k l) l := by
  unfold laws_toIntS.f
  refine evPos (by omega) (evPos (by omega) ?_)
  have := toInt_l0 l hl l [] rfl
  simpa using this
theorem eqInt_l0 (l : List Int) (hl : l.length ≤ 4611686018427387904) : ∀ (suf pre : List Int), l = pre ++ suf → Ev (fun k => laws_eqIntS.l0 k l l (pre.length : Int)) true := by
  intro suf
  induction suf with
  | nil =>
    intro pre h
    refine Ev.step (fun k => laws_eqIntS.l0.eq_2 ..) ?_
    simp only [rgEnd h, if_false]
    exact Ev.now _
  | cons x suf ih =>
    intro pre h
    obtain ⟨h1, h2, h3, h4, h5⟩ := rgHead h hl 0
    refine Ev.step (fun k => laws_eqIntS.l0.eq_2 ..) ?_
    simp only [h1, h2, h3, if_true]
    exact ih _ h5
theorem eqInt_ev (l : List Int) (hl : l.length ≤ 4611686018427387904) : Ev (fun k => laws_eqIntS.f k l l) true := by
  unfold laws_eqIntS.f
  exact evPos rfl (eqInt_l0 l hl l [] rfl)
-- ** ssarg
-- an argument that is a row of rows of whole numbers
theorem szSS_l0 (l : List (List Int)) (hl : l.length ≤ 1048576) (hw : ∀ r, r ∈ l → r.length ≤ 9223372036854775807) : ∀ (suf pre : List (List Int)) (left : Int), l = pre ++ suf → 0 ≤ left → left ≤ 1048576 →
    ∃ r, Ev (fun k => laws_szIntSS.l0 k l left (pre.length : Int)) r ∧ (¬ r < 0 → ∀ s, s ∈ suf → s.length ≤ 1048576) := by
  intro suf
  induction suf with
  | nil =>
    intro pre left h h0 h1
    refine ⟨left, Ev.step (fun k => laws_szIntSS.l0.eq_2 ..) (evNeg (rgEnd h) (Ev.now _)), fun _ s hs => by simp at hs⟩
  | cons x suf ih =>
    intro pre left h h0 h1
    obtain ⟨h1', h2, h3, h4, h5⟩ := rgHead h (by omega) []
    have hx := hw x (by rw [h]; simp)
    have e4 : rd_L1 l (pre.length : Int) = x := h4
    by_cases c : left - (x.length : Int) < 0
    · have ez : laws_szIntS.f x left = some (-1) := by
        unfold laws_szIntS.f; rw [wrapi (by omega) (by omega), if_pos c]
      refine ⟨-1, Ev.step (fun k => laws_szIntSS.l0.eq_2 ..) (evPos h1' (evPos h2 ?_)), fun z => by omega⟩
      rw [e4]
      exact evC ez (evPos (by omega) (Ev.now _))
    · have ez : laws_szIntS.f x left = some (left - (x.length : Int)) := by
        unfold laws_szIntS.f; rw [wrapi (by omega) (by omega), if_neg c]
      obtain ⟨r, hr, hb⟩ := ih (pre ++ [x]) (left - (x.length : Int)) h5 (by omega) (by omega)
      refine ⟨r, Ev.step (fun k => laws_szIntSS.l0.eq_2 ..) (evPos h1' (evPos h2 ?_)), fun z s hs => ?_⟩
      · rw [e4, h3]
        exact evC ez (evNeg (by omega) hr)
      · rcases List.mem_cons.1 hs with rfl | q
        · omega
        · exact hb z s q
theorem szSS_ex (l : List (List Int)) (hl : l.length ≤ 9223372036854775807) (hw : ∀ r, r ∈ l → r.length ≤ 9223372036854775807) : ∃ r, Ev (fun k => laws_szIntSS.f k l 1048576) r ∧ (¬ r < 0 → l.length ≤ 1048576 ∧ ∀ s, s ∈ l → s.length ≤ 1048576) := by
  unfold laws_szIntSS.f
  rw [wrapi (by omega) (by omega)]
  by_cases c : (1048576 : Int) - (l.length : Int) < 0
  · exact ⟨-1, evPos c (Ev.now _), fun z => by omega⟩
  · obtain ⟨r, hr, hb⟩ := szSS_l0 l (by omega) hw l [] ((1048576 : Int) - (l.length : Int)) rfl (by omega) (by omega)
    exact ⟨r, evNeg c hr, fun z => ⟨by omega, hb z⟩⟩
theorem toSS_l0 (l : List (List Int)) (hl : l.length ≤ 1048576) (hr : ∀ s, s ∈ l → s.length ≤ 1048576) : ∀ (suf pre : List (List Int)), l = pre ++ suf →
    Ev (fun k => laws_toIntSS.l0 k l (pre ++ List.replicate suf.length []) (pre.length : Int)) l := by
  intro suf
  induction suf with
  | nil =>
    intro pre h
    exact Ev.step (fun k => laws_toIntSS.l0.eq_2 ..) (evNeg (rgEnd h) (evNow (by rw [h]; simp)))
  | cons x suf ih =>
    intro pre h
    obtain ⟨h1, h2, h3, h4, h5⟩ := rgHead h (by omega) []
    have e4 : rd_L1 l (pre.length : Int) = x := h4
    refine Ev.step (fun k => laws_toIntSS.l0.eq_2 ..) (evPos h1 (evPos h2 ?_))
    rw [e4, h3]
    refine Ev.bind (toInt_ev x (hr x (by rw [h]; simp))) (evPos (by simp; omega) ?_)
    have e : (pre ++ List.replicate (x :: suf).length []).set (pre.length : Int).toNat x = (pre ++ [x]) ++ List.replicate suf.length [] := by
      rw [Int.toNat_natCast, List.length_cons, List.replicate_succ]; simp
    rw [e]
    exact ih _ h5
theorem toSS_ev (l : List (List Int)) (hl : l.length ≤ 1048576) (hr : ∀ s, s ∈ l → s.length ≤ 1048576) : Ev (fun k => laws_toIntSS.f k l) l := by
  unfold laws_toIntSS.f
  refine evPos (by omega) (evPos (by omega) ?_)
  rw [Int.toNat_natCast]
  exact toSS_l0 l hl hr l [] rfl
theorem eqSSb_l0 (l : List (List Int)) (hl : l.length ≤ 1048576) (hr : ∀ r, r ∈ l → r.length ≤ 1048576) : ∀ (suf pre : List (List Int)), l = pre ++ suf → Ev (fun k => laws_eqIntSS.l0 k l l (pre.length : Int)) true := by
  intro suf
  induction suf with
  | nil => intro pre h; exact Ev.step (fun k => laws_eqIntSS.l0.eq_2 ..) (evNeg (rgEnd h) (Ev.now _))
  | cons x suf ih =>
    intro pre h
    obtain ⟨h1, h2, h3, h4, h5⟩ := rgHead h (by omega) []
    have e4 : rd_L1 l (pre.length : Int) = x := h4
    refine Ev.step (fun k => laws_eqIntSS.l0.eq_2 ..) (evPos h1 (evPos h2 (evPos h1 ?_)))
    rw [e4, h3]
    exact Ev.bind (eqInt_ev x (by have := hr x (by rw [h]; simp); omega)) (evPos rfl (ih _ h5))
theorem eqSSb_ev {l : List (List Int)} (hl : l.length ≤ 1048576) (hr : ∀ r, r ∈ l → r.length ≤ 1048576) : Ev (fun k => laws_eqIntSS.f k l l) true := by
  unfold laws_eqIntSS.f
  exact evPos rfl (eqSSb_l0 l hl hr l [] rfl)
-- ** numtext
-- numbers in text
def txb (b : List UInt8) : ByteArray := ⟨b.toArray⟩
theorem txb_size (b : List UInt8) : (txb b).size = b.length := by simp [txb, ByteArray.size]
theorem txb_app (a b : List UInt8) : txb a ++ txb b = txb (a ++ b) := by
  have : (txb a ++ txb b).data = (txb (a ++ b)).data := by simp [txb]
  exact ByteArray.ext this
theorem dig_len : ∀ (n u : Nat), u < 10 ^ (n + 1) → (Go.Lib.decDigits u).length ≤ n + 1
  | 0, u, h => by rw [Go.Lib.decDigits, dif_pos (by simpa using h)]; simp
  | n + 1, u, h => by
    rw [Go.Lib.decDigits]
    split
    · simp
    · have := dig_len n (u / 10) (by rw [Nat.div_lt_iff_lt_mul (by omega)]; rw [Nat.pow_succ] at h; exact h)
      simp; omega
theorem dig_ten {u : Nat} (h : u ≤ 1000000000) : (Go.Lib.decDigits u).length ≤ 10 := dig_len 9 u (by omega)
theorem digit_eq (u : Nat) (h : u < 10) : strOfNums ([(wrap64 (48 + (u : Int))) % 256] : List Int) = txb [UInt8.ofNat (48 + u)] := by
  have e : (wrap64 (48 + (u : Int))) % 256 = ((48 + u : Nat) : Int) := by rw [wrapi (by omega) (by omega)]; omega
  rw [e]
  simp only [strOfNums, List.map_cons, List.map_nil, Int.toNat_natCast]
  rfl
theorem l1Num_ev : ∀ (u : Nat), u ≤ 1000000000 → Ev (fun k => spec_l1Num.f k (u : Int)) (txb (Go.Lib.decDigits u)) := by
  intro u
  induction u using Nat.strongRecOn with
  | ind u ih =>
    intro h
    refine Ev.step (fun k => spec_l1Num.f.eq_2 ..) ?_
    by_cases c : u < 10
    · refine evPos (by omega) (evNow ?_)
      rw [digit_eq u c, Go.Lib.decDigits, dif_pos c]
    · have e1 : wrap64 (Int.tdiv (u : Int) 10) = ((u / 10 : Nat) : Int) := by rw [Int.tdiv_eq_ediv_of_nonneg (by omega), wrapi (by omega) (by omega)]; omega
      have e2 : Int.tmod (u : Int) 10 = ((u % 10 : Nat) : Int) := by rw [Int.tmod_eq_emod_of_nonneg (by omega)]; omega
      have hl := dig_ten (u := u / 10) (by omega)
      rw [e1, e2]
      refine evNeg (by omega) (Ev.bind (ih (u / 10) (by omega) (by omega)) ?_)
      simp only [Option.bind_some]
      rw [digit_eq (u % 10) (by omega)]
      refine evPos (by rw [txb_size, txb_size]; simp; omega) (evNow ?_)
      rw [txb_app]
      conv => rhs; rw [Go.Lib.decDigits, dif_neg c]
theorem itoa_nat (u : Nat) : Go.Lib.itoa (u : Int) = Go.Lib.decDigits u := by
  unfold Go.Lib.itoa
  rw [if_neg (by omega), Int.toNat_natCast]
theorem numOf {x : Int} (h0 : 0 ≤ x) (h1 : x ≤ 1000000000) : Ev (fun k => spec_l1Num.f k x) (txb (Go.Lib.itoa x)) ∧ (Go.Lib.itoa x).length ≤ 10 := by
  have e : x = ((x.toNat : Nat) : Int) := by omega
  rw [e, itoa_nat]
  exact ⟨l1Num_ev x.toNat (by omega), dig_ten (by omega)⟩
def wordsTx (l : List Int) : List UInt8 := Go.Lib.join (l.map Go.Lib.itoa) [32]
theorem words_one (a : Int) : wordsTx [a] = Go.Lib.itoa a := by simp [wordsTx, Go.Lib.join, List.intercalate]
theorem itoa_eq {x : Int} (h0 : 0 ≤ x) (h1 : x ≤ 1000000000) : strconv_Itoa.f x = some (txb (Go.Lib.itoa x)) := by
  unfold strconv_Itoa.f
  rw [if_pos (by omega)]; rfl
theorem words_ev (l : List Int) (hl : l.length ≤ 1000) (hb : ∀ x, x ∈ l → 0 ≤ x ∧ x ≤ 1000000000) (hj : (wordsTx l).length ≤ 140737488355328) : Ev (fun k => impl_words.f k l) (txb (wordsTx l)) := by
  unfold impl_words.f
  have go : ∀ (suf pre : List Int), l = pre ++ suf → Ev (fun k => impl_words.l0 k (pre.map fun x => txb (Go.Lib.itoa x)) l (l.length : Int) (pre.length : Int)) (txb (wordsTx l)) := by
    intro suf
    induction suf with
    | nil =>
      intro pre h
      have e : pre = l := by rw [h]; simp
      refine Ev.step (fun k => impl_words.l0.eq_2 ..) (evNeg (rgEnd h) ?_)
      have e2 : (l.map fun x => txb (Go.Lib.itoa x)).map (fun s => s.data.toList) = l.map Go.Lib.itoa := by
        rw [List.map_map]
        exact List.map_congr_left (fun x _ => by simp [txb])
      have ej : strings_Join.f (l.map fun x => txb (Go.Lib.itoa x)) (⟨#[32]⟩ : ByteArray) = some (txb (wordsTx l)) := by
        unfold strings_Join.f
        rw [e2]
        rw [if_pos ⟨by simp; omega, hj⟩]; rfl
      rw [e]
      exact evC ej (Ev.now _)
    | cons x suf ih =>
      intro pre h
      obtain ⟨h1, h2, h3, h4, h5⟩ := rgHead h (by omega) 0
      have hx := hb x (by rw [h]; simp)
      have hpl : pre.length ≤ l.length := by rw [h]; simp
      refine Ev.step (fun k => impl_words.l0.eq_2 ..) (evPos h1 (evPos h2 (evPos h1 ?_)))
      rw [show rd l (pre.length : Int) = x from h4, h3]
      refine evC (itoa_eq hx.1 hx.2) (evPos (by simp; omega) ?_)
      have := ih (pre ++ [x]) h5
      simp only [List.map_append, List.map_cons, List.map_nil] at this
      exact this
  exact go l [] rfl
theorem words1_ev {a : Int} (ha : 0 ≤ a ∧ a ≤ 1000000000) : Ev (fun k => impl_words.f k [a]) (txb (Go.Lib.itoa a)) := by
  have h1 := (numOf ha.1 ha.2).2
  rw [← words_one]
  refine words_ev [a] (by simp) (fun x hx => ?_) (by rw [words_one]; omega)
  simp at hx
  rcases hx with rfl
  exact ha
-- ** FaultsText_
def okF (f : List Int) : Bool := decide (f.length = 2 ∧ 0 ≤ rd f 0 ∧ rd f 0 ≤ 4 ∧ 0 ≤ rd f 1 ∧ rd f 1 ≤ 999)
theorem okF_iff {f : List Int} : okF f = true ↔ f.length = 2 ∧ 0 ≤ rd f 0 ∧ rd f 0 ≤ 4 ∧ 0 ≤ rd f 1 ∧ rd f 1 ≤ 999 := by simp [okF]
def namesF : List ByteArray := [⟨#[109, 105, 115, 115, 105, 110, 103]⟩, ⟨#[101, 120, 116, 114, 97]⟩, ⟨#[102, 114, 111, 109]⟩, ⟨#[116, 111]⟩, ⟨#[115, 105, 108, 101, 110, 116]⟩]
def nmB (i : Int) : List UInt8 := (rdOf ByteArray.empty namesF i).data.toList
theorem nm_eq (i : Int) : rdOf ByteArray.empty namesF i = txb (nmB i) := by
  unfold nmB txb
  exact ByteArray.ext (by simp)
theorem nm_len {i : Int} (h0 : 0 ≤ i) (h1 : i ≤ 4) : (nmB i).length ≤ 7 := by
  have : i = 0 ∨ i = 1 ∨ i = 2 ∨ i = 3 ∨ i = 4 := by omega
  rcases this with rfl | rfl | rfl | rfl | rfl <;> decide
def lineF (f : List Int) : List UInt8 := ((nmB (rd f 0) ++ [32]) ++ Go.Lib.itoa (rd f 1)) ++ [10]
def linesF (l : List (List Int)) : List UInt8 := l.flatMap lineF
theorem lineF_len {f : List Int} (h : okF f = true) : (lineF f).length ≤ 19 := by
  have hf := okF_iff.1 h
  have h1 := (numOf (x := rd f 1) (by omega) (by omega)).2
  have h2 := nm_len hf.2.1 hf.2.2.1
  simp [lineF]; omega
theorem linesF_len : ∀ {l : List (List Int)}, l.all okF = true → (linesF l).length ≤ 19 * l.length
  | [], _ => by simp [linesF]
  | x :: l, h => by
    simp only [List.all_cons, Bool.and_eq_true] at h
    have h1 := lineF_len h.1
    have h2 := linesF_len h.2
    simp only [linesF, List.flatMap_cons, List.length_append, List.length_cons] at h2 ⊢
    omega
theorem linesF_snoc (l : List (List Int)) (x : List Int) : linesF (l ++ [x]) = linesF l ++ lineF x := by simp [linesF]
def faultRes (l : List (List Int)) : ByteArray × Bool := if (l.length : Int) > 200 then (⟨#[]⟩, false) else (if l.all okF = true then (txb (linesF l), true) else (⟨#[]⟩, false))
theorem tf1 : (⟨#[32]⟩ : ByteArray) = txb [32] := rfl
theorem tf2 : (⟨#[10]⟩ : ByteArray) = txb [10] := rfl
theorem rowF {l pre suf : List (List Int)} {f : List Int} (h : l = pre ++ f :: suf) : rd_L1 l (pre.length : Int) = f := by subst h; simp [rd_L1]
theorem faultIf {pre : List (List Int)} {f : List Int} (hp : pre.all okF = true) (hf : okF f = true) : (pre ++ [f]).all okF = true := by simp at hp ⊢; exact ⟨hp, hf⟩
theorem faultNo {l pre suf : List (List Int)} {f : List Int} (h : l = pre ++ f :: suf) (hf : ¬ okF f = true) : (⟨#[]⟩, false) = (if l.all okF = true then (txb (linesF l), true) else ((⟨#[]⟩ : ByteArray), false)) := by
  rw [if_neg (fun z => hf (List.all_eq_true.1 z f (by rw [h]; simp)))]
theorem specFaults_ev (l : List (List Int)) : Ev (fun k => spec_FaultsText.f k l) (faultRes l) := by
  unfold spec_FaultsText.f faultRes
  refine evIte (fun _ => Ev.now _) (fun cl => ?_)
  have go : ∀ (suf pre : List (List Int)), l = pre ++ suf → pre.all okF = true → Ev (fun k => spec_FaultsText.l0 k (txb (linesF pre)) l (l.length : Int) (pre.length : Int)) (if l.all okF = true then (txb (linesF l), true) else (⟨#[]⟩, false)) := by
    intro suf
    induction suf with
    | nil =>
      intro pre h hp
      have e : pre = l := by rw [h]; simp
      refine Ev.step (fun k => spec_FaultsText.l0.eq_2 ..) (evNeg (rgEnd h) (evNow ?_))
      rw [← e, if_pos hp]
    | cons f suf ih =>
      intro pre h hp
      obtain ⟨h1, h2, h3, h4, h5⟩ := rgHead h (by omega) []
      have hpl : pre.length ≤ 200 := by have := congrArg List.length h; simp at this; omega
      have hlen := linesF_len hp
      refine Ev.step (fun k => spec_FaultsText.l0.eq_2 ..) (evPos h1 (evPos h2 (evPos h1 ?_)))
      rw [rowF h, h3]
      by_cases hf : okF f = true
      · have hf' := okF_iff.1 hf
        have h7 := nm_len hf'.2.1 hf'.2.2.1
        obtain ⟨n1, d1⟩ := numOf (x := rd f 1) (by omega) (by omega)
        refine evPos (by omega) (evPos (by omega) (evC (in_eq ..) (evPos (decide_eq_true (by omega)) (evPos (by omega) (evC (in_eq ..) (evPos (decide_eq_true (by omega)) (evC rfl (evPos (by omega) (evPos (by simp; omega) ?_)))))))))
        have en : rdOf ByteArray.empty ([⟨#[109, 105, 115, 115, 105, 110, 103]⟩, ⟨#[101, 120, 116, 114, 97]⟩, ⟨#[102, 114, 111, 109]⟩, ⟨#[116, 111]⟩, ⟨#[115, 105, 108, 101, 110, 116]⟩] : List ByteArray) (rd f 0) = txb (nmB (rd f 0)) := nm_eq _
        rw [en]
        refine evPos (by rw [txb_size]; omega) (Ev.bind n1 ?_)
        simp only [tf1, tf2, txb_app]
        refine evPos (by rw [txb_size, txb_size]; simp; omega) (evPos (by rw [txb_size]; simp; omega) (evPos (by rw [txb_size, txb_size]; simp; omega) ?_))
        have e : linesF pre ++ (nmB (rd f 0) ++ [32] ++ Go.Lib.itoa (rd f 1) ++ [10]) = linesF (pre ++ [f]) := by rw [linesF_snoc]; rfl
        rw [e]
        exact ih _ h5 (faultIf hp hf)
      · rw [← faultNo h hf]
        refine evBy (fun c1 => evPos (by omega) (evC (in_eq ..) (evBy (fun c2 => evPos (by omega) (evC (in_eq ..) (evBy (fun c3 => ?_) (fun _ => Ev.now _)))) (fun _ => Ev.now _)))) (fun _ => Ev.now _)
        have c2' := of_decide_eq_true c2
        have c3' := of_decide_eq_true c3
        exact absurd (okF_iff.2 ⟨by omega, by omega, by omega, by omega, by omega⟩) hf
  exact go l [] rfl rfl
theorem implFaults_ev (l : List (List Int)) : Ev (fun k => impl_FaultsText.f k l) (faultRes l) := by
  unfold impl_FaultsText.f faultRes
  refine evIte (fun _ => Ev.now _) (fun cl => ?_)
  have go : ∀ (suf pre : List (List Int)), l = pre ++ suf → pre.all okF = true → Ev (fun k => impl_FaultsText.l0 k namesF (txb (linesF pre)) l (l.length : Int) (pre.length : Int)) (if l.all okF = true then (txb (linesF l), true) else (⟨#[]⟩, false)) := by
    intro suf
    induction suf with
    | nil =>
      intro pre h hp
      have e : pre = l := by rw [h]; simp
      refine Ev.step (fun k => impl_FaultsText.l0.eq_2 ..) (evNeg (rgEnd h) (evNow ?_))
      rw [← e, if_pos hp]
    | cons f suf ih =>
      intro pre h hp
      obtain ⟨h1, h2, h3, h4, h5⟩ := rgHead h (by omega) []
      have hpl : pre.length ≤ 200 := by have := congrArg List.length h; simp at this; omega
      have hlen := linesF_len hp
      have h55 : (namesF.length : Int) = 5 := rfl
      refine Ev.step (fun k => impl_FaultsText.l0.eq_2 ..) (evPos h1 (evPos h2 (evPos h1 ?_)))
      rw [rowF h, h3]
      by_cases hf : okF f = true
      · have hf' := okF_iff.1 hf
        have h7 := nm_len hf'.2.1 hf'.2.2.1
        obtain ⟨n1, d1⟩ := numOf (x := rd f 1) (by omega) (by omega)
        have w1 := words1_ev (a := rd f 1) (by omega)
        refine evPos (by omega) (evPos (by omega) (evNeg (by omega) (evNeg (by omega) (evPos (by omega) (evNeg (by omega) (evNeg (by omega) (evPos (by omega) (evPos (by omega) ?_))))))))
        rw [nm_eq]
        refine evPos (by rw [txb_size]; omega) (Ev.bind w1 ?_)
        simp only [tf1, tf2, txb_app]
        refine evPos (by rw [txb_size, txb_size]; simp; omega) (evPos (by rw [txb_size]; simp; omega) (evPos (by rw [txb_size, txb_size]; simp; omega) ?_))
        have e : linesF pre ++ (nmB (rd f 0) ++ [32] ++ Go.Lib.itoa (rd f 1) ++ [10]) = linesF (pre ++ [f]) := by rw [linesF_snoc]; rfl
        rw [e]
        exact ih _ h5 (faultIf hp hf)
      · rw [← faultNo h hf]
        refine evBy (fun c1 => evPos (by omega) (evBy (fun _ => Ev.now _) (fun c2 => evBy (fun _ => Ev.now _) (fun c3 => evPos (by omega) (evBy (fun _ => Ev.now _) (fun c4 => evBy (fun _ => Ev.now _) (fun c5 => ?_))))))) (fun _ => Ev.now _)
        exact absurd (okF_iff.2 ⟨by omega, by omega, by omega, by omega, by omega⟩) hf
  exact go l [] rfl rfl
-- ** FnExactFaultsText
theorem FnExactFaultsText (l0 : List (List Int)) (w0 : Opn.Lst (Opn.Lst Opn.I64) l0) : ∃ k, laws_FnExactFaultsText.f k l0 = some true := by
  refine Ev.rounds (g := fun k => laws_FnExactFaultsText.f k l0) ?_
  unfold laws_FnExactFaultsText.f
  obtain ⟨r, hr, hb⟩ := szSS_ex l0 w0.1 (fun s hs => (w0.2 s hs).1)
  refine Ev.bind hr (evBy (fun _ => Ev.now _) (fun c => ?_))
  obtain ⟨hl, hs⟩ := hb c
  refine Ev.bind (toSS_ev l0 hl hs) (Ev.bind (specFaults_ev l0) (Ev.bind (toSS_ev l0 hl hs) (Ev.bind (implFaults_ev l0) (evPos rfl ?_))))
  simp only [bne_self_eq_false]
  exact Ev.step (fun k => laws_FnExactFaultsText.j0.eq_2 ..) (evNeg (by simp) (Ev.bind (toSS_ev l0 hl hs) (Ev.bind (eqSSb_ev hl hs) (evPos rfl (Ev.now _)))))
end Go.Proofs.YtjjjikdpegogcaaDoor.Pure
