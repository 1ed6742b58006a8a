/- sort.SliceStable over a row of structs, at whatever length: sort.swapRange_func, rotate_func, symMerge_func and stable_func walked over the shelf's bodies, at any program and numbering. No conditions beyond the contracts' own. -/
import Derived.Shelf.GgSortMore.Stable
import Derived.Shelf.GgSortFunc.SmallK
import Derived.Deep.DeepCutAuto
namespace Go.Proofs.Sm
variable {α : Type} (lt : α → α → Bool)
/-- a row told by its places -/
abbrev Row (α : Type) := Nat → α
def sw (G : Row α) (i j : Nat) : Row α := fun t => if t = i then G j else if t = j then G i else G t
def Sorted (G : Row α) (a b : Nat) : Prop := ∀ i j, a ≤ i → i < j → j < b → lt (G j) (G i) = false
structure Within (G H : Row α) (a b : Nat) : Prop where
  out : ∀ t, t < a ∨ b ≤ t → H t = G t
  inn : ∀ t, a ≤ t → t < b → ∃ s, a ≤ s ∧ s < b ∧ H t = G s
theorem Within.refl (G : Row α) (a b : Nat) : Within G G a b := ⟨fun _ _ => rfl, fun t h1 h2 => ⟨t, h1, h2, rfl⟩⟩
theorem Within.trans {G H K : Row α} {a b : Nat} (h : Within G H a b) (k : Within H K a b) : Within G K a b :=
  ⟨fun t ht => (k.out t ht).trans (h.out t ht), fun t h1 h2 => by
    obtain ⟨s, s1, s2, e⟩ := k.inn t h1 h2
    obtain ⟨u, u1, u2, e'⟩ := h.inn s s1 s2
    exact ⟨u, u1, u2, e.trans e'⟩⟩
theorem Within.widen {G H : Row α} {a b a' b' : Nat} (h : Within G H a b) (ha : a' ≤ a) (hb : b ≤ b') : Within G H a' b' :=
  ⟨fun t ht => h.out t (by omega), fun t h1 h2 => by
    by_cases c : a ≤ t ∧ t < b
    · obtain ⟨s, s1, s2, e⟩ := h.inn t c.1 c.2
      exact ⟨s, by omega, by omega, e⟩
    · exact ⟨t, h1, h2, h.out t (by omega)⟩⟩
theorem Within.sw {G : Row α} {i j a b : Nat} (hi : a ≤ i ∧ i < b) (hj : a ≤ j ∧ j < b) : Within G (sw G i j) a b :=
  ⟨fun t ht => by unfold Sm.sw; rw [if_neg (by omega), if_neg (by omega)], fun t h1 h2 => by
    unfold Sm.sw
    by_cases c : t = i
    · exact ⟨j, hj.1, hj.2, by rw [if_pos c]⟩
    · by_cases c' : t = j
      · exact ⟨i, hi.1, hi.2, by rw [if_neg c, if_pos c']⟩
      · exact ⟨t, h1, h2, by rw [if_neg c, if_neg c']⟩⟩
/-- swapRange: n places from a on with n places from b on, apart from each other. -/
def swr (G : Row α) (a b n : Nat) : Row α := fun t => if a ≤ t ∧ t < a + n then G (t - a + b) else if b ≤ t ∧ t < b + n then G (t - b + a) else G t
theorem v5g (G : Row α) (a b : Nat) : swr G a b 0 = G := by
  funext t; unfold swr; rw [if_neg (by omega), if_neg (by omega)]
theorem v6m (G : Row α) {a b n : Nat} (h : a + n < b) : sw (swr G a b n) (a + n) (b + n) = swr G a b (n + 1) := by
  funext t
  unfold sw swr
  by_cases c : t = a + n
  · subst c
    rw [if_pos rfl, if_neg (by omega), if_neg (by omega), if_pos (by omega)]; congr 1; omega
  · rw [if_neg c]
    by_cases c' : t = b + n
    · subst c'
      rw [if_pos rfl, if_neg (by omega), if_neg (by omega), if_neg (by omega), if_pos (by omega)]; congr 1; omega
    · rw [if_neg c']
      by_cases c1 : a ≤ t ∧ t < a + n
      · rw [if_pos c1, if_pos (by omega)]
      · rw [if_neg c1, if_neg (c := a ≤ t ∧ t < a + (n + 1)) (by omega)]
        by_cases c2 : b ≤ t ∧ t < b + n
        · rw [if_pos c2, if_pos (by omega)]
        · rw [if_neg c2, if_neg (by omega)]
/-- rotate: [a, m) and [m, b) change places. -/
def rot (G : Row α) (a m b : Nat) : Row α := fun t => if a ≤ t ∧ t < b then (if t < a + (b - m) then G (t + (m - a)) else G (t - (b - m))) else G t
theorem v8i (G : Row α) {m i : Nat} (h : i ≤ m) : swr G (m - i) m i = rot G (m - i) m (m + i) := by
  funext t; unfold swr rot
  by_cases c : m - i ≤ t ∧ t < m + i
  · rw [if_pos c]
    by_cases c1 : t < m
    · rw [if_pos (by omega), if_pos (by omega)]; congr 1; omega
    · rw [if_neg (by omega), if_pos (by omega), if_neg (by omega)]; congr 1; omega
  · rw [if_neg c, if_neg (by omega), if_neg (by omega)]
/-- i > j: the last j of the first part go ahead. -/
theorem v97 (G : Row α) {m i j : Nat} (h : i ≤ m) (hj : 0 < j) (hij : j < i) : rot (swr G (m - i) m j) (m - (i - j)) m (m + j) = rot G (m - i) m (m + j) := by
  funext t; unfold rot
  by_cases c : m - i ≤ t ∧ t < m + j
  · rw [if_pos c]
    by_cases c1 : m - (i - j) ≤ t
    · rw [if_pos (by omega)]
      by_cases c2 : t < m - (i - j) + (m + j - m)
      · rw [if_pos c2]
        unfold swr
        by_cases c3 : t < m - i + (m + j - m)
        · omega
        · rw [if_neg c3, if_neg (by omega)]
          by_cases c4 : m ≤ t + (m - (m - (i - j)))
          · rw [if_pos (by omega)]; congr 1; omega
          · rw [if_neg (by omega)]; congr 1; omega
      · rw [if_neg c2, if_neg (by omega)]
        unfold swr
        by_cases c4 : m ≤ t - (m + j - m)
        · rw [if_neg (by omega), if_pos (by omega)]; congr 1; omega
        · by_cases c5 : m - i ≤ t - (m + j - m) ∧ t - (m + j - m) < m - i + j
          · omega
          · rw [if_neg c5, if_neg (by omega)]
    · rw [if_neg (by omega), if_pos (by omega)]
      unfold swr
      rw [if_pos (by omega)]; congr 1; omega
  · rw [if_neg c, if_neg (by omega)]
    unfold swr
    rw [if_neg (by omega), if_neg (by omega)]
/-- i < j: the first i of the second part's end go ahead. -/
theorem v8v (G : Row α) {m i j : Nat} (h : i ≤ m) (hi : 0 < i) (hij : i < j) : rot (swr G (m - i) (m + j - i) i) (m - i) m (m + (j - i)) = rot G (m - i) m (m + j) := by
  funext t; unfold rot
  by_cases c : m - i ≤ t ∧ t < m + j
  · rw [if_pos c]
    by_cases c1 : t < m + (j - i)
    · rw [if_pos (by omega)]
      by_cases c2 : t < m - i + (m + (j - i) - m)
      · rw [if_pos c2, if_pos (by omega)]
        unfold swr
        rw [if_neg (by omega), if_neg (by omega)]
      · rw [if_neg c2]
        unfold swr
        by_cases c3 : t < m - i + (m + j - m)
        · rw [if_pos c3, if_pos (by omega)]; congr 1; omega
        · omega
    · rw [if_neg (by omega), if_neg (by omega)]
      unfold swr
      rw [if_neg (by omega), if_pos (by omega)]; congr 1; omega
  · rw [if_neg c, if_neg (by omega)]
    unfold swr
    rw [if_neg (by omega), if_neg (by omega)]
theorem Within.rot (G : Row α) {a m b : Nat} (h1 : a ≤ m) (h2 : m ≤ b) : Within G (rot G a m b) a b :=
  ⟨fun t ht => by unfold Sm.rot; rw [if_neg (by omega)], fun t h3 h4 => by
    unfold Sm.rot; rw [if_pos ⟨h3, h4⟩]
    split
    · exact ⟨_, by omega, by omega, rfl⟩
    · exact ⟨_, by omega, by omega, rfl⟩⟩
structure Ord : Prop where
  trans : ∀ x y z, lt y x = false → lt z y = false → lt z x = false
  asymm : ∀ x y, lt x y = true → lt y x = false
variable {lt}
/-- The parts behind the rotation are in order, and every element of the one is at most every element of the other. -/
theorem v0o (O : Ord lt) {G : Row α} {a m b mid start e : Nat} (ham : a < m) (hmb : m < b) (hmid : mid = (a + b) / 2) (hs1 : a ≤ start) (hs2 : start ≤ m) (hs3 : start ≤ mid) (hs4 : mid + m - b ≤ start) (he : e = mid + m - start)
    (hA : Sorted lt G a m) (hB : Sorted lt G m b)
    (lo : ∀ c, a ≤ c → c < start → mid + m - b ≤ c → lt (G (mid + m - 1 - c)) (G c) = false) (hi : start < m → start < mid → lt (G (mid + m - 1 - start)) (G start) = true) :
    Sorted lt (rot G start m e) a start ∧ Sorted lt (rot G start m e) start mid ∧ Sorted lt (rot G start m e) mid e ∧ Sorted lt (rot G start m e) e b ∧
    ∀ i j, a ≤ i → i < mid → mid ≤ j → j < b → lt (rot G start m e j) (rot G start m e i) = false := by
  have hme : m ≤ e := by omega
  have heb : e ≤ b := by omega
  have r0 : ∀ t, t < start ∨ e ≤ t → rot G start m e t = G t := fun t ht => by unfold rot; rw [if_neg (by omega)]
  have r1 : ∀ t, start ≤ t → t < mid → rot G start m e t = G (t + (m - start)) := fun t h1 h2 => by unfold rot; rw [if_pos (by omega), if_pos (by omega)]
  have r2 : ∀ t, mid ≤ t → t < e → rot G start m e t = G (t - (e - m)) := fun t h1 h2 => by unfold rot; rw [if_pos (by omega), if_neg (by omega)]
  have le : ∀ i j, a ≤ i → i ≤ j → j < m → lt (G j) (G i) = false := fun i j h1 h2 h3 => by
    by_cases c : i = j
    · subst c
      cases q : lt (G i) (G i) with
      | false => rfl
      | true => exact absurd (O.asymm _ _ q) (by rw [q]; decide)
    · exact hA i j h1 (by omega) h3
  have le' : ∀ i j, m ≤ i → i ≤ j → j < b → lt (G j) (G i) = false := fun i j h1 h2 h3 => by
    by_cases c : i = j
    · subst c
      cases q : lt (G i) (G i) with
      | false => rfl
      | true => exact absurd (O.asymm _ _ q) (by rw [q]; decide)
    · exact hB i j h1 (by omega) h3
  refine ⟨fun i j h1 h2 h3 => ?_, fun i j h1 h2 h3 => ?_, fun i j h1 h2 h3 => ?_, fun i j h1 h2 h3 => ?_, fun i j h1 h2 h3 h4 => ?_⟩
  · rw [r0 j (by omega), r0 i (by omega)]; exact hA i j h1 h2 (by omega)
  · rw [r1 j (by omega) h3, r1 i h1 (by omega)]; exact hB _ _ (by omega) (by omega) (by omega)
  · rw [r2 j (by omega) h3, r2 i h1 (by omega)]; exact hA _ _ (by omega) (by omega) (by omega)
  · rw [r0 j (by omega), r0 i (by omega)]; exact hB i j (by omega) h2 h3
  · -- A1 or B1 against A2 or B2
    by_cases ci : i < start
    · rw [r0 i (by omega)]
      by_cases cj : j < e
      · rw [r2 j h3 cj]; exact le _ _ h1 (by omega) (by omega)
      · rw [r0 j (by omega)]
        -- G (start-1) ≤ G e
        by_cases c0 : mid + m - b ≤ start - 1
        · have := lo (start - 1) (by omega) (by omega) c0
          have e1 : mid + m - 1 - (start - 1) = e := by omega
          rw [e1] at this
          exact O.trans _ _ _ (O.trans _ _ _ (le i (start - 1) h1 (by omega) (by omega)) this) (le' e j (by omega) (by omega) h4)
        · omega
    · rw [r1 i (by omega) h2]
      by_cases cj : j < e
      · rw [r2 j h3 cj]
        have h := hi (by omega) (by omega)
        have h' := O.asymm _ _ h
        have e1 : mid + m - 1 - start = e - 1 := by omega
        rw [e1] at h'
        exact O.trans _ _ _ (O.trans _ _ _ (le' (i + (m - start)) (e - 1) (by omega) (by omega) (by omega)) h') (le start _ hs1 (by omega) (by omega))
      · rw [r0 j (by omega)]; exact le' _ _ (by omega) (by omega) h4
/-- Two parts in order, the one at most the other. -/
theorem q4k {G : Row α} {a m b : Nat} (h1 : Sorted lt G a m) (h2 : Sorted lt G m b) (h3 : ∀ i j, a ≤ i → i < m → m ≤ j → j < b → lt (G j) (G i) = false) : Sorted lt G a b := fun i j a1 a2 a3 => by
  by_cases c : j < m
  · exact h1 i j a1 a2 c
  · by_cases c' : i < m
    · exact h3 i j a1 c' (by omega) a3
    · exact h2 i j (by omega) a2 a3
theorem v0a {G H : Row α} {a m b : Nat} (hw1 : Within G H a m) (k : ∀ i j, a ≤ i → i < m → m ≤ j → j < b → lt (G j) (G i) = false) : ∀ i j, a ≤ i → i < m → m ≤ j → j < b → lt (H j) (H i) = false := fun i j a1 a2 a3 a4 => by
  obtain ⟨s, s1, s2, e⟩ := hw1.inn i a1 a2
  rw [e, hw1.out j (by omega)]; exact k s j s1 s2 a3 a4
theorem q8v {G H : Row α} {a m b : Nat} (hw1 : Within G H m b) (k : ∀ i j, a ≤ i → i < m → m ≤ j → j < b → lt (G j) (G i) = false) : ∀ i j, a ≤ i → i < m → m ≤ j → j < b → lt (H j) (H i) = false := fun i j a1 a2 a3 a4 => by
  obtain ⟨s, s1, s2, e⟩ := hw1.inn j a3 a4
  rw [e, hw1.out i (by omega)]; exact k i s a1 a2 s1 s2
theorem q1t {G H : Row α} {a b : Nat} (h : Sorted lt G a b) (e : ∀ t, a ≤ t → t < b → H t = G t) : Sorted lt H a b := fun i j a1 a2 a3 => by
  rw [e j (by omega) a3, e i a1 (by omega)]; exact h i j a1 a2 a3
theorem v1p (O : Ord lt) {x y z : α} (h1 : lt y x = false) (h2 : lt y z = true) : lt x z = true := by
  cases q : lt x z with
  | true => rfl
  | false => exact absurd (O.trans z x y q h1) (by rw [h2]; decide)
theorem q9k (O : Ord lt) {x y z : α} (h1 : lt x y = true) (h2 : lt z y = false) : lt x z = true := by
  cases q : lt x z with
  | true => rfl
  | false => exact absurd (O.trans y z x h2 q) (by rw [h1]; decide)
theorem v01 (G : Row α) (a m : Nat) : rot G a m m = G := by
  funext t; unfold rot
  by_cases c : a ≤ t ∧ t < m
  · rw [if_pos c, if_neg (by omega)]; congr 1; omega
  · rw [if_neg c]
theorem q81 (G : Row α) (m b : Nat) : rot G m m b = G := by
  funext t; unfold rot
  by_cases c : m ≤ t ∧ t < b
  · rw [if_pos c, if_pos (by omega)]; congr 1; omega
  · rw [if_neg c]
theorem v9d (G : Row α) {a k : Nat} (h : a ≤ k) : sw (rot G a (a + 1) (k + 1)) k (k + 1) = rot G a (a + 1) (k + 2) := by
  funext t; unfold sw rot
  by_cases c : t = k
  · subst c
    rw [if_pos rfl, if_neg (by omega), if_pos (by omega), if_pos (by omega)]; congr 1; omega
  · rw [if_neg c]
    by_cases c' : t = k + 1
    · subst c'
      rw [if_pos rfl, if_pos (by omega), if_neg (by omega), if_pos (by omega), if_neg (by omega)]; congr 1; omega
    · rw [if_neg c']
      by_cases c1 : a ≤ t ∧ t < k + 1
      · rw [if_pos c1, if_pos (by omega), if_pos (by omega), if_pos (by omega)]
      · rw [if_neg c1, if_neg (by omega)]
theorem v5p (G : Row α) {k m : Nat} (h : k < m) : sw (rot G (k + 1) m (m + 1)) (k + 1) k = rot G k m (m + 1) := by
  funext t; unfold sw rot
  by_cases c : t = k + 1
  · subst c
    rw [if_pos rfl, if_neg (by omega), if_pos (by omega), if_neg (by omega)]; congr 1; omega
  · rw [if_neg c]
    by_cases c' : t = k
    · subst c'
      rw [if_pos rfl, if_pos (by omega), if_pos (by omega), if_pos (by omega), if_pos (by omega)]; congr 1; omega
    · rw [if_neg c']
      by_cases c1 : k + 1 ≤ t ∧ t < m + 1
      · have c2 : k + 2 ≤ t := by omega
        rw [if_pos c1, if_pos (c := k ≤ t ∧ t < m + 1) (by omega), if_neg (c := t < k + 1 + (m + 1 - m)) (by omega), if_neg (c := t < k + (m + 1 - m)) (by omega)]
      · rw [if_neg c1, if_neg (by omega)]
theorem v3q (O : Ord lt) {G : Row α} {a i b : Nat} (h1 : a + 1 ≤ i) (h2 : i ≤ b) (hs : Sorted lt G (a + 1) b) (lo : ∀ c, a + 1 ≤ c → c < i → lt (G c) (G a) = true) (hi : ∀ c, i ≤ c → c < b → lt (G c) (G a) = false) : Sorted lt (rot G a (a + 1) i) a b := by
  have r1 : ∀ t, a ≤ t → t + 1 < i → rot G a (a + 1) i t = G (t + 1) := fun t p q => by unfold rot; rw [if_pos (by omega), if_pos (by omega)]; congr 1; omega
  have r2 : rot G a (a + 1) i (i - 1) = G a := by unfold rot; rw [if_pos (by omega), if_neg (by omega)]; congr 1; omega
  have r3 : ∀ t, i ≤ t → rot G a (a + 1) i t = G t := fun t p => by unfold rot; rw [if_neg (by omega)]
  intro x y p q r
  by_cases c1 : y + 1 < i
  · rw [r1 y (by omega) c1, r1 x p (by omega)]; exact hs _ _ (by omega) (by omega) (by omega)
  · by_cases c2 : y + 1 = i
    · have : y = i - 1 := by omega
      rw [this, r2, r1 x p (by omega)]
      exact O.asymm _ _ (lo _ (by omega) (by omega))
    · rw [r3 y (by omega)]
      by_cases c3 : x + 1 < i
      · rw [r1 x p c3]; exact hs _ _ (by omega) (by omega) r
      · by_cases c4 : x + 1 = i
        · have : x = i - 1 := by omega
          rw [this, r2]; exact hi _ (by omega) r
        · rw [r3 x (by omega)]; exact hs _ _ (by omega) q r
theorem v5x (O : Ord lt) {G : Row α} {a i m : Nat} (h1 : a ≤ i) (h2 : i ≤ m) (hs : Sorted lt G a m) (lo : ∀ c, a ≤ c → c < i → lt (G m) (G c) = false) (hi : ∀ c, i ≤ c → c < m → lt (G m) (G c) = true) : Sorted lt (rot G i m (m + 1)) a (m + 1) := by
  have r0 : ∀ t, t < i → rot G i m (m + 1) t = G t := fun t p => by unfold rot; rw [if_neg (by omega)]
  have r1 : rot G i m (m + 1) i = G m := by unfold rot; rw [if_pos (by omega), if_pos (by omega)]; congr 1; omega
  have r2 : ∀ t, i < t → t < m + 1 → rot G i m (m + 1) t = G (t - 1) := fun t p q => by unfold rot; rw [if_pos (by omega), if_neg (by omega)]; congr 1; omega
  intro x y p q r
  by_cases c1 : y < i
  · rw [r0 y c1, r0 x (by omega)]; exact hs _ _ p q (by omega)
  · by_cases c2 : y = i
    · rw [c2, r1, r0 x (by omega)]; exact lo _ p (by omega)
    · rw [r2 y (by omega) r]
      by_cases c3 : x < i
      · rw [r0 x c3]; exact hs _ _ p (by omega) (by omega)
      · by_cases c4 : x = i
        · rw [c4, r1]; exact O.asymm _ _ (hi _ (by omega) (by omega))
        · rw [r2 x (by omega) (by omega)]; exact hs _ _ (by omega) (by omega) (by omega)
/-- one step of the search for a place to the right -/
theorem v2s (O : Ord lt) {G : Row α} {m h b : Nat} {x : α} (hs : Sorted lt G m b) (h1 : m ≤ h) (h2 : h < b) : (lt (G h) x = true → ∀ c, m ≤ c → c < h + 1 → lt (G c) x = true) ∧ (lt (G h) x = false → ∀ c, h ≤ c → c < b → lt (G c) x = false) := by
  refine ⟨fun q c a1 a2 => ?_, fun q c a1 a2 => ?_⟩
  · by_cases e : c = h
    · rw [e]; exact q
    · exact v1p O (hs c h a1 (by omega) h2) q
  · by_cases e : c = h
    · rw [e]; exact q
    · exact O.trans _ _ _ q (hs h c h1 (by omega) a2)
theorem v3l (O : Ord lt) {G : Row α} {a h m : Nat} {x : α} (hs : Sorted lt G a m) (h1 : a ≤ h) (h2 : h < m) : (lt x (G h) = false → ∀ c, a ≤ c → c < h + 1 → lt x (G c) = false) ∧ (lt x (G h) = true → ∀ c, h ≤ c → c < m → lt x (G c) = true) := by
  refine ⟨fun q c a1 a2 => ?_, fun q c a1 a2 => ?_⟩
  · by_cases e : c = h
    · rw [e]; exact q
    · exact O.trans _ _ _ (hs c h a1 (by omega) h2) q
  · by_cases e : c = h
    · rw [e]; exact q
    · exact q9k O q (hs h c h1 (by omega) a2)
/-- one step of the search for the cut of both parts -/
theorem v4o (O : Ord lt) {G : Row α} {a m b p c : Nat} (hA : Sorted lt G a m) (hB : Sorted lt G m b) (h1 : a ≤ c) (h2 : c < m) (h3 : m ≤ p - c) (h4 : p - c < b) (h5 : c ≤ p) :
    (lt (G (p - c)) (G c) = false → ∀ x, a ≤ x → x < c + 1 → p - x < b → lt (G (p - x)) (G x) = false) ∧ (lt (G (p - c)) (G c) = true → ∀ x, c ≤ x → x < m → m ≤ p - x → lt (G (p - x)) (G x) = true) := by
  refine ⟨fun q x a1 a2 a3 => ?_, fun q x a1 a2 a3 => ?_⟩
  · by_cases e : x = c
    · rw [e]; exact q
    · exact O.trans _ _ _ (hA x c a1 (by omega) h2) (O.trans _ _ _ q (hB (p - c) (p - x) h3 (by omega) a3))
  · by_cases e : x = c
    · rw [e]; exact q
    · exact q9k O (v1p O (hB (p - x) (p - c) a3 (by omega) h4) q) (hA c x h1 (by omega) a2)
end Go.Proofs.Sm
namespace Go.Proofs.St
open Go.Shelf Go.RowKit Go.Lib Go.Sort Sm
variable {P : Program} {ρ : Ren} {α : Type} [Inhabited α] {enc : α → List Value} {k : Nat} {w0 W W' : World} {blk off : Nat} {d0 dk d' : Array α}

/-- W is w0 with the row holding dk, as far as the blocks of w0 go: new blocks and draws are free. -/
def SWK (enc : α → List Value) (k : Nat) (w0 : World) (blk off : Nat) (dk : Array α) (W : World) : Prop := Go.RowKit.Below w0.heap.size (putRowK enc k w0 blk off dk) W
theorem q85 {B : Nat} {X Y : World} (h : Go.RowKit.Below B X Y) (b : Nat) (f : Array Value → Array Value) : Go.RowKit.Below B (mapBlock X b f) (mapBlock Y b f) :=
  ⟨h.os, h.tape, h.output, by simpa [mapBlock] using h.size, fun q hq => by simp only [mapBlock, Array.getElem?_modify]; rw [h.block q hq]⟩
theorem q5a {B b : Nat} : ∀ (vs : List Value) (s : Nat) {X Y : World}, Go.RowKit.Below B X Y → Go.RowKit.Below B (X.setCells b s vs) (Y.setCells b s vs)
  | [], _, _, _, h => h
  | v :: r, s, X, Y, h => by
    rw [World.setCells, World.setCells, setCell_eq, setCell_eq]
    exact q5a r (s + 1) (q85 h b _)
theorem v1v (w : World) (d : Array α) : (putRowK enc k w blk off d).heap.size = w.heap.size := size_putRow _ _ _ _ _
theorem SWK.start (h : HoldsK enc k w0 blk off dk) : SWK enc k w0 blk off dk w0 := by unfold SWK; rw [putRowK_self _ _ _ _ _ _ h]; exact Go.RowKit.Below.refl _ _
theorem SWK.le (h : SWK enc k w0 blk off dk W) : w0.heap.size ≤ W.heap.size := by have := h.size; rwa [v1v] at this
theorem SWK.on (h : SWK enc k w0 blk off dk W) (hb : Go.RowKit.Below W.heap.size W W') : SWK enc k w0 blk off dk W' := Go.RowKit.Below.trans h (hb.mono h.le)
theorem SWK.alloc (h : SWK enc k w0 blk off dk W) (o : Obj) : SWK enc k w0 blk off dk (W.alloc o) := h.on ⟨rfl, rfl, rfl, by simp, fun q hq => by simp only [World.alloc]; rw [Array.getElem?_push_lt hq, Array.getElem?_eq_getElem hq]⟩
theorem SWK.lt (h : SWK enc k w0 blk off dk W) (hblk : blk < w0.heap.size) : blk < W.heap.size := Nat.lt_of_lt_of_le hblk h.le
theorem SWK.trans (h : SWK enc k w0 blk off dk W) (h' : SWK enc k W blk off d' W') (_hblk : blk < w0.heap.size) (hs : d'.size = dk.size) : SWK enc k w0 blk off d' W' := by
  have e : putRowK enc k (putRowK enc k w0 blk off dk) blk off d' = putRowK enc k w0 blk off d' := putRow_putRow id w0 blk off _ _ (by simp [hs])
  have q : Go.RowKit.Below w0.heap.size (putRowK enc k (putRowK enc k w0 blk off dk) blk off d') (putRowK enc k W blk off d') := q85 (show Go.RowKit.Below w0.heap.size (putRowK enc k w0 blk off dk) W from h) blk (putCells id off (flatK enc k d'))
  rw [e] at q
  exact q.trans (Go.RowKit.Below.mono h' h.le)
theorem SWK.cell (h : SWK enc k w0 blk off dk W) (a : Addr) (ha : a.block ≠ blk) (hl : a.block < w0.heap.size) : W.cell? a = w0.cell? a :=
  (Go.RowKit.Below.cell (show Go.RowKit.Below w0.heap.size (putRowK enc k w0 blk off dk) W from h) hl).trans (cell?_putRowK_other enc k w0 blk off dk a ha)
theorem SWK.swap (hk : ∀ x, (enc x).length = k) (h : SWK enc k w0 blk off dk W) (_hblk : blk < w0.heap.size) (i j : Nat) (hi : i < dk.size) (hj : j < dk.size) :
    SWK enc k w0 blk off (swp dk i j) ((W.setCells blk (off + i * k) (enc dk[j]!)).setCells blk (off + j * k) (enc dk[i]!)) := by
  have q := swap_worldK enc k hk w0 0 0 blk off dk i j hi hj
  have z := q5a (b := blk) (enc dk[i]!) (off + j * k) (q5a (b := blk) (enc dk[j]!) (off + i * k) (show Go.RowKit.Below w0.heap.size (putRowK enc k w0 blk off dk) W from h))
  have e : ((putRowK enc k w0 blk off dk).setCells blk (off + i * k) (enc dk[j]!)).setCells blk (off + j * k) (enc dk[i]!) = putRowK enc k w0 blk off (swp dk i j) := q
  rw [e] at z
  exact z
theorem SWK.holds (h : SWK enc k w0 blk off dk W) (hblk : blk < w0.heap.size) (h0 : HoldsK enc k w0 blk off d0) (hs : dk.size = d0.size) : HoldsK enc k W blk off dk := fun t ht => by
  have q := holdsK_putRowK enc k w0 blk off d0 dk h0 hs t ht
  have hb : Go.RowKit.Below w0.heap.size (putRowK enc k w0 blk off dk) W := h
  rw [hb.cell (p := ⟨blk, off + t, none⟩) hblk, hb.frozen (p := ⟨blk, off + t, none⟩) hblk]
  exact q
/-- What is asked of 'less': in every world that the sort passes through it hands back the comparison; it may draw and lay new blocks. -/
def q1g (P : Program) (g : Nat) (lb : Array Value) (enc : α → List Value) (k : Nat) (lt : α → α → Bool) (blk off size : Nat) (w : World) : Prop :=
  ∀ (W : World) (dk : Array α), SWK enc k w blk off dk W → dk.size = size → ∀ i j : Nat, i < size → j < size →
    Calls P g (#[.int .i64 i, .int .i64 j] ++ lb) W fun e w' => e = .returned (.bool (lt dk[i]! dk[j]!)) ∧ Go.RowKit.Below W.heap.size W w'
theorem SWK.less {g : Nat} {lb : Array Value} {lt : α → α → Bool} {size : Nat} (h : SWK enc k w0 blk off dk W) (hL : q1g P g lb enc k lt blk off size w0) (hs : dk.size = size) (i j : Nat) (hi : i < size) (hj : j < size) :
    Calls P g (#[.int .i64 i, .int .i64 j] ++ lb) W fun e w' => e = .returned (.bool (lt dk[i]! dk[j]!)) ∧ Go.RowKit.Below W.heap.size W w' := hL W dk h hs i j hi hj
theorem SWK.lessReads {g : Nat} {lb : Array Value} {lt : α → α → Bool} {size : Nat} (h : SWK enc k w0 blk off dk W) (hL : q1g P g lb enc k lt blk off size w0) (hblk : blk < w0.heap.size) (hs : dk.size = size) : q1g P g lb enc k lt blk off size W :=
  fun W2 d h2 hs' i j hi hj => hL W2 d (h.trans h2 hblk (by omega)) hs' i j hi hj
theorem q4x {X Y Z : World} (h : Go.RowKit.Below X.heap.size X Y) (h' : Go.RowKit.Below Y.heap.size Y Z) : Go.RowKit.Below X.heap.size X Z := h.trans (h'.mono h.size)

/-- a row told by its places -/
def row (d : Array α) : Row α := fun t => d[t]!
theorem q7i {d : Array α} {i j : Nat} (hi : i < d.size) (hj : j < d.size) : row (swp d i j) = sw (row d) i j := by
  funext t
  unfold row sw
  rw [swp_get d hi hj]
  by_cases a : t = j
  · by_cases b : t = i
    · rw [if_pos a, if_pos b, ← a, ← b]
    · rw [if_pos a, if_neg b, if_pos a]
  · by_cases b : t = i
    · rw [if_neg a, if_pos b, if_pos b]
    · rw [if_neg a, if_neg b, if_neg b, if_neg a]
theorem q6f {d d1 : Array α} {i j : Nat} (h : PermIn 0 d.size d d1) (hi : i < d.size) (hj : j < d.size) : PermIn 0 d.size d (swp d1 i j) :=
  permIn_trans _ _ _ _ _ h (swp_permIn d1 0 d.size i j (Nat.zero_le _) hi (Nat.zero_le _) hj (by rw [h.1]; exact Nat.le_refl _))
theorem q2d {d d1 d2 : Array α} (h : PermIn 0 d.size d d1) (h' : PermIn 0 d1.size d1 d2) : PermIn 0 d.size d d2 :=
  permIn_trans _ _ _ _ _ h (by rw [← h.1]; exact h')

set_option maxHeartbeats 2000000 in
set_option maxRecDepth 100000 in
theorem swapRange (L : LaysGt.n49 P ρ) (hk : ∀ x, (enc x).length = k) (lf : Fn) (la lb : Array Value) (sf : Nat) (sb : Array Value) (hswap : SwapSwapsK P sf sb enc k blk off d0.size) (h0 : HoldsK enc k w0 blk off d0) (hblk : blk < w0.heap.size)
    (d : Array α) (hs : d.size = d0.size) (hsz : d0.size < 4611686018427387904) (hW : SWK enc k w0 blk off d W) (a b n : Nat) (hab : a + n ≤ b) (hb : b + n ≤ d.size) :
    Calls P (ρ.f 49) #[.agg #[.func lf la lb, .func (.func sf) #[] sb], .int .i64 a, .int .i64 b, .int .i64 n] W fun e w' =>
      e = .returned (.tuple #[]) ∧ ∃ d' : Array α, SWK enc k w0 blk off d' w' ∧ PermIn 0 d.size d d' ∧ row d' = swr (row d) a b n := by
  have mixed := L.mixed; have t0 := L.t0; have a0 := L.a0; have z0 := L.z0; have v0 := L.v0; have t3 := L.t3; have a3 := L.a3; have z3 := L.z3; have v3 := L.v3; have t4 := L.t4; have a4 := L.a4; have z4 := L.z4; have v4 := L.v4; have t26 := L.t26; have a26 := L.a26; have z26 := L.z26; have v26 := L.v26; have t38 := L.t38; have a38 := L.a38; have z38 := L.z38; have v38 := L.v38; have t42 := L.t42; have a42 := L.a42; have z42 := L.z42; have v42 := L.v42
  have u42 := run_underlying L.t42
  have hbW := SWK.lt hW hblk
  have H0 : Hid (HoldsK enc k w0 blk off d0) := h0
  have HSW : Hid (SWK enc k w0 blk off d W) := hW
  have HSWAP : Hid (SwapSwapsK P sf sb enc k blk off d0.size) := hswap
  clear h0 hW hswap
  go_enter L.f49, BodyGt.n49_ntmps ρ
  go_wp2
  go_loopw [8] (fun vi wr => ∃ (i : Nat) (dk : Array α), vi = .int .i64 i ∧ i ≤ n ∧ dk.size = d.size ∧ Hid (SWK enc k (W.alloc (.cells #[.func lf la lb, .func (.func sf) #[] sb] (ρ.t 42))) blk off dk wr ∧ PermIn 0 d.size d dk ∧ row dk = swr (row d) a b i)) (fun vi _ => n - (intOf vi).toNat)
  case atStart => exact ⟨0, d, by go_num, by omega, rfl, ⟨SWK.start (SWK.holds (SWK.alloc HSW.out _) hblk H0.out hs), permIn_refl _ _ _, (v5g _ _ _).symm⟩⟩
  case round =>
    obtain ⟨i, dk, rfl, hin, hsk, HI⟩ := hrel
    have c1 : wr.cell? ⟨W.heap.size, 1, none⟩ = some (.func (.func sf) #[] sb) := by
      rw [SWK.cell HI.out.1 ⟨W.heap.size, 1, none⟩ (by show W.heap.size ≠ blk; omega) (by simp)]; simp
    have hHw : HoldsK enc k wr blk off dk := SWK.holds (SWK.trans (SWK.alloc HSW.out _) HI.out.1 hblk hsk) hblk H0.out (by omega)
    have HHW : Hid (HoldsK enc k wr blk off dk) := hHw
    clear hHw
    by_cases hlt : i < n
    · have hq := HSWAP.out wr dk HHW.out (by omega) (a + i) (b + i) (by omega) (by omega)
      rw [show (((a + i : Nat) : Int)) = (a : Int) + i by omega, show (((b + i : Nat) : Int)) = (b : Int) + i by omega] at hq
      have hz := SWK.swap hk HI.out.1 (by simp; omega) (a + i) (b + i) (by omega) (by omega)
      have HZ : Hid _ := hz
      clear hz
      go_wp2
      go_roundw
      case rel => exact ⟨i + 1, swp dk (a + i) (b + i), by go_num, by omega, by rw [size_swp]; exact hsk, ⟨HZ.out, q6f HI.out.2.1 (by omega) (by omega), by rw [q7i (by omega) (by omega), HI.out.2.2, v6m _ (by omega)]⟩⟩
      case measure => simp [intOf]; omega
    · go_wp2
      go_end0
      exact ⟨rfl, dk, SWK.trans (SWK.alloc HSW.out _) HI.out.1 hblk hsk, HI.out.2.1, by rw [HI.out.2.2, show i = n by omega]⟩

set_option maxHeartbeats 2000000 in
set_option maxRecDepth 100000 in
theorem rotate (L : LaysGt.n42 P ρ) (hk : ∀ x, (enc x).length = k) (lf : Fn) (la lb : Array Value) (sf : Nat) (sb : Array Value) (hswap : SwapSwapsK P sf sb enc k blk off d0.size) (h0 : HoldsK enc k w0 blk off d0) (hblk : blk < w0.heap.size)
    (d : Array α) (hs : d.size = d0.size) (hsz : d0.size < 4611686018427387904) (hW : SWK enc k w0 blk off d W) (a m b : Nat) (ham : a < m) (hmb : m < b) (hb : b ≤ d.size) :
    Calls P (ρ.f 42) #[.agg #[.func lf la lb, .func (.func sf) #[] sb], .int .i64 a, .int .i64 m, .int .i64 b] W fun e w' =>
      e = .returned (.tuple #[]) ∧ ∃ d' : Array α, SWK enc k w0 blk off d' w' ∧ PermIn 0 d.size d d' ∧ row d' = rot (row d) a m b := by
  have mixed := L.mixed; have t0 := L.t0; have a0 := L.a0; have z0 := L.z0; have v0 := L.v0; have t3 := L.t3; have a3 := L.a3; have z3 := L.z3; have v3 := L.v3; have t4 := L.t4; have a4 := L.a4; have z4 := L.z4; have v4 := L.v4; have t26 := L.t26; have a26 := L.a26; have z26 := L.z26; have v26 := L.v26; have t38 := L.t38; have a38 := L.a38; have z38 := L.z38; have v38 := L.v38; have t42 := L.t42; have a42 := L.a42; have z42 := L.z42; have v42 := L.v42
  have u42 := run_underlying L.t42
  have hbW := SWK.lt hW hblk
  have HSW : Hid (SWK enc k w0 blk off d W) := hW
  have HB1 : Hid (blk < (W.alloc (.cells #[.func lf la lb, .func (.func sf) #[] sb] (ρ.t 42))).heap.size) := by show _ < _; simp; omega
  have HW1 : Hid (HoldsK enc k (W.alloc (.cells #[.func lf la lb, .func (.func sf) #[] sb] (ρ.t 42))) blk off d) := SWK.holds (SWK.alloc hW _) hblk h0 hs
  have HSWAP : Hid (SwapSwapsK P sf sb enc k blk off d.size) := by rw [hs]; exact hswap
  have e49 : ∀ args w, (callFunc (ρ.f 49) args).run P w = .ok (.enter (ρ.f 49) args) w := enters_of L.f49 (by kernel_rfl) rfl
  have SR : Hid (∀ (wr : World) (dk : Array α), dk.size = d.size → SWK enc k (W.alloc (.cells #[.func lf la lb, .func (.func sf) #[] sb] (ρ.t 42))) blk off dk wr → ∀ a b n : Nat, a + n ≤ b → b + n ≤ dk.size →
      Calls P (ρ.f 49) #[.agg #[.func lf la lb, .func (.func sf) #[] sb], .int .i64 a, .int .i64 b, .int .i64 n] wr fun e w' =>
        e = .returned (.tuple #[]) ∧ ∃ d' : Array α, SWK enc k (W.alloc (.cells #[.func lf la lb, .func (.func sf) #[] sb] (ρ.t 42))) blk off d' w' ∧ PermIn 0 dk.size dk d' ∧ row d' = swr (row dk) a b n) :=
    fun wr dk hsk hS a b n h1 h2 => swapRange { L with } hk lf la lb sf sb HSWAP.out HW1.out HB1.out dk hsk (by omega) hS a b n h1 h2
  clear h0 hW hswap
  go_enter L.f42, BodyGt.n42_ntmps ρ
  go_wp2
  go_loopw [8, 9] (fun vi vj wr => ∃ (i j : Nat) (dk : Array α), vi = .int .i64 i ∧ vj = .int .i64 j ∧ 0 < i ∧ 0 < j ∧ i ≤ m - a ∧ j ≤ b - m ∧ dk.size = d.size ∧ Hid (SWK enc k (W.alloc (.cells #[.func lf la lb, .func (.func sf) #[] sb] (ρ.t 42))) blk off dk wr ∧ PermIn 0 d.size d dk ∧ rot (row dk) (m - i) m (m + j) = rot (row d) a m b)) (fun vi vj _ => (intOf vi).toNat + (intOf vj).toNat)
  case atStart => exact ⟨m - a, b - m, d, by congr 1; omega, by congr 1; omega, by omega, by omega, by omega, by omega, rfl, ⟨SWK.start HW1.out, permIn_refl _ _ _, by rw [show m - (m - a) = a by omega, show m + (b - m) = b by omega]⟩⟩
  case round =>
    obtain ⟨i, j, dk, rfl, rfl, hi0, hj0, hia, hjb, hsk, HI⟩ := hrel
    have c0 : wr.cell? ⟨W.heap.size, 0, none⟩ = some (.func lf la lb) := by
      rw [SWK.cell HI.out.1 ⟨W.heap.size, 0, none⟩ (by show W.heap.size ≠ blk; omega) (by simp)]; simp
    have c1 : wr.cell? ⟨W.heap.size, 1, none⟩ = some (.func (.func sf) #[] sb) := by
      rw [SWK.cell HI.out.1 ⟨W.heap.size, 1, none⟩ (by show W.heap.size ≠ blk; omega) (by simp)]; simp
    by_cases hij : i = j
    · subst hij
      have hc := SR.out wr dk hsk HI.out.1 (m - i) m i (by omega) (by omega)
      rw [show (((m - i : Nat) : Int)) = (m : Int) - i by omega] at hc
      go_wp2_with (go_at_fn (ρ.f 49); refine hc.mono ?_; rintro e w' ⟨rfl, d2, h1, h2, h3⟩)
      go_end0
      exact ⟨rfl, d2, SWK.trans (SWK.alloc HSW.out _) h1 hblk (by rw [h2.1]; exact hsk), q2d HI.out.2.1 h2, by rw [h3, v8i _ (by omega)]; exact HI.out.2.2⟩
    · by_cases hgt : j < i
      · have hc := SR.out wr dk hsk HI.out.1 (m - i) m j (by omega) (by omega)
        rw [show (((m - i : Nat) : Int)) = (m : Int) - i by omega] at hc
        go_wp2_with (go_at_fn (ρ.f 49); refine hc.mono ?_; rintro e w' ⟨rfl, d2, h1, h2, h3⟩)
        go_roundw
        case rel => exact ⟨i - j, j, d2, by congr 1; omega, rfl, by omega, by omega, by omega, by omega, by rw [h2.1]; exact hsk, ⟨h1, q2d HI.out.2.1 h2, by rw [h3, v97 _ (by omega) hj0 hgt]; exact HI.out.2.2⟩⟩
        case measure => simp [intOf]; omega
      · have hc := SR.out wr dk hsk HI.out.1 (m - i) (m + j - i) i (by omega) (by omega)
        rw [show (((m - i : Nat) : Int)) = (m : Int) - i by omega, show (((m + j - i : Nat) : Int)) = (m : Int) + j - i by omega] at hc
        go_wp2_with (go_at_fn (ρ.f 49); refine hc.mono ?_; rintro e w' ⟨rfl, d2, h1, h2, h3⟩)
        go_roundw
        case rel => exact ⟨i, j - i, d2, rfl, by congr 1; omega, by omega, by omega, by omega, by omega, by rw [h2.1]; exact hsk, ⟨h1, q2d HI.out.2.1 h2, by rw [h3, v8v _ (by omega) hi0 (by omega)]; exact HI.out.2.2⟩⟩
        case measure => simp [intOf]; omega
def v6e (P : Program) (f : Nat) (enc : α → List Value) (k : Nat) (lt : α → α → Bool) (g : Nat) (lb : Array Value) (sf : Nat) (sb : Array Value) (blk off size N : Nat) : Prop :=
  ∀ (W : World) (d : Array α) (a m b : Nat), b - a ≤ N → a < m → m < b → b ≤ size → d.size = size → HoldsK enc k W blk off d → q1g P g lb enc k lt blk off size W → blk < W.heap.size → Sorted lt (row d) a m → Sorted lt (row d) m b →
    Calls P f #[.agg #[.func (.func g) #[] lb, .func (.func sf) #[] sb], .int .i64 a, .int .i64 m, .int .i64 b] W fun e w' =>
      e = .returned (.tuple #[]) ∧ ∃ d' : Array α, SWK enc k W blk off d' w' ∧ PermIn 0 d.size d d' ∧ Within (row d) (row d') a b ∧ Sorted lt (row d') a b
set_option maxHeartbeats 4000000 in
set_option maxRecDepth 100000 in
theorem j0a (L : LaysGt.n30 P ρ) (hk : ∀ x, (enc x).length = k) {lt : α → α → Bool} (O : Ord lt) (g : Nat) (lb : Array Value) (sf : Nat) (sb : Array Value) (size : Nat) (hsz : size < 4611686018427387904) (hswap : SwapSwapsK P sf sb enc k blk off size)
    (eg : ∀ args w, (callFunc g args).run P w = .ok (.enter g args) w)
    (W : World) (d : Array α) (a m b : Nat) (hm : m = a + 1) (hmb : m < b) (hb : b ≤ size) (hsd : d.size = size) (hH : HoldsK enc k W blk off d) (hless : q1g P g lb enc k lt blk off size W) (hblk : blk < W.heap.size) (hA : Sorted lt (row d) m b) :
    Calls P (ρ.f 30) #[.agg #[.func (.func g) #[] lb, .func (.func sf) #[] sb], .int .i64 a, .int .i64 m, .int .i64 b] W fun e w' =>
      e = .returned (.tuple #[]) ∧ ∃ d' : Array α, SWK enc k W blk off d' w' ∧ PermIn 0 d.size d d' ∧ Within (row d) (row d') a b ∧ Sorted lt (row d') a b := by
  have mixed := L.mixed; have t0 := L.t0; have a0 := L.a0; have z0 := L.z0; have v0 := L.v0; have t3 := L.t3; have a3 := L.a3; have z3 := L.z3; have v3 := L.v3; have t4 := L.t4; have a4 := L.a4; have z4 := L.z4; have v4 := L.v4; have t26 := L.t26; have a26 := L.a26; have z26 := L.z26; have v26 := L.v26; have t38 := L.t38; have a38 := L.a38; have z38 := L.z38; have v38 := L.v38; have t42 := L.t42; have a42 := L.a42; have z42 := L.z42; have v42 := L.v42; have t47 := L.t47; have a47 := L.a47; have z47 := L.z47; have v47 := L.v47
  have u42 := run_underlying L.t42
  have HSW : Hid (SWK enc k W blk off d W) := SWK.start hH
  have HW1 : Hid (HoldsK enc k (W.alloc (.cells #[.func (.func g) #[] lb, .func (.func sf) #[] sb] (ρ.t 42))) blk off d) := SWK.holds (SWK.alloc HSW.out _) hblk hH rfl
  have HL1 : Hid (q1g P g lb enc k lt blk off size (W.alloc (.cells #[.func (.func g) #[] lb, .func (.func sf) #[] sb] (ρ.t 42)))) := SWK.lessReads (SWK.alloc HSW.out _) hless hblk hsd
  have HSWAP : Hid (SwapSwapsK P sf sb enc k blk off size) := hswap
  have HA : Hid (Sorted lt (row d) m b) := hA
  have HH : Hid (HoldsK enc k W blk off d) := hH
  clear hH hless hswap hA
  have HM : Hid (m = a + 1) := hm
  have hma : ((m : Int) - (a : Int) == 1) = true := by simp; omega
  have ham : a < m := by omega
  clear hm
  go_enter L.f30, BodyGt.n30_ntmps ρ
  go_wp2
  go_loopw [8, 9] (fun vi vj wr => ∃ (i j : Nat), vi = .int .i64 i ∧ vj = .int .i64 j ∧ m ≤ i ∧ i ≤ j ∧ j ≤ b ∧ Hid (Go.RowKit.Below (W.alloc (.cells #[.func (.func g) #[] lb, .func (.func sf) #[] sb] (ρ.t 42))).heap.size (W.alloc (.cells #[.func (.func g) #[] lb, .func (.func sf) #[] sb] (ρ.t 42))) wr) ∧
      Hid ((∀ c, m ≤ c → c < i → lt (row d c) (row d a) = true) ∧ (∀ c, j ≤ c → c < b → lt (row d c) (row d a) = false))) (fun vi vj _ => (intOf vj).toNat - (intOf vi).toNat)
  case atStart => exact ⟨m, b, rfl, rfl, by omega, by omega, by omega, Go.RowKit.Below.refl _ _, ⟨fun c h1 h2 => by omega, fun c h1 h2 => by omega⟩⟩
  case round =>
    obtain ⟨i, j, rfl, rfl, hi, hij, hjb, HW, HI⟩ := hrel
    have c0 : wr.cell? ⟨W.heap.size, 0, none⟩ = some (.func (.func g) #[] lb) := by rw [SWK.cell (SWK.on (SWK.start HW1.out) HW.out) ⟨W.heap.size, 0, none⟩ (by show W.heap.size ≠ blk; omega) (by simp)]; simp
    by_cases hlt : i < j
    · have hl := SWK.less (SWK.on (SWK.start HW1.out) HW.out) HL1.out hsd ((i + j) / 2) a (by omega) (by omega)
      rw [show ((((i + j) / 2 : Nat) : Int)) = ((i : Int) + j) / 2 by omega] at hl
      have hlk := v2s O (x := row d a) HA.out (h := (i + j) / 2) (by omega) (by omega)
      have HLK : Hid _ := hlk
      clear hlk
      cases hlv : lt d[(i + j) / 2]! d[a]! with
      | true =>
        rw [hlv] at hl
        go_wp2_with (go_at_fn g; refine hl.mono ?_; rintro e w' ⟨rfl, hbl⟩)
        go_roundw
        case rel => exact ⟨(i + j) / 2 + 1, j, by go_num, rfl, by omega, by omega, by omega, q4x HW.out hbl, ⟨HLK.out.1 hlv, HI.out.2⟩⟩
        case measure => simp [intOf]; omega
      | false =>
        rw [hlv] at hl
        go_wp2_with (go_at_fn g; refine hl.mono ?_; rintro e w' ⟨rfl, hbl⟩)
        go_roundw
        case rel => exact ⟨i, (i + j) / 2, rfl, by go_num, by omega, by omega, by omega, q4x HW.out hbl, ⟨HI.out.1, HLK.out.2 hlv⟩⟩
        case measure => simp [intOf]; omega
    · have hij2 : i = j := by omega
      subst hij2
      go_wp2
      go_loopw [11] (fun vk wr2 => ∃ (c : Nat) (dk : Array α), vk = .int .i64 c ∧ a ≤ c ∧ c + 1 ≤ i ∧ dk.size = d.size ∧ Hid (SWK enc k (W.alloc (.cells #[.func (.func g) #[] lb, .func (.func sf) #[] sb] (ρ.t 42))) blk off dk wr2 ∧ PermIn 0 d.size d dk ∧ row dk = rot (row d) a m (c + 1))) (fun vk _ => i - (intOf vk).toNat)
      case atStart => exact ⟨a, d, rfl, by omega, by have := HM.out; omega, rfl, ⟨SWK.on (SWK.start HW1.out) HW.out, permIn_refl _ _ _, by rw [HM.out]; exact (v01 _ _ _).symm⟩⟩
      case round =>
        obtain ⟨c, dk, rfl, hac, hci, hsk, HK⟩ := hrel
        rename World => w2
        have c1 : w2.cell? ⟨W.heap.size, 1, none⟩ = some (.func (.func sf) #[] sb) := by
          rw [SWK.cell HK.out.1 ⟨W.heap.size, 1, none⟩ (by show W.heap.size ≠ blk; omega) (by simp)]; simp
        by_cases hlt2 : c + 1 < i
        · have hq := HSWAP.out w2 dk (SWK.holds HK.out.1 (by simp; omega) HW1.out hsk) (by omega) c (c + 1) (by omega) (by omega)
          rw [show (((c + 1 : Nat) : Int)) = (c : Int) + 1 by omega] at hq
          have hz := SWK.swap hk HK.out.1 (by simp; omega) c (c + 1) (by omega) (by omega)
          have HZ : Hid _ := hz
          clear hz
          go_wp2
          go_roundw
          case rel => exact ⟨c + 1, swp dk c (c + 1), by go_num, by omega, by omega, by rw [size_swp]; exact hsk, ⟨HZ.out, q6f HK.out.2.1 (by omega) (by omega), by rw [q7i (by omega) (by omega), HK.out.2.2, HM.out, v9d _ (by omega)]⟩⟩
          case measure => simp [intOf]; omega
        · go_wp2
          (try simp only [Exit.inBlock, Exit.then]); refine bodyPost_ret (results_none rfl _ _ _) rfl ?_
          have e : c + 1 = i := by omega
          refine ⟨rfl, dk, SWK.trans (SWK.alloc HSW.out _) HK.out.1 hblk hsk, HK.out.2.1, ?_, ?_⟩
          · rw [HK.out.2.2, e]; exact (Within.rot (row d) (by have := HM.out; omega) (by omega)).widen (by omega) (by omega)
          · have hm' := HM.out
            have hA := HA.out
            have hI := HI.out
            rw [HK.out.2.2, e]; subst hm'; exact v3q O (by omega) (by omega) hA hI.1 hI.2

set_option maxHeartbeats 4000000 in
set_option maxRecDepth 100000 in
theorem j05 (L : LaysGt.n30 P ρ) (hk : ∀ x, (enc x).length = k) {lt : α → α → Bool} (O : Ord lt) (g : Nat) (lb : Array Value) (sf : Nat) (sb : Array Value) (size : Nat) (hsz : size < 4611686018427387904) (hswap : SwapSwapsK P sf sb enc k blk off size)
    (eg : ∀ args w, (callFunc g args).run P w = .ok (.enter g args) w)
    (W : World) (d : Array α) (a m b : Nat) (ham : a + 1 < m) (hm : b = m + 1) (hb : b ≤ size) (hsd : d.size = size) (hH : HoldsK enc k W blk off d) (hless : q1g P g lb enc k lt blk off size W) (hblk : blk < W.heap.size) (hA : Sorted lt (row d) a m) :
    Calls P (ρ.f 30) #[.agg #[.func (.func g) #[] lb, .func (.func sf) #[] sb], .int .i64 a, .int .i64 m, .int .i64 b] W fun e w' =>
      e = .returned (.tuple #[]) ∧ ∃ d' : Array α, SWK enc k W blk off d' w' ∧ PermIn 0 d.size d d' ∧ Within (row d) (row d') a b ∧ Sorted lt (row d') a b := by
  have mixed := L.mixed; have t0 := L.t0; have a0 := L.a0; have z0 := L.z0; have v0 := L.v0; have t3 := L.t3; have a3 := L.a3; have z3 := L.z3; have v3 := L.v3; have t4 := L.t4; have a4 := L.a4; have z4 := L.z4; have v4 := L.v4; have t26 := L.t26; have a26 := L.a26; have z26 := L.z26; have v26 := L.v26; have t38 := L.t38; have a38 := L.a38; have z38 := L.z38; have v38 := L.v38; have t42 := L.t42; have a42 := L.a42; have z42 := L.z42; have v42 := L.v42; have t47 := L.t47; have a47 := L.a47; have z47 := L.z47; have v47 := L.v47
  have u42 := run_underlying L.t42
  have HSW : Hid (SWK enc k W blk off d W) := SWK.start hH
  have HW1 : Hid (HoldsK enc k (W.alloc (.cells #[.func (.func g) #[] lb, .func (.func sf) #[] sb] (ρ.t 42))) blk off d) := SWK.holds (SWK.alloc HSW.out _) hblk hH rfl
  have HL1 : Hid (q1g P g lb enc k lt blk off size (W.alloc (.cells #[.func (.func g) #[] lb, .func (.func sf) #[] sb] (ρ.t 42)))) := SWK.lessReads (SWK.alloc HSW.out _) hless hblk hsd
  have HSWAP : Hid (SwapSwapsK P sf sb enc k blk off size) := hswap
  have HA : Hid (Sorted lt (row d) a m) := hA
  clear hH hless hswap hA
  have HM : Hid (b = m + 1) := hm
  have hma : ((m : Int) - (a : Int) == 1) = false := by simp; omega
  have hmb : ((b : Int) - (m : Int) == 1) = true := by simp; omega
  have hmb' : m < b := by omega
  clear hm
  go_enter L.f30, BodyGt.n30_ntmps ρ
  go_wp2
  go_loopw [12, 13] (fun vi vj wr => ∃ (i j : Nat), vi = .int .i64 i ∧ vj = .int .i64 j ∧ a ≤ i ∧ i ≤ j ∧ j ≤ m ∧ Hid (Go.RowKit.Below (W.alloc (.cells #[.func (.func g) #[] lb, .func (.func sf) #[] sb] (ρ.t 42))).heap.size (W.alloc (.cells #[.func (.func g) #[] lb, .func (.func sf) #[] sb] (ρ.t 42))) wr) ∧
      Hid ((∀ c, a ≤ c → c < i → lt (row d m) (row d c) = false) ∧ (∀ c, j ≤ c → c < m → lt (row d m) (row d c) = true))) (fun vi vj _ => (intOf vj).toNat - (intOf vi).toNat)
  case atStart => exact ⟨a, m, rfl, rfl, by omega, by omega, by omega, Go.RowKit.Below.refl _ _, ⟨fun c h1 h2 => by omega, fun c h1 h2 => by omega⟩⟩
  case round =>
    obtain ⟨i, j, rfl, rfl, hi, hij, hjb, HW, HI⟩ := hrel
    have c0 : wr.cell? ⟨W.heap.size, 0, none⟩ = some (.func (.func g) #[] lb) := by rw [SWK.cell (SWK.on (SWK.start HW1.out) HW.out) ⟨W.heap.size, 0, none⟩ (by show W.heap.size ≠ blk; omega) (by simp)]; simp
    by_cases hlt : i < j
    · have hl := SWK.less (SWK.on (SWK.start HW1.out) HW.out) HL1.out hsd m ((i + j) / 2) (by omega) (by omega)
      rw [show ((((i + j) / 2 : Nat) : Int)) = ((i : Int) + j) / 2 by omega] at hl
      have hlk := v3l O (x := row d m) HA.out (h := (i + j) / 2) (by omega) (by omega)
      have HLK : Hid _ := hlk
      clear hlk
      cases hlv : lt d[m]! d[(i + j) / 2]! with
      | false =>
        rw [hlv] at hl
        go_wp2_with (go_at_fn g; refine hl.mono ?_; rintro e w' ⟨rfl, hbl⟩)
        go_roundw
        case rel => exact ⟨(i + j) / 2 + 1, j, by go_num, rfl, by omega, by omega, by omega, q4x HW.out hbl, ⟨HLK.out.1 hlv, HI.out.2⟩⟩
        case measure => simp [intOf]; omega
      | true =>
        rw [hlv] at hl
        go_wp2_with (go_at_fn g; refine hl.mono ?_; rintro e w' ⟨rfl, hbl⟩)
        go_roundw
        case rel => exact ⟨i, (i + j) / 2, rfl, by go_num, by omega, by omega, by omega, q4x HW.out hbl, ⟨HI.out.1, HLK.out.2 hlv⟩⟩
        case measure => simp [intOf]; omega
    · have hij2 : i = j := by omega
      subst hij2
      go_wp2
      go_loopw [15] (fun vk wr2 => ∃ (c : Nat) (dk : Array α), vk = .int .i64 c ∧ i ≤ c ∧ c ≤ m ∧ dk.size = d.size ∧ Hid (SWK enc k (W.alloc (.cells #[.func (.func g) #[] lb, .func (.func sf) #[] sb] (ρ.t 42))) blk off dk wr2 ∧ PermIn 0 d.size d dk ∧ row dk = rot (row d) c m (m + 1))) (fun vk _ => (intOf vk).toNat)
      case atStart => exact ⟨m, d, rfl, by omega, by omega, rfl, ⟨SWK.on (SWK.start HW1.out) HW.out, permIn_refl _ _ _, (q81 _ _ _).symm⟩⟩
      case round =>
        obtain ⟨c, dk, rfl, hic, hcm, hsk, HK⟩ := hrel
        rename World => w2
        have c1 : w2.cell? ⟨W.heap.size, 1, none⟩ = some (.func (.func sf) #[] sb) := by
          rw [SWK.cell HK.out.1 ⟨W.heap.size, 1, none⟩ (by show W.heap.size ≠ blk; omega) (by simp)]; simp
        by_cases hlt2 : i < c
        · obtain ⟨c, rfl⟩ : ∃ z, c = z + 1 := ⟨c - 1, by omega⟩
          have hq := HSWAP.out w2 dk (SWK.holds HK.out.1 (by simp; omega) HW1.out hsk) (by omega) (c + 1) c (by omega) (by omega)
          rw [show (((c + 1 : Nat) : Int)) = (c : Int) + 1 by omega] at hq
          have hz := SWK.swap hk HK.out.1 (by simp; omega) (c + 1) c (by omega) (by omega)
          have HZ : Hid _ := hz
          clear hz
          go_wp2
          go_roundw
          case rel => exact ⟨c, swp dk (c + 1) c, by go_num, by omega, by omega, by rw [size_swp]; exact hsk, ⟨HZ.out, q6f HK.out.2.1 (by omega) (by omega), by rw [q7i (by omega) (by omega), HK.out.2.2, v5p _ (by omega)]⟩⟩
          case measure => simp [intOf]
        · go_wp2
          (try simp only [Exit.inBlock, Exit.then]); refine bodyPost_ret (results_none rfl _ _ _) rfl ?_
          have e : c = i := by omega
          refine ⟨rfl, dk, SWK.trans (SWK.alloc HSW.out _) HK.out.1 hblk hsk, HK.out.2.1, ?_, ?_⟩
          · rw [HK.out.2.2, e]; exact (Within.rot (row d) (by omega) (by omega)).widen (by omega) (by omega)
          · rw [HK.out.2.2, e, HM.out]; exact v5x O (by omega) (by omega) HA.out HI.out.1 HI.out.2

set_option maxHeartbeats 8000000 in
set_option maxRecDepth 100000 in
theorem j0d (L : LaysGt.n30 P ρ) (hk : ∀ x, (enc x).length = k) {lt : α → α → Bool} (O : Ord lt) (g : Nat) (lb : Array Value) (sf : Nat) (sb : Array Value) (size : Nat) (hsz : size < 4611686018427387904) (hswap : SwapSwapsK P sf sb enc k blk off size)
    (eg : ∀ args w, (callFunc g args).run P w = .ok (.enter g args) w) (N : Nat) (ih : v6e P (ρ.f 30) enc k lt g lb sf sb blk off size N)
    (W : World) (d : Array α) (a m b : Nat) (hN : b - a ≤ N + 1) (ham : a + 1 < m) (hmb : m + 1 < b) (hb : b ≤ size) (hsd : d.size = size) (hH : HoldsK enc k W blk off d) (hless : q1g P g lb enc k lt blk off size W) (hblk : blk < W.heap.size) (hA : Sorted lt (row d) a m) (hB : Sorted lt (row d) m b) :
    Calls P (ρ.f 30) #[.agg #[.func (.func g) #[] lb, .func (.func sf) #[] sb], .int .i64 a, .int .i64 m, .int .i64 b] W fun e w' =>
      e = .returned (.tuple #[]) ∧ ∃ d' : Array α, SWK enc k W blk off d' w' ∧ PermIn 0 d.size d d' ∧ Within (row d) (row d') a b ∧ Sorted lt (row d') a b := by
  have mixed := L.mixed; have t0 := L.t0; have a0 := L.a0; have z0 := L.z0; have v0 := L.v0; have t3 := L.t3; have a3 := L.a3; have z3 := L.z3; have v3 := L.v3; have t4 := L.t4; have a4 := L.a4; have z4 := L.z4; have v4 := L.v4; have t26 := L.t26; have a26 := L.a26; have z26 := L.z26; have v26 := L.v26; have t38 := L.t38; have a38 := L.a38; have z38 := L.z38; have v38 := L.v38; have t42 := L.t42; have a42 := L.a42; have z42 := L.z42; have v42 := L.v42; have t47 := L.t47; have a47 := L.a47; have z47 := L.z47; have v47 := L.v47
  have u42 := run_underlying L.t42
  have HSW : Hid (SWK enc k W blk off d W) := SWK.start hH
  have HB1 : Hid (blk < (W.alloc (.cells #[.func (.func g) #[] lb, .func (.func sf) #[] sb] (ρ.t 42))).heap.size) := by show _ < _; simp; omega
  have HW1 : Hid (HoldsK enc k (W.alloc (.cells #[.func (.func g) #[] lb, .func (.func sf) #[] sb] (ρ.t 42))) blk off d) := SWK.holds (SWK.alloc HSW.out _) hblk hH rfl
  have HL1 : Hid (q1g P g lb enc k lt blk off size (W.alloc (.cells #[.func (.func g) #[] lb, .func (.func sf) #[] sb] (ρ.t 42)))) := SWK.lessReads (SWK.alloc HSW.out _) hless hblk hsd
  have HSWAP : Hid (SwapSwapsK P sf sb enc k blk off d.size) := by rw [hsd]; exact hswap
  have HA : Hid (Sorted lt (row d) a m) := hA
  have HB : Hid (Sorted lt (row d) m b) := hB
  have IH : Hid (v6e P (ρ.f 30) enc k lt g lb sf sb blk off size N) := ih
  clear hH hless hswap hA hB ih
  have hma : ((m : Int) - (a : Int) == 1) = false := by simp; omega
  have hmb1 : ((b : Int) - (m : Int) == 1) = false := by simp; omega
  obtain ⟨mid, hmid⟩ : ∃ z, z = (a + b) / 2 := ⟨_, rfl⟩
  have hmI : ((a : Int) + (b : Int)) / 2 = (mid : Int) := by omega
  have hma1 : a < mid := by omega
  have hmb2 : mid < b := by omega
  have HMID : Hid (mid = (a + b) / 2) := hmid
  clear hmid
  have e42 : ∀ args w, (callFunc (ρ.f 42) args).run P w = .ok (.enter (ρ.f 42) args) w := enters_of L.f42 (by kernel_rfl) rfl
  have e30 : ∀ args w, (callFunc (ρ.f 30) args).run P w = .ok (.enter (ρ.f 30) args) w := enters_of L.f30 (by kernel_rfl) rfl
  go_enter L.f30, BodyGt.n30_ntmps ρ
  go_upto_if 106 with fail
  go_cut [18, 19] from 104 (fun s18 s19 wc => ∃ s r : Nat, s18 = .int .i64 s ∧ s19 = .int .i64 r ∧ Hid (s = max a (mid + m - b) ∧ r = min m mid) ∧ wc = (W.alloc (.cells #[.func (.func g) #[] lb, .func (.func sf) #[] sb] (ρ.t 42))))
  case first =>
    by_cases c : mid < m
    · go_wp2_with fail
      go_meet
      case rel => exact ⟨mid + m - b, mid, by congr 1; omega, rfl, ⟨by omega, by omega⟩, rfl⟩
    · go_wp2_with fail
      go_meet
      case rel => exact ⟨a, m, rfl, rfl, ⟨by have := HMID.out; omega, by omega⟩, rfl⟩
  case rest =>
    obtain ⟨s, r, rfl, rfl, HSR, rfl⟩ := hcut
    have hsr : s ≤ r := by have := HSR.out; have := HMID.out; omega
    have has : a ≤ s := by have := HSR.out; omega
    have hrm : r ≤ m := by have := HSR.out; omega
    have hrd : r ≤ mid := by have := HSR.out; omega
    have hsb : mid + m - b ≤ s := by have := HSR.out; omega
    go_wp2
    go_loopw [18, 19] (fun vi vj wr => ∃ (i j : Nat), vi = .int .i64 i ∧ vj = .int .i64 j ∧ s ≤ i ∧ i ≤ j ∧ j ≤ r ∧ Hid (Go.RowKit.Below (W.alloc (.cells #[.func (.func g) #[] lb, .func (.func sf) #[] sb] (ρ.t 42))).heap.size (W.alloc (.cells #[.func (.func g) #[] lb, .func (.func sf) #[] sb] (ρ.t 42))) wr) ∧
        Hid ((∀ c, s ≤ c → c < i → lt (row d (mid + m - 1 - c)) (row d c) = false) ∧ (∀ c, j ≤ c → c < r → lt (row d (mid + m - 1 - c)) (row d c) = true))) (fun vi vj _ => (intOf vj).toNat - (intOf vi).toNat)
    case atStart => exact ⟨s, r, rfl, rfl, by omega, by omega, by omega, Go.RowKit.Below.refl _ _, ⟨fun c h1 h2 => by omega, fun c h1 h2 => by omega⟩⟩
    case round =>
      obtain ⟨i, j, rfl, rfl, hi, hij, hjr, HW, HI⟩ := hrel
      have c0 : wr.cell? ⟨W.heap.size, 0, none⟩ = some (.func (.func g) #[] lb) := by rw [SWK.cell (SWK.on (SWK.start HW1.out) HW.out) ⟨W.heap.size, 0, none⟩ (by show W.heap.size ≠ blk; omega) (by simp)]; simp
      have c1 : wr.cell? ⟨W.heap.size, 1, none⟩ = some (.func (.func sf) #[] sb) := by rw [SWK.cell (SWK.on (SWK.start HW1.out) HW.out) ⟨W.heap.size, 1, none⟩ (by show W.heap.size ≠ blk; omega) (by simp)]; simp
      by_cases hlt : i < j
      · have hl := SWK.less (SWK.on (SWK.start HW1.out) HW.out) HL1.out hsd (mid + m - 1 - (i + j) / 2) ((i + j) / 2) (by omega) (by omega)
        rw [show (((mid + m - 1 - (i + j) / 2 : Nat) : Int)) = (mid : Int) + m - 1 - ((i : Int) + j) / 2 by omega, show ((((i + j) / 2 : Nat) : Int)) = ((i : Int) + j) / 2 by omega] at hl
        have hlk := v4o O HA.out HB.out (p := mid + m - 1) (c := (i + j) / 2) (by omega) (by omega) (by omega) (by omega) (by omega)
        have HLK : Hid _ := hlk
        clear hlk
        cases hlv : lt d[mid + m - 1 - (i + j) / 2]! d[(i + j) / 2]! with
        | false =>
          rw [hlv] at hl
          go_wp2_with (go_at_fn g; refine hl.mono ?_; rintro e w' ⟨rfl, hbl⟩)
          go_roundw
          case rel => exact ⟨(i + j) / 2 + 1, j, by go_num, rfl, by omega, by omega, by omega, q4x HW.out hbl, ⟨fun c h1 h2 => HLK.out.1 hlv c (by omega) h2 (by omega), HI.out.2⟩⟩
          case measure => simp [intOf]; omega
        | true =>
          rw [hlv] at hl
          go_wp2_with (go_at_fn g; refine hl.mono ?_; rintro e w' ⟨rfl, hbl⟩)
          go_roundw
          case rel => exact ⟨i, (i + j) / 2, rfl, by go_num, by omega, by omega, by omega, q4x HW.out hbl, ⟨HI.out.1, fun c h1 h2 => HLK.out.2 hlv c h1 (by omega) (by omega)⟩⟩
          case measure => simp [intOf]; omega
      · have hij2 : i = j := by omega
        subst hij2
        obtain ⟨e, he⟩ : ∃ z, z = mid + m - i := ⟨_, rfl⟩
        have heI : (mid : Int) + (m : Int) - (i : Int) = (e : Int) := by omega
        have hme : m ≤ e := by omega
        have heb : e ≤ b := by omega
        have hed : mid ≤ e := by omega
        have HE : Hid (e = mid + m - i) := he
        clear he
        have hP := v0o O (G := row d) (a := a) (m := m) (b := b) (mid := mid) (start := i) (e := e) (by omega) (by omega) HMID.out (by omega) (by omega) (by omega) (by omega) HE.out HA.out HB.out
          (fun c h1 h2 h3 => HI.out.1 c (by have := HSR.out; omega) h2) (fun h1 h2 => HI.out.2 i (Nat.le_refl _) (by have := HSR.out; omega))
        have HP : Hid _ := hP
        clear hP
        have hS1 : SWK enc k (W.alloc (.cells #[.func (.func g) #[] lb, .func (.func sf) #[] sb] (ρ.t 42))) blk off d wr := SWK.on (SWK.start HW1.out) HW.out
        have HS1 : Hid _ := hS1
        clear hS1
        go_upto_region 40 with fail
        go_cut [145] from 138 (fun sx wc => sx = .bool (decide (i < m) && decide (m < e)) ∧ wr = wc)
        case first =>
          by_cases z1 : i < m
          · by_cases z2 : m < e
            · go_wp2_with fail
              go_meet
              case rel => exact ⟨by simp [z1, z2], rfl⟩
            · go_wp2_with fail
              go_meet
              case rel => exact ⟨by simp [z1, z2], rfl⟩
          · go_wp2_with fail
            go_meet
            case rel => exact ⟨by simp [z1], rfl⟩
        case rest =>
        obtain ⟨rfl, rfl⟩ := hcut
        go_upto_if 145 with fail
        go_cut [] from 138 (fun wc => ∃ d1 : Array α, d1.size = size ∧ Hid (SWK enc k (W.alloc (.cells #[.func (.func g) #[] lb, .func (.func sf) #[] sb] (ρ.t 42))) blk off d1 wc ∧ PermIn 0 d.size d d1 ∧ row d1 = rot (row d) i m e))
        case first =>
          by_cases q1 : i < m
          · by_cases q2 : m < e
            · have hc := rotate { L with } hk (.func g) #[] lb sf sb HSWAP.out HW1.out HB1.out d rfl (by omega) HS1.out i m e q1 q2 (by omega)
              go_wp2_with (go_at_fn (ρ.f 42); refine hc.mono ?_; rintro e w' ⟨rfl, d1, h1, h2, h3⟩)
              go_meet
              case rel => exact ⟨d1, h2.1.trans hsd, h1, h2, h3⟩
            · go_wp2_with fail
              go_meet
              case rel => exact ⟨d, hsd, HS1.out, permIn_refl _ _ _, by rw [show e = m by omega, v01]⟩
          · go_wp2_with fail
            go_meet
            case rel => exact ⟨d, hsd, HS1.out, permIn_refl _ _ _, by rw [show i = m by omega, q81]⟩
        case rest =>
          obtain ⟨d1, hs1, H1⟩ := hcut
          have c0' : wc.cell? ⟨W.heap.size, 0, none⟩ = some (.func (.func g) #[] lb) := by
            rw [SWK.cell H1.out.1 ⟨W.heap.size, 0, none⟩ (by show W.heap.size ≠ blk; omega) (by simp)]; simp
          have c1' : wc.cell? ⟨W.heap.size, 1, none⟩ = some (.func (.func sf) #[] sb) := by
            rw [SWK.cell H1.out.1 ⟨W.heap.size, 1, none⟩ (by show W.heap.size ≠ blk; omega) (by simp)]; simp
          rename World => wc1
          go_upto_region 42 with fail
          go_cut [158] from 151 (fun sx wc => sx = .bool (decide (a < i) && decide (i < mid)) ∧ wc1 = wc)
          case first =>
            by_cases z1 : a < i
            · by_cases z2 : i < mid
              · go_wp2_with fail
                go_meet
                case rel => exact ⟨by simp [z1, z2], rfl⟩
              · go_wp2_with fail
                go_meet
                case rel => exact ⟨by simp [z1, z2], rfl⟩
            · go_wp2_with fail
              go_meet
              case rel => exact ⟨by simp [z1], rfl⟩
          case rest =>
          obtain ⟨rfl, rfl⟩ := hcut
          go_upto_if 158 with fail
          go_cut [] from 151 (fun wc => ∃ d2 : Array α, d2.size = size ∧ Hid (SWK enc k (W.alloc (.cells #[.func (.func g) #[] lb, .func (.func sf) #[] sb] (ρ.t 42))) blk off d2 wc ∧ PermIn 0 d.size d d2 ∧ Within (row d1) (row d2) a mid ∧ Sorted lt (row d2) a mid))
          case first =>
            by_cases q1 : a < i
            · by_cases q2 : i < mid
              · have hc := IH.out wc1 d1 a i mid (by omega) q1 q2 (by omega) hs1 (SWK.holds H1.out.1 HB1.out HW1.out (by omega)) (SWK.lessReads H1.out.1 HL1.out HB1.out hs1) (SWK.lt H1.out.1 HB1.out) (by rw [H1.out.2.2]; exact HP.out.1) (by rw [H1.out.2.2]; exact HP.out.2.1)
                go_wp2_with (go_at_fn (ρ.f 30); refine hc.mono ?_; rintro e w' ⟨rfl, d2, h1, h2, h3, h4⟩)
                go_meet
                case rel => exact ⟨d2, h2.1.trans hs1, SWK.trans H1.out.1 h1 HB1.out h2.1, q2d H1.out.2.1 h2, h3, h4⟩
              · go_wp2_with fail
                go_meet
                case rel => exact ⟨d1, hs1, H1.out.1, H1.out.2.1, Within.refl _ _ _, by have h := HP.out.1; rw [show i = mid by omega] at h; rw [H1.out.2.2, show i = mid by omega]; exact h⟩
            · go_wp2_with fail
              go_meet
              case rel => exact ⟨d1, hs1, H1.out.1, H1.out.2.1, Within.refl _ _ _, by have h := HP.out.2.1; rw [H1.out.2.2]; rw [show i = a by omega] at h ⊢; exact h⟩
          case rest =>
            obtain ⟨d2, hs2, H2⟩ := hcut
            clear c0' c1'
            have c0' : wc.cell? ⟨W.heap.size, 0, none⟩ = some (.func (.func g) #[] lb) := by
              rw [SWK.cell H2.out.1 ⟨W.heap.size, 0, none⟩ (by show W.heap.size ≠ blk; omega) (by simp)]; simp
            have c1' : wc.cell? ⟨W.heap.size, 1, none⟩ = some (.func (.func sf) #[] sb) := by
              rw [SWK.cell H2.out.1 ⟨W.heap.size, 1, none⟩ (by show W.heap.size ≠ blk; omega) (by simp)]; simp
            rename World => wc2
            have hX : Sorted lt (row d2) mid e ∧ Sorted lt (row d2) e b ∧ (∀ x y, a ≤ x → x < mid → mid ≤ y → y < b → lt (row d2 y) (row d2 x) = false) ∧ Within (row d) (row d2) a b := by
              have p := HP.out
              rw [← H1.out.2.2] at p
              refine ⟨q1t p.2.2.1 (fun t h1 h2 => H2.out.2.2.1.out t (by omega)), q1t p.2.2.2.1 (fun t h1 h2 => H2.out.2.2.1.out t (by omega)), v0a H2.out.2.2.1 p.2.2.2.2, ?_⟩
              refine Within.trans ?_ (H2.out.2.2.1.widen (Nat.le_refl _) (by omega))
              rw [H1.out.2.2]
              exact (Within.rot (row d) (by omega) (by omega)).widen (by omega) (by omega)
            have HX : Hid _ := hX
            clear hX
            by_cases q1 : mid < e
            · by_cases q2 : e < b
              · have hc := IH.out wc2 d2 mid e b (by omega) q1 q2 hb hs2 (SWK.holds H2.out.1 HB1.out HW1.out (by omega)) (SWK.lessReads H2.out.1 HL1.out HB1.out hs2) (SWK.lt H2.out.1 HB1.out) HX.out.1 HX.out.2.1
                go_wp2_with (go_at_fn (ρ.f 30); refine hc.mono ?_; rintro e w' ⟨rfl, d3, h1, h2, h3, h4⟩)
                go_end0
                refine ⟨rfl, d3, SWK.trans (SWK.alloc HSW.out _) (SWK.trans H2.out.1 h1 HB1.out h2.1) hblk (by have := h2.1; omega), q2d H2.out.2.1 h2, HX.out.2.2.2.trans (h3.widen (by omega) (Nat.le_refl _)), ?_⟩
                exact q4k (q1t H2.out.2.2.2 (fun t z1 z2 => h3.out t (by omega))) h4 (q8v h3 HX.out.2.2.1)
              · go_wp2_with fail
                go_end0
                have eb : e = b := by omega
                exact ⟨rfl, d2, SWK.trans (SWK.alloc HSW.out _) H2.out.1 hblk (by omega), H2.out.2.1, HX.out.2.2.2, q4k H2.out.2.2.2 (by rw [← eb]; exact HX.out.1) HX.out.2.2.1⟩
            · go_wp2_with fail
              go_end0
              have em : e = mid := by omega
              exact ⟨rfl, d2, SWK.trans (SWK.alloc HSW.out _) H2.out.1 hblk (by omega), H2.out.2.1, HX.out.2.2.2, q4k H2.out.2.2.2 (by rw [← em]; exact HX.out.2.1) HX.out.2.2.1⟩
end Go.Proofs.St
