import Derived.Test.YtkfledgkhgcicaaGreatSt3
namespace Go.Proofs.St
open Go.Shelf Go.RowKit Go.Lib Go.Sort Sm
variable {P : Program} {ρ : Ren} {α : Type} [Inhabited α] {enc : α → List Value} {k : Nat} {w0 W W' : World} {blk off : Nat} {d0 dk d' : Array α}

/-- runs of one length, from a place on and up to a place -/
def q2n {α : Type} (lt : α → α → Bool) (G : Row α) (bs n a : Nat) : Prop := ∀ s, a ≤ s * bs → Sorted lt G (s * bs) (min (s * bs + bs) n)
def q5k {α : Type} (lt : α → α → Bool) (G : Row α) (bs a : Nat) : Prop := ∀ s, s * bs + bs ≤ a → Sorted lt G (s * bs) (s * bs + bs)
theorem q84 (s t bs : Nat) : s * bs + bs ≤ t * bs ∨ s = t ∨ t * bs + bs ≤ s * bs := by
  rcases Nat.lt_trichotomy s t with h | h | h
  · exact .inl (by have := Nat.mul_le_mul_right bs (show s + 1 ≤ t from h); rwa [Nat.add_mul, Nat.one_mul] at this)
  · exact .inr (.inl h)
  · exact .inr (.inr (by have := Nat.mul_le_mul_right bs (show t + 1 ≤ s from h); rwa [Nat.add_mul, Nat.one_mul] at this))
section
variable {α : Type} {lt : α → α → Bool} {G H : Row α}
theorem q66 {bs t : Nat} (h : q5k lt G bs (t * bs)) (hw : ∀ x, x < t * bs → H x = G x) (hs : Sorted lt H (t * bs) (t * bs + bs)) : q5k lt H bs (t * bs + bs) := fun s hs' => by
  rcases q84 s t bs with c | rfl | c
  · exact q1t (h s c) (fun x _ hx => hw x (by omega))
  · exact hs
  · intro i j h1 h2 h3; omega
theorem q6g {bs t n : Nat} (h : q5k lt G bs (t * bs)) (htn : t * bs ≤ n) (hn : n ≤ t * bs + bs) (hw : ∀ x, x < t * bs → H x = G x) (hs : Sorted lt H (t * bs) n) : q2n lt H bs n 0 := fun s _ => by
  rcases q84 s t bs with c | rfl | c
  · rw [show min (s * bs + bs) n = s * bs + bs by omega]; exact q1t (h s c) (fun x _ hx => hw x (by omega))
  · rw [show min (s * bs + bs) n = n by omega]; exact hs
  · intro i j h1 h2 h3; omega
theorem v3k {bs n a b : Nat} (h : q2n lt G bs n a) (hab : a ≤ b) (hw : ∀ x, b ≤ x → H x = G x) : q2n lt H bs n b := fun s hs => q1t (h s (by omega)) (fun x h1 _ => hw x (by omega))
theorem v3g {bs n t : Nat} (h : q2n lt G bs n (t * (2 * bs))) : Sorted lt G (t * (2 * bs)) (min (t * (2 * bs) + bs) n) ∧ Sorted lt G (t * (2 * bs) + bs) (min (t * (2 * bs) + 2 * bs) n) := by
  have e1 : (2 * t) * bs = t * (2 * bs) := by rw [Nat.mul_comm 2 t, Nat.mul_assoc]
  have e2 : (2 * t + 1) * bs = t * (2 * bs) + bs := by rw [Nat.add_mul, Nat.one_mul, e1]
  have h1 := h (2 * t) (by omega)
  have h2 := h (2 * t + 1) (by omega)
  rw [e1] at h1
  rw [e2, show t * (2 * bs) + bs + bs = t * (2 * bs) + 2 * bs by omega] at h2
  exact ⟨h1, h2⟩
end
theorem v8z {α : Type} {lt : α → α → Bool} (S : SWO lt) : Ord lt := ⟨fun x y z h1 h2 => S.ntrans z y x h2 h1, fun _ _ h => S.asymmA h⟩

theorem sym (L : LaysGt.n30 P ρ) (hk : ∀ x, (enc x).length = k) {lt : α → α → Bool} (O : Ord lt) (g : Nat) (lb : Array Value) (sf : Nat) (sb : Array Value) (size : Nat) (hsz : size < 4611686018427387904) (hswap : SwapSwapsK P sf sb enc k blk off size)
    (eg : ∀ args w, (callFunc g args).run P w = .ok (.enter g args) w) : ∀ N, v6e P (ρ.f 30) enc k lt g lb sf sb blk off size N
  | 0 => fun W d a m b hN ham hmb => by omega
  | N + 1 => fun W d a m b hN ham hmb hb hsd hH hl hblk hA hB => by
    by_cases c : m = a + 1
    · exact j0a L hk O g lb sf sb size hsz hswap eg W d a m b c hmb hb hsd hH hl hblk hB
    · by_cases c' : b = m + 1
      · exact j05 L hk O g lb sf sb size hsz hswap eg W d a m b (by omega) c' hb hsd hH hl hblk hA
      · exact j0d L hk O g lb sf sb size hsz hswap eg N (sym L hk O g lb sf sb size hsz hswap eg N) W d a m b (by omega) (by omega) (by omega) hb hsd hH hl hblk hA hB
set_option maxHeartbeats 4000000 in
set_option maxRecDepth 100000 in
theorem ins (L : LaysGt.n29 P ρ) (hk : ∀ x, (enc x).length = k) {lt : α → α → Bool} (S : SWO lt) (g : Nat) (lb : Array Value) (sf : Nat) (sb : Array Value) (size : Nat) (hsz : size < 4611686018427387904) (hswap : SwapSwapsK P sf sb enc k blk off size)
    (eg : ∀ args w, (callFunc g args).run P w = .ok (.enter g args) w) (W : World) (d : Array α) (a b : Nat) (hab : a ≤ b) (hb : b ≤ size) (hsd : d.size = size) (hH : HoldsK enc k W blk off d) (hless : q1g P g lb enc k lt blk off size W) (hblk : blk < W.heap.size) :
    Calls P (ρ.f 29) #[.agg #[.func (.func g) #[] lb, .func (.func sf) #[] sb], .int .i64 a, .int .i64 b] W fun e w' =>
      e = .returned (.tuple #[]) ∧ ∃ d' : Array α, SWK enc k W blk off d' w' ∧ PermIn 0 d.size d d' ∧ (∀ x, x < a ∨ b ≤ x → row d' x = row d x) ∧ Sorted lt (row d') a b := by
  have mixed := L.mixed; have t0 := L.t0; have a0 := L.a0; have z0 := L.z0; have v0 := L.v0; have t3 := L.t3; have a3 := L.a3; have z3 := L.z3; have v3 := L.v3; have t4 := L.t4; have a4 := L.a4; have z4 := L.z4; have v4 := L.v4; have t26 := L.t26; have a26 := L.a26; have z26 := L.z26; have v26 := L.v26; have t38 := L.t38; have a38 := L.a38; have z38 := L.z38; have v38 := L.v38; have t42 := L.t42; have a42 := L.a42; have z42 := L.z42; have v42 := L.v42
  have u42 := run_underlying L.t42
  have HSW : Hid (SWK enc k W blk off d W) := SWK.start hH
  have HB1 : Hid (blk < (W.alloc (.cells #[.func (.func g) #[] lb, .func (.func sf) #[] sb] (ρ.t 42))).heap.size) := by show _ < _; simp; omega
  have HW1 : Hid (HoldsK enc k (W.alloc (.cells #[.func (.func g) #[] lb, .func (.func sf) #[] sb] (ρ.t 42))) blk off d) := SWK.holds (SWK.alloc HSW.out _) hblk hH rfl
  have HL1 : Hid (q1g P g lb enc k lt blk off size (W.alloc (.cells #[.func (.func g) #[] lb, .func (.func sf) #[] sb] (ρ.t 42)))) := SWK.lessReads (SWK.alloc HSW.out _) hless hblk hsd
  have HSWAP : Hid (SwapSwapsK P sf sb enc k blk off size) := hswap
  clear hH hless hswap
  go_enter L.f29, BodyGt.n29_ntmps ρ
  go_wp2
  go_loopw [6] (fun vi wr => ∃ (i : Nat) (dk : Array α), vi = .int .i64 i ∧ a < i ∧ i ≤ b + 1 ∧ dk.size = d.size ∧ Hid (SWK enc k (W.alloc (.cells #[.func (.func g) #[] lb, .func (.func sf) #[] sb] (ρ.t 42))) blk off dk wr ∧ insOuter lt a b i dk = insOuter lt a b (a + 1) d)) (fun vi _ => b + 1 - (intOf vi).toNat)
  case atStart => exact ⟨a + 1, d, by go_num, by omega, by omega, rfl, SWK.start HW1.out, rfl⟩
  case round =>
    obtain ⟨i, dk, rfl, hai, hib, hsk, HO⟩ := hrel
    by_cases hlt : i < b
    · go_wp2
      go_loopw [7] (fun vj wr2 => ∃ (j : Nat) (dj : Array α), vj = .int .i64 j ∧ a ≤ j ∧ j ≤ i ∧ dj.size = d.size ∧ Hid (SWK enc k (W.alloc (.cells #[.func (.func g) #[] lb, .func (.func sf) #[] sb] (ρ.t 42))) blk off dj wr2 ∧ insInner lt a j dj = insInner lt a i dk)) (fun vj _ => (intOf vj).toNat)
      case atStart => exact ⟨i, dk, rfl, by omega, Nat.le_refl _, hsk, HO.out.1, rfl⟩
      case round =>
        obtain ⟨j, dj, rfl, haj, hji, hsj, HI⟩ := hrel
        rename World => w2
        have c0 : w2.cell? ⟨W.heap.size, 0, none⟩ = some (.func (.func g) #[] lb) := by
          rw [SWK.cell HI.out.1 ⟨W.heap.size, 0, none⟩ (by show W.heap.size ≠ blk; omega) (by simp)]; simp
        have HOUT : Hid ((j ≤ a ∨ lt dj[j]! dj[j - 1]! = false) → insOuter lt a b (i + 1) dj = insOuter lt a b (a + 1) d) := fun hs => by
          rw [← HO.out.2, insOuter_go _ _ _ _ _ hlt, ← HI.out.2, insInner_stop _ _ _ _ hs]
        by_cases hja : a < j
        · have hl := SWK.less HI.out.1 HL1.out (by omega) j (j - 1) (by omega) (by omega)
          rw [show (((j - 1 : Nat) : Int)) = (j : Int) - 1 by omega] at hl
          cases hlv : lt dj[j]! dj[j - 1]! with
          | true =>
            rw [hlv] at hl
            go_wp2_with (go_at_fn g; refine hl.mono ?_; rintro e w' ⟨rfl, hbl⟩; have hS2 := SWK.on HI.out.1 hbl; have c1 : w'.cell? ⟨W.heap.size, 1, none⟩ = some (.func (.func sf) #[] sb) := (by rw [SWK.cell hS2 ⟨W.heap.size, 1, none⟩ (by show W.heap.size ≠ blk; omega) (by simp)]; simp); have hq := HSWAP.out w' dj (SWK.holds hS2 HB1.out HW1.out hsj) (by omega) j (j - 1) (by omega) (by omega); rw [show (((j - 1 : Nat) : Int)) = (j : Int) - 1 by omega] at hq; have HZ : Hid _ := SWK.swap hk hS2 HB1.out j (j - 1) (by omega) (by omega); clear hS2 hbl)
            go_roundw
            case rel =>
              refine ⟨j - 1, swp dj j (j - 1), by congr 1 <;> omega, by omega, by omega, by rw [size_swp]; exact hsj, HZ.out, ?_⟩
              rw [← HI.out.2, insInner_go lt a j dj hja hlv]
            case measure => simp [intOf]; omega
          | false =>
            rw [hlv] at hl
            go_wp2_with (go_at_fn g; refine hl.mono ?_; rintro e w' ⟨rfl, hbl⟩)
            go_roundw
            case rel => exact ⟨i + 1, dj, by go_num, by omega, by omega, hsj, SWK.on HI.out.1 hbl, HOUT.out (Or.inr hlv)⟩
            case measure => simp [intOf]; omega
        · go_wp2
          go_roundw
          case rel => exact ⟨i + 1, dj, by go_num, by omega, by omega, hsj, HI.out.1, HOUT.out (Or.inl (by omega))⟩
          case measure => simp [intOf]; omega
    · go_wp2
      go_end0
      have hi := insertionSort_holds S d a b hab (by omega)
      have e : Sort.insertionSort lt d a b = dk := by unfold Sort.insertionSort; rw [← HO.out.2, insOuter_stop _ _ _ _ _ hlt]
      rw [e] at hi
      exact ⟨rfl, dk, SWK.trans (SWK.alloc HSW.out _) HO.out.1 hblk (by omega), permIn_mono d dk a b 0 d.size (Nat.zero_le _) (by omega) (Nat.le_refl _) hi.1, fun x hx => hi.1.2.1 x hx, hi.2⟩

set_option maxHeartbeats 8000000 in
set_option maxRecDepth 100000 in
theorem stable (L : LaysGt.n15 P ρ) (hk : ∀ x, (enc x).length = k) {lt : α → α → Bool} (S : SWO lt) (g : Nat) (lb : Array Value) (sf : Nat) (sb : Array Value) (size : Nat) (hsz : size < 4611686018427387904) (hswap : SwapSwapsK P sf sb enc k blk off size)
    (eg : ∀ args w, (callFunc g args).run P w = .ok (.enter g args) w) (W : World) (d : Array α) (hsd : d.size = size) (hH : HoldsK enc k W blk off d) (hless : q1g P g lb enc k lt blk off size W) (hblk : blk < W.heap.size) :
    Calls P (ρ.f 15) #[.agg #[.func (.func g) #[] lb, .func (.func sf) #[] sb], .int .i64 size] W fun e w' =>
      e = .returned (.tuple #[]) ∧ ∃ d' : Array α, SWK enc k W blk off d' w' ∧ PermIn 0 d.size d d' ∧ Sorted lt (row d') 0 size := by
  have mixed := L.mixed; have t0 := L.t0; have a0 := L.a0; have z0 := L.z0; have v0 := L.v0; have t3 := L.t3; have a3 := L.a3; have z3 := L.z3; have v3 := L.v3; have t4 := L.t4; have a4 := L.a4; have z4 := L.z4; have v4 := L.v4; have t26 := L.t26; have a26 := L.a26; have z26 := L.z26; have v26 := L.v26; have t38 := L.t38; have a38 := L.a38; have z38 := L.z38; have v38 := L.v38; have t42 := L.t42; have a42 := L.a42; have z42 := L.z42; have v42 := L.v42; have t47 := L.t47; have a47 := L.a47; have z47 := L.z47; have v47 := L.v47
  have u42 := run_underlying L.t42
  have HSW : Hid (SWK enc k W blk off d W) := SWK.start hH
  have HB1 : Hid (blk < (W.alloc (.cells #[.func (.func g) #[] lb, .func (.func sf) #[] sb] (ρ.t 42))).heap.size) := by show _ < _; simp; omega
  have HW1 : Hid (HoldsK enc k (W.alloc (.cells #[.func (.func g) #[] lb, .func (.func sf) #[] sb] (ρ.t 42))) blk off d) := SWK.holds (SWK.alloc HSW.out _) hblk hH rfl
  have HL1 : Hid (q1g P g lb enc k lt blk off size (W.alloc (.cells #[.func (.func g) #[] lb, .func (.func sf) #[] sb] (ρ.t 42)))) := SWK.lessReads (SWK.alloc HSW.out _) hless hblk hsd
  have HSWAP : Hid (SwapSwapsK P sf sb enc k blk off size) := hswap
  have INS : Hid (∀ (wr : World) (dk : Array α) (a b : Nat), a ≤ b → b ≤ size → dk.size = size → SWK enc k (W.alloc (.cells #[.func (.func g) #[] lb, .func (.func sf) #[] sb] (ρ.t 42))) blk off dk wr →
      Calls P (ρ.f 29) #[.agg #[.func (.func g) #[] lb, .func (.func sf) #[] sb], .int .i64 a, .int .i64 b] wr fun e w' =>
        e = .returned (.tuple #[]) ∧ ∃ d' : Array α, SWK enc k (W.alloc (.cells #[.func (.func g) #[] lb, .func (.func sf) #[] sb] (ρ.t 42))) blk off d' w' ∧ PermIn 0 dk.size dk d' ∧ (∀ x, x < a ∨ b ≤ x → row d' x = row dk x) ∧ Sorted lt (row d') a b) :=
    fun wr dk a b h1 h2 h3 h4 => (ins { L with } hk S g lb sf sb size hsz HSWAP.out eg wr dk a b h1 h2 h3 (SWK.holds h4 HB1.out HW1.out (by omega)) (SWK.lessReads h4 HL1.out HB1.out h3) (SWK.lt h4 HB1.out)).mono
      (fun e w' ⟨e1, d', x1, x2, x3, x4⟩ => ⟨e1, d', SWK.trans h4 x1 HB1.out x2.1, x2, x3, x4⟩)
  have SYM : Hid (∀ (wr : World) (dk : Array α) (a m b : Nat), a < m → m < b → b ≤ size → dk.size = size → SWK enc k (W.alloc (.cells #[.func (.func g) #[] lb, .func (.func sf) #[] sb] (ρ.t 42))) blk off dk wr → Sorted lt (row dk) a m → Sorted lt (row dk) m b →
      Calls P (ρ.f 30) #[.agg #[.func (.func g) #[] lb, .func (.func sf) #[] sb], .int .i64 a, .int .i64 m, .int .i64 b] wr fun e w' =>
        e = .returned (.tuple #[]) ∧ ∃ d' : Array α, SWK enc k (W.alloc (.cells #[.func (.func g) #[] lb, .func (.func sf) #[] sb] (ρ.t 42))) blk off d' w' ∧ PermIn 0 dk.size dk d' ∧ Within (row dk) (row d') a b ∧ Sorted lt (row d') a b) :=
    fun wr dk a m b h1 h2 h3 h4 h5 h6 h7 => (sym { L with } hk (v8z S) g lb sf sb size hsz HSWAP.out eg (b - a) wr dk a m b (Nat.le_refl _) h1 h2 h3 h4 (SWK.holds h5 HB1.out HW1.out (by omega)) (SWK.lessReads h5 HL1.out HB1.out h4) (SWK.lt h5 HB1.out) h6 h7).mono
      (fun e w' ⟨e1, d', x1, x2, x3, x4⟩ => ⟨e1, d', SWK.trans h5 x1 HB1.out x2.1, x2, x3, x4⟩)
  clear hH hless hswap
  have e29 : ∀ args w, (callFunc (ρ.f 29) args).run P w = .ok (.enter (ρ.f 29) args) w := enters_of L.f29 (by kernel_rfl) rfl
  have e30 : ∀ args w, (callFunc (ρ.f 30) args).run P w = .ok (.enter (ρ.f 30) args) w := enters_of L.f30 (by kernel_rfl) rfl
  go_enter L.f15, BodyGt.n15_ntmps ρ
  go_wp2
  go_loopw [5, 6] (fun va vb wr => ∃ (a t : Nat) (dk : Array α), va = .int .i64 a ∧ vb = .int .i64 ((a : Int) + 20) ∧ a ≤ size ∧ dk.size = size ∧ Hid (a = t * 20 ∧ SWK enc k (W.alloc (.cells #[.func (.func g) #[] lb, .func (.func sf) #[] sb] (ρ.t 42))) blk off dk wr ∧ PermIn 0 d.size d dk ∧ q5k lt (row dk) 20 a)) (fun va vb _ => size - (intOf va).toNat)
  case atStart => exact ⟨0, 0, d, by go_num, by go_num, by omega, hsd, ⟨rfl, SWK.start HW1.out, permIn_refl _ _ _, fun s h => by omega⟩⟩
  case round =>
    obtain ⟨a, t, dk, rfl, rfl, han, hsk, HI⟩ := hrel
    have c0 : wr.cell? ⟨W.heap.size, 0, none⟩ = some (.func (.func g) #[] lb) := by
      rw [SWK.cell HI.out.2.1 ⟨W.heap.size, 0, none⟩ (by show W.heap.size ≠ blk; omega) (by simp)]; simp
    have c1 : wr.cell? ⟨W.heap.size, 1, none⟩ = some (.func (.func sf) #[] sb) := by
      rw [SWK.cell HI.out.2.1 ⟨W.heap.size, 1, none⟩ (by show W.heap.size ≠ blk; omega) (by simp)]; simp
    by_cases hlt : a + 20 ≤ size
    · have hc := INS.out wr dk a (a + 20) (by omega) hlt hsk HI.out.2.1
      rw [show (((a + 20 : Nat) : Int)) = (a : Int) + 20 by omega] at hc
      go_wp2_with (go_at_fn (ρ.f 29); refine hc.mono ?_; rintro e w' ⟨rfl, d1, h1, h2, h3, h4⟩)
      go_roundw
      case rel =>
        refine ⟨a + 20, t + 1, d1, by go_num, by go_num, by omega, by rw [h2.1]; exact hsk, ?_, h1, q2d HI.out.2.2.1 h2, ?_⟩
        · have := HI.out.1; omega
        · have z := HI.out
          have zt := z.1
          subst zt
          exact q66 z.2.2.2 (fun x hx => h3 x (Or.inl hx)) h4
      case measure => simp [intOf]; omega
    · have hc := INS.out wr dk a size (by omega) (by omega) hsk HI.out.2.1
      go_wp2_with (go_at_fn (ρ.f 29); refine hc.mono ?_; rintro e w' ⟨rfl, d1, h1, h2, h3, h4⟩)
      have HR : Hid (SWK enc k (W.alloc (.cells #[.func (.func g) #[] lb, .func (.func sf) #[] sb] (ρ.t 42))) blk off d1 w' ∧ PermIn 0 d.size d d1 ∧ q2n lt (row d1) 20 size 0) := by
        have z := HI.out
        have zt := z.1
        subst zt
        exact ⟨h1, q2d z.2.2.1 h2, q6g z.2.2.2 han (by omega) (fun x hx => h3 x (Or.inl hx)) h4⟩
      have hs1 : d1.size = size := h2.1.trans hsk
      clear h1 h2 h3 h4 c0 c1 HI
      go_loopw [4] (fun vb wr => ∃ (bs : Nat) (dk : Array α), vb = .int .i64 bs ∧ 0 < bs ∧ dk.size = size ∧ Hid (SWK enc k (W.alloc (.cells #[.func (.func g) #[] lb, .func (.func sf) #[] sb] (ρ.t 42))) blk off dk wr ∧ PermIn 0 d.size d dk ∧ q2n lt (row dk) bs size 0)) (fun vb _ => size - (intOf vb).toNat)
      case atStart => exact ⟨20, d1, by go_num, by omega, hs1, HR.out⟩
      case round =>
        obtain ⟨bs, dk2, rfl, hbs, hs2, HJ⟩ := hrel
        rename World => w2
        by_cases hlt2 : bs < size
        · go_wp2
          go_loopw [5, 6] (fun va vb wr => ∃ (a t : Nat) (dk : Array α), va = .int .i64 a ∧ vb = .int .i64 ((a : Int) + 2 * (bs : Int)) ∧ a ≤ size ∧ dk.size = size ∧ Hid (a = t * (2 * bs) ∧ SWK enc k (W.alloc (.cells #[.func (.func g) #[] lb, .func (.func sf) #[] sb] (ρ.t 42))) blk off dk wr ∧ PermIn 0 d.size d dk ∧ q5k lt (row dk) (2 * bs) a ∧ q2n lt (row dk) bs size a)) (fun va vb _ => size - (intOf va).toNat)
          case atStart => exact ⟨0, 0, dk2, by go_num, by go_num, by omega, hs2, ⟨by omega, HJ.out.1, HJ.out.2.1, fun s h => by omega, HJ.out.2.2⟩⟩
          case round =>
            obtain ⟨a2, t2, dk3, rfl, rfl, han2, hs3, HK⟩ := hrel
            rename World => w3
            have c0 : w3.cell? ⟨W.heap.size, 0, none⟩ = some (.func (.func g) #[] lb) := by
              rw [SWK.cell HK.out.2.1 ⟨W.heap.size, 0, none⟩ (by show W.heap.size ≠ blk; omega) (by simp)]; simp
            have c1 : w3.cell? ⟨W.heap.size, 1, none⟩ = some (.func (.func sf) #[] sb) := by
              rw [SWK.cell HK.out.2.1 ⟨W.heap.size, 1, none⟩ (by show W.heap.size ≠ blk; omega) (by simp)]; simp
            have HPR : Hid (Sorted lt (row dk3) a2 (min (a2 + bs) size) ∧ Sorted lt (row dk3) (a2 + bs) (min (a2 + 2 * bs) size)) := by
              have z := HK.out
              have zt := z.1
              subst zt
              exact v3g z.2.2.2.2
            by_cases hlt3 : a2 + 2 * bs ≤ size
            · have hc := SYM.out w3 dk3 a2 (a2 + bs) (a2 + 2 * bs) (by omega) (by omega) hlt3 hs3 HK.out.2.1 (by have := HPR.out.1; rwa [show min (a2 + bs) size = a2 + bs by omega] at this) (by have := HPR.out.2; rwa [show min (a2 + 2 * bs) size = a2 + 2 * bs by omega] at this)
              rw [show (((a2 + bs : Nat) : Int)) = (a2 : Int) + bs by omega, show (((a2 + 2 * bs : Nat) : Int)) = (a2 : Int) + 2 * (bs : Int) by omega] at hc
              go_wp2_with (go_at_fn (ρ.f 30); refine hc.mono ?_; rintro e w' ⟨rfl, d4, h1, h2, h3, h4⟩)
              go_roundw
              case rel =>
                refine ⟨a2 + 2 * bs, t2 + 1, d4, by go_num, by go_num, hlt3, by rw [h2.1]; exact hs3, ?_, h1, q2d HK.out.2.2.1 h2, ?_, v3k HK.out.2.2.2.2 (by omega) (fun x hx => h3.out x (Or.inr hx))⟩
                · rw [Nat.add_mul, Nat.one_mul, ← HK.out.1]
                · have z := HK.out
                  have zt := z.1
                  subst zt
                  exact q66 z.2.2.2.1 (fun x hx => h3.out x (Or.inl hx)) h4
              case measure => simp [intOf]; omega
            · by_cases hlt4 : a2 + bs < size
              · have hc := SYM.out w3 dk3 a2 (a2 + bs) size (by omega) hlt4 (Nat.le_refl _) hs3 HK.out.2.1 (by have := HPR.out.1; rwa [show min (a2 + bs) size = a2 + bs by omega] at this) (by have := HPR.out.2; rwa [show min (a2 + 2 * bs) size = size by omega] at this)
                rw [show (((a2 + bs : Nat) : Int)) = (a2 : Int) + bs by omega] at hc
                go_wp2_with (go_at_fn (ρ.f 30); refine hc.mono ?_; rintro e w' ⟨rfl, d4, h1, h2, h3, h4⟩)
                go_roundw
                case rel =>
                  refine ⟨2 * bs, d4, by go_num, by omega, by rw [h2.1]; exact hs3, h1, q2d HK.out.2.2.1 h2, ?_⟩
                  have z := HK.out
                  have zt := z.1
                  subst zt
                  exact q6g z.2.2.2.1 han2 (by omega) (fun x hx => h3.out x (Or.inl hx)) h4
                case measure => simp [intOf]; omega
              · go_wp2
                go_roundw
                case rel =>
                  refine ⟨2 * bs, dk3, by go_num, by omega, hs3, HK.out.2.1, HK.out.2.2.1, ?_⟩
                  have z := HK.out
                  have hp := HPR.out.1
                  have zt := z.1
                  subst zt
                  rw [show min (t2 * (2 * bs) + bs) size = size by omega] at hp
                  exact q6g z.2.2.2.1 han2 (by omega) (fun x hx => rfl) hp
                case measure => simp [intOf]; omega
        · go_wp2
          go_end0
          refine ⟨rfl, dk2, SWK.trans (SWK.alloc HSW.out _) HJ.out.1 hblk (by omega), HJ.out.2.1, ?_⟩
          have z := HJ.out.2.2 0 (by omega)
          rw [show 0 * bs = 0 by omega, show min (0 + bs) size = size by omega] at z
          exact z

/-- sort.SliceStable at a slice of structs, two elements or more: the row holds a permutation of what it held, in order; some draws on; new blocks; nothing else turns. -/
theorem v0i (L : LaysGt.n8 P ρ) (t e : TypeId) (i ie : TypeInfo) (hi : P.info? t = some i) (hd : i.desc = .slice e) (hpk : P.packed t = false) (hie : P.info? e = some ie) (ke : Nat) (hke : ∀ w, (Extern.Rtype.kind e).run P w = .ok ke w)
    (hk : ∀ x, (enc x).length = k) (hs1 : ie.size = k) (hagg : ∀ w, (isAgg e).run P w = .ok true w) (h1 : ∀ x, ∀ v ∈ enc x, v.oneCell' = true) {lt : α → α → Bool} (S : SWO lt) (g : Nat) (lb : Array Value)
    (eg : ∀ args w, (callFunc g args).run P w = .ok (.enter g args) w) (c : Nat) (d : Array α) (h2 : 2 ≤ d.size) (hsz : d.size < 4611686018427387904)
    (f : Nat) (hf : P.funcs.findIdx? (·.name == "internal/reflectlite" ++ ".Swapper$" ++ toString (swapperK d.size ie ke)) = some f)
    (gS : Bool) (hx : ∀ args W, (callFunc f args).run P W = ((Extern.ReflectliteSwapper.swap gS args).run P W).andThen fun v w' => .ok (.value v) w')
    (w : World) (hless : q1g P g lb enc k lt blk off d.size w) (hH : HoldsK enc k w blk off d) (hblk : blk < w.heap.size) :
    Calls P (ρ.f 8) #[.iface t (.slice (some ⟨blk, off, none⟩) d.size c), .func (.func g) #[] lb] w fun e w' =>
      e = .returned (.tuple #[]) ∧ ∃ d' : Array α, SWK enc k w blk off d' w' ∧ PermIn 0 d.size d d' ∧ Sorted lt (row d') 0 d.size := by
  refine Any.sort_SliceStable_of_stable L t e i ie hi hd hpk hie ke hke _ d.size c (by omega) f hf (.func g) #[] lb w _ ?_
  have hB : sliceBound P e ie ke (some ⟨blk, off, none⟩) d.size c = #[.slice (some ⟨blk, off, none⟩) d.size c, typeHandle P e] := by
    unfold sliceBound; rw [if_neg (swapperK_gt _ _ _ h2)]
  rw [hB]
  have hS := SWK.alloc (SWK.alloc (SWK.start hH) (.cells #[.slice (some ⟨blk, off, none⟩) d.size c] t)) (.cells #[.pointer (some ⟨P.globals.size, t, none⟩), .pointer (some ⟨w.heap.size, 0, none⟩), .int .u64 151] (ρ.t 36))
  have hS : SWK enc k w blk off d (stableWorld P ρ t (some ⟨blk, off, none⟩) d.size c w) := hS
  refine (stable { L with } hk S g lb f _ d.size hsz (swapSwapsK_of_literal gS f hx e ie hie enc k hk hs1 hagg h1 blk off d.size c) eg _ d rfl (SWK.holds hS hblk hH rfl) (SWK.lessReads hS hless hblk rfl) (SWK.lt hS hblk)).mono ?_
  rintro e w' ⟨rfl, d', h1, h2, h3⟩
  exact ⟨rfl, d', SWK.trans hS h1 hblk h2.1, h2, h3⟩
end Go.Proofs.St
