/- Maps from whole numbers, that the call itself has made and that only grow: what lies in memory is told by a list of pairs; making, looking up and storing, in the print's words. -/
import Derived.Maps.Own
import Derived.Test.YtjdkdbeenggfaaaWWords
import Derived.Test.YtjdkdbeenggfaaaWApart
namespace Go.Proofs.Ytjdkdbeenggfaaa.Mp
open Go.RowKit Go.Proofs.YtjdkdbeenggfaaaW.PrintWords
section
variable {α : Type}
def mget (z : α) : List (Int × α) → Int → α
  | [], _ => z
  | p :: M, k => if k = p.1 then p.2 else mget z M k
def mhas : List (Int × α) → Int → Bool
  | [], _ => false
  | p :: M, k => if k = p.1 then true else mhas M k
def mput : List (Int × α) → Int → α → List (Int × α)
  | [], k, v => [(k, v)]
  | p :: M, k, v => if k = p.1 then (p.1, v) :: M else p :: mput M k v
def midx : List (Int × α) → Int → Nat
  | [], _ => 0
  | p :: M, k => if k = p.1 then 0 else midx M k + 1
def ents (enc : α → Value) : List (Int × α) → Nat → List MapEntry
  | [], _ => []
  | p :: M, i => ⟨.int .i64 p.1, enc p.2, i⟩ :: ents enc M (i + 1)
/-- What lies in memory. -/
def mObj (enc : α → Value) (M : List (Int × α)) : Obj := .map (ents enc M 0).toArray M.length
theorem find_ents (enc : α → Value) (z : α) (k : Int) : ∀ (M : List (Int × α)) (i j : Nat), Instr.findNow (.int .i64) (.int .i64 k) (ents enc M i) j = some (if mhas M k = true then some (j + midx M k, enc (mget z M k)) else none)
  | [], _, _ => by simp [ents, Instr.findNow, mhas]
  | p :: M, i, j => by
    by_cases c : k = p.1
    · subst c; simp [ents, Instr.findNow, Instr.sameNow, mhas, midx, mget]
    · have ih := find_ents enc z k M (i + 1) (j + 1)
      simp only [ents, Instr.findNow, Instr.sameNow, if_true, beq_eq_false_iff_ne.mpr c, ih, mhas, midx, mget, if_neg c]
      congr 1; congr 1; congr 1; congr 1; omega
theorem ents_modify (enc : α → Value) (k : Int) (v : α) : ∀ (M : List (Int × α)) (i : Nat), mhas M k = true → (ents enc M i).modify (midx M k) (fun e => { e with key := .int .i64 k, val := enc v }) = ents enc (mput M k v) i
  | [], _, h => by simp [mhas] at h
  | p :: M, i, h => by
    by_cases c : k = p.1
    · simp [ents, midx, mput, c]
    · simp only [mhas, if_neg c] at h
      have ih := ents_modify enc k v M (i + 1) h
      simp [ents, midx, mput, c, ih]
theorem ents_push (enc : α → Value) (k : Int) (v : α) : ∀ (M : List (Int × α)) (i : Nat), mhas M k = false → ents enc M i ++ [⟨.int .i64 k, enc v, i + M.length⟩] = ents enc (mput M k v) i
  | [], i, _ => by simp [ents, mput]
  | p :: M, i, h => by
    by_cases c : k = p.1
    · simp [mhas, c] at h
    · simp only [mhas, if_neg c] at h
      have ih := ents_push enc k v M (i + 1) h
      simp only [ents, mput, if_neg c, List.cons_append, List.length_cons]
      rw [← ih]; congr 4; omega
theorem mput_len (k : Int) (v : α) : ∀ (M : List (Int × α)), (mput M k v).length = if mhas M k = true then M.length else M.length + 1
  | [] => by simp [mput, mhas]
  | p :: M => by
    have ih := mput_len k v M
    by_cases c : k = p.1
    · simp [mput, mhas, c]
    · simp only [mput, mhas, if_neg c, List.length_cons, ih]; split <;> rfl
theorem ents_at (enc : α → Value) (k : Int) : ∀ (M : List (Int × α)) (i : Nat), mhas M k = true → ((ents enc M i)[midx M k]?).map (·.key) = some (.int .i64 k)
  | [], _, h => by simp [mhas] at h
  | p :: M, i, h => by
    by_cases c : k = p.1
    · simp [ents, midx, c]
    · simp only [mhas, if_neg c] at h
      simp [ents, midx, c, ents_at enc k M (i + 1) h]
end
section
variable {P : Program} {α : Type} {enc : α → Value} {W : World} {g : Nat} {M : List (Int × α)} {t kt et : TypeId}
theorem run_find (hk : P.underlying kt = some (.int .i64)) (z : α) (k : Int) (w : World) : (Instr.findKey kt (.int .i64 k) (ents enc M 0)).run P w = .ok (if mhas M k = true then some (midx M k, enc (mget z M k)) else none) w := by
  simp [Instr.findKey, run_underlying hk, find_ents enc z k M 0 0, Result.andThen]
theorem run_lookup (ht : P.underlying t = some (.map kt et)) (hk : P.underlying kt = some (.int .i64)) (z : α) (hz : ∀ w, (zeroValue et).run P w = .ok (enc z) w) (hb : W.heap[g]? = some (mObj enc M)) (k : Int) (c : Bool) :
    (Instr.lookup t (.map (some g)) (.int .i64 k) c).run P W = .ok (if c then .tuple #[enc (mget z M k), .bool (mhas M k)] else enc (mget z M k)) W := by
  have hc : ∀ b, (Instr.checkKey b 10000 kt (.int .i64 k)).run P W = .ok () W := fun b => MapKept.run_checkKey (k := .int .i64 k) hk (by simp [MapKept.IsKey]) b 9999
  have hf := run_find (enc := enc) (M := M) hk z k W
  cases h : mhas M k with
  | true => simp [h] at hf; simp [Instr.lookup, run_underlying ht, MapKept.run_getObj_map hb, hc, hf, Result.andThen]
  | false =>
    have hg : mget z M k = z := by
      revert h; clear hf hb; induction M with
      | nil => intro _; rfl
      | cons p M ih => intro h; by_cases q : k = p.1 <;> simp_all [mhas, mget]
    simp [h] at hf; simp [Instr.lookup, run_underlying ht, MapKept.run_getObj_map hb, hc, hf, hz, hg, Result.andThen]
theorem run_update (ht : P.underlying t = some (.map kt et)) (hk : P.underlying kt = some (.int .i64)) (hb : W.heap[g]? = some (mObj enc M)) (k : Int) (v : α) :
    (Instr.mapUpdate t (.map (some g)) (.int .i64 k) (enc v)).run P W = .ok () { W with heap := W.heap.setIfInBounds g (mObj enc (mput M k v)) } := by
  have hc : ∀ b, (Instr.checkKey b 10000 kt (.int .i64 k)).run P W = .ok () W := fun b => MapKept.run_checkKey (k := .int .i64 k) hk (by simp [MapKept.IsKey]) b 9999
  have hf := run_find (enc := enc) (M := M) hk v k W
  cases h : mhas M k with
  | true =>
    have e1 : mObj enc (mput M k v) = .map ((ents enc M 0).toArray.modify (midx M k) fun e => { e with key := .int .i64 k, val := enc v }) M.length := by
      unfold mObj; rw [mput_len, if_pos h, ← ents_modify enc k v M 0 h]; simp
    have hs : (Instr.keyThatStays (.int .i64 k) (.int .i64 k)).run P W = .ok (.int .i64 k) W := by
      unfold Instr.keyThatStays; rw [if_pos (by simp [Instr.sameBits])]; rfl
    have ha := ents_at enc k M 0 h
    simp only [h, if_true] at hf
    rw [e1]
    simp [Instr.mapUpdate, run_underlying ht, MapKept.run_getObj_map hb, hc, hf, ha, hs, MapKept.run_setObj_map _ hb, Result.andThen]
  | false =>
    have e1 : mObj enc (mput M k v) = .map ((ents enc M 0).toArray.push ⟨.int .i64 k, enc v, M.length⟩) (M.length + 1) := by
      unfold mObj; rw [mput_len, if_neg (by simp [h]), ← ents_push enc k v M 0 h]; simp
    simp [h] at hf
    rw [e1]
    simp [Instr.mapUpdate, run_underlying ht, MapKept.run_getObj_map hb, hc, hf, MapKept.run_setObj_map _ hb, Result.andThen]
end
section
variable {P : Program} {ops : Array Oper} {rest : List Oper} {o : Oper} {a : Act} {Q : Exit → Act → World → Prop} {α : Type}
theorem make_event {W : World} (enc : α → Value) (hgd : o.guard = none) {N : Tmp} (_hd : o.dst = some N) {t : TypeId} (ho : o.op = .makeMap t none)
    (h : ∀ g, g = W.heap.size → ∀ w1, w1.heap[g]? = some (mObj enc ([] : List (Int × α))) → Below W.heap.size W w1 → wpList P ops Q rest (a.put o.dst (.map (some g))) w1) : wpList P ops Q (o :: rest) a W := by
  refine Kd.event_run (v := .map (some W.heap.size)) (w1 := W.alloc (.map #[] 0)) hgd ?_ (h _ rfl _ (blk_new W _) (below_alloc (Below.refl _ _) _))
  simp [execOp, ho, run_makeMap, Result.andThen]
theorem put_event {W : World} {g : Nat} {M : List (Int × α)} {t kt et : TypeId} (ht : P.underlying t = some (.map kt et)) (hk : P.underlying kt = some (.int .i64)) (enc : α → Value) (hgd : o.guard = none) (hdst : o.dst = none) {m x y : Operand} (ho : o.op = .mapUpdate t m x y)
    (hb : W.heap[g]? = some (mObj enc M)) (hm : a.eval m = .map (some g)) (k : Int) (v : α) (hx : a.eval x = .int .i64 k) (hy : a.eval y = enc v)
    (h : ∀ w1, w1.heap[g]? = some (mObj enc (mput M k v)) → W.grownBy w1 (some g) → wpList P ops Q rest a w1) : wpList P ops Q (o :: rest) a W := by
  refine wpList_plain hgd fun K hK => ?_
  have hrun := run_update (P := P) ht hk hb k v
  unfold Oper.wp
  simp only [execOp, ho, hm, hx, hy]
  have hlt : g < W.heap.size := blk_lt hb
  have r := h _ (show ({ W with heap := W.heap.setIfInBounds g (mObj enc (mput M k v)) } : World).heap[g]? = some (mObj enc (mput M k v)) by simp [hlt]) ⟨rfl, rfl, rfl, by simp, fun i _ hi => by
    have : i ≠ g := fun e => hi (by rw [e])
    simp [Ne.symm this]⟩
  simp [hrun, Result.andThen]
  exact hK _ _ (by rw [hdst]; exact r)
theorem ins_event {W : World} {g : Nat} {M : List (Int × α)} {t kt et : TypeId} (ht : P.underlying t = some (.map kt et)) (hk : P.underlying kt = some (.int .i64)) (enc : α → Value) (hgd : o.guard = none) (hdst : o.dst = none) {m x y : Operand} (ho : o.op = .insert t m x y)
    (hb : W.heap[g]? = some (mObj enc M)) (hm : a.eval m = .map (some g)) (k : Int) (v : α) (hx : a.eval x = .int .i64 k) (hy : a.eval y = enc v)
    (h : ∀ w1, w1.heap[g]? = some (mObj enc (mput M k v)) → W.grownBy w1 (some g) → wpList P ops Q rest a w1) : wpList P ops Q (o :: rest) a W := by
  refine wpList_plain hgd fun K hK => ?_
  have hrun := run_update (P := P) ht hk hb k v
  unfold Oper.wp
  simp only [execOp, ho, hm, hx, hy]
  have hlt : g < W.heap.size := blk_lt hb
  have r := h _ (show ({ W with heap := W.heap.setIfInBounds g (mObj enc (mput M k v)) } : World).heap[g]? = some (mObj enc (mput M k v)) by simp [hlt]) ⟨rfl, rfl, rfl, by simp, fun i _ hi => by
    have : i ≠ g := fun e => hi (by rw [e])
    simp [Ne.symm this]⟩
  simp [hrun, Result.andThen]
  exact hK _ _ (by rw [hdst]; exact r)
theorem gate_insert {W : World} {t : TypeId} {m x y : Operand} (_ho : o.op = .insert t m x y) (h : wpList P ops Q (o :: rest) a W) : wpList P ops Q (o :: rest) a W := h
theorem far {w : World} {g : Nat} {o : Obj} (h : w.heap[g]? = some o) {p : Addr} (hp : g ≠ p.block) (u : Value) : (w.setCell p u).heap[g]? = some o := (Below.heap_setCell w p u g hp).trans h
variable {β : Type} {d : Kd β} {e base g : Nat} {ok : Nat → Prop} {w w1 : World} {v : Value} {xs : List β} {enc : α → Value} {M : List (Int × α)}
theorem R_types (h : d.R e w base ok v xs) (hb : w.heap[g]? = some (mObj enc M)) : d.R e w base (fun k => ok k ∧ k ≠ g) v xs :=
  Kd.R_mono (Kd.R_bound h) (fun k hk => ⟨hk.1, by
    obtain ⟨_, _, _, q, hq, cells', hc⟩ := hk
    rintro rfl
    rw [hc] at hb
    injection hb with hb
    cases hb⟩)
theorem R_ne (h : d.R e w base ok v xs) (hb : w.heap[g]? = some (mObj enc M)) : some g ≠ v.ownBlock := fun e_ => by
  obtain ⟨cells, hc⟩ := Kd.R_typed h g e_.symm
  rw [hc] at hb
  injection hb with hb
  cases hb
theorem R_put (h : d.R e w base ok v xs) (hb : w.heap[g]? = some (mObj enc M)) (hg : w.grownBy w1 (some g)) : d.R e w1 base ok v xs :=
  Kd.R_mono (Kd.R_grown (R_types h hb) hg (fun _ hk e_ => hk.2 (Option.some.inj e_))) (fun _ hk => hk.1)
theorem S_types (h : Kd.S d e w base ok v xs) (hb : w.heap[g]? = some (mObj enc M)) : Kd.S d e w base (fun k => ok k ∧ k ≠ g) v xs := by
  obtain ⟨f, h⟩ := h
  exact ⟨f, R_types h hb⟩
theorem S_ne (h : Kd.S d e w base ok v xs) (hb : w.heap[g]? = some (mObj enc M)) : some g ≠ v.ownBlock := R_ne (Kd.S_R h) hb
theorem S_put (h : Kd.S d e w base ok v xs) (hb : w.heap[g]? = some (mObj enc M)) (hg : w.grownBy w1 (some g)) : Kd.S d e w1 base ok v xs := by
  obtain ⟨f, h⟩ := h
  exact ⟨f, R_put h hb hg⟩
theorem blk_put {g' : Nat} {o' : Obj} (h : w.heap[g']? = some o') (hg : w.grownBy w1 (some g)) (hne : g' ≠ g) : w1.heap[g']? = some o' := blk_grown h hg (fun e_ => hne (Option.some.inj e_))
end
end Go.Proofs.Ytjdkdbeenggfaaa.Mp
