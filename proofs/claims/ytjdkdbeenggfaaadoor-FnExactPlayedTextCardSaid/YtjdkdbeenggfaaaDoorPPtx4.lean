-- Written for this claim by a program of this session (wip/tpl/patchprint.py), not by print.sh.
import Derived.Test.YtjdkdbeenggfaaaDoorPPtx0
namespace Go.Proofs.YtjdkdbeenggfaaaDoor.PPt
open Go.RowKit Go.Proofs.YtjdkdbeenggfaaaDoorW.PrintWords Go.Proofs.YtjdkdbeenggfaaaDoorW.PrintLast Go.Proofs.YtjdkdbeenggfaaaDoorW.PrintMore
attribute [local go_sem] max2_int min2_int max_two min_two max_three min_three max_four min_four   -- for this text's walks alone
set_option linter.unusedVariables false
set_option linter.unusedSimpArgs false

/-! ### spec_pyAll: function 21 -/
mutual
def spec_pyAll.l0 : Nat → List (S60) → List Int → Int → Int → List Int → Int → Int → Int → Int → Option ((List (S56)) × List Int)
  | 0, _, _, _, _, _, _, _, _, _ => none
  | k + 1, x1, x10, x18, x19, x139000, x139001, x140000, x140001, x140002 => if x19 < x18 then (if 0 ≤ x19 then (if x19 < (x10.length : Int) then (spec_pyAll.l0 k x1 (x10.set (x19 : Int).toNat (-40)) x18 (wrap64 (x19 + 1)) x139000 x139001 x140000 x140001 x140002) else (none)) else (none)) else (spec_pyAll.l1 k ([] : List (S56)) ([] : List Int) x10 x1 (x1.length : Int) 0 x139000 x139001 x140000 x140001 x140002)
def spec_pyAll.l1 : Nat → List (S56) → List Int → List Int → List (S60) → Int → Int → List Int → Int → Int → Int → Int → Option ((List (S56)) × List Int)
  | 0, _, _, _, _, _, _, _, _, _, _, _ => none
  | k + 1, x8, x9, x10, x26, x27, x28, x139000, x139001, x140000, x140001, x140002 => if x28 < x27 then (if 0 ≤ x28 then (if x28 < (x26.length : Int) then (if ((rd_T60 x26 x28).f0) ≥ (x139000.length : Int) then (if x9.length < 17592186044416 then (spec_pyAll.l1 k x8 (x9 ++ [x28]) x10 x26 x27 (wrap64 (x28 + 1)) x139000 x139001 x140000 x140001 x140002) else (none)) else (if (wrap64 (((rd_T60 x26 x28).f2) - ((rd_T60 x26 x28).f1))) < x140002 then (if x9.length < 17592186044416 then (spec_pyAll.l1 k x8 (x9 ++ [x28]) x10 x26 x27 (wrap64 (x28 + 1)) x139000 x139001 x140000 x140001 x140002) else (none)) else (if 0 ≤ ((rd_T60 x26 x28).f0) then (if ((rd_T60 x26 x28).f0) < (x10.length : Int) then (if (wrap64 (((rd_T60 x26 x28).f1) - (rd x10 ((rd_T60 x26 x28).f0)))) < (wrap64 (2 * x139001)) then (if x9.length < 17592186044416 then (spec_pyAll.l1 k x8 (x9 ++ [x28]) x10 x26 x27 (wrap64 (x28 + 1)) x139000 x139001 x140000 x140001 x140002) else (none)) else (if (wrap64 (((rd_T60 x26 x28).f1) + x140000)) ≥ (wrap64 (((rd_T60 x26 x28).f2) + x140001)) then (if x9.length < 17592186044416 then (spec_pyAll.l1 k x8 (x9 ++ [x28]) x10 x26 x27 (wrap64 (x28 + 1)) x139000 x139001 x140000 x140001 x140002) else (none)) else (if ((rd_T60 x26 x28).f0) < (x139000.length : Int) then (if x8.length < 5864062014805 then (spec_pyAll.l1 k (x8 ++ [(⟨rd x139000 ((rd_T60 x26 x28).f0), wrap64 (((rd_T60 x26 x28).f1) + x140000), wrap64 (((rd_T60 x26 x28).f2) + x140001)⟩ : S56)]) x9 (x10.set (((rd_T60 x26 x28).f0) : Int).toNat ((rd_T60 x26 x28).f1)) x26 x27 (wrap64 (x28 + 1)) x139000 x139001 x140000 x140001 x140002) else (none)) else (none)))) else (none)) else (none)))) else (none)) else (none)) else (some (x8, x9))
end
def spec_pyAll.f (k : Nat) (l0_0 : List Int) (a0_1 : Int) (l1 : List (S60)) (a2_0 : Int) (a2_1 : Int) (a2_2 : Int) : Option ((List (S56)) × List Int) := if 20 ≤ 35184372088832 then ((some (List.replicate 20 0 : List Int)).bind fun y140 => (spec_pyAll.l0 k l1 y140 (y140.length : Int) 0 l0_0 a0_1 a2_0 a2_1 a2_2)) else (none)
theorem spec_pyAll.mono_l : ∀ k, (∀ y0 y1 y2 y3 y4 y5 y6 y7 y8, LeO (spec_pyAll.l0 k y0 y1 y2 y3 y4 y5 y6 y7 y8) (spec_pyAll.l0 (k + 1) y0 y1 y2 y3 y4 y5 y6 y7 y8)) ∧ (∀ y0 y1 y2 y3 y4 y5 y6 y7 y8 y9 y10, LeO (spec_pyAll.l1 k y0 y1 y2 y3 y4 y5 y6 y7 y8 y9 y10) (spec_pyAll.l1 (k + 1) y0 y1 y2 y3 y4 y5 y6 y7 y8 y9 y10))
  | 0 => ⟨fun _ _ _ _ _ _ _ _ _ r h => by simp [spec_pyAll.l0] at h, fun _ _ _ _ _ _ _ _ _ _ _ r h => by simp [spec_pyAll.l1] at h⟩
  | k + 1 => by
    obtain ⟨ih0, ih1⟩ := spec_pyAll.mono_l k
    refine ⟨?_, ?_⟩
    · intro y0 y1 y2 y3 y4 y5 y6 y7 y8
      unfold spec_pyAll.l0
      repeat' first
      | (with_reducible exact ih0 _ _ _ _ _ _ _ _ _)
      | (with_reducible exact ih1 _ _ _ _ _ _ _ _ _ _ _)
      | (with_reducible exact LeO.refl _)
      | (with_reducible exact LeO.none _)
      | (with_reducible refine LeO.ite ?_ ?_)
      | (with_reducible refine LeO.bind ?_ (fun _ => ?_))
      | exact ih0 _ _ _ _ _ _ _ _ _
      | exact ih1 _ _ _ _ _ _ _ _ _ _ _
      | exact LeO.none _
      | refine LeO.ite ?_ ?_
      | refine LeO.bind ?_ (fun _ => ?_)
    · intro y0 y1 y2 y3 y4 y5 y6 y7 y8 y9 y10
      unfold spec_pyAll.l1
      repeat' first
      | (with_reducible exact ih0 _ _ _ _ _ _ _ _ _)
      | (with_reducible exact ih1 _ _ _ _ _ _ _ _ _ _ _)
      | (with_reducible exact LeO.refl _)
      | (with_reducible exact LeO.none _)
      | (with_reducible refine LeO.ite ?_ ?_)
      | (with_reducible refine LeO.bind ?_ (fun _ => ?_))
      | exact ih0 _ _ _ _ _ _ _ _ _
      | exact ih1 _ _ _ _ _ _ _ _ _ _ _
      | exact LeO.none _
      | refine LeO.ite ?_ ?_
      | refine LeO.bind ?_ (fun _ => ?_)
theorem spec_pyAll.mono : ∀ a0 a1 a2 a3 a4 a5 k, LeO (spec_pyAll.f k a0 a1 a2 a3 a4 a5) (spec_pyAll.f (k + 1) a0 a1 a2 a3 a4 a5) := by
  intro a0 a1 a2 a3 a4 a5 k
  obtain ⟨ih0, ih1⟩ := spec_pyAll.mono_l k
  unfold spec_pyAll.f
  repeat' first
      | (with_reducible exact ih0 _ _ _ _ _ _ _ _ _)
      | (with_reducible exact ih1 _ _ _ _ _ _ _ _ _ _ _)
      | (with_reducible exact LeO.refl _)
      | (with_reducible exact LeO.none _)
      | (with_reducible refine LeO.ite ?_ ?_)
      | (with_reducible refine LeO.bind ?_ (fun _ => ?_))
      | exact ih0 _ _ _ _ _ _ _ _ _
      | exact ih1 _ _ _ _ _ _ _ _ _ _ _
      | exact LeO.none _
      | refine LeO.ite ?_ ?_
      | refine LeO.bind ?_ (fun _ => ?_)
theorem spec_pyAll.gq {P : Program} {i : Nat} {ops : Array Oper} {Q : Exit → Act → World → Prop} {a : Act} {W : World} (h : (Code.region i ops true).wp P Q a W) : (Code.region i ops true).wp P Q a W := h
set_option maxHeartbeats 8000000 in
set_option maxRecDepth 100000 in
theorem spec_pyAll.calls (k : Nat) (A0_0 : Option Addr) (c0_0 : Nat) (l0_0 : List Int) (a0_1 : Int) (A1 : Option Addr) (c1 : Nat) (l1 : List (S60)) (a2_0 : Int) (a2_1 : Int) (a2_2 : Int) (r1 : List (S56)) (r2 : List Int) (w : World) (hr0_0 : Kd.C (Kd.int .i64) w A0_0 l0_0.length l0_0) (hc0_0 : l0_0.length ≤ c0_0) (hr1 : Kd.C k60 w A1 l1.length l1) (hc1 : l1.length ≤ c1) (h : spec_pyAll.f k l0_0 a0_1 l1 a2_0 a2_1 a2_2 = some (r1, r2)) :
  Calls Tryd.prog 21 #[.agg #[.slice A0_0 l0_0.length c0_0, .int .i64 a0_1], .slice A1 l1.length c1, .agg #[.int .i64 a2_0, .int .i64 a2_1, .int .i64 a2_2]] w fun e w' => ∃ v0_ v1_ : Value, e = .returned (.tuple #[v0_, v1_]) ∧ Kd.R k56 56 w' w.heap.size (fun _ => True) v0_ r1 ∧ Kd.R (Kd.int .i64) 3 w' w.heap.size (fun _ => True) v1_ r2 ∧ Below w.heap.size w w' := by
 have hu32 := Tryd.underlying32
 have hu36 := Tryd.underlying36
 have hu60 := Tryd.underlying60
 have hu56 := Tryd.underlying56
 have HR0_0 := zm hr0_0
 have HC0_0 := zm hc0_0
 clear hr0_0 hc0_0
 have HR1 := zm hr1
 have HC1 := zm hc1
 clear hr1 hc1
 have HB := zm (Below.refl w.heap.size w)
 have H : (if 20 ≤ 35184372088832 then ((some (List.replicate 20 0 : List Int)).bind fun y140 => (spec_pyAll.l0 k l1 y140 (y140.length : Int) 0 l0_0 a0_1 a2_0 a2_1 a2_2)) else (none)) = some (r1, r2) := h
 clear h
 by_cases c4 : 20 ≤ 35184372088832
 rotate_left
 ·
  rw [if_neg c4] at H
  exact absurd H (by simp)

 rw [if_pos c4] at H
 have c4b0 := eq_true c4
 have c4b1 : decide (20 ≤ 35184372088832) = true := decide_eq_true c4
 clear c4
 obtain ⟨y140, hy140⟩ : ∃ y_ : List Int, y_ = (List.replicate 20 0) := ⟨_, rfl⟩
 replace H : (spec_pyAll.l0 k l1 y140 (y140.length : Int) 0 l0_0 a0_1 a2_0 a2_1 a2_2) = some (r1, r2) := by first | (rw [hy140]; with_reducible exact H) | (have H2_ := (Option.bind_some _ _).symm.trans H; rw [hy140]; with_reducible exact H2_) | (have H2_ := (Option.bind_some _ _).symm.trans H; with_reducible exact H2_) | with_reducible exact H | (rw [hy140]; exact H) | exact H
 have Ny140 := zm hy140
 clear hy140
 have H' := zm H
 clear H
 go_enter Tryd.func21, Tryd.ntmps21
 go_wp2_with (first | ((with_reducible refine gate_dst (N := 3) rfl ?_); refine box_event ?hg (N := 3) ?hd (cs := #[.slice A0_0 l0_0.length c0_0, .int .i64 a0_1]) (t := 32) ?hr ?_; (case hd => rfl); (case hg => rfl); (case hr => first | (go_simp; done) | (go_simp; rfl)); intro gb138 hg w5 hbox hb; have n0_ := zm (below_step zb hb); have BK138 := zm (hbox); have GW138 := zm (zs hg zb : w.heap.size ≤ gb138); have GE138 := zm (zs hg zb : w.heap.size ≤ gb138); replace HB := n0_; clear n0_; clear hb hbox hg) | ((with_reducible refine gate_dst (N := 5) rfl ?_); refine box_event ?hg (N := 5) ?hd (cs := #[.int .i64 a2_0, .int .i64 a2_1, .int .i64 a2_2]) (t := 36) ?hr ?_; (case hd => rfl); (case hg => rfl); (case hr => first | (go_simp; done) | (go_simp; rfl)); intro gb139 hg w6 hbox hb; have n0_ := zm (blk_below (g := gb138) zk hb); have n1_ := zm (below_step zb hb); have BK139 := zm (hbox); have GW139 := zm (zs hg zb : w.heap.size ≤ gb139); have GE139 := zm (zs hg zb : w.heap.size ≤ gb139); have NB138_139 := zm (zl hg zk : gb138 ≠ gb139); have NB139_138 := zm (zg hg zk : gb139 ≠ gb138); replace BK138 := n0_; replace HB := n1_; clear n0_ n1_; clear hb hbox hg) | ((with_reducible refine gate_dst (N := 16) rfl ?_); refine Kd.R_make (Kd.int .i64) _ 3 rfl (N := 16) rfl 22 _ _ rfl 20 rfl rfl Tryd.underlying22 (.int .i64 0) 8 info3 rfl (by decide) (by omega) 0 (ok := fun _ => True) (okp := fun _ => True) rfl (fun _ hk => hk) trivial (by omega) (by omega) (Below.refl _ _) (Nat.le_refl _) ?_; intro v141 w7 ho8 hb hg_ hnew_; clear hg_ hnew_; (first | rw [← Ny140.out] at ho8 | (simp only [Int.reduceToNat] at ho8; rw [← Ny140.out] at ho8)); have HO142 := zm (Kd.R_lower ho8 (below_size zb)); have n1_ := zm (blk_below (g := gb138) zk hb); replace BK139 := zm (blk_below (g := gb139) zk hb); replace HB := zm (below_step zb hb); replace BK138 := n1_; clear n1_; clear hb ho8; obtain ⟨Ao9, co9, eo9⟩ := Kd.R_slice HO142.out; subst eo9) | ((with_reducible refine spec_pyAll.gq ?_); go_quiet (fail)))
 go_loopg [19] k (fun kq v19 w' => ∃ (x10_1 : List Int) (x19_1 : Int), v19 = .int .i64 x19_1 ∧ Aside0 (spec_pyAll.l0 kq l1 x10_1 (y140.length : Int) x19_1 l0_0 a0_1 a2_0 a2_1 a2_2 = some (r1, r2)) ∧ Aside0 (kq ≤ k) ∧ Aside0 (Kd.R (Kd.int .i64) 3 w' w.heap.size (fun _ => True) (.slice Ao9 y140.length co9) x10_1) ∧ Aside0 (w'.heap[gb138]? = some (.cells #[(.slice A0_0 l0_0.length c0_0), .int .i64 a0_1] 32 (0, 0))) ∧ Aside0 (w'.heap[gb139]? = some (.cells #[.int .i64 a2_0, .int .i64 a2_1, .int .i64 a2_2] 36 (0, 0))) ∧ Aside0 (Below w.heap.size w w'))
 case atStart => exact ⟨(y140), (0), (by first | rfl | (simp; done) | (simp [*]; done)), H', ⟨Nat.le_refl _⟩, ⟨zP HO142.out⟩, ⟨zk⟩, ⟨zk⟩, ⟨zb⟩⟩
 case round =>
  clear H'
  (try clear c1); (try clear c2); (try clear p2); (try clear c4); (try clear c4b0); (try clear c4b1)
  obtain ⟨x10_1, x19_1, rfl, HA, HK1, HO_10, BK138, BK139, HB⟩ := hrel
  have hl10_1 := (Kd.R_reads' HO_10.out).1
  rw [hl10_1] at HO_10
  (try simp only [hl10_1])
  (try simp only [hl10_1] at BK138)
  (try simp only [hl10_1] at BK139)
  cases gk with
  | zero => exact absurd HA.out (by simp [spec_pyAll.l0])
  | succ k1 =>
   have H := HA.out
   clear HA
   simp only [spec_pyAll.l0] at H
   by_cases c10 : x19_1 < (y140.length : Int)
   ·
    rw [if_pos c10] at H
    have c10b0 : decide (x19_1 < (y140.length : Int)) = true := decide_eq_true c10
    clear c10
    by_cases c11 : 0 ≤ x19_1
    rotate_left
    ·
     rw [if_neg c11] at H
     exact absurd H (by simp)
    rw [if_pos c11] at H
    have c11b0 : decide (0 ≤ x19_1) = true := decide_eq_true c11
    clear c11
    by_cases c12 : x19_1 < (x10_1.length : Int)
    rotate_left
    ·
     rw [if_neg c12] at H
     exact absurd H (by simp)
    rw [if_pos c12] at H
    have c12b0 : decide (x19_1 < (x10_1.length : Int)) = true := decide_eq_true c12
    clear c12
    obtain ⟨y143, hy143⟩ : ∃ y_ : List Int, y_ = (x10_1.set (x19_1 : Int).toNat (-40)) := ⟨_, rfl⟩
    replace H : (spec_pyAll.l0 k1 l1 y143 (y140.length : Int) (wrap64 (x19_1 + 1)) l0_0 a0_1 a2_0 a2_1 a2_2) = some (r1, r2) := by first | (rw [hy143]; with_reducible exact H) | (have H2_ := (Option.bind_some _ _).symm.trans H; rw [hy143]; with_reducible exact H2_) | (have H2_ := (Option.bind_some _ _).symm.trans H; with_reducible exact H2_) | with_reducible exact H | (rw [hy143]; exact H) | exact H
    have Ny143 := zm hy143
    clear hy143
    have H' := zm H
    clear H
    have p13 : 0 ≤ (x19_1 : Int) := zd
    have q13 : (x19_1 : Int) < ((x10_1.length : Int) : Int) := zd
    obtain ⟨go13, co13, eo13, gb13, gl13, cl13, HG13⟩ := Kd.R_form HO_10.out (by omega)
    (first | cases eo13 | (injection eo13 with ea_ en_ ec_; (first | subst ea_ | (injection ea_ with ea_; subst ea_)); subst ec_; clear en_))
    have GB13 := zm gb13
    have GG13 := zm HG13
    clear gb13 gl13 HG13
    obtain ⟨hx13_0, hf13_0⟩ := Kd.R_celln 0 HO_10.out (x19_1 : Int) p13 q13
    replace p13 := eq_true p13
    replace q13 := eq_true q13
    have HP14 := Kd.R_putg HO_10.out (x19_1 : Int) (-40)
    go_wp2_with (first | ((with_reducible refine gate_store (t := 3) (p := 24) rfl ?_); (try (rw [drewN_self wr]; generalize hq_ : World.drewN wr _ = wr; have n0_ := zm (Kd.R_at hq_ HO_10.out); have n1_ := zm (blk_at hq_ BK138.out); have n2_ := zm (blk_at hq_ BK139.out); have n3_ := zm (below_at hq_ HB.out); clear hq_ HO_10 BK138 BK139 HB; have HO_10 := n0_; have BK138 := n1_; have BK139 := n2_; have HB := n3_; clear n0_ n1_ n2_ n3_; (try (have HP14 := Kd.R_putg HO_10.out (x19_1 : Int) (-40))))); refine store_event (t := 3) (p := 24) (v := ?vo_w15) (w1 := (wr.setCell ⟨go13, (x19_1 : Int).toNat, none⟩ (.int .i64 (-40)))) ?hg ?ho ?hn ?hr ?_; (case ho => rfl); (case hg => rfl); (case hn => rfl); (case hr => first | (go_simp; done) | (go_simp; rfl)); intro w15 hw; have hg : wr.grownBy w15 (some go13) := (by rw [hw]; exact HP14.2); have hp_ : Kd.R (Kd.int .i64) 3 w15 w.heap.size (fun _ => True) (.slice (some ⟨go13, 0, none⟩) x10_1.length co9) y143 := (by rw [hw, Ny143.out]; exact HP14.1); clear HP14; have n0_ := zm (hp_); have n1_ := zm (blk_grown (g := gb138) (o := .cells #[.slice A0_0 l0_0.length c0_0, .int .i64 a0_1] 32 (0, 0)) zk hg (Kd.R_ne HO_10.out BK138.out (by decide))); replace BK139 := zm (blk_grown (g := gb139) (o := .cells #[.int .i64 a2_0, .int .i64 a2_1, .int .i64 a2_2] 36 (0, 0)) zk hg (Kd.R_ne HO_10.out BK139.out (by decide))); replace HB := zm ((by rw [hw]; exact below_set (HB.out) GB13.out : Below w.heap.size w w15)); replace HO_10 := n0_; replace BK138 := n1_; clear n0_ n1_; clear hg hw hp_) | ((with_reducible refine spec_pyAll.gq ?_); go_quiet (fail)))
    (try simp only [← hl10_1])
    go_roundg k1
    case measure => have := HK1.out; omega
    case rel => exact ⟨(y143), (wrap64 (x19_1 + 1)), (by first | rfl | (simp; done) | (simp [*]; done)), H', ⟨by have := HK1.out; omega⟩, ⟨by (try simp only [hl10_1]); (with_reducible repeat (first | apply Kd.R_alloc | apply Kd.R_drewN | apply Kd.R_drew)); exact HO_10.out⟩, ⟨by (try simp only [hl10_1]); (with_reducible repeat (first | refine blk_drewN ?_ _ | refine blk_drew ?_ | refine blk_alloc ?_ _)); exact BK138.out⟩, ⟨by (try simp only [hl10_1]); (with_reducible repeat (first | refine blk_drewN ?_ _ | refine blk_drew ?_ | refine blk_alloc ?_ _)); exact BK139.out⟩, ⟨zb⟩⟩
   rw [if_neg c10] at H
   have c10b0 : decide (x19_1 < (y140.length : Int)) = false := decide_eq_false c10
   (try (have c10z0 := c10b0; simp only [hl10_1] at c10z0))
   clear c10
   have H' := zm H
   clear H
   go_wp2
   repeat (go_quiet (fail); try go_wp2)
   go_loopg [8, 9, 28] k1 (fun kq v8 v9 v28 w' => ∃ (x8_2 : List (S56)) (x9_2 : List Int) (x10_2 : List Int) (x28_2 : Int), v28 = .int .i64 x28_2 ∧ Aside0 (spec_pyAll.l1 kq x8_2 x9_2 x10_2 l1 (l1.length : Int) x28_2 l0_0 a0_1 a2_0 a2_1 a2_2 = some (r1, r2)) ∧ Aside0 (kq ≤ k1) ∧ Aside0 (Kd.R k56 56 w' w.heap.size (fun _ => True) v8 x8_2) ∧ Aside0 (Kd.R (Kd.int .i64) 3 w' w.heap.size (fun k_ => some k_ ≠ ((.slice Ao9 x10_1.length co9) : Value).ownBlock) v9 x9_2) ∧ Aside0 (Kd.R (Kd.int .i64) 3 w' w.heap.size (fun k_ => some k_ ≠ (v9 : Value).ownBlock) (.slice Ao9 x10_1.length co9) x10_2) ∧ Aside0 (w'.heap[gb138]? = some (.cells #[(.slice A0_0 l0_0.length c0_0), .int .i64 a0_1] 32 (0, 0))) ∧ Aside0 (w'.heap[gb139]? = some (.cells #[.int .i64 a2_0, .int .i64 a2_1, .int .i64 a2_2] 36 (0, 0))) ∧ Aside0 (Below w.heap.size w w'))
   case atStart => exact ⟨(([] : List (S56))), (([] : List Int)), (x10_1), (0), (by first | rfl | (simp; done) | (simp [*]; done)), H', ⟨Nat.le_refl _⟩, ⟨by (try simp only [hl10_1]); first | exact Kd.R_nil _ _ _ _ _ | exact Kd.N_nil _ _ _ _ _ | exact Kd.V_nil _ _ _ _ _ | exact Kd.Q_nil _ _ _ _ _ | exact Kd.S_nil _ _ _ _ _⟩, ⟨by (try simp only [hl10_1]); first | exact Kd.R_nil _ _ _ _ _ | exact Kd.N_nil _ _ _ _ _ | exact Kd.V_nil _ _ _ _ _ | exact Kd.Q_nil _ _ _ _ _ | exact Kd.S_nil _ _ _ _ _⟩, ⟨by (try simp only [hl10_1]); (with_reducible repeat (first | apply Kd.R_alloc | apply Kd.R_drewN | apply Kd.R_drew)); exact Kd.R_mono HO_10.out (fun _ hk => (by simp [Value.ownBlock]))⟩, ⟨by (try simp only [hl10_1]); (with_reducible repeat (first | refine blk_drewN ?_ _ | refine blk_drew ?_ | refine blk_alloc ?_ _)); exact BK138.out⟩, ⟨by (try simp only [hl10_1]); (with_reducible repeat (first | refine blk_drewN ?_ _ | refine blk_drew ?_ | refine blk_alloc ?_ _)); exact BK139.out⟩, ⟨zb⟩⟩
   case round =>
    clear H'
    (try clear c1); (try clear p1); (try clear q1); (try clear hx1); (try clear c2); (try clear p2); (try clear c4); (try clear c4b0); (try clear c4b1); (try clear p6); (try clear c10); (try clear c10b0); (try clear c11); (try clear c11b0); (try clear c12); (try clear c12b0); (try clear p13); (try clear q13); (try clear hx13); (try clear hf13); (try clear hx13_0); (try clear p13); (try clear p2); (try clear q13)
    obtain ⟨x8_2, x9_2, x10_2, x28_2, rfl, HA, HK2, HO_8, HO_9, HO_10, BK138, BK139, HB⟩ := hrel
    have hl10_2 := (Kd.R_reads' HO_10.out).1
    rw [hl10_2] at HO_10
    (try simp only [hl10_2])
    (try simp only [hl10_2] at BK138)
    (try simp only [hl10_2] at BK139)
    (try simp only [hl10_2] at HO_8)
    (try simp only [hl10_2] at HO_9)
    cases gk with
    | zero => exact absurd HA.out (by simp [spec_pyAll.l1])
    | succ k2 =>
     have H := HA.out
     clear HA
     simp only [spec_pyAll.l1] at H
     by_cases c16 : x28_2 < (l1.length : Int)
     rotate_left
     ·
      rw [if_neg c16] at H
      have c16b0 : decide (x28_2 < (l1.length : Int)) = false := decide_eq_false c16
      (try (have c16z0 := c16b0; simp only [hl10_1] at c16z0))
      (try (have c16z0 := c16b0; simp only [hl10_2] at c16z0))
      clear c16
      simp only [Option.some.injEq, Prod.mk.injEq] at H
      obtain ⟨rfl, rfl⟩ := H
      go_wp2
      repeat (go_quiet (fail); try go_wp2)
      go_ret2
      exact ⟨_, _, zr, zP HO_8.out, zP (Kd.R_mono HO_9.out (fun _ hk => trivial)), zb⟩
     rw [if_pos c16] at H
     have c16b0 : decide (x28_2 < (l1.length : Int)) = true := decide_eq_true c16
     clear c16
     by_cases c17 : 0 ≤ x28_2
     rotate_left
     ·
      rw [if_neg c17] at H
      exact absurd H (by simp)
     rw [if_pos c17] at H
     have c17b0 : decide (0 ≤ x28_2) = true := decide_eq_true c17
     clear c17
     by_cases c18 : x28_2 < (l1.length : Int)
     rotate_left
     ·
      rw [if_neg c18] at H
      exact absurd H (by simp)
     rw [if_pos c18] at H
     have c18b0 : decide (x28_2 < (l1.length : Int)) = true := decide_eq_true c18
     clear c18
     by_cases c19 : ((rd_T60 l1 x28_2).f0) ≥ (l0_0.length : Int)
     ·
      rw [if_pos c19] at H
      have c19b0 : decide ((l0_0.length : Int) ≤ ((rd_T60 l1 x28_2).f0)) = true := decide_eq_true c19
      clear c19
      by_cases c20 : x9_2.length < 17592186044416
      rotate_left
      ·
       rw [if_neg c20] at H
       exact absurd H (by simp)
      rw [if_pos c20] at H
      have LMc20 := zm c20
      clear c20
      obtain ⟨y146, hy146⟩ : ∃ y_ : List Int, y_ = (x9_2 ++ [x28_2]) := ⟨_, rfl⟩
      replace H : (spec_pyAll.l1 k2 x8_2 y146 x10_2 l1 (l1.length : Int) (wrap64 (x28_2 + 1)) l0_0 a0_1 a2_0 a2_1 a2_2) = some (r1, r2) := by first | (rw [hy146]; with_reducible exact H) | (have H2_ := (Option.bind_some _ _).symm.trans H; rw [hy146]; with_reducible exact H2_) | (have H2_ := (Option.bind_some _ _).symm.trans H; with_reducible exact H2_) | with_reducible exact H | (rw [hy146]; exact H) | exact H
      have Ny146 := zm hy146
      clear hy146
      have H' := zm H
      clear H
      have p144 : 0 ≤ (x28_2 : Int) := zd
      have q144 : x28_2 < (l1.length : Int) := zd
      obtain ⟨ad144, e144, hx144_0, hx144_1, hx144_2⟩ := at_T60 HR1.out x28_2 p144 q144
      cases e144
      replace hx144_0 := zx HB.out hx144_0
      replace hx144_1 := zx HB.out hx144_1
      replace hx144_2 := zx HB.out hx144_2
      replace p144 := eq_true p144
      replace q144 := eq_true q144
      go_wp2_with (first | ((with_reducible refine gate_dst (N := 13) rfl ?_); refine box_event ?hg (N := 13) ?hd (cs := #[.int .i64 0, .int .i64 0, .int .i64 0]) (t := 60) ?hr ?_; (case hd => rfl); (case hg => rfl); (case hr => first | (go_simp; done) | (go_simp; rfl)); intro gb145 hg w21 hbox hb; replace HO_8 := zm (Kd.R_below (zP HO_8.out) hb); replace HO_9 := zm (Kd.R_below (zP HO_9.out) hb); replace HO_10 := zm (Kd.R_below (zP HO_10.out) hb); have n3_ := zm (blk_below (g := gb138) zk hb); have n4_ := zm (blk_below (g := gb139) zk hb); have n5_ := zm (below_step zb hb); have BK145 := zm (hbox); have GW145 := zm (zs hg zb : w.heap.size ≤ gb145); have GE145 := zm (zs hg zb : w.heap.size ≤ gb145); have NB138_145 := zm (zl hg zk : gb138 ≠ gb145); have NB145_138 := zm (zg hg zk : gb145 ≠ gb138); have NB139_145 := zm (zl hg zk : gb139 ≠ gb145); have NB145_139 := zm (zg hg zk : gb145 ≠ gb139); replace BK138 := n3_; replace BK139 := n4_; replace HB := n5_; clear n3_ n4_ n5_; clear hb hbox hg; have hnb22 := NB145_138.out; have hnc22 := NB138_145.out; have hnb23 := NB145_139.out; have hnc23 := NB139_145.out; obtain ⟨hcz24_0, hcz24_1, hcz24_2, hfz24_0, hfz24_1, hfz24_2⟩ := zc3 BK145.out; have hnb25 := NB139_138.out; have hnc25 := NB138_139.out; obtain ⟨hcz26_0, hcz26_1, hcz26_2, hfz26_0, hfz26_1, hfz26_2⟩ := zc3 BK139.out; obtain ⟨hcz27_0, hcz27_1, hfz27_0, hfz27_1⟩ := zc2 BK138.out) | ((with_reducible refine gate_builtin (b := .append) (xs := #[.tmp 78, .tmp 80]) rfl ?_); at_builtin; refine Kd.R_append (Kd.int .i64) (w0 := w) w.heap.size rfl (.tmp 78) (.tmp 80) 22 3 (.int .i64 0) 8 rfl Tryd.underlying22 info3 rfl (by decide) (by omega) u9 x9_2 x28_2 [.int .i64 x28_2] (fun k_ => some k_ ≠ (.slice Ao9 x10_2.length co9 : Value).ownBlock) (fun _ => False) rfl (by first | (go_simp; done) | (go_simp; rfl)) ?aP (fun _ hk => hk.elim) ?aF ?aO ?aB ?aS ?aL ?_; (case aP => exact rfl); (case aB => exact zb); (case aF => exact (fun k_ hk => Kd.fresh' (Kd.R_lt (zP ((Kd.R_mono (Kd.R_far (p := ⟨gb145, 2, none⟩) (Kd.R_far (p := ⟨gb145, 1, none⟩) (Kd.R_far (p := ⟨gb145, 0, none⟩) (Kd.R_types HO_10.out BK145.out (by decide)) (fun _ hk => hk.2) (.int .i64 ((rd_T60 l1 x28_2).f0))) (fun _ hk => hk.2) (.int .i64 ((rd_T60 l1 x28_2).f1))) (fun _ hk => hk.2) (.int .i64 ((rd_T60 l1 x28_2).f2))) (fun _ h_ => h_.1))))) k_ hk)); (case aO => exact (zP (Kd.R_mono (Kd.R_far (p := ⟨gb145, 2, none⟩) (Kd.R_far (p := ⟨gb145, 1, none⟩) (Kd.R_far (p := ⟨gb145, 0, none⟩) (Kd.R_types HO_9.out BK145.out (by decide)) (fun _ hk => hk.2) (.int .i64 ((rd_T60 l1 x28_2).f0))) (fun _ hk => hk.2) (.int .i64 ((rd_T60 l1 x28_2).f1))) (fun _ hk => hk.2) (.int .i64 ((rd_T60 l1 x28_2).f2))) (fun _ hk => hk.1)))); (case aS => exact (below_size zb)); (case aL => have := LMc20.out; omega); intro v147 w28 ho hb hg hat; rw [← Ny146.out] at ho; replace HO_8 := zm (Kd.R_over' (zP ((Kd.R_mono (Kd.R_far (p := ⟨gb145, 2, none⟩) (Kd.R_far (p := ⟨gb145, 1, none⟩) (Kd.R_far (p := ⟨gb145, 0, none⟩) (Kd.R_types HO_8.out BK145.out (by decide)) (fun _ hk => hk.2) (.int .i64 ((rd_T60 l1 x28_2).f0))) (fun _ hk => hk.2) (.int .i64 ((rd_T60 l1 x28_2).f1))) (fun _ hk => hk.2) (.int .i64 ((rd_T60 l1 x28_2).f2))) (fun _ h_ => h_.1)))) (Kd.R_typed (zP ((Kd.R_mono (Kd.R_far (p := ⟨gb145, 2, none⟩) (Kd.R_far (p := ⟨gb145, 1, none⟩) (Kd.R_far (p := ⟨gb145, 0, none⟩) (Kd.R_types HO_9.out BK145.out (by decide)) (fun _ hk => hk.2) (.int .i64 ((rd_T60 l1 x28_2).f0))) (fun _ hk => hk.2) (.int .i64 ((rd_T60 l1 x28_2).f1))) (fun _ hk => hk.2) (.int .i64 ((rd_T60 l1 x28_2).f2))) (fun _ h_ => h_.1))))) (by decide) hg); replace HO_10 := zm (Kd.R_after (ok := (fun _ => True)) (zP (Kd.R_mono (Kd.R_far (p := ⟨gb145, 2, none⟩) (Kd.R_far (p := ⟨gb145, 1, none⟩) (Kd.R_far (p := ⟨gb145, 0, none⟩) (Kd.R_types HO_10.out BK145.out (by decide)) (fun _ hk => hk.2) (.int .i64 ((rd_T60 l1 x28_2).f0))) (fun _ hk => hk.2) (.int .i64 ((rd_T60 l1 x28_2).f1))) (fun _ hk => hk.2) (.int .i64 ((rd_T60 l1 x28_2).f2))) (fun _ hk => ⟨trivial, hk.1⟩))) hg hat); have n2_ := zm (blk_grown (g := gb138) (o := .cells #[.slice A0_0 l0_0.length c0_0, .int .i64 a0_1] 32 (0, 0)) zK hg (Kd.R_ne HO_9.out BK138.out (by decide))); replace BK139 := zm (blk_grown (g := gb139) (o := .cells #[.int .i64 a2_0, .int .i64 a2_1, .int .i64 a2_2] 36 (0, 0)) zK hg (Kd.R_ne HO_9.out BK139.out (by decide))); replace BK145 := zm (blk_grown (g := gb145) (o := .cells #[.int .i64 ((rd_T60 l1 x28_2).f0), .int .i64 ((rd_T60 l1 x28_2).f1), .int .i64 ((rd_T60 l1 x28_2).f2)] 60 (0, 0)) (by (with_reducible repeat (first | refine blk_drewN ?_ _ | refine blk_drew ?_ | refine blk_alloc ?_ _)); refine blk_put (cs := #[.int .i64 ((rd_T60 l1 x28_2).f0), .int .i64 ((rd_T60 l1 x28_2).f1), .int .i64 0]) ?_ 2 _ rfl; (with_reducible repeat (first | refine blk_drewN ?_ _ | refine blk_drew ?_ | refine blk_alloc ?_ _)); refine blk_put (cs := #[.int .i64 ((rd_T60 l1 x28_2).f0), .int .i64 0, .int .i64 0]) ?_ 1 _ rfl; (with_reducible repeat (first | refine blk_drewN ?_ _ | refine blk_drew ?_ | refine blk_alloc ?_ _)); refine blk_put (cs := #[.int .i64 0, .int .i64 0, .int .i64 0]) ?_ 0 _ rfl; (with_reducible repeat (first | refine blk_drewN ?_ _ | refine blk_drew ?_ | refine blk_alloc ?_ _)); exact BK145.out) hg (Kd.R_ne HO_9.out BK145.out (by decide))); replace HB := zm (hb); have HO148 := zm (ho); replace BK138 := n2_; clear HO_9 n2_; clear ho hb hg hat) | ((with_reducible refine spec_pyAll.gq ?_); go_quiet (fail)))
      (try simp only [← hl10_2])
      go_roundg k2
      case measure => have := HK1.out; have := HK2.out; omega
      case rel => exact ⟨(x8_2), (y146), (x10_2), (wrap64 (x28_2 + 1)), (by first | rfl | (simp; done) | (simp [*]; done)), H', ⟨by have := HK1.out; have := HK2.out; omega⟩, ⟨by (try simp only [hl10_1]); (try simp only [hl10_2]); (with_reducible repeat (first | apply Kd.R_alloc | apply Kd.R_drewN | apply Kd.R_drew)); exact HO_8.out⟩, ⟨by (try simp only [hl10_1]); (try simp only [hl10_2]); (with_reducible repeat (first | apply Kd.R_alloc | apply Kd.R_drewN | apply Kd.R_drew)); exact HO148.out⟩, ⟨by (try simp only [hl10_1]); (try simp only [hl10_2]); (with_reducible repeat (first | apply Kd.R_alloc | apply Kd.R_drewN | apply Kd.R_drew)); exact zM HO_10.out⟩, ⟨by (try simp only [hl10_1]); (try simp only [hl10_2]); (with_reducible repeat (first | refine blk_drewN ?_ _ | refine blk_drew ?_ | refine blk_alloc ?_ _)); exact BK138.out⟩, ⟨by (try simp only [hl10_1]); (try simp only [hl10_2]); (with_reducible repeat (first | refine blk_drewN ?_ _ | refine blk_drew ?_ | refine blk_alloc ?_ _)); exact BK139.out⟩, ⟨zb⟩⟩
     rw [if_neg c19] at H
     have c19b0 : decide ((l0_0.length : Int) ≤ ((rd_T60 l1 x28_2).f0)) = false := decide_eq_false c19
     (try (have c19z0 := c19b0; simp only [hl10_1] at c19z0))
     (try (have c19z0 := c19b0; simp only [hl10_2] at c19z0))
     clear c19
     by_cases c29 : (wrap64 (((rd_T60 l1 x28_2).f2) - ((rd_T60 l1 x28_2).f1))) < a2_2
     ·
      rw [if_pos c29] at H
      have c29b0 : decide ((wrap64 (((rd_T60 l1 x28_2).f2) - ((rd_T60 l1 x28_2).f1))) < a2_2) = true := decide_eq_true c29
      clear c29
      by_cases c30 : x9_2.length < 17592186044416
      rotate_left
      ·
       rw [if_neg c30] at H
       exact absurd H (by simp)
      rw [if_pos c30] at H
      have LMc30 := zm c30
      clear c30
      obtain ⟨y149, hy149⟩ : ∃ y_ : List Int, y_ = (x9_2 ++ [x28_2]) := ⟨_, rfl⟩
      replace H : (spec_pyAll.l1 k2 x8_2 y149 x10_2 l1 (l1.length : Int) (wrap64 (x28_2 + 1)) l0_0 a0_1 a2_0 a2_1 a2_2) = some (r1, r2) := by first | (rw [hy149]; with_reducible exact H) | (have H2_ := (Option.bind_some _ _).symm.trans H; rw [hy149]; with_reducible exact H2_) | (have H2_ := (Option.bind_some _ _).symm.trans H; with_reducible exact H2_) | with_reducible exact H | (rw [hy149]; exact H) | exact H
      have Ny149 := zm hy149
      clear hy149
      have H' := zm H
      clear H
      have p144 : 0 ≤ (x28_2 : Int) := zd
      have q144 : x28_2 < (l1.length : Int) := zd
      obtain ⟨ad144, e144, hx144_0, hx144_1, hx144_2⟩ := at_T60 HR1.out x28_2 p144 q144
      cases e144
      replace hx144_0 := zx HB.out hx144_0
      replace hx144_1 := zx HB.out hx144_1
      replace hx144_2 := zx HB.out hx144_2
      replace p144 := eq_true p144
      replace q144 := eq_true q144
      go_wp2_with (first | ((with_reducible refine gate_dst (N := 13) rfl ?_); refine box_event ?hg (N := 13) ?hd (cs := #[.int .i64 0, .int .i64 0, .int .i64 0]) (t := 60) ?hr ?_; (case hd => rfl); (case hg => rfl); (case hr => first | (go_simp; done) | (go_simp; rfl)); intro gb145 hg w31 hbox hb; replace HO_8 := zm (Kd.R_below (zP HO_8.out) hb); replace HO_9 := zm (Kd.R_below (zP HO_9.out) hb); replace HO_10 := zm (Kd.R_below (zP HO_10.out) hb); have n3_ := zm (blk_below (g := gb138) zk hb); have n4_ := zm (blk_below (g := gb139) zk hb); have n5_ := zm (below_step zb hb); have BK145 := zm (hbox); have GW145 := zm (zs hg zb : w.heap.size ≤ gb145); have GE145 := zm (zs hg zb : w.heap.size ≤ gb145); have NB138_145 := zm (zl hg zk : gb138 ≠ gb145); have NB145_138 := zm (zg hg zk : gb145 ≠ gb138); have NB139_145 := zm (zl hg zk : gb139 ≠ gb145); have NB145_139 := zm (zg hg zk : gb145 ≠ gb139); replace BK138 := n3_; replace BK139 := n4_; replace HB := n5_; clear n3_ n4_ n5_; clear hb hbox hg; have hnb32 := NB145_138.out; have hnc32 := NB138_145.out; have hnb33 := NB145_139.out; have hnc33 := NB139_145.out; obtain ⟨hcz34_0, hcz34_1, hcz34_2, hfz34_0, hfz34_1, hfz34_2⟩ := zc3 BK145.out; have hnb35 := NB139_138.out; have hnc35 := NB138_139.out; obtain ⟨hcz36_0, hcz36_1, hcz36_2, hfz36_0, hfz36_1, hfz36_2⟩ := zc3 BK139.out; obtain ⟨hcz37_0, hcz37_1, hfz37_0, hfz37_1⟩ := zc2 BK138.out) | ((with_reducible refine gate_builtin (b := .append) (xs := #[.tmp 78, .tmp 80]) rfl ?_); at_builtin; refine Kd.R_append (Kd.int .i64) (w0 := w) w.heap.size rfl (.tmp 78) (.tmp 80) 22 3 (.int .i64 0) 8 rfl Tryd.underlying22 info3 rfl (by decide) (by omega) u9 x9_2 x28_2 [.int .i64 x28_2] (fun k_ => some k_ ≠ (.slice Ao9 x10_2.length co9 : Value).ownBlock) (fun _ => False) rfl (by first | (go_simp; done) | (go_simp; rfl)) ?aP (fun _ hk => hk.elim) ?aF ?aO ?aB ?aS ?aL ?_; (case aP => exact rfl); (case aB => exact zb); (case aF => exact (fun k_ hk => Kd.fresh' (Kd.R_lt (zP ((Kd.R_mono (Kd.R_far (p := ⟨gb145, 2, none⟩) (Kd.R_far (p := ⟨gb145, 1, none⟩) (Kd.R_far (p := ⟨gb145, 0, none⟩) (Kd.R_types HO_10.out BK145.out (by decide)) (fun _ hk => hk.2) (.int .i64 ((rd_T60 l1 x28_2).f0))) (fun _ hk => hk.2) (.int .i64 ((rd_T60 l1 x28_2).f1))) (fun _ hk => hk.2) (.int .i64 ((rd_T60 l1 x28_2).f2))) (fun _ h_ => h_.1))))) k_ hk)); (case aO => exact (zP (Kd.R_mono (Kd.R_far (p := ⟨gb145, 2, none⟩) (Kd.R_far (p := ⟨gb145, 1, none⟩) (Kd.R_far (p := ⟨gb145, 0, none⟩) (Kd.R_types HO_9.out BK145.out (by decide)) (fun _ hk => hk.2) (.int .i64 ((rd_T60 l1 x28_2).f0))) (fun _ hk => hk.2) (.int .i64 ((rd_T60 l1 x28_2).f1))) (fun _ hk => hk.2) (.int .i64 ((rd_T60 l1 x28_2).f2))) (fun _ hk => hk.1)))); (case aS => exact (below_size zb)); (case aL => have := LMc30.out; omega); intro v150 w38 ho hb hg hat; rw [← Ny149.out] at ho; replace HO_8 := zm (Kd.R_over' (zP ((Kd.R_mono (Kd.R_far (p := ⟨gb145, 2, none⟩) (Kd.R_far (p := ⟨gb145, 1, none⟩) (Kd.R_far (p := ⟨gb145, 0, none⟩) (Kd.R_types HO_8.out BK145.out (by decide)) (fun _ hk => hk.2) (.int .i64 ((rd_T60 l1 x28_2).f0))) (fun _ hk => hk.2) (.int .i64 ((rd_T60 l1 x28_2).f1))) (fun _ hk => hk.2) (.int .i64 ((rd_T60 l1 x28_2).f2))) (fun _ h_ => h_.1)))) (Kd.R_typed (zP ((Kd.R_mono (Kd.R_far (p := ⟨gb145, 2, none⟩) (Kd.R_far (p := ⟨gb145, 1, none⟩) (Kd.R_far (p := ⟨gb145, 0, none⟩) (Kd.R_types HO_9.out BK145.out (by decide)) (fun _ hk => hk.2) (.int .i64 ((rd_T60 l1 x28_2).f0))) (fun _ hk => hk.2) (.int .i64 ((rd_T60 l1 x28_2).f1))) (fun _ hk => hk.2) (.int .i64 ((rd_T60 l1 x28_2).f2))) (fun _ h_ => h_.1))))) (by decide) hg); replace HO_10 := zm (Kd.R_after (ok := (fun _ => True)) (zP (Kd.R_mono (Kd.R_far (p := ⟨gb145, 2, none⟩) (Kd.R_far (p := ⟨gb145, 1, none⟩) (Kd.R_far (p := ⟨gb145, 0, none⟩) (Kd.R_types HO_10.out BK145.out (by decide)) (fun _ hk => hk.2) (.int .i64 ((rd_T60 l1 x28_2).f0))) (fun _ hk => hk.2) (.int .i64 ((rd_T60 l1 x28_2).f1))) (fun _ hk => hk.2) (.int .i64 ((rd_T60 l1 x28_2).f2))) (fun _ hk => ⟨trivial, hk.1⟩))) hg hat); have n2_ := zm (blk_grown (g := gb138) (o := .cells #[.slice A0_0 l0_0.length c0_0, .int .i64 a0_1] 32 (0, 0)) zK hg (Kd.R_ne HO_9.out BK138.out (by decide))); replace BK139 := zm (blk_grown (g := gb139) (o := .cells #[.int .i64 a2_0, .int .i64 a2_1, .int .i64 a2_2] 36 (0, 0)) zK hg (Kd.R_ne HO_9.out BK139.out (by decide))); replace BK145 := zm (blk_grown (g := gb145) (o := .cells #[.int .i64 ((rd_T60 l1 x28_2).f0), .int .i64 ((rd_T60 l1 x28_2).f1), .int .i64 ((rd_T60 l1 x28_2).f2)] 60 (0, 0)) (by (with_reducible repeat (first | refine blk_drewN ?_ _ | refine blk_drew ?_ | refine blk_alloc ?_ _)); refine blk_put (cs := #[.int .i64 ((rd_T60 l1 x28_2).f0), .int .i64 ((rd_T60 l1 x28_2).f1), .int .i64 0]) ?_ 2 _ rfl; (with_reducible repeat (first | refine blk_drewN ?_ _ | refine blk_drew ?_ | refine blk_alloc ?_ _)); refine blk_put (cs := #[.int .i64 ((rd_T60 l1 x28_2).f0), .int .i64 0, .int .i64 0]) ?_ 1 _ rfl; (with_reducible repeat (first | refine blk_drewN ?_ _ | refine blk_drew ?_ | refine blk_alloc ?_ _)); refine blk_put (cs := #[.int .i64 0, .int .i64 0, .int .i64 0]) ?_ 0 _ rfl; (with_reducible repeat (first | refine blk_drewN ?_ _ | refine blk_drew ?_ | refine blk_alloc ?_ _)); exact BK145.out) hg (Kd.R_ne HO_9.out BK145.out (by decide))); replace HB := zm (hb); have HO151 := zm (ho); replace BK138 := n2_; clear HO_9 n2_; clear ho hb hg hat) | ((with_reducible refine spec_pyAll.gq ?_); go_quiet (fail)))
      (try simp only [← hl10_2])
      go_roundg k2
      case measure => have := HK1.out; have := HK2.out; omega
      case rel => exact ⟨(x8_2), (y149), (x10_2), (wrap64 (x28_2 + 1)), (by first | rfl | (simp; done) | (simp [*]; done)), H', ⟨by have := HK1.out; have := HK2.out; omega⟩, ⟨by (try simp only [hl10_1]); (try simp only [hl10_2]); (with_reducible repeat (first | apply Kd.R_alloc | apply Kd.R_drewN | apply Kd.R_drew)); exact HO_8.out⟩, ⟨by (try simp only [hl10_1]); (try simp only [hl10_2]); (with_reducible repeat (first | apply Kd.R_alloc | apply Kd.R_drewN | apply Kd.R_drew)); exact HO151.out⟩, ⟨by (try simp only [hl10_1]); (try simp only [hl10_2]); (with_reducible repeat (first | apply Kd.R_alloc | apply Kd.R_drewN | apply Kd.R_drew)); exact zM HO_10.out⟩, ⟨by (try simp only [hl10_1]); (try simp only [hl10_2]); (with_reducible repeat (first | refine blk_drewN ?_ _ | refine blk_drew ?_ | refine blk_alloc ?_ _)); exact BK138.out⟩, ⟨by (try simp only [hl10_1]); (try simp only [hl10_2]); (with_reducible repeat (first | refine blk_drewN ?_ _ | refine blk_drew ?_ | refine blk_alloc ?_ _)); exact BK139.out⟩, ⟨zb⟩⟩
     rw [if_neg c29] at H
     have c29b0 : decide ((wrap64 (((rd_T60 l1 x28_2).f2) - ((rd_T60 l1 x28_2).f1))) < a2_2) = false := decide_eq_false c29
     clear c29
     by_cases c39 : 0 ≤ ((rd_T60 l1 x28_2).f0)
     rotate_left
     ·
      rw [if_neg c39] at H
      exact absurd H (by simp)
     rw [if_pos c39] at H
     have c39b0 : decide (0 ≤ ((rd_T60 l1 x28_2).f0)) = true := decide_eq_true c39
     clear c39
     by_cases c40 : ((rd_T60 l1 x28_2).f0) < (x10_2.length : Int)
     rotate_left
     ·
      rw [if_neg c40] at H
      exact absurd H (by simp)
     rw [if_pos c40] at H
     have c40b0 : decide (((rd_T60 l1 x28_2).f0) < (x10_2.length : Int)) = true := decide_eq_true c40
     clear c40
     by_cases c41 : (wrap64 (((rd_T60 l1 x28_2).f1) - (rd x10_2 ((rd_T60 l1 x28_2).f0)))) < (wrap64 (2 * a0_1))
     ·
      rw [if_pos c41] at H
      have c41b0 : decide ((wrap64 (((rd_T60 l1 x28_2).f1) - (rd x10_2 ((rd_T60 l1 x28_2).f0)))) < (wrap64 (2 * a0_1))) = true := decide_eq_true c41
      clear c41
      by_cases c42 : x9_2.length < 17592186044416
      rotate_left
      ·
       rw [if_neg c42] at H
       exact absurd H (by simp)
      rw [if_pos c42] at H
      have LMc42 := zm c42
      clear c42
      obtain ⟨y153, hy153⟩ : ∃ y_ : List Int, y_ = (x9_2 ++ [x28_2]) := ⟨_, rfl⟩
      replace H : (spec_pyAll.l1 k2 x8_2 y153 x10_2 l1 (l1.length : Int) (wrap64 (x28_2 + 1)) l0_0 a0_1 a2_0 a2_1 a2_2) = some (r1, r2) := by first | (rw [hy153]; with_reducible exact H) | (have H2_ := (Option.bind_some _ _).symm.trans H; rw [hy153]; with_reducible exact H2_) | (have H2_ := (Option.bind_some _ _).symm.trans H; with_reducible exact H2_) | with_reducible exact H | (rw [hy153]; exact H) | exact H
      have Ny153 := zm hy153
      clear hy153
      have H' := zm H
      clear H
      have p144 : 0 ≤ (x28_2 : Int) := zd
      have q144 : x28_2 < (l1.length : Int) := zd
      obtain ⟨ad144, e144, hx144_0, hx144_1, hx144_2⟩ := at_T60 HR1.out x28_2 p144 q144
      cases e144
      replace hx144_0 := zx HB.out hx144_0
      replace hx144_1 := zx HB.out hx144_1
      replace hx144_2 := zx HB.out hx144_2
      replace p144 := eq_true p144
      replace q144 := eq_true q144
      go_wp2_with (first | ((with_reducible refine gate_dst (N := 13) rfl ?_); refine box_event ?hg (N := 13) ?hd (cs := #[.int .i64 0, .int .i64 0, .int .i64 0]) (t := 60) ?hr ?_; (case hd => rfl); (case hg => rfl); (case hr => first | (go_simp; done) | (go_simp; rfl)); intro gb145 hg w43 hbox hb; replace HO_8 := zm (Kd.R_below (zP HO_8.out) hb); replace HO_9 := zm (Kd.R_below (zP HO_9.out) hb); replace HO_10 := zm (Kd.R_below (zP HO_10.out) hb); have n3_ := zm (blk_below (g := gb138) zk hb); have n4_ := zm (blk_below (g := gb139) zk hb); have n5_ := zm (below_step zb hb); have BK145 := zm (hbox); have GW145 := zm (zs hg zb : w.heap.size ≤ gb145); have GE145 := zm (zs hg zb : w.heap.size ≤ gb145); have NB138_145 := zm (zl hg zk : gb138 ≠ gb145); have NB145_138 := zm (zg hg zk : gb145 ≠ gb138); have NB139_145 := zm (zl hg zk : gb139 ≠ gb145); have NB145_139 := zm (zg hg zk : gb145 ≠ gb139); replace BK138 := n3_; replace BK139 := n4_; replace HB := n5_; clear n3_ n4_ n5_; clear hb hbox hg; have hnb44 := NB145_138.out; have hnc44 := NB138_145.out; have hnb45 := NB145_139.out; have hnc45 := NB139_145.out; obtain ⟨hcz46_0, hcz46_1, hcz46_2, hfz46_0, hfz46_1, hfz46_2⟩ := zc3 BK145.out; have hnb47 := NB139_138.out; have hnc47 := NB138_139.out; obtain ⟨hcz48_0, hcz48_1, hcz48_2, hfz48_0, hfz48_1, hfz48_2⟩ := zc3 BK139.out; obtain ⟨hcz49_0, hcz49_1, hfz49_0, hfz49_1⟩ := zc2 BK138.out; have p152 : 0 ≤ (((rd_T60 l1 x28_2).f0) : Int) := zd; have q152 : ((rd_T60 l1 x28_2).f0) < (x10_2.length : Int) := zd; obtain ⟨ad152, e152, hx152_0⟩ := Kd.at_int (Kd.R_reads' HO_10.out).2.2 ((rd_T60 l1 x28_2).f0) p152 q152; cases e152; have hn152_0 : ad152.block ≠ gb145 := Kd.own_blk (Kd.R_ne HO_10.out BK145.out (by decide)); have hn152_1 : ad152.block ≠ gb145 := Kd.own_blk (Kd.R_ne HO_10.out BK145.out (by decide)); have hn152_2 : ad152.block ≠ gb145 := Kd.own_blk (Kd.R_ne HO_10.out BK145.out (by decide)); replace hx152_0 := zf (p := ⟨gb145, 0, none⟩) (.int .i64 ((rd_T60 l1 x28_2).f0)) hx152_0; replace hx152_0 := zf (p := ⟨gb145, 1, none⟩) (.int .i64 ((rd_T60 l1 x28_2).f1)) hx152_0; replace hx152_0 := zf (p := ⟨gb145, 2, none⟩) (.int .i64 ((rd_T60 l1 x28_2).f2)) hx152_0; (try have hy152_0 := fun (n_ : Nat) => (show (((((w43.drewN n_).setCell ⟨gb145, 0, none⟩ (.int .i64 ((rd_T60 l1 x28_2).f0))).setCell ⟨gb145, 1, none⟩ (.int .i64 ((rd_T60 l1 x28_2).f1))).setCell ⟨gb145, 2, none⟩ (.int .i64 ((rd_T60 l1 x28_2).f2)))).cell? _ = some _ from hx152_0)); clear hn152_0; clear hn152_1; clear hn152_2; replace p152 := eq_true p152; replace q152 := eq_true q152) | ((with_reducible refine gate_builtin (b := .append) (xs := #[.tmp 78, .tmp 80]) rfl ?_); at_builtin; refine Kd.R_append (Kd.int .i64) (w0 := w) w.heap.size rfl (.tmp 78) (.tmp 80) 22 3 (.int .i64 0) 8 rfl Tryd.underlying22 info3 rfl (by decide) (by omega) u9 x9_2 x28_2 [.int .i64 x28_2] (fun k_ => some k_ ≠ (.slice (some ad152) x10_2.length co9 : Value).ownBlock) (fun _ => False) rfl (by first | (go_simp; done) | (go_simp; rfl)) ?aP (fun _ hk => hk.elim) ?aF ?aO ?aB ?aS ?aL ?_; (case aP => exact rfl); (case aB => exact zb); (case aF => exact (fun k_ hk => Kd.fresh' (Kd.R_lt (zP ((Kd.R_mono (Kd.R_far (p := ⟨gb145, 2, none⟩) (Kd.R_far (p := ⟨gb145, 1, none⟩) (Kd.R_far (p := ⟨gb145, 0, none⟩) (Kd.R_types HO_10.out BK145.out (by decide)) (fun _ hk => hk.2) (.int .i64 ((rd_T60 l1 x28_2).f0))) (fun _ hk => hk.2) (.int .i64 ((rd_T60 l1 x28_2).f1))) (fun _ hk => hk.2) (.int .i64 ((rd_T60 l1 x28_2).f2))) (fun _ h_ => h_.1))))) k_ hk)); (case aO => exact (zP (Kd.R_mono (Kd.R_far (p := ⟨gb145, 2, none⟩) (Kd.R_far (p := ⟨gb145, 1, none⟩) (Kd.R_far (p := ⟨gb145, 0, none⟩) (Kd.R_types HO_9.out BK145.out (by decide)) (fun _ hk => hk.2) (.int .i64 ((rd_T60 l1 x28_2).f0))) (fun _ hk => hk.2) (.int .i64 ((rd_T60 l1 x28_2).f1))) (fun _ hk => hk.2) (.int .i64 ((rd_T60 l1 x28_2).f2))) (fun _ hk => hk.1)))); (case aS => exact (below_size zb)); (case aL => have := LMc42.out; omega); intro v154 w50 ho hb hg hat; rw [← Ny153.out] at ho; replace HO_8 := zm (Kd.R_over' (zP ((Kd.R_mono (Kd.R_far (p := ⟨gb145, 2, none⟩) (Kd.R_far (p := ⟨gb145, 1, none⟩) (Kd.R_far (p := ⟨gb145, 0, none⟩) (Kd.R_types HO_8.out BK145.out (by decide)) (fun _ hk => hk.2) (.int .i64 ((rd_T60 l1 x28_2).f0))) (fun _ hk => hk.2) (.int .i64 ((rd_T60 l1 x28_2).f1))) (fun _ hk => hk.2) (.int .i64 ((rd_T60 l1 x28_2).f2))) (fun _ h_ => h_.1)))) (Kd.R_typed (zP ((Kd.R_mono (Kd.R_far (p := ⟨gb145, 2, none⟩) (Kd.R_far (p := ⟨gb145, 1, none⟩) (Kd.R_far (p := ⟨gb145, 0, none⟩) (Kd.R_types HO_9.out BK145.out (by decide)) (fun _ hk => hk.2) (.int .i64 ((rd_T60 l1 x28_2).f0))) (fun _ hk => hk.2) (.int .i64 ((rd_T60 l1 x28_2).f1))) (fun _ hk => hk.2) (.int .i64 ((rd_T60 l1 x28_2).f2))) (fun _ h_ => h_.1))))) (by decide) hg); replace HO_10 := zm (Kd.R_after (ok := (fun _ => True)) (zP (Kd.R_mono (Kd.R_far (p := ⟨gb145, 2, none⟩) (Kd.R_far (p := ⟨gb145, 1, none⟩) (Kd.R_far (p := ⟨gb145, 0, none⟩) (Kd.R_types HO_10.out BK145.out (by decide)) (fun _ hk => hk.2) (.int .i64 ((rd_T60 l1 x28_2).f0))) (fun _ hk => hk.2) (.int .i64 ((rd_T60 l1 x28_2).f1))) (fun _ hk => hk.2) (.int .i64 ((rd_T60 l1 x28_2).f2))) (fun _ hk => ⟨trivial, hk.1⟩))) hg hat); have n2_ := zm (blk_grown (g := gb138) (o := .cells #[.slice A0_0 l0_0.length c0_0, .int .i64 a0_1] 32 (0, 0)) zK hg (Kd.R_ne HO_9.out BK138.out (by decide))); replace BK139 := zm (blk_grown (g := gb139) (o := .cells #[.int .i64 a2_0, .int .i64 a2_1, .int .i64 a2_2] 36 (0, 0)) zK hg (Kd.R_ne HO_9.out BK139.out (by decide))); replace BK145 := zm (blk_grown (g := gb145) (o := .cells #[.int .i64 ((rd_T60 l1 x28_2).f0), .int .i64 ((rd_T60 l1 x28_2).f1), .int .i64 ((rd_T60 l1 x28_2).f2)] 60 (0, 0)) (by (with_reducible repeat (first | refine blk_drewN ?_ _ | refine blk_drew ?_ | refine blk_alloc ?_ _)); refine blk_put (cs := #[.int .i64 ((rd_T60 l1 x28_2).f0), .int .i64 ((rd_T60 l1 x28_2).f1), .int .i64 0]) ?_ 2 _ rfl; (with_reducible repeat (first | refine blk_drewN ?_ _ | refine blk_drew ?_ | refine blk_alloc ?_ _)); refine blk_put (cs := #[.int .i64 ((rd_T60 l1 x28_2).f0), .int .i64 0, .int .i64 0]) ?_ 1 _ rfl; (with_reducible repeat (first | refine blk_drewN ?_ _ | refine blk_drew ?_ | refine blk_alloc ?_ _)); refine blk_put (cs := #[.int .i64 0, .int .i64 0, .int .i64 0]) ?_ 0 _ rfl; (with_reducible repeat (first | refine blk_drewN ?_ _ | refine blk_drew ?_ | refine blk_alloc ?_ _)); exact BK145.out) hg (Kd.R_ne HO_9.out BK145.out (by decide))); replace HB := zm (hb); have HO155 := zm (ho); replace BK138 := n2_; clear HO_9 n2_; clear ho hb hg hat) | ((with_reducible refine spec_pyAll.gq ?_); go_quiet (fail)))
      (try simp only [← hl10_2])
      go_roundg k2
      case measure => have := HK1.out; have := HK2.out; omega
      case rel => exact ⟨(x8_2), (y153), (x10_2), (wrap64 (x28_2 + 1)), (by first | rfl | (simp; done) | (simp [*]; done)), H', ⟨by have := HK1.out; have := HK2.out; omega⟩, ⟨by (try simp only [hl10_1]); (try simp only [hl10_2]); (with_reducible repeat (first | apply Kd.R_alloc | apply Kd.R_drewN | apply Kd.R_drew)); exact HO_8.out⟩, ⟨by (try simp only [hl10_1]); (try simp only [hl10_2]); (with_reducible repeat (first | apply Kd.R_alloc | apply Kd.R_drewN | apply Kd.R_drew)); exact HO155.out⟩, ⟨by (try simp only [hl10_1]); (try simp only [hl10_2]); (with_reducible repeat (first | apply Kd.R_alloc | apply Kd.R_drewN | apply Kd.R_drew)); exact zM HO_10.out⟩, ⟨by (try simp only [hl10_1]); (try simp only [hl10_2]); (with_reducible repeat (first | refine blk_drewN ?_ _ | refine blk_drew ?_ | refine blk_alloc ?_ _)); exact BK138.out⟩, ⟨by (try simp only [hl10_1]); (try simp only [hl10_2]); (with_reducible repeat (first | refine blk_drewN ?_ _ | refine blk_drew ?_ | refine blk_alloc ?_ _)); exact BK139.out⟩, ⟨zb⟩⟩
     rw [if_neg c41] at H
     have c41b0 : decide ((wrap64 (((rd_T60 l1 x28_2).f1) - (rd x10_2 ((rd_T60 l1 x28_2).f0)))) < (wrap64 (2 * a0_1))) = false := decide_eq_false c41
     clear c41
     by_cases c51 : (wrap64 (((rd_T60 l1 x28_2).f1) + a2_0)) ≥ (wrap64 (((rd_T60 l1 x28_2).f2) + a2_1))
     ·
      rw [if_pos c51] at H
      have c51b0 : decide ((wrap64 (((rd_T60 l1 x28_2).f2) + a2_1)) ≤ (wrap64 (((rd_T60 l1 x28_2).f1) + a2_0))) = true := decide_eq_true c51
      clear c51
      by_cases c52 : x9_2.length < 17592186044416
      rotate_left
      ·
       rw [if_neg c52] at H
       exact absurd H (by simp)
      rw [if_pos c52] at H
      have LMc52 := zm c52
      clear c52
      obtain ⟨y156, hy156⟩ : ∃ y_ : List Int, y_ = (x9_2 ++ [x28_2]) := ⟨_, rfl⟩
      replace H : (spec_pyAll.l1 k2 x8_2 y156 x10_2 l1 (l1.length : Int) (wrap64 (x28_2 + 1)) l0_0 a0_1 a2_0 a2_1 a2_2) = some (r1, r2) := by first | (rw [hy156]; with_reducible exact H) | (have H2_ := (Option.bind_some _ _).symm.trans H; rw [hy156]; with_reducible exact H2_) | (have H2_ := (Option.bind_some _ _).symm.trans H; with_reducible exact H2_) | with_reducible exact H | (rw [hy156]; exact H) | exact H
      have Ny156 := zm hy156
      clear hy156
      have H' := zm H
      clear H
      have p144 : 0 ≤ (x28_2 : Int) := zd
      have q144 : x28_2 < (l1.length : Int) := zd
      obtain ⟨ad144, e144, hx144_0, hx144_1, hx144_2⟩ := at_T60 HR1.out x28_2 p144 q144
      cases e144
      replace hx144_0 := zx HB.out hx144_0
      replace hx144_1 := zx HB.out hx144_1
      replace hx144_2 := zx HB.out hx144_2
      replace p144 := eq_true p144
      replace q144 := eq_true q144
      go_wp2_with (first | ((with_reducible refine gate_dst (N := 13) rfl ?_); refine box_event ?hg (N := 13) ?hd (cs := #[.int .i64 0, .int .i64 0, .int .i64 0]) (t := 60) ?hr ?_; (case hd => rfl); (case hg => rfl); (case hr => first | (go_simp; done) | (go_simp; rfl)); intro gb145 hg w53 hbox hb; replace HO_8 := zm (Kd.R_below (zP HO_8.out) hb); replace HO_9 := zm (Kd.R_below (zP HO_9.out) hb); replace HO_10 := zm (Kd.R_below (zP HO_10.out) hb); have n3_ := zm (blk_below (g := gb138) zk hb); have n4_ := zm (blk_below (g := gb139) zk hb); have n5_ := zm (below_step zb hb); have BK145 := zm (hbox); have GW145 := zm (zs hg zb : w.heap.size ≤ gb145); have GE145 := zm (zs hg zb : w.heap.size ≤ gb145); have NB138_145 := zm (zl hg zk : gb138 ≠ gb145); have NB145_138 := zm (zg hg zk : gb145 ≠ gb138); have NB139_145 := zm (zl hg zk : gb139 ≠ gb145); have NB145_139 := zm (zg hg zk : gb145 ≠ gb139); replace BK138 := n3_; replace BK139 := n4_; replace HB := n5_; clear n3_ n4_ n5_; clear hb hbox hg; have hnb54 := NB145_138.out; have hnc54 := NB138_145.out; have hnb55 := NB145_139.out; have hnc55 := NB139_145.out; obtain ⟨hcz56_0, hcz56_1, hcz56_2, hfz56_0, hfz56_1, hfz56_2⟩ := zc3 BK145.out; have hnb57 := NB139_138.out; have hnc57 := NB138_139.out; obtain ⟨hcz58_0, hcz58_1, hcz58_2, hfz58_0, hfz58_1, hfz58_2⟩ := zc3 BK139.out; obtain ⟨hcz59_0, hcz59_1, hfz59_0, hfz59_1⟩ := zc2 BK138.out; have p152 : 0 ≤ (((rd_T60 l1 x28_2).f0) : Int) := zd; have q152 : ((rd_T60 l1 x28_2).f0) < (x10_2.length : Int) := zd; obtain ⟨ad152, e152, hx152_0⟩ := Kd.at_int (Kd.R_reads' HO_10.out).2.2 ((rd_T60 l1 x28_2).f0) p152 q152; cases e152; have hn152_0 : ad152.block ≠ gb145 := Kd.own_blk (Kd.R_ne HO_10.out BK145.out (by decide)); have hn152_1 : ad152.block ≠ gb145 := Kd.own_blk (Kd.R_ne HO_10.out BK145.out (by decide)); have hn152_2 : ad152.block ≠ gb145 := Kd.own_blk (Kd.R_ne HO_10.out BK145.out (by decide)); replace hx152_0 := zf (p := ⟨gb145, 0, none⟩) (.int .i64 ((rd_T60 l1 x28_2).f0)) hx152_0; replace hx152_0 := zf (p := ⟨gb145, 1, none⟩) (.int .i64 ((rd_T60 l1 x28_2).f1)) hx152_0; replace hx152_0 := zf (p := ⟨gb145, 2, none⟩) (.int .i64 ((rd_T60 l1 x28_2).f2)) hx152_0; (try have hy152_0 := fun (n_ : Nat) => (show (((((w53.drewN n_).setCell ⟨gb145, 0, none⟩ (.int .i64 ((rd_T60 l1 x28_2).f0))).setCell ⟨gb145, 1, none⟩ (.int .i64 ((rd_T60 l1 x28_2).f1))).setCell ⟨gb145, 2, none⟩ (.int .i64 ((rd_T60 l1 x28_2).f2)))).cell? _ = some _ from hx152_0)); clear hn152_0; clear hn152_1; clear hn152_2; replace p152 := eq_true p152; replace q152 := eq_true q152) | ((with_reducible refine gate_builtin (b := .append) (xs := #[.tmp 78, .tmp 80]) rfl ?_); at_builtin; refine Kd.R_append (Kd.int .i64) (w0 := w) w.heap.size rfl (.tmp 78) (.tmp 80) 22 3 (.int .i64 0) 8 rfl Tryd.underlying22 info3 rfl (by decide) (by omega) u9 x9_2 x28_2 [.int .i64 x28_2] (fun k_ => some k_ ≠ (.slice (some ad152) x10_2.length co9 : Value).ownBlock) (fun _ => False) rfl (by first | (go_simp; done) | (go_simp; rfl)) ?aP (fun _ hk => hk.elim) ?aF ?aO ?aB ?aS ?aL ?_; (case aP => exact rfl); (case aB => exact zb); (case aF => exact (fun k_ hk => Kd.fresh' (Kd.R_lt (zP ((Kd.R_mono (Kd.R_far (p := ⟨gb145, 2, none⟩) (Kd.R_far (p := ⟨gb145, 1, none⟩) (Kd.R_far (p := ⟨gb145, 0, none⟩) (Kd.R_types HO_10.out BK145.out (by decide)) (fun _ hk => hk.2) (.int .i64 ((rd_T60 l1 x28_2).f0))) (fun _ hk => hk.2) (.int .i64 ((rd_T60 l1 x28_2).f1))) (fun _ hk => hk.2) (.int .i64 ((rd_T60 l1 x28_2).f2))) (fun _ h_ => h_.1))))) k_ hk)); (case aO => exact (zP (Kd.R_mono (Kd.R_far (p := ⟨gb145, 2, none⟩) (Kd.R_far (p := ⟨gb145, 1, none⟩) (Kd.R_far (p := ⟨gb145, 0, none⟩) (Kd.R_types HO_9.out BK145.out (by decide)) (fun _ hk => hk.2) (.int .i64 ((rd_T60 l1 x28_2).f0))) (fun _ hk => hk.2) (.int .i64 ((rd_T60 l1 x28_2).f1))) (fun _ hk => hk.2) (.int .i64 ((rd_T60 l1 x28_2).f2))) (fun _ hk => hk.1)))); (case aS => exact (below_size zb)); (case aL => have := LMc52.out; omega); intro v157 w60 ho hb hg hat; rw [← Ny156.out] at ho; replace HO_8 := zm (Kd.R_over' (zP ((Kd.R_mono (Kd.R_far (p := ⟨gb145, 2, none⟩) (Kd.R_far (p := ⟨gb145, 1, none⟩) (Kd.R_far (p := ⟨gb145, 0, none⟩) (Kd.R_types HO_8.out BK145.out (by decide)) (fun _ hk => hk.2) (.int .i64 ((rd_T60 l1 x28_2).f0))) (fun _ hk => hk.2) (.int .i64 ((rd_T60 l1 x28_2).f1))) (fun _ hk => hk.2) (.int .i64 ((rd_T60 l1 x28_2).f2))) (fun _ h_ => h_.1)))) (Kd.R_typed (zP ((Kd.R_mono (Kd.R_far (p := ⟨gb145, 2, none⟩) (Kd.R_far (p := ⟨gb145, 1, none⟩) (Kd.R_far (p := ⟨gb145, 0, none⟩) (Kd.R_types HO_9.out BK145.out (by decide)) (fun _ hk => hk.2) (.int .i64 ((rd_T60 l1 x28_2).f0))) (fun _ hk => hk.2) (.int .i64 ((rd_T60 l1 x28_2).f1))) (fun _ hk => hk.2) (.int .i64 ((rd_T60 l1 x28_2).f2))) (fun _ h_ => h_.1))))) (by decide) hg); replace HO_10 := zm (Kd.R_after (ok := (fun _ => True)) (zP (Kd.R_mono (Kd.R_far (p := ⟨gb145, 2, none⟩) (Kd.R_far (p := ⟨gb145, 1, none⟩) (Kd.R_far (p := ⟨gb145, 0, none⟩) (Kd.R_types HO_10.out BK145.out (by decide)) (fun _ hk => hk.2) (.int .i64 ((rd_T60 l1 x28_2).f0))) (fun _ hk => hk.2) (.int .i64 ((rd_T60 l1 x28_2).f1))) (fun _ hk => hk.2) (.int .i64 ((rd_T60 l1 x28_2).f2))) (fun _ hk => ⟨trivial, hk.1⟩))) hg hat); have n2_ := zm (blk_grown (g := gb138) (o := .cells #[.slice A0_0 l0_0.length c0_0, .int .i64 a0_1] 32 (0, 0)) zK hg (Kd.R_ne HO_9.out BK138.out (by decide))); replace BK139 := zm (blk_grown (g := gb139) (o := .cells #[.int .i64 a2_0, .int .i64 a2_1, .int .i64 a2_2] 36 (0, 0)) zK hg (Kd.R_ne HO_9.out BK139.out (by decide))); replace BK145 := zm (blk_grown (g := gb145) (o := .cells #[.int .i64 ((rd_T60 l1 x28_2).f0), .int .i64 ((rd_T60 l1 x28_2).f1), .int .i64 ((rd_T60 l1 x28_2).f2)] 60 (0, 0)) (by (with_reducible repeat (first | refine blk_drewN ?_ _ | refine blk_drew ?_ | refine blk_alloc ?_ _)); refine blk_put (cs := #[.int .i64 ((rd_T60 l1 x28_2).f0), .int .i64 ((rd_T60 l1 x28_2).f1), .int .i64 0]) ?_ 2 _ rfl; (with_reducible repeat (first | refine blk_drewN ?_ _ | refine blk_drew ?_ | refine blk_alloc ?_ _)); refine blk_put (cs := #[.int .i64 ((rd_T60 l1 x28_2).f0), .int .i64 0, .int .i64 0]) ?_ 1 _ rfl; (with_reducible repeat (first | refine blk_drewN ?_ _ | refine blk_drew ?_ | refine blk_alloc ?_ _)); refine blk_put (cs := #[.int .i64 0, .int .i64 0, .int .i64 0]) ?_ 0 _ rfl; (with_reducible repeat (first | refine blk_drewN ?_ _ | refine blk_drew ?_ | refine blk_alloc ?_ _)); exact BK145.out) hg (Kd.R_ne HO_9.out BK145.out (by decide))); replace HB := zm (hb); have HO158 := zm (ho); replace BK138 := n2_; clear HO_9 n2_; clear ho hb hg hat) | ((with_reducible refine spec_pyAll.gq ?_); go_quiet (fail)))
      (try simp only [← hl10_2])
      go_roundg k2
      case measure => have := HK1.out; have := HK2.out; omega
      case rel => exact ⟨(x8_2), (y156), (x10_2), (wrap64 (x28_2 + 1)), (by first | rfl | (simp; done) | (simp [*]; done)), H', ⟨by have := HK1.out; have := HK2.out; omega⟩, ⟨by (try simp only [hl10_1]); (try simp only [hl10_2]); (with_reducible repeat (first | apply Kd.R_alloc | apply Kd.R_drewN | apply Kd.R_drew)); exact HO_8.out⟩, ⟨by (try simp only [hl10_1]); (try simp only [hl10_2]); (with_reducible repeat (first | apply Kd.R_alloc | apply Kd.R_drewN | apply Kd.R_drew)); exact HO158.out⟩, ⟨by (try simp only [hl10_1]); (try simp only [hl10_2]); (with_reducible repeat (first | apply Kd.R_alloc | apply Kd.R_drewN | apply Kd.R_drew)); exact zM HO_10.out⟩, ⟨by (try simp only [hl10_1]); (try simp only [hl10_2]); (with_reducible repeat (first | refine blk_drewN ?_ _ | refine blk_drew ?_ | refine blk_alloc ?_ _)); exact BK138.out⟩, ⟨by (try simp only [hl10_1]); (try simp only [hl10_2]); (with_reducible repeat (first | refine blk_drewN ?_ _ | refine blk_drew ?_ | refine blk_alloc ?_ _)); exact BK139.out⟩, ⟨zb⟩⟩
     rw [if_neg c51] at H
     have c51b0 : decide ((wrap64 (((rd_T60 l1 x28_2).f2) + a2_1)) ≤ (wrap64 (((rd_T60 l1 x28_2).f1) + a2_0))) = false := decide_eq_false c51
     clear c51
     obtain ⟨y159, hy159⟩ : ∃ y_ : List Int, y_ = (x10_2.set (((rd_T60 l1 x28_2).f0) : Int).toNat ((rd_T60 l1 x28_2).f1)) := ⟨_, rfl⟩
     replace H : (if ((rd_T60 l1 x28_2).f0) < (l0_0.length : Int) then (if x8_2.length < 5864062014805 then (spec_pyAll.l1 k2 (x8_2 ++ [(⟨rd l0_0 ((rd_T60 l1 x28_2).f0), wrap64 (((rd_T60 l1 x28_2).f1) + a2_0), wrap64 (((rd_T60 l1 x28_2).f2) + a2_1)⟩ : S56)]) x9_2 y159 l1 (l1.length : Int) (wrap64 (x28_2 + 1)) l0_0 a0_1 a2_0 a2_1 a2_2) else (none)) else (none)) = some (r1, r2) := by first | (rw [hy159]; with_reducible exact H) | (have H2_ := (Option.bind_some _ _).symm.trans H; rw [hy159]; with_reducible exact H2_) | (have H2_ := (Option.bind_some _ _).symm.trans H; with_reducible exact H2_) | with_reducible exact H | (rw [hy159]; exact H) | exact H
     have Ny159 := zm hy159
     clear hy159
     by_cases c62 : ((rd_T60 l1 x28_2).f0) < (l0_0.length : Int)
     rotate_left
     ·
      rw [if_neg c62] at H
      exact absurd H (by simp)
     rw [if_pos c62] at H
     have c62b0 : decide (((rd_T60 l1 x28_2).f0) < (l0_0.length : Int)) = true := decide_eq_true c62
     clear c62
     by_cases c63 : x8_2.length < 5864062014805
     rotate_left
     ·
      rw [if_neg c63] at H
      exact absurd H (by simp)
     rw [if_pos c63] at H
     have LMc63 := zm c63
     clear c63
     obtain ⟨y161, hy161⟩ : ∃ y_ : List (S56), y_ = (x8_2 ++ [(⟨rd l0_0 ((rd_T60 l1 x28_2).f0), wrap64 (((rd_T60 l1 x28_2).f1) + a2_0), wrap64 (((rd_T60 l1 x28_2).f2) + a2_1)⟩ : S56)]) := ⟨_, rfl⟩
     replace H : (spec_pyAll.l1 k2 y161 x9_2 y159 l1 (l1.length : Int) (wrap64 (x28_2 + 1)) l0_0 a0_1 a2_0 a2_1 a2_2) = some (r1, r2) := by first | (rw [hy161]; with_reducible exact H) | (have H2_ := (Option.bind_some _ _).symm.trans H; rw [hy161]; with_reducible exact H2_) | (have H2_ := (Option.bind_some _ _).symm.trans H; with_reducible exact H2_) | with_reducible exact H | (rw [hy161]; exact H) | exact H
     have Ny161 := zm hy161
     clear hy161
     have H' := zm H
     clear H
     have p144 : 0 ≤ (x28_2 : Int) := zd
     have q144 : x28_2 < (l1.length : Int) := zd
     obtain ⟨ad144, e144, hx144_0, hx144_1, hx144_2⟩ := at_T60 HR1.out x28_2 p144 q144
     cases e144
     replace hx144_0 := zx HB.out hx144_0
     replace hx144_1 := zx HB.out hx144_1
     replace hx144_2 := zx HB.out hx144_2
     replace p144 := eq_true p144
     replace q144 := eq_true q144
     go_wp2_with (first | ((with_reducible refine gate_dst (N := 13) rfl ?_); refine box_event ?hg (N := 13) ?hd (cs := #[.int .i64 0, .int .i64 0, .int .i64 0]) (t := 60) ?hr ?_; (case hd => rfl); (case hg => rfl); (case hr => first | (go_simp; done) | (go_simp; rfl)); intro gb145 hg w64 hbox hb; replace HO_8 := zm (Kd.R_below (zP HO_8.out) hb); replace HO_9 := zm (Kd.R_below (zP HO_9.out) hb); replace HO_10 := zm (Kd.R_below (zP HO_10.out) hb); have n3_ := zm (blk_below (g := gb138) zk hb); have n4_ := zm (blk_below (g := gb139) zk hb); have n5_ := zm (below_step zb hb); have BK145 := zm (hbox); have GW145 := zm (zs hg zb : w.heap.size ≤ gb145); have GE145 := zm (zs hg zb : w.heap.size ≤ gb145); have NB138_145 := zm (zl hg zk : gb138 ≠ gb145); have NB145_138 := zm (zg hg zk : gb145 ≠ gb138); have NB139_145 := zm (zl hg zk : gb139 ≠ gb145); have NB145_139 := zm (zg hg zk : gb145 ≠ gb139); replace BK138 := n3_; replace BK139 := n4_; replace HB := n5_; clear n3_ n4_ n5_; clear hb hbox hg; have hnb65 := NB145_138.out; have hnc65 := NB138_145.out; have hnb66 := NB145_139.out; have hnc66 := NB139_145.out; obtain ⟨hcz67_0, hcz67_1, hcz67_2, hfz67_0, hfz67_1, hfz67_2⟩ := zc3 BK145.out) | ((with_reducible refine gate_store (t := 60) (p := 13) rfl ?_); (try (rw [drewN_self w64]; generalize hq_ : World.drewN w64 _ = w64; have n0_ := zm (Kd.R_at hq_ HO_8.out); have n1_ := zm (Kd.R_at hq_ HO_9.out); have n2_ := zm (Kd.R_at hq_ HO_10.out); have n3_ := zm (blk_at hq_ BK138.out); have n4_ := zm (blk_at hq_ BK139.out); have n5_ := zm (blk_at hq_ BK145.out); have n6_ := zm (below_at hq_ HB.out); clear hq_ HO_8 HO_9 HO_10 BK138 BK139 BK145 HB; have HO_8 := n0_; have HO_9 := n1_; have HO_10 := n2_; have BK138 := n3_; have BK139 := n4_; have BK145 := n5_; have HB := n6_; clear n0_ n1_ n2_ n3_ n4_ n5_ n6_)); refine store_event (t := 60) (p := 13) (v := ?vo_w68) (w1 := (((w64.setCell ⟨gb145, 0, none⟩ (.int .i64 ((rd_T60 l1 x28_2).f0))).setCell ⟨gb145, 1, none⟩ (.int .i64 ((rd_T60 l1 x28_2).f1))).setCell ⟨gb145, 2, none⟩ (.int .i64 ((rd_T60 l1 x28_2).f2)))) ?hg ?ho ?hn ?hr ?_; (case ho => rfl); (case hg => rfl); (case hn => rfl); (case hr => first | (go_simp; done) | (go_simp; rfl)); intro w68 hw; have n0_ : Aside0 (Kd.R k56 56 w68 w.heap.size (fun _ => True) u8 x8_2) := ⟨(by rw [hw]; exact (zP (Kd.R_mono (Kd.R_far (p := ⟨gb145, 2, none⟩) (Kd.R_far (p := ⟨gb145, 1, none⟩) (Kd.R_far (p := ⟨gb145, 0, none⟩) (Kd.R_types HO_8.out BK145.out (by decide)) (fun _ hk => hk.2) (.int .i64 ((rd_T60 l1 x28_2).f0))) (fun _ hk => hk.2) (.int .i64 ((rd_T60 l1 x28_2).f1))) (fun _ hk => hk.2) (.int .i64 ((rd_T60 l1 x28_2).f2))) (fun _ hk => trivial))))⟩; have n1_ : Aside0 (Kd.R (Kd.int .i64) 3 w68 w.heap.size (fun k_ => some k_ ≠ (.slice Ao9 x10_2.length co9 : Value).ownBlock) u9 x9_2) := ⟨(by rw [hw]; exact (zP (Kd.R_mono (Kd.R_far (p := ⟨gb145, 2, none⟩) (Kd.R_far (p := ⟨gb145, 1, none⟩) (Kd.R_far (p := ⟨gb145, 0, none⟩) (Kd.R_types HO_9.out BK145.out (by decide)) (fun _ hk => hk.2) (.int .i64 ((rd_T60 l1 x28_2).f0))) (fun _ hk => hk.2) (.int .i64 ((rd_T60 l1 x28_2).f1))) (fun _ hk => hk.2) (.int .i64 ((rd_T60 l1 x28_2).f2))) (fun _ hk => hk.1))))⟩; have n2_ : Aside0 (Kd.R (Kd.int .i64) 3 w68 w.heap.size (fun k_ => some k_ ≠ (u9 : Value).ownBlock) (.slice Ao9 x10_2.length co9) x10_2) := ⟨(by rw [hw]; exact (zP (Kd.R_mono (Kd.R_far (p := ⟨gb145, 2, none⟩) (Kd.R_far (p := ⟨gb145, 1, none⟩) (Kd.R_far (p := ⟨gb145, 0, none⟩) (Kd.R_types HO_10.out BK145.out (by decide)) (fun _ hk => hk.2) (.int .i64 ((rd_T60 l1 x28_2).f0))) (fun _ hk => hk.2) (.int .i64 ((rd_T60 l1 x28_2).f1))) (fun _ hk => hk.2) (.int .i64 ((rd_T60 l1 x28_2).f2))) (fun _ hk => hk.1))))⟩; have n3_ : Aside0 (w68.heap[gb138]? = some (.cells #[.slice A0_0 l0_0.length c0_0, .int .i64 a0_1] 32 (0, 0))) := ⟨(by rw [hw]; exact zK)⟩; have n4_ : Aside0 (w68.heap[gb139]? = some (.cells #[.int .i64 a2_0, .int .i64 a2_1, .int .i64 a2_2] 36 (0, 0))) := ⟨(by rw [hw]; exact zK)⟩; have n5_ : Aside0 (w68.heap[gb145]? = some (.cells #[.int .i64 ((rd_T60 l1 x28_2).f0), .int .i64 ((rd_T60 l1 x28_2).f1), .int .i64 ((rd_T60 l1 x28_2).f2)] 60 (0, 0))) := ⟨(by rw [hw]; exact (by (with_reducible repeat (first | refine blk_drewN ?_ _ | refine blk_drew ?_ | refine blk_alloc ?_ _)); refine blk_put (cs := #[.int .i64 ((rd_T60 l1 x28_2).f0), .int .i64 ((rd_T60 l1 x28_2).f1), .int .i64 0]) ?_ 2 _ rfl; (with_reducible repeat (first | refine blk_drewN ?_ _ | refine blk_drew ?_ | refine blk_alloc ?_ _)); refine blk_put (cs := #[.int .i64 ((rd_T60 l1 x28_2).f0), .int .i64 0, .int .i64 0]) ?_ 1 _ rfl; (with_reducible repeat (first | refine blk_drewN ?_ _ | refine blk_drew ?_ | refine blk_alloc ?_ _)); refine blk_put (cs := #[.int .i64 0, .int .i64 0, .int .i64 0]) ?_ 0 _ rfl; (with_reducible repeat (first | refine blk_drewN ?_ _ | refine blk_drew ?_ | refine blk_alloc ?_ _)); exact BK145.out))⟩; have n6_ : Aside0 (Below w.heap.size w w68) := ⟨(by rw [hw]; exact zb)⟩; clear hw; clear HO_8; clear HO_9; clear HO_10; clear BK138; clear BK139; clear BK145; clear HB; have HO_8 := n0_; have HO_9 := n1_; have HO_10 := n2_; have BK138 := n3_; have BK139 := n4_; have BK145 := n5_; have HB := n6_; clear n0_ n1_ n2_ n3_ n4_ n5_ n6_; obtain ⟨hcz69_0, hcz69_1, hcz69_2, hfz69_0, hfz69_1, hfz69_2⟩ := zc3 BK145.out; have hnb70 := NB139_138.out; have hnc70 := NB138_139.out; obtain ⟨hcz71_0, hcz71_1, hcz71_2, hfz71_0, hfz71_1, hfz71_2⟩ := zc3 BK139.out; obtain ⟨hcz72_0, hcz72_1, hfz72_0, hfz72_1⟩ := zc2 BK138.out; have p152 : 0 ≤ (((rd_T60 l1 x28_2).f0) : Int) := zd; have q152 : ((rd_T60 l1 x28_2).f0) < (x10_2.length : Int) := zd; obtain ⟨ad152, e152, hx152_0⟩ := Kd.at_int (Kd.R_reads' HO_10.out).2.2 ((rd_T60 l1 x28_2).f0) p152 q152; cases e152; replace p152 := eq_true p152; replace q152 := eq_true q152; have p61 : 0 ≤ (((rd_T60 l1 x28_2).f0) : Int) := zd; have q61 : (((rd_T60 l1 x28_2).f0) : Int) < ((x10_2.length : Int) : Int) := zd; obtain ⟨go61, co61, eo61, gb61, gl61, cl61, HG61⟩ := Kd.R_form HO_10.out (by omega); (first | cases eo61 | (injection eo61 with ea_ en_ ec_; (first | subst ea_ | (injection ea_ with ea_; subst ea_)); subst ec_; clear en_)); have GB61 := zm gb61; have GG61 := zm HG61; clear gb61 gl61 HG61; (first | simp only [add_plain] at hx152_0 | skip); obtain ⟨hx61_0, hf61_0⟩ := Kd.R_celln 0 HO_10.out (((rd_T60 l1 x28_2).f0) : Int) p61 q61; replace p61 := eq_true p61; replace q61 := eq_true q61; obtain ⟨hy73_, hz73_⟩ := Kd.R_celln 0 HO_10.out (((rd_T60 l1 x28_2).f0) : Int) (of_decide_eq_true (by first | (with_reducible assumption) | assumption)) (of_decide_eq_true (by first | (with_reducible assumption) | assumption)); have HP73 := Kd.R_putg HO_10.out (((rd_T60 l1 x28_2).f0) : Int) ((rd_T60 l1 x28_2).f1)) | ((with_reducible refine gate_store (t := 3) (p := 87) rfl ?_); (try (rw [drewN_self w68]; generalize hq_ : World.drewN w68 _ = w68; have n0_ := zm (Kd.R_at hq_ HO_8.out); have n1_ := zm (Kd.R_at hq_ HO_9.out); have n2_ := zm (Kd.R_at hq_ HO_10.out); have n3_ := zm (blk_at hq_ BK138.out); have n4_ := zm (blk_at hq_ BK139.out); have n5_ := zm (blk_at hq_ BK145.out); have n6_ := zm (below_at hq_ HB.out); clear hq_ HO_8 HO_9 HO_10 BK138 BK139 BK145 HB; have HO_8 := n0_; have HO_9 := n1_; have HO_10 := n2_; have BK138 := n3_; have BK139 := n4_; have BK145 := n5_; have HB := n6_; clear n0_ n1_ n2_ n3_ n4_ n5_ n6_; (try (obtain ⟨hy73_, hz73_⟩ := Kd.R_celln 0 HO_10.out (((rd_T60 l1 x28_2).f0) : Int) (of_decide_eq_true (by first | (with_reducible assumption) | assumption)) (of_decide_eq_true (by first | (with_reducible assumption) | assumption)))); (try (have HP73 := Kd.R_putg HO_10.out (((rd_T60 l1 x28_2).f0) : Int) ((rd_T60 l1 x28_2).f1))))); refine store_event (t := 3) (p := 87) (v := ?vo_w74) (w1 := (w68.setCell ⟨go61, (((rd_T60 l1 x28_2).f0) : Int).toNat, none⟩ (.int .i64 ((rd_T60 l1 x28_2).f1)))) ?hg ?ho ?hn ?hr ?_; (case ho => rfl); (case hg => rfl); (case hn => rfl); (case hr => first | (go_simp; done) | (go_simp; rfl)); intro w74 hw; have hg : w68.grownBy w74 (some go61) := (by rw [hw]; exact HP73.2); have hp_ : Kd.R (Kd.int .i64) 3 w74 w.heap.size (fun k_ => some k_ ≠ (u9 : Value).ownBlock) (.slice (some ⟨go61, 0, none⟩) x10_2.length co9) y159 := (by rw [hw, Ny159.out]; exact HP73.1); clear HP73; replace HO_8 := zm (Kd.R_over' (v := (.slice (some ⟨go61, 0, none⟩) x10_2.length co9)) (zP HO_8.out) (Kd.R_typed HO_10.out) (by decide) hg); replace HO_9 := zm (Kd.R_after (v := (.slice (some ⟨go61, 0, none⟩) x10_2.length co9)) (v1 := (.slice (some ⟨go61, 0, none⟩) x10_2.length co9)) (ok := (fun _ => True)) (zP (Kd.R_mono HO_9.out (fun _ hk => ⟨trivial, hk⟩))) hg (.inl rfl)); have n2_ := zm (hp_); have n3_ := zm (blk_grown (g := gb138) (o := .cells #[.slice A0_0 l0_0.length c0_0, .int .i64 a0_1] 32 (0, 0)) zk hg (Kd.R_ne HO_10.out BK138.out (by decide))); have n4_ := zm (blk_grown (g := gb139) (o := .cells #[.int .i64 a2_0, .int .i64 a2_1, .int .i64 a2_2] 36 (0, 0)) zk hg (Kd.R_ne HO_10.out BK139.out (by decide))); replace BK145 := zm (blk_grown (g := gb145) (o := .cells #[.int .i64 ((rd_T60 l1 x28_2).f0), .int .i64 ((rd_T60 l1 x28_2).f1), .int .i64 ((rd_T60 l1 x28_2).f2)] 60 (0, 0)) zk hg (Kd.R_ne HO_10.out BK145.out (by decide))); replace HB := zm ((by rw [hw]; exact below_set (HB.out) GB61.out : Below w.heap.size w w74)); replace HO_10 := n2_; replace BK138 := n3_; replace BK139 := n4_; clear n2_ n3_ n4_; clear hg hw hp_; obtain ⟨hcz75_0, hcz75_1, hfz75_0, hfz75_1⟩ := zc2 BK138.out; obtain ⟨hcz76_0, hcz76_1, hcz76_2, hfz76_0, hfz76_1, hfz76_2⟩ := zc3 BK145.out; have p160 : 0 ≤ (((rd_T60 l1 x28_2).f0) : Int) := zd; have q160 : ((rd_T60 l1 x28_2).f0) < (l0_0.length : Int) := zd; obtain ⟨ad160, e160, hx160_0⟩ := Kd.at_int HR0_0.out ((rd_T60 l1 x28_2).f0) p160 q160; cases e160; replace hx160_0 := zx HB.out hx160_0; replace p160 := eq_true p160; replace q160 := eq_true q160) | ((with_reducible refine gate_builtin (b := .append) (xs := #[.tmp 88, .tmp 98]) rfl ?_); at_builtin; refine Kd.R_append k56 (w0 := w) w.heap.size rfl (.tmp 88) (.tmp 98) 52 56 (.agg #[(.int .i64 0), (.int .i64 0), (.int .i64 0)]) 24 rfl Tryd.underlying52 info56 rfl (by decide) (by omega) u8 x8_2 (⟨rd l0_0 ((rd_T60 l1 x28_2).f0), wrap64 (((rd_T60 l1 x28_2).f1) + a2_0), wrap64 (((rd_T60 l1 x28_2).f2) + a2_1)⟩ : S56) [.int .i64 (rd l0_0 ((rd_T60 l1 x28_2).f0)), .int .i64 (wrap64 (((rd_T60 l1 x28_2).f1) + a2_0)), .int .i64 (wrap64 (((rd_T60 l1 x28_2).f2) + a2_1))] (fun _ => True) (fun _ => False) rfl rfl ?aP (fun _ hk => hk.elim) ?aF ?aO ?aB ?aS ?aL ?_; (case aP => exact k56_mkM _ _ _ (⟨rd l0_0 ((rd_T60 l1 x28_2).f0), wrap64 (((rd_T60 l1 x28_2).f1) + a2_0), wrap64 (((rd_T60 l1 x28_2).f2) + a2_1)⟩ : S56)); (case aB => exact zb); (case aF => exact (fun _ _ => trivial)); (case aO => exact (zP HO_8.out)); (case aS => exact (below_size zb)); (case aL => have := LMc63.out; omega); intro v162 w77 ho hb hg hat; rw [← Ny161.out] at ho; replace HO_9 := zm (Kd.R_over' (zP HO_9.out) (Kd.R_typed (zP HO_8.out)) (by decide) hg); replace HO_10 := zm (Kd.R_over' (zP HO_10.out) (Kd.R_typed (zP HO_8.out)) (by decide) hg); have n2_ := zm (blk_grown (g := gb138) (o := .cells #[.slice (some ad160) l0_0.length c0_0, .int .i64 a0_1] 32 (0, 0)) zk hg (Kd.R_ne HO_8.out BK138.out (by decide))); have n3_ := zm (blk_grown (g := gb139) (o := .cells #[.int .i64 a2_0, .int .i64 a2_1, .int .i64 a2_2] 36 (0, 0)) zk hg (Kd.R_ne HO_8.out BK139.out (by decide))); replace BK145 := zm (blk_grown (g := gb145) (o := .cells #[.int .i64 ((rd_T60 l1 x28_2).f0), .int .i64 ((rd_T60 l1 x28_2).f1), .int .i64 ((rd_T60 l1 x28_2).f2)] 60 (0, 0)) zk hg (Kd.R_ne HO_8.out BK145.out (by decide))); replace HB := zm (hb); have HO163 := zm (ho); replace BK138 := n2_; replace BK139 := n3_; clear HO_8 n2_ n3_; clear ho hb hg hat) | ((with_reducible refine spec_pyAll.gq ?_); go_quiet (fail)))
     (try simp only [← hl10_2])
     go_roundg k2
     case measure => have := HK1.out; have := HK2.out; omega
     case rel => exact ⟨(y161), (x9_2), (y159), (wrap64 (x28_2 + 1)), (by first | rfl | (simp; done) | (simp [*]; done)), H', ⟨by have := HK1.out; have := HK2.out; omega⟩, ⟨by (try simp only [hl10_1]); (try simp only [hl10_2]); (with_reducible repeat (first | apply Kd.R_alloc | apply Kd.R_drewN | apply Kd.R_drew)); exact HO163.out⟩, ⟨by (try simp only [hl10_1]); (try simp only [hl10_2]); (with_reducible repeat (first | apply Kd.R_alloc | apply Kd.R_drewN | apply Kd.R_drew)); exact zM HO_9.out⟩, ⟨by (try simp only [hl10_1]); (try simp only [hl10_2]); (with_reducible repeat (first | apply Kd.R_alloc | apply Kd.R_drewN | apply Kd.R_drew)); exact HO_10.out⟩, ⟨by (try simp only [hl10_1]); (try simp only [hl10_2]); (with_reducible repeat (first | refine blk_drewN ?_ _ | refine blk_drew ?_ | refine blk_alloc ?_ _)); exact BK138.out⟩, ⟨by (try simp only [hl10_1]); (try simp only [hl10_2]); (with_reducible repeat (first | refine blk_drewN ?_ _ | refine blk_drew ?_ | refine blk_alloc ?_ _)); exact BK139.out⟩, ⟨zb⟩⟩
/-! ### spec_l1Num: function 23 -/
def spec_l1Num.f : Nat → Int → Option (ByteArray)
  | 0, _ => none
  | k + 1, a0 => if a0 < 10 then (some (strOfNums (([(wrap64 (48 + a0)) % 256] : List Int)))) else ((spec_l1Num.f k (wrap64 (Int.tdiv a0 10))).bind fun t167 => ((some (([(wrap64 (48 + (Int.tmod a0 10))) % 256] : List Int) : List Int)).bind fun y168 => (if t167.size + (strOfNums y168).size ≤ 9223372036854775807 then (some (t167 ++ (strOfNums y168))) else (none))))
theorem spec_l1Num.mono_l : ∀ k, (∀ y0, LeO (spec_l1Num.f k y0) (spec_l1Num.f (k + 1) y0))
  | 0 => fun _ r h => by simp [spec_l1Num.f] at h
  | k + 1 => by
    have ih0 := spec_l1Num.mono_l k
    · intro y0
      unfold spec_l1Num.f
      repeat' first
      | (with_reducible exact ih0 _)
      | (with_reducible exact LeO.refl _)
      | (with_reducible exact LeO.none _)
      | (with_reducible refine LeO.ite ?_ ?_)
      | (with_reducible refine LeO.bind ?_ (fun _ => ?_))
      | exact ih0 _
      | exact LeO.none _
      | refine LeO.ite ?_ ?_
      | refine LeO.bind ?_ (fun _ => ?_)
theorem spec_l1Num.mono : ∀ a0 k, LeO (spec_l1Num.f k a0) (spec_l1Num.f (k + 1) a0) := by
  intro a0 k
  have ih0 := spec_l1Num.mono_l k
  exact ih0 a0
def spec_l1Num.T3 : Bool × List (List Nat × List Nat) := (true, [([], []), ([0], [0]), ([1], [1]), ([], []), ([3], [3]), ([4], [4]), ([5], [5]), ([6], [6]), ([7], [7]), ([2, 8], [2, 8]), ([9, 2, 0, 1, 2, 3, 4, 5, 6, 7, 8, 9], [9])])
def spec_l1Num.B3 : List Nat := [0, 1, 3, 0, 8, 24, 56, 120, 248, 511, 1023]
theorem spec_l1Num.tab3 : rtab .any (opsOf Tryd.f23 3) = spec_l1Num.T3 := by kernel_rfl
theorem spec_l1Num.bits3 : waitsOk spec_l1Num.T3.2 spec_l1Num.B3 = true := by kernel_rfl
set_option maxHeartbeats 8000000 in
set_option maxRecDepth 100000 in
theorem spec_l1Num.calls (k : Nat) : ∀ (a0 : Int) (r : ByteArray) (w : World) (h : spec_l1Num.f k a0 = some r),
  Calls Tryd.prog 23 #[.int .i64 a0] w fun e w' => e = .returned (.string r) ∧ Below w.heap.size w w' := by
 induction k using Nat.strongRecOn with
 | _ k ih =>
 intro a0 r w h
 cases k with
 | zero => exact absurd h (by simp [spec_l1Num.f])
 | succ k =>
 simp only [spec_l1Num.f] at h
 have HB := zm (Below.refl w.heap.size w)
 have H : (if a0 < 10 then (some (strOfNums (([(wrap64 (48 + a0)) % 256] : List Int)))) else ((spec_l1Num.f k (wrap64 (Int.tdiv a0 10))).bind fun t167 => ((some (([(wrap64 (48 + (Int.tmod a0 10))) % 256] : List Int) : List Int)).bind fun y168 => (if t167.size + (strOfNums y168).size ≤ 9223372036854775807 then (some (t167 ++ (strOfNums y168))) else (none))))) = some r := h
 clear h
 by_cases c2 : a0 < 10
 ·
  rw [if_pos c2] at H
  have c2b0 : decide (a0 < 10) = true := decide_eq_true c2
  clear c2
  obtain ⟨y164, hy164⟩ : ∃ y_ : List Int, y_ = (([(wrap64 (48 + a0)) % 256] : List Int)) := ⟨_, rfl⟩
  replace H : (some (strOfNums y164)) = some r := by first | (rw [hy164]; with_reducible exact H) | (have H2_ := (Option.bind_some _ _).symm.trans H; rw [hy164]; with_reducible exact H2_) | (have H2_ := (Option.bind_some _ _).symm.trans H; with_reducible exact H2_) | with_reducible exact H | (rw [hy164]; exact H) | exact H
  have Ny164 := zm hy164
  clear hy164
  obtain rfl := Option.some.inj H
  go_enter Tryd.func23, Tryd.ntmps23
  go_wp2_with (first | ((with_reducible refine gate_dst (N := 8) rfl ?_); refine Kd.R_lit (Kd.int .u8) _ 5 ?hg (N := 8) ?hd (xs := ([(wrap64 (48 + a0)) % 256] : List Int)) (inner := [.int .u8 ((wrap64 (48 + a0)) % 256)]) (ok := fun _ => True) (okp := fun _ => True) ?hr ?hp (fun _ hk => hk) trivial (Below.refl _ _) (Nat.le_refl _) (by simp) ?_; (case hd => rfl); (case hg => rfl); (case hr => first | (go_simp; done) | (go_simp; rfl)); (case hp => exact (Reps.one (show Kd.M (Kd.int .u8) _ _ _ ((wrap64 (48 + a0)) % 256) [.int .u8 ((wrap64 (48 + a0)) % 256)] from rfl) (Reps.none _ _))); intro v165 w3 ho4 hb hg_ hnew_; clear hg_ hnew_; (first | rw [← Ny164.out] at ho4 | (simp only [Int.reduceToNat] at ho4; rw [← Ny164.out] at ho4)); have HO166 := zm (Kd.R_lower ho4 (below_size zb)); replace HB := zm (below_step zb hb); clear hb ho4; have hcv5 := own_string (P := Tryd.prog) Tryd.underlying64 Tryd.underlying5 Tryd.underlying9 (Kd.own_of_R HO166.out)))
  go_ret
  exact ⟨zr, zb⟩
 rw [if_neg c2] at H
 have c2b0 : decide (a0 < 10) = false := decide_eq_false c2
 clear c2
 replace H := Option.bind_eq_some_iff.mp H
 obtain ⟨t167, A60, H⟩ := H
 (try dsimp only at H)
 have A6 := zm A60
 clear A60
 obtain ⟨y168, hy168⟩ : ∃ y_ : List Int, y_ = (([(wrap64 (48 + (Int.tmod a0 10))) % 256] : List Int)) := ⟨_, rfl⟩
 replace H : (if t167.size + (strOfNums y168).size ≤ 9223372036854775807 then (some (t167 ++ (strOfNums y168))) else (none)) = some r := by first | (rw [hy168]; with_reducible exact H) | (have H2_ := (Option.bind_some _ _).symm.trans H; rw [hy168]; with_reducible exact H2_) | (have H2_ := (Option.bind_some _ _).symm.trans H; with_reducible exact H2_) | with_reducible exact H | (rw [hy168]; exact H) | exact H
 have Ny168 := zm hy168
 clear hy168
 by_cases c7 : t167.size + (strOfNums y168).size ≤ 9223372036854775807
 rotate_left
 ·
  rw [if_neg c7] at H
  exact absurd H (by simp)

 rw [if_pos c7] at H
 have c7b0 := eq_true c7
 have c7b1 : decide (t167.size + (strOfNums y168).size ≤ 9223372036854775807) = true := decide_eq_true c7
 try have c7b2 : (9223372036854775807 < t167.size + (strOfNums y168).size) = False := eq_false (Nat.not_lt.2 c7)
 obtain rfl := Option.some.inj H
 go_enter Tryd.func23, Tryd.ntmps23
 try go_wp2
 have n0_ := zm (below_drew1 HB.out)
 clear HB
 have HB := n0_
 clear n0_
 refine start_ (n := 11) (S := fun w' => True) (ds := []) #[false, false, false, false, false, false, false, false, false, false, false] (by kernel_rfl) rfl rfl trivial (fun hHeld => ?_); refine with_tabW spec_l1Num.tab3 spec_l1Num.bits3 (fun HT_ HW_ => ?_)
 generalize w.drew = w8 at HB hHeld ⊢
 refine pure_ (i := 0) (N := some 10) (v := ?_) (a' := ?_) #[true, false, false, false, false, false, false, false, false, false, false] rfl rfl (any_of HT_.out (by kernel_rfl)) (fun _ _ _ h => h) (Or.inl ⟨by rfl, ?_⟩) ?_ ?_
 rotate_left
 ·
  intro w'
  go_simp
  with_reducible rfl
 rotate_left
 ·
  simp only [Act.put, zA, zB, zD, i64_w, i32_w]
  rfl
 refine pure_ (i := 1) (N := some 11) (v := ?_) (a' := ?_) #[true, true, false, false, false, false, false, false, false, false, false] rfl rfl (any_of HT_.out (by kernel_rfl)) (fun _ _ _ h => h) (Or.inl ⟨by rfl, ?_⟩) ?_ ?_
 rotate_left
 ·
  intro w'
  go_simp
  with_reducible rfl
 rotate_left
 ·
  simp only [Act.put, zA, zB, zD, i64_w, i32_w]
  rfl
 refine pure_ (i := 3) (N := some 13) (v := ?_) (a' := ?_) #[true, true, false, true, false, false, false, false, false, false, false] rfl rfl (any_of HT_.out (by kernel_rfl)) (fun _ _ _ h => h) (Or.inl ⟨by rfl, ?_⟩) ?_ ?_
 rotate_left
 ·
  intro w'
  go_simp
  with_reducible rfl
 rotate_left
 ·
  simp only [Act.put, zA, zB, zD, i64_w, i32_w]
  rfl
 refine pure_ (i := 4) (N := some 14) (v := ?_) (a' := ?_) #[true, true, false, true, true, false, false, false, false, false, false] rfl rfl (any_of HT_.out (by kernel_rfl)) (fun _ _ _ h => h) (Or.inl ⟨by rfl, ?_⟩) ?_ ?_
 rotate_left
 ·
  intro w'
  go_simp
  with_reducible rfl
 rotate_left
 ·
  simp only [Act.put, zA, zB, zD, i64_w, i32_w]
  rfl
 refine pure_ (i := 5) (N := some 15) (v := ?_) (a' := ?_) #[true, true, false, true, true, true, false, false, false, false, false] rfl rfl (any_of HT_.out (by kernel_rfl)) (fun _ _ _ h => h) (Or.inl ⟨by rfl, ?_⟩) ?_ ?_
 rotate_left
 ·
  intro w'
  go_simp
  with_reducible rfl
 rotate_left
 ·
  simp only [Act.put, zA, zB, zD, i64_w, i32_w]
  rfl
 refine pure_ (i := 6) (N := some 16) (v := ?_) (a' := ?_) #[true, true, false, true, true, true, true, false, false, false, false] rfl rfl (any_of HT_.out (by kernel_rfl)) (fun _ _ _ h => h) (Or.inl ⟨by rfl, ?_⟩) ?_ ?_
 rotate_left
 ·
  intro w'
  go_simp
  with_reducible rfl
 rotate_left
 ·
  simp only [Act.put, zA, zB, zD, i64_w, i32_w]
  rfl
 refine join_ (σ := Value) 2 #[true, true, true, true, true, true, true, true, true, false, false] (fun s_ => [(12, .string t167), (17, s_), (18, .string (strOfNums y168))]) (fun s_ w' => (Kd.R (Kd.int .u8) 5 w' w.heap.size (fun _ => True) s_ y168) ∧ (Below w.heap.size w w')) ?_ ?_
 rotate_left
 ·
  intro hCont
  refine two_ (i := 2) (j := 7) (Ni := some 12) (Nj := some 17) #[true, true, true, true, true, true, true, false, false, false, false] #[true, true, false, true, true, true, true, true, false, false, false] rfl rfl rfl rfl (two_of HT_.out (by kernel_rfl)) (by decide) (by decide) (fun K hK => ?_) (fun K hK => ?_)
  ·
   skip
   refine goes_ Tryd.func23 (by kernel_rfl) rfl #[.int .i64 (wrap64 (Int.tdiv a0 10))] (by rfl) rfl rfl (by (try simp only [List.map_toArray, List.map_cons, List.map_nil]); first | done | rfl | (simp only [List.length_drop, List.length_take]; rfl)) ?_
   with_reducible refine (ih k (by omega) (wrap64 (Int.tdiv a0 10)) t167 _ A6.out).mono ?_
   rintro e w9 ⟨rfl, hb⟩
   refine ⟨_, rfl, ?_⟩
   have n0_ := zm (below_step zb hb)
   clear HB
   have HB := n0_
   clear n0_
   (try clear hb)
   (try clear hb2)
   (try clear hk)
   (try clear hi)
   refine hK.out _ _ trivial (fun hHeld => ?_)
   clear hK K
   refine norm_ (a' := ?_) ?_ ?_
   rotate_left
   ·
    show Act.put _ (some 12) _ = _
    simp only [Act.put, zA, zB, zD, i64_w, i32_w]
    rfl
   refine one_ (i := 7) (N := some 17) #[true, true, true, true, true, true, true, true, false, false, false] rfl rfl (one_of HT_.out (by kernel_rfl)) (by decide) (fun K hK => ?_)
   refine Kd.R_lit_step (Kd.int .u8) _ 5 ?hg (N := 17) ?hd (xs := ([(wrap64 (48 + (Int.tmod a0 10))) % 256] : List Int)) (inner := [.int .u8 ((wrap64 (48 + (Int.tmod a0 10))) % 256)]) (ok := fun _ => True) (okp := fun _ => True) ?hr ?hp (fun _ hk => hk) trivial (Below.refl _ _) (Nat.le_refl _) (by simp) ?_; (case hd => rfl); (case hg => rfl); (case hr => first | (go_simp; done) | (go_simp; rfl)); (case hp => exact (Reps.one (show Kd.M (Kd.int .u8) _ _ _ ((wrap64 (48 + (Int.tmod a0 10))) % 256) [.int .u8 ((wrap64 (48 + (Int.tmod a0 10))) % 256)] from rfl) (Reps.none _ _)))
   intro v169 w10 ho11 hb hg_ hnew_
   clear hg_ hnew_
   (first | rw [← Ny168.out] at ho11 | (simp only [Int.reduceToNat] at ho11; rw [← Ny168.out] at ho11))
   have n0_ := zm (Kd.R_lower ho11 (below_size zb))
   have n1_ := zm (below_step zb hb)
   clear HB
   have HO170 := n0_
   have HB := n1_
   clear n0_ n1_
   clear hb ho11
   refine hK.out _ _ trivial (fun hHeld => ?_)
   clear hK K
   refine norm_ (a' := ?_) ?_ ?_
   rotate_left
   ·
    show Act.put _ (some 17) _ = _
    simp only [Act.put, zA, zB, zD, i64_w, i32_w]
    rfl
   refine one_ (i := 8) (N := some 18) #[true, true, true, true, true, true, true, true, true, false, false] rfl rfl (one_of HT_.out (by kernel_rfl)) (by decide) (fun K hK => ?_)
   have hcv12 := own_string (P := Tryd.prog) Tryd.underlying64 Tryd.underlying5 Tryd.underlying9 (Kd.own_of_R HO170.out)
   refine value_ (w1 := ?_) (v := ?_) (by rfl) rfl ?_ ?_
   rotate_left 2
   ·
    go_simp
    constructor
    ·
     rfl
    ·
     rfl
   clear hcv12
   refine hK.out _ _ trivial (fun hHeld => ?_)
   clear hK K
   refine norm_ (a' := ?_) ?_ ?_
   rotate_left
   ·
    show Act.put _ (some 18) _ = _
    simp only [Act.put, zA, zB, zD, i64_w, i32_w]
    rfl
   exact norm_ (by simp only [putAll, Act.put, List.setIfInBounds_toArray, List.set_cons_zero, List.set_cons_succ]) (hCont (v169) _ ⟨(zP HO170.out), zb⟩)
  ·
   skip
   refine Kd.R_lit_step (Kd.int .u8) _ 5 ?hg (N := 17) ?hd (xs := ([(wrap64 (48 + (Int.tmod a0 10))) % 256] : List Int)) (inner := [.int .u8 ((wrap64 (48 + (Int.tmod a0 10))) % 256)]) (ok := fun _ => True) (okp := fun _ => True) ?hr ?hp (fun _ hk => hk) trivial (Below.refl _ _) (Nat.le_refl _) (by simp) ?_; (case hd => rfl); (case hg => rfl); (case hr => first | (go_simp; done) | (go_simp; rfl)); (case hp => exact (Reps.one (show Kd.M (Kd.int .u8) _ _ _ ((wrap64 (48 + (Int.tmod a0 10))) % 256) [.int .u8 ((wrap64 (48 + (Int.tmod a0 10))) % 256)] from rfl) (Reps.none _ _)))
   intro v169 w9 ho10 hb hg_ hnew_
   clear hg_ hnew_
   (first | rw [← Ny168.out] at ho10 | (simp only [Int.reduceToNat] at ho10; rw [← Ny168.out] at ho10))
   have n0_ := zm (Kd.R_lower ho10 (below_size zb))
   have n1_ := zm (below_step zb hb)
   clear HB
   have HO170 := n0_
   have HB := n1_
   clear n0_ n1_
   clear hb ho10
   refine hK.out _ _ trivial (fun hHeld => ?_)
   clear hK K
   refine norm_ (a' := ?_) ?_ ?_
   rotate_left
   ·
    show Act.put _ (some 17) _ = _
    simp only [Act.put, zA, zB, zD, i64_w, i32_w]
    rfl
   refine two_ (i := 2) (j := 8) (Ni := some 12) (Nj := some 18) #[true, true, true, true, true, true, true, true, false, false, false] #[true, true, false, true, true, true, true, true, true, false, false] rfl rfl rfl rfl (two_of HT_.out (by kernel_rfl)) (by decide) (by decide) (fun K hK => ?_) (fun K hK => ?_)
   ·
    skip
    refine goes_ Tryd.func23 (by kernel_rfl) rfl #[.int .i64 (wrap64 (Int.tdiv a0 10))] (by rfl) rfl rfl (by (try simp only [List.map_toArray, List.map_cons, List.map_nil]); first | done | rfl | (simp only [List.length_drop, List.length_take]; rfl)) ?_
    with_reducible refine (ih k (by omega) (wrap64 (Int.tdiv a0 10)) t167 _ A6.out).mono ?_
    rintro e w11 ⟨rfl, hb⟩
    refine ⟨_, rfl, ?_⟩
    have n0_ := zm (Kd.R_below (zP HO170.out) hb)
    have n1_ := zm (below_step zb hb)
    clear HO170
    clear HB
    have HO170 := n0_
    have HB := n1_
    clear n0_ n1_
    (try clear hb)
    (try clear hb2)
    (try clear hk)
    (try clear hi)
    refine hK.out _ _ trivial (fun hHeld => ?_)
    clear hK K
    refine norm_ (a' := ?_) ?_ ?_
    rotate_left
    ·
     show Act.put _ (some 12) _ = _
     simp only [Act.put, zA, zB, zD, i64_w, i32_w]
     rfl
    refine one_ (i := 8) (N := some 18) #[true, true, true, true, true, true, true, true, true, false, false] rfl rfl (one_of HT_.out (by kernel_rfl)) (by decide) (fun K hK => ?_)
    have hcv12 := own_string (P := Tryd.prog) Tryd.underlying64 Tryd.underlying5 Tryd.underlying9 (Kd.own_of_R HO170.out)
    refine value_ (w1 := ?_) (v := ?_) (by rfl) rfl ?_ ?_
    rotate_left 2
    ·
     go_simp
     constructor
     ·
      rfl
     ·
      rfl
    clear hcv12
    refine hK.out _ _ trivial (fun hHeld => ?_)
    clear hK K
    refine norm_ (a' := ?_) ?_ ?_
    rotate_left
    ·
     show Act.put _ (some 18) _ = _
     simp only [Act.put, zA, zB, zD, i64_w, i32_w]
     rfl
    exact norm_ (by simp only [putAll, Act.put, List.setIfInBounds_toArray, List.set_cons_zero, List.set_cons_succ]) (hCont (v169) _ ⟨(zP HO170.out), zb⟩)
   ·
    skip
    have hcv11 := own_string (P := Tryd.prog) Tryd.underlying64 Tryd.underlying5 Tryd.underlying9 (Kd.own_of_R HO170.out)
    refine value_ (w1 := ?_) (v := ?_) (by rfl) rfl ?_ ?_
    rotate_left 2
    ·
     go_simp
     constructor
     ·
      rfl
     ·
      rfl
    clear hcv11
    refine hK.out _ _ trivial (fun hHeld => ?_)
    clear hK K
    refine norm_ (a' := ?_) ?_ ?_
    rotate_left
    ·
     show Act.put _ (some 18) _ = _
     simp only [Act.put, zA, zB, zD, i64_w, i32_w]
     rfl
    refine one_ (i := 2) (N := some 12) #[true, true, true, true, true, true, true, true, true, false, false] rfl rfl (one_of HT_.out (by kernel_rfl)) (by decide) (fun K hK => ?_)
    refine goes_ Tryd.func23 (by kernel_rfl) rfl #[.int .i64 (wrap64 (Int.tdiv a0 10))] (by rfl) rfl rfl (by (try simp only [List.map_toArray, List.map_cons, List.map_nil]); first | done | rfl | (simp only [List.length_drop, List.length_take]; rfl)) ?_
    with_reducible refine (ih k (by omega) (wrap64 (Int.tdiv a0 10)) t167 _ A6.out).mono ?_
    rintro e w12 ⟨rfl, hb⟩
    refine ⟨_, rfl, ?_⟩
    have n0_ := zm (Kd.R_below (zP HO170.out) hb)
    have n1_ := zm (below_step zb hb)
    clear HO170
    clear HB
    have HO170 := n0_
    have HB := n1_
    clear n0_ n1_
    (try clear hb)
    (try clear hb2)
    (try clear hk)
    (try clear hi)
    refine hK.out _ _ trivial (fun hHeld => ?_)
    clear hK K
    refine norm_ (a' := ?_) ?_ ?_
    rotate_left
    ·
     show Act.put _ (some 12) _ = _
     simp only [Act.put, zA, zB, zD, i64_w, i32_w]
     rfl
    exact norm_ (by simp only [putAll, Act.put, List.setIfInBounds_toArray, List.set_cons_zero, List.set_cons_succ]) (hCont (v169) _ ⟨(zP HO170.out), zb⟩)
 rintro v169 w13 ⟨h0_, h1_⟩
 have n0_ : Aside0 (Kd.R (Kd.int .u8) 5 w13 w.heap.size (fun _ => True) v169 y168) := ⟨h0_⟩
 have n1_ : Aside0 (Below w.heap.size w w13) := ⟨h1_⟩
 clear HB
 clear h0_ h1_
 have HO170 := n0_
 have HB := n1_
 clear n0_ n1_
 have hHeld := trivial
 refine norm_ (a' := ?_) ?_ ?_
 rotate_left
 ·
  simp only [putAll, Act.put, List.setIfInBounds_toArray, List.set_cons_zero, List.set_cons_succ]
  rfl
 refine pure_ (i := 9) (N := some 19) (v := ?_) (a' := ?_) #[true, true, true, true, true, true, true, true, true, true, false] rfl rfl (any_of HT_.out (by kernel_rfl)) (fun _ _ _ h => h) (Or.inl ⟨by rfl, ?_⟩) ?_ ?_
 rotate_left
 ·
  intro w'
  go_simp
  with_reducible rfl
 rotate_left
 ·
  simp only [Act.put, zA, zB, zD, i64_w, i32_w]
  rfl
 refine pure_ (i := 10) (N := some 2) (v := ?_) (a' := ?_) #[true, true, true, true, true, true, true, true, true, true, true] rfl rfl (any_of HT_.out (by kernel_rfl)) (fun _ _ _ h => h) (Or.inl ⟨by rfl, ?_⟩) ?_ ?_
 rotate_left
 ·
  intro w'
  go_simp
  with_reducible rfl
 rotate_left
 ·
  simp only [Act.put, zA, zB, zD, i64_w, i32_w]
  rfl
 refine done_ (done_of HT_.out (by kernel_rfl)) ?_
 try go_wp2
 go_ret
 exact ⟨zr, zb⟩
/-! ### spec_ntNames: function 40 -/
def spec_ntNames.f  : Option (List ByteArray) := some (([(⟨#[99]⟩ : ByteArray), (⟨#[99, 35]⟩ : ByteArray), (⟨#[100]⟩ : ByteArray), (⟨#[100, 35]⟩ : ByteArray), (⟨#[101]⟩ : ByteArray), (⟨#[102]⟩ : ByteArray), (⟨#[102, 35]⟩ : ByteArray), (⟨#[103]⟩ : ByteArray), (⟨#[103, 35]⟩ : ByteArray), (⟨#[97]⟩ : ByteArray), (⟨#[97, 35]⟩ : ByteArray), (⟨#[98]⟩ : ByteArray)] : List ByteArray))
set_option maxHeartbeats 8000000 in
set_option maxRecDepth 100000 in
theorem spec_ntNames.calls  (r : List ByteArray) (w : World) (h : spec_ntNames.f  = some r) :
  Calls Tryd.prog 40 #[] w fun e w' => ∃ v0_ : Value, e = .returned (v0_) ∧ Kd.R Kd.string 9 w' w.heap.size (fun _ => True) v0_ r ∧ Below w.heap.size w w' := by
 have HB := zm (Below.refl w.heap.size w)
 have H : (some (([(⟨#[99]⟩ : ByteArray), (⟨#[99, 35]⟩ : ByteArray), (⟨#[100]⟩ : ByteArray), (⟨#[100, 35]⟩ : ByteArray), (⟨#[101]⟩ : ByteArray), (⟨#[102]⟩ : ByteArray), (⟨#[102, 35]⟩ : ByteArray), (⟨#[103]⟩ : ByteArray), (⟨#[103, 35]⟩ : ByteArray), (⟨#[97]⟩ : ByteArray), (⟨#[97, 35]⟩ : ByteArray), (⟨#[98]⟩ : ByteArray)] : List ByteArray))) = some r := h
 clear h
 obtain ⟨y171, hy171⟩ : ∃ y_ : List ByteArray, y_ = (([(⟨#[99]⟩ : ByteArray), (⟨#[99, 35]⟩ : ByteArray), (⟨#[100]⟩ : ByteArray), (⟨#[100, 35]⟩ : ByteArray), (⟨#[101]⟩ : ByteArray), (⟨#[102]⟩ : ByteArray), (⟨#[102, 35]⟩ : ByteArray), (⟨#[103]⟩ : ByteArray), (⟨#[103, 35]⟩ : ByteArray), (⟨#[97]⟩ : ByteArray), (⟨#[97, 35]⟩ : ByteArray), (⟨#[98]⟩ : ByteArray)] : List ByteArray)) := ⟨_, rfl⟩
 replace H : (some y171) = some r := by first | (rw [hy171]; with_reducible exact H) | (have H2_ := (Option.bind_some _ _).symm.trans H; rw [hy171]; with_reducible exact H2_) | (have H2_ := (Option.bind_some _ _).symm.trans H; with_reducible exact H2_) | with_reducible exact H | (rw [hy171]; exact H) | exact H
 have Ny171 := zm hy171
 clear hy171
 obtain rfl := Option.some.inj H
 go_enter Tryd.func40, Tryd.ntmps40
 go_wp2_with (first | ((with_reducible refine gate_dst (N := 1) rfl ?_); refine Kd.R_lit Kd.string _ 9 ?hg (N := 1) ?hd (xs := ([(⟨#[99]⟩ : ByteArray), (⟨#[99, 35]⟩ : ByteArray), (⟨#[100]⟩ : ByteArray), (⟨#[100, 35]⟩ : ByteArray), (⟨#[101]⟩ : ByteArray), (⟨#[102]⟩ : ByteArray), (⟨#[102, 35]⟩ : ByteArray), (⟨#[103]⟩ : ByteArray), (⟨#[103, 35]⟩ : ByteArray), (⟨#[97]⟩ : ByteArray), (⟨#[97, 35]⟩ : ByteArray), (⟨#[98]⟩ : ByteArray)] : List ByteArray)) (inner := [.string (⟨#[99]⟩ : ByteArray), .string (⟨#[99, 35]⟩ : ByteArray), .string (⟨#[100]⟩ : ByteArray), .string (⟨#[100, 35]⟩ : ByteArray), .string (⟨#[101]⟩ : ByteArray), .string (⟨#[102]⟩ : ByteArray), .string (⟨#[102, 35]⟩ : ByteArray), .string (⟨#[103]⟩ : ByteArray), .string (⟨#[103, 35]⟩ : ByteArray), .string (⟨#[97]⟩ : ByteArray), .string (⟨#[97, 35]⟩ : ByteArray), .string (⟨#[98]⟩ : ByteArray)]) (ok := fun _ => True) (okp := fun _ => True) ?hr ?hp (fun _ hk => hk) trivial (Below.refl _ _) (Nat.le_refl _) (by simp) ?_; (case hd => rfl); (case hg => rfl); (case hr => first | (go_simp; done) | (go_simp; rfl)); (case hp => exact (Reps.one (show Kd.M Kd.string _ _ _ (⟨#[99]⟩ : ByteArray) [.string (⟨#[99]⟩ : ByteArray)] from rfl) (Reps.one (show Kd.M Kd.string _ _ _ (⟨#[99, 35]⟩ : ByteArray) [.string (⟨#[99, 35]⟩ : ByteArray)] from rfl) (Reps.one (show Kd.M Kd.string _ _ _ (⟨#[100]⟩ : ByteArray) [.string (⟨#[100]⟩ : ByteArray)] from rfl) (Reps.one (show Kd.M Kd.string _ _ _ (⟨#[100, 35]⟩ : ByteArray) [.string (⟨#[100, 35]⟩ : ByteArray)] from rfl) (Reps.one (show Kd.M Kd.string _ _ _ (⟨#[101]⟩ : ByteArray) [.string (⟨#[101]⟩ : ByteArray)] from rfl) (Reps.one (show Kd.M Kd.string _ _ _ (⟨#[102]⟩ : ByteArray) [.string (⟨#[102]⟩ : ByteArray)] from rfl) (Reps.one (show Kd.M Kd.string _ _ _ (⟨#[102, 35]⟩ : ByteArray) [.string (⟨#[102, 35]⟩ : ByteArray)] from rfl) (Reps.one (show Kd.M Kd.string _ _ _ (⟨#[103]⟩ : ByteArray) [.string (⟨#[103]⟩ : ByteArray)] from rfl) (Reps.one (show Kd.M Kd.string _ _ _ (⟨#[103, 35]⟩ : ByteArray) [.string (⟨#[103, 35]⟩ : ByteArray)] from rfl) (Reps.one (show Kd.M Kd.string _ _ _ (⟨#[97]⟩ : ByteArray) [.string (⟨#[97]⟩ : ByteArray)] from rfl) (Reps.one (show Kd.M Kd.string _ _ _ (⟨#[97, 35]⟩ : ByteArray) [.string (⟨#[97, 35]⟩ : ByteArray)] from rfl) (Reps.one (show Kd.M Kd.string _ _ _ (⟨#[98]⟩ : ByteArray) [.string (⟨#[98]⟩ : ByteArray)] from rfl) (Reps.none _ _)))))))))))))); intro v172 w1 ho2 hb hg_ hnew_; clear hg_ hnew_; (first | rw [← Ny171.out] at ho2 | (simp only [Int.reduceToNat] at ho2; rw [← Ny171.out] at ho2)); have HO173 := zm (Kd.R_lower ho2 (below_size zb)); replace HB := zm (below_step zb hb); clear hb ho2))
 go_ret
 exact ⟨_, zr, zP HO173.out, zb⟩

end Go.Proofs.YtjdkdbeenggfaaaDoor.PPt
