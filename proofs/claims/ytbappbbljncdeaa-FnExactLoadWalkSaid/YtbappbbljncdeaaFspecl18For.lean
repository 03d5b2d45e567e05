-- Printed by wip/px/px.py of this claim's repository (the kit's printer, extended there). Lean checks it.
import Derived.Test.YtbappbbljncdeaaFKinds
namespace Go.Proofs.Ytbappbbljncdeaa.F
open Go.RowKit Go.Proofs.YtbappbbljncdeaaW.PrintWords Go.Proofs.YtbappbbljncdeaaW.PrintLast Go.Proofs.YtbappbbljncdeaaW.PrintMore
attribute [local go_sem] max2_int min2_int max_two min_two max_three min_three max_four min_four   -- for this text's walks alone
set_option linter.unusedVariables false
set_option linter.unusedSimpArgs false

/-! ### spec_l18For: function 88 -/
def spec_l18For.l0 : Nat → Int → Int → Int → List (S100) → Int → List (S100) → Option (Int × (List (S100)))
 | 0, _, _, _, _, _, _ => none
 | k + 1, x1, x6, x538000, x538001, x540000, x540001 => if x6 < (x538001.length : Int) then (if 0 ≤ x6 then (if ((rd_T100 x538001 x6).f4) ≥ x1 then (if x540001.length < 3518437208883 then (spec_l18For.l0 k x1 (wrap64 (x6 + 1)) x538000 x538001 x540000 (x540001 ++ [(⟨(rd_T100 x538001 x6).f0, (rd_T100 x538001 x6).f1, (rd_T100 x538001 x6).f2, (rd_T100 x538001 x6).f3, (rd_T100 x538001 x6).f4⟩ : S100)])) else (none)) else (spec_l18For.l0 k x1 (wrap64 (x6 + 1)) x538000 x538001 x540000 x540001)) else (none)) else (some (x540000, x540001))
def spec_l18For.f (k : Nat) (a0_0 : Int) (l0_1 : List (S100)) (a1 : Int) : Option (Int × (List (S100))) := spec_l18For.l0 k a1 0 a0_0 l0_1 a0_0 ([] : List (S100))
theorem spec_l18For.mono_l : ∀ k, (∀ y0 y1 y2 y3 y4 y5, LeO (spec_l18For.l0 k y0 y1 y2 y3 y4 y5) (spec_l18For.l0 (k + 1) y0 y1 y2 y3 y4 y5))
 | 0 => fun _ _ _ _ _ _ r h => by simp [spec_l18For.l0] at h
 | k + 1 => by
  have ih0 := spec_l18For.mono_l k
  ·intro y0 y1 y2 y3 y4 y5
   unfold spec_l18For.l0
   repeat' first
   | (with_reducible exact ih0 _ _ _ _ _ _)
   | (with_reducible exact LeO.refl _)
   | (with_reducible exact LeO.none _)
   | (with_reducible refine LeO.ite ?_ ?_)
   | (with_reducible refine LeO.bind ?_ (fun _ => ?_))
   | exact ih0 _ _ _ _ _ _
   | exact LeO.none _
   | refine LeO.ite ?_ ?_
   | refine LeO.bind ?_ (fun _ => ?_)
theorem spec_l18For.mono : ∀ a0 a1 a2 k, LeO (spec_l18For.f k a0 a1 a2) (spec_l18For.f (k + 1) a0 a1 a2) := by
 intro a0 a1 a2 k
 have ih0 := spec_l18For.mono_l k
 unfold spec_l18For.f
 repeat' first
   | (with_reducible exact ih0 _ _ _ _ _ _)
   | (with_reducible exact LeO.refl _)
   | (with_reducible exact LeO.none _)
   | (with_reducible refine LeO.ite ?_ ?_)
   | (with_reducible refine LeO.bind ?_ (fun _ => ?_))
   | exact ih0 _ _ _ _ _ _
   | exact LeO.none _
   | refine LeO.ite ?_ ?_
   | refine LeO.bind ?_ (fun _ => ?_)
def spec_l18For.T6 : Bool × List (List Nat × List Nat) := (true, [([], []), ([0], [0]), ([], []), ([2], [2]), ([], []), ([3, 4], [3, 4]), ([5], [5]), ([6], [6]), ([1, 7], [1, 7]), ([0, 1, 2, 3, 4, 5, 6, 7, 8], []), ([9, 8, 8, 0, 1, 2, 3, 4, 5, 6, 7, 8], [8, 9])])
def spec_l18For.B6 : List Nat := [0, 1, 0, 4, 0, 28, 60, 124, 255, 511, 1023]
theorem spec_l18For.tab6 : rtab .any (opsOf Try.f88 6) = spec_l18For.T6 := by kernel_rfl
theorem spec_l18For.bits6 : waitsOk spec_l18For.T6.2 spec_l18For.B6 = true := by kernel_rfl
set_option maxHeartbeats 8000000 in
set_option maxRecDepth 100000 in
theorem spec_l18For.calls (k : Nat) (a0_0 : Int) (A0_1 : Option Addr) (c0_1 : Nat) (l0_1 : List (S100)) (a1 : Int) (r1 : Int) (r2 : List (S100)) (w : World) (hr0_1 : Kd.C k100 w A0_1 l0_1.length l0_1) (hc0_1 : l0_1.length ≤ c0_1) (h : spec_l18For.f k a0_0 l0_1 a1 = some (r1, r2)) :
  Calls Try.prog 88 #[.agg #[.int .i64 a0_0, .slice A0_1 l0_1.length c0_1], .int .i64 a1] w fun e w' => ∃ v1_ : Value, e = .returned (.agg #[.int .i64 r1, v1_]) ∧ Kd.R k100 100 w' w.heap.size (fun _ => True) v1_ r2 ∧ Below w.heap.size w w' := by
 have hu30 := Try.underlying30
 have hu100 := Try.underlying100
 have HR0_1 := Aside0.mk hr0_1
 have HC0_1 := Aside0.mk hc0_1
 clear hr0_1 hc0_1
 have HB := Aside0.mk (Below.refl w.heap.size w)
 have H : (spec_l18For.l0 k a1 0 a0_0 l0_1 a0_0 ([] : List (S100))) = some (r1, r2) := h
 clear h
 have H' := Aside0.mk H
 clear H
 go_enter Try.func88, Try.ntmps88
 go_wp2_with (first | ((with_reducible refine gate_dst (N := 2) rfl ?_); refine box_event ?hg (N := 2) ?hd (cs := #[.int .i64 a0_0, .slice A0_1 l0_1.length c0_1]) (t := 30) ?hr ?_; (case hd => rfl); (case hg => rfl); (case hr => first | (go_simp; done) | (go_simp; rfl)); intro gb537 hg w3 hbox hb; have BK537 := Aside0.mk (hbox); have GW537 := Aside0.mk ((by rw [hg]; exact (below_size (bl HB)) : w.heap.size ≤ gb537)); have GE537 := Aside0.mk ((by rw [hg]; exact (below_size (bl HB)) : w.heap.size ≤ gb537)); replace HB := Aside0.mk (below_step (bl HB) hb); clear hb hbox hg) | ((with_reducible refine gate_dst (N := 4) rfl ?_); refine box_event ?hg (N := 4) ?hd (cs := #[.int .i64 0, .slice none 0 0]) (t := 30) ?hr ?_; (case hd => rfl); (case hg => rfl); (case hr => first | (go_simp; done) | (go_simp; rfl)); intro gb538 hg w4 hbox hb; have BK538 := Aside0.mk (hbox); have GW538 := Aside0.mk ((by rw [hg]; exact (below_size (bl1 HB GE537)) : w.heap.size ≤ gb538)); have GE538 := Aside0.mk ((by rw [hg]; exact (below_size (bl1 HB GE537)) : w.heap.size ≤ gb538)); replace HB := Aside0.mk (below_step (bl1 HB GE537) hb); have NB537_538 := Aside0.mk ((by rw [hg]; exact Nat.ne_of_lt (blk_lt (bk BK537)) : gb537 ≠ gb538)); have NB538_537 := Aside0.mk ((by rw [hg]; exact Nat.ne_of_gt (blk_lt (bk BK537)) : gb538 ≠ gb537)); replace BK537 := Aside0.mk (blk_below (bk BK537) hb); clear hb hbox hg; have hnb5 := NB537_538.out; have hnc5 := NB538_537.out; have hcz6_0 : w4.cell? ⟨gb537, 0, none⟩ = some (.int .i64 a0_0) := (blk_cell BK537.out 0).trans rfl; have hcz6_1 : w4.cell? ⟨gb537, 1, none⟩ = some (.slice A0_1 l0_1.length c0_1) := (blk_cell BK537.out 1).trans rfl; have hfz6_0 := blk_frozen BK537.out 0; have hfz6_1 := blk_frozen BK537.out 1) | ((with_reducible refine gate_dst (N := 5) rfl ?_); refine box_event ?hg (N := 5) ?hd (cs := #[.int .i64 0, .slice none 0 0]) (t := 30) ?hr ?_; (case hd => rfl); (case hg => rfl); (case hr => first | (go_simp; done) | (go_simp; rfl)); intro gb539 hg w7 hbox hb; have BK539 := Aside0.mk (hbox); have GW539 := Aside0.mk ((by rw [hg]; exact (below_size (bl2 HB GE537 GE538)) : w.heap.size ≤ gb539)); have GE539 := Aside0.mk ((by rw [hg]; exact (below_size (bl2 HB GE537 GE538)) : w.heap.size ≤ gb539)); replace HB := Aside0.mk (below_step (bl2 HB GE537 GE538) hb); have NB537_539 := Aside0.mk ((by rw [hg]; exact Nat.ne_of_lt (blk_lt (bk BK537)) : gb537 ≠ gb539)); have NB539_537 := Aside0.mk ((by rw [hg]; exact Nat.ne_of_gt (blk_lt (bk BK537)) : gb539 ≠ gb537)); replace BK537 := Aside0.mk (blk_below (bk BK537) hb); have NB538_539 := Aside0.mk ((by rw [hg]; exact Nat.ne_of_lt (blk_lt (bk BK538)) : gb538 ≠ gb539)); have NB539_538 := Aside0.mk ((by rw [hg]; exact Nat.ne_of_gt (blk_lt (bk BK538)) : gb539 ≠ gb538)); replace BK538 := Aside0.mk (blk_below (bk BK538) hb); clear hb hbox hg; have hnb8 := NB539_537.out; have hnc8 := NB537_539.out; have hnb9 := NB539_538.out; have hnc9 := NB538_539.out; have hcz10_0 : w7.cell? ⟨gb539, 0, none⟩ = some (.int .i64 0) := (blk_cell BK539.out 0).trans rfl; have hcz10_1 : w7.cell? ⟨gb539, 1, none⟩ = some (.slice none 0 0) := (blk_cell BK539.out 1).trans rfl; have hfz10_0 := blk_frozen BK539.out 0; have hfz10_1 := blk_frozen BK539.out 1))
 go_loopg [6] k (fun kq v6 w' => ∃ (x6_1 : Int) (x540001_1 : List (S100)) (u540001 : Value), v6 = .int .i64 x6_1 ∧ Aside0 (spec_l18For.l0 kq a1 x6_1 a0_0 l0_1 a0_0 x540001_1 = some (r1, r2)) ∧ Aside0 (kq ≤ k) ∧ Aside0 (Kd.R k100 100 w' w.heap.size (fun _ => True) u540001 x540001_1) ∧ Aside0 (w'.heap[gb537]? = some (.cells #[.int .i64 a0_0, (.slice A0_1 l0_1.length c0_1)] 30 (0, 0))) ∧ Aside0 (w'.heap[gb538]? = some (.cells #[.int .i64 0, (.slice none 0 0)] 30 (0, 0))) ∧ Aside0 (w'.heap[gb539]? = some (.cells #[.int .i64 a0_0, u540001] 30 (0, 0))) ∧ Aside0 (Below w.heap.size w w'))
 case atStart => exact ⟨(0), (([] : List (S100))), (.slice none 0 0), (by first | rfl | (simp; done) | (simp [*]; done)), H', ⟨Nat.le_refl _⟩, ⟨by first | exact Kd.R_nil _ _ _ _ _ | exact Kd.N_nil _ _ _ _ _ | exact Kd.V_nil _ _ _ _ _ | exact Kd.Q_nil _ _ _ _ _ | exact Kd.S_nil _ _ _ _ _⟩, ⟨by (with_reducible repeat (first | refine blk_drewN ?_ _ | refine blk_drew ?_ | refine blk_alloc ?_ _)); refine blk_far ?_ NB537_539.out _; refine blk_far ?_ NB537_539.out _; (with_reducible repeat (first | refine blk_drewN ?_ _ | refine blk_drew ?_ | refine blk_alloc ?_ _)); exact BK537.out⟩, ⟨by (with_reducible repeat (first | refine blk_drewN ?_ _ | refine blk_drew ?_ | refine blk_alloc ?_ _)); refine blk_far ?_ NB538_539.out _; refine blk_far ?_ NB538_539.out _; (with_reducible repeat (first | refine blk_drewN ?_ _ | refine blk_drew ?_ | refine blk_alloc ?_ _)); exact BK538.out⟩, ⟨by (with_reducible repeat (first | refine blk_drewN ?_ _ | refine blk_drew ?_ | refine blk_alloc ?_ _)); refine blk_put (cs := #[.int .i64 a0_0, .slice none 0 0]) ?_ 1 _ rfl; refine blk_put (cs := #[.int .i64 0, .slice none 0 0]) ?_ 0 _ rfl; (with_reducible repeat (first | refine blk_drewN ?_ _ | refine blk_drew ?_ | refine blk_alloc ?_ _)); exact BK539.out⟩, ⟨bl3 HB GE537 GE538 GE539⟩⟩
 clear H'
 try clear p2
 try clear c5
 try clear c8
 try clear c9
 try clear hcz10_0
 try clear hcz10_1
 try clear hcz6_0
 try clear hcz6_1
 try clear hfz10_0
 try clear hfz10_1
 try clear hfz6_0
 try clear hfz6_1
 obtain ⟨x6_1, x540001_1, u540001, rfl, HA, HK1, HO_540001, BK537, BK538, BK539, HB⟩ := hrel
 cases gk with
 | zero => exact absurd HA.out (by simp [spec_l18For.l0])
 | succ k1 =>
  have H := HA.out
  clear HA
  simp only [spec_l18For.l0] at H
  by_cases c11 : x6_1 < (l0_1.length : Int)
  rotate_left
  ·rw [if_neg c11] at H
   have c11b0 : decide (x6_1 < (l0_1.length : Int)) = false := decide_eq_false c11
   clear c11
   simp only [Option.some.injEq, Prod.mk.injEq] at H
   obtain ⟨rfl, rfl⟩ := H
   have hnb25 := NB537_538.out
   have hnc25 := NB538_537.out
   have hnb26 := NB537_539.out
   have hnc26 := NB539_537.out
   have hcz27_0 : wr.cell? ⟨gb537, 0, none⟩ = some (.int .i64 a0_0) := (blk_cell BK537.out 0).trans rfl
   have hcz27_1 : wr.cell? ⟨gb537, 1, none⟩ = some (.slice A0_1 l0_1.length c0_1) := (blk_cell BK537.out 1).trans rfl
   have hfz27_0 := blk_frozen BK537.out 0
   have hfz27_1 := blk_frozen BK537.out 1
   have hnb28 := NB539_538.out
   have hnc28 := NB538_539.out
   have hcz29_0 : wr.cell? ⟨gb539, 0, none⟩ = some (.int .i64 a0_0) := (blk_cell BK539.out 0).trans rfl
   have hcz29_1 : wr.cell? ⟨gb539, 1, none⟩ = some (u540001) := (blk_cell BK539.out 1).trans rfl
   have hfz29_0 := blk_frozen BK539.out 0
   have hfz29_1 := blk_frozen BK539.out 1
   have hcz30_0 : wr.cell? ⟨gb538, 0, none⟩ = some (.int .i64 0) := (blk_cell BK538.out 0).trans rfl
   have hcz30_1 : wr.cell? ⟨gb538, 1, none⟩ = some (.slice none 0 0) := (blk_cell BK538.out 1).trans rfl
   have hfz30_0 := blk_frozen BK538.out 0
   have hfz30_1 := blk_frozen BK538.out 1
   obtain ⟨Ao31, co31, eo31⟩ := Kd.R_slice HO_540001.out
   subst eo31
   go_wp2
   refine bodyPost_ret (results_cell_row rfl _ _ gb538 30 #[.int .i64 a0_0, .slice Ao31 x540001_1.length co31] (0, 0) _ rfl (by (with_reducible repeat (first | refine blk_drewN ?_ _ | refine blk_drew ?_ | refine blk_alloc ?_ _)); refine blk_put (cs := #[.int .i64 a0_0, .slice none 0 0]) ?_ 1 _ rfl; refine blk_put (cs := #[.int .i64 0, .slice none 0 0]) ?_ 0 _ rfl; (with_reducible repeat (first | refine blk_drewN ?_ _ | refine blk_drew ?_ | refine blk_alloc ?_ _)); exact BK538.out) Try.underlying30 rfl (by kernel_rfl)) rfl ?_
   exact ⟨_, by first | rfl | (simp [errW_none, errW_some] <;> rfl) | (simp [*, errW_none, errW_some] <;> rfl), by (with_reducible repeat (first | apply Kd.R_alloc | apply Kd.R_drewN | apply Kd.R_drew)); exact Kd.R_mono (Kd.R_far (p := ⟨gb538, 1, none⟩) (Kd.R_far (p := ⟨gb538, 0, none⟩) (Kd.R_types HO_540001.out BK538.out (by decide)) (fun _ hk => hk.2) (.int .i64 a0_0)) (fun _ hk => hk.2) (.slice Ao31 x540001_1.length co31)) (fun _ hk => trivial), bl3 HB GE537 GE538 GE539⟩
  rw [if_pos c11] at H
  have c11b0 : decide (x6_1 < (l0_1.length : Int)) = true := decide_eq_true c11
  clear c11
  by_cases c12 : 0 ≤ x6_1
  rotate_left
  ·rw [if_neg c12] at H
   exact absurd H (by simp)
  rw [if_pos c12] at H
  have c12b0 : decide (0 ≤ x6_1) = true := decide_eq_true c12
  clear c12
  by_cases c13 : ((rd_T100 l0_1 x6_1).f4) ≥ a1
  rotate_left
  ·rw [if_neg c13] at H
   have c13b0 : decide (a1 ≤ ((rd_T100 l0_1 x6_1).f4)) = false := decide_eq_false c13
   clear c13
   have H' := Aside0.mk H
   clear H
   have hnb22 := NB537_538.out
   have hnc22 := NB538_537.out
   have hnb23 := NB537_539.out
   have hnc23 := NB539_537.out
   have hcz24_0 : wr.cell? ⟨gb537, 0, none⟩ = some (.int .i64 a0_0) := (blk_cell BK537.out 0).trans rfl
   have hcz24_1 : wr.cell? ⟨gb537, 1, none⟩ = some (.slice A0_1 l0_1.length c0_1) := (blk_cell BK537.out 1).trans rfl
   have hfz24_0 := blk_frozen BK537.out 0
   have hfz24_1 := blk_frozen BK537.out 1
   have p540 : 0 ≤ (x6_1 : Int) := oT (by first | (with_reducible assumption) | assumption)
   have q540 : x6_1 < (l0_1.length : Int) := oT (by first | (with_reducible assumption) | assumption)
   obtain ⟨ad540, e540, hx540_0, hx540_1, hx540_2, hx540_3, hx540_4⟩ := at_T100 HR0_1.out x6_1 p540 q540
   cases e540
   replace hx540_0 := hcb HB.out hx540_0
   replace hx540_1 := hcb HB.out hx540_1
   replace hx540_2 := hcb HB.out hx540_2
   replace hx540_3 := hcb HB.out hx540_3
   replace hx540_4 := hcb HB.out hx540_4
   replace p540 := eq_true p540
   replace q540 := eq_true q540
   go_wp2
   go_roundg k1
   case measure => have := HK1.out; omega
   case rel => exact ⟨(wrap64 (x6_1 + 1)), (x540001_1), (u540001), (by first | rfl | (simp; done) | (simp [*]; done)), H', ⟨by have := HK1.out; omega⟩, ⟨rk HO_540001⟩, ⟨bk BK537⟩, ⟨bk BK538⟩, ⟨bk BK539⟩, ⟨bl3 HB GE537 GE538 GE539⟩⟩
  rw [if_pos c13] at H
  have c13b0 : decide (a1 ≤ ((rd_T100 l0_1 x6_1).f4)) = true := decide_eq_true c13
  clear c13
  by_cases c14 : x540001_1.length < 3518437208883
  rotate_left
  ·rw [if_neg c14] at H
   exact absurd H (by simp)
  rw [if_pos c14] at H
  have LMc14 := Aside0.mk c14
  clear c14
  obtain ⟨y542, hy542⟩ : ∃ y_ : List (S100), y_ = (x540001_1 ++ [(⟨(rd_T100 l0_1 x6_1).f0, (rd_T100 l0_1 x6_1).f1, (rd_T100 l0_1 x6_1).f2, (rd_T100 l0_1 x6_1).f3, (rd_T100 l0_1 x6_1).f4⟩ : S100)]) := ⟨_, rfl⟩
  replace H : (spec_l18For.l0 k1 a1 (wrap64 (x6_1 + 1)) a0_0 l0_1 a0_0 y542) = some (r1, r2) := by first | (rw [hy542]; with_reducible exact H) | (have H2_ := (Option.bind_some _ _).symm.trans H; rw [hy542]; with_reducible exact H2_) | (have H2_ := (Option.bind_some _ _).symm.trans H; with_reducible exact H2_) | with_reducible exact H | (rw [hy542]; exact H) | exact H
  have Ny542 := Aside0.mk hy542
  clear hy542
  have H' := Aside0.mk H
  clear H
  have hnb15 := NB537_538.out
  have hnc15 := NB538_537.out
  have hnb16 := NB537_539.out
  have hnc16 := NB539_537.out
  have hcz17_0 : wr.cell? ⟨gb537, 0, none⟩ = some (.int .i64 a0_0) := (blk_cell BK537.out 0).trans rfl
  have hcz17_1 : wr.cell? ⟨gb537, 1, none⟩ = some (.slice A0_1 l0_1.length c0_1) := (blk_cell BK537.out 1).trans rfl
  have hfz17_0 := blk_frozen BK537.out 0
  have hfz17_1 := blk_frozen BK537.out 1
  have p540 : 0 ≤ (x6_1 : Int) := oT (by first | (with_reducible assumption) | assumption)
  have q540 : x6_1 < (l0_1.length : Int) := oT (by first | (with_reducible assumption) | assumption)
  obtain ⟨ad540, e540, hx540_0, hx540_1, hx540_2, hx540_3, hx540_4⟩ := at_T100 HR0_1.out x6_1 p540 q540
  cases e540
  replace hx540_0 := hcb HB.out hx540_0
  replace hx540_1 := hcb HB.out hx540_1
  replace hx540_2 := hcb HB.out hx540_2
  replace hx540_3 := hcb HB.out hx540_3
  replace hx540_4 := hcb HB.out hx540_4
  replace p540 := eq_true p540
  replace q540 := eq_true q540
  try go_wp2
  replace HO_540001 := Aside0.mk (Kd.R_drew HO_540001.out)
  replace BK537 := Aside0.mk (blk_drew BK537.out)
  replace BK538 := Aside0.mk (blk_drew BK538.out)
  replace BK539 := Aside0.mk (blk_drew BK539.out)
  replace HB := Aside0.mk (below_drew1 HB.out)
  have p541 : 0 ≤ (x6_1 : Int) := oT (by first | (with_reducible assumption) | assumption)
  have q541 : x6_1 < (l0_1.length : Int) := oT (by first | (with_reducible assumption) | assumption)
  obtain ⟨ad541, e541, hx541_0, hx541_1, hx541_2, hx541_3, hx541_4⟩ := at_T100 HR0_1.out x6_1 p541 q541
  have hw541_4 := hx541_4
  have hw541_3 := hx541_3
  have hw541_2 := hx541_2
  have hw541_1 := hx541_1
  have hw541_0 := hx541_0
  obtain rfl : ad540 = ad541 := (by injection e541)
  replace hx541_0 := hcb HB.out hx541_0
  replace hx541_1 := hcb HB.out hx541_1
  replace hx541_2 := hcb HB.out hx541_2
  replace hx541_3 := hcb HB.out hx541_3
  replace hx541_4 := hcb HB.out hx541_4
  replace p541 := eq_true p541
  replace q541 := eq_true q541
  refine start_ (n := 11) (S := fun w' => w'.cell? ⟨gb539, 0, none⟩ = some (.int .i64 a0_0) ∧ w'.cell? ⟨gb539, 1, none⟩ = some (u540001) ∧ w'.cell? ⟨gb537, 0, none⟩ = some (.int .i64 a0_0) ∧ w'.cell? ⟨gb537, 1, none⟩ = some (.slice (some ad540) l0_1.length c0_1) ∧ w'.cell? (ad540.add ((x6_1).toNat * 5)) = some (.int .i64 ((rd_T100 l0_1 x6_1).f0)) ∧ w'.cell? ⟨(ad540.add ((x6_1).toNat * 5)).block, (ad540.add ((x6_1).toNat * 5)).off + 1, none⟩ = some (.int .i64 ((rd_T100 l0_1 x6_1).f1)) ∧ w'.cell? ⟨(ad540.add ((x6_1).toNat * 5)).block, (ad540.add ((x6_1).toNat * 5)).off + 2, none⟩ = some (.int .i64 ((rd_T100 l0_1 x6_1).f2)) ∧ w'.cell? ⟨(ad540.add ((x6_1).toNat * 5)).block, (ad540.add ((x6_1).toNat * 5)).off + 3, none⟩ = some (.int .i64 ((rd_T100 l0_1 x6_1).f3)) ∧ w'.cell? ⟨(ad540.add ((x6_1).toNat * 5)).block, (ad540.add ((x6_1).toNat * 5)).off + 4, none⟩ = some (.int .i64 ((rd_T100 l0_1 x6_1).f4))) (ds := [10]) (ms 11 0) (by kernel_rfl) rfl (by kernel_rfl) ⟨(blk_cell BK539.out 0).trans rfl, (blk_cell BK539.out 1).trans rfl, (blk_cell BK537.out 0).trans rfl, (blk_cell BK537.out 1).trans rfl, ((HB.out.cell (World.block_lt_of_cell? w _ hw541_0)).trans hw541_0), ((HB.out.cell (World.block_lt_of_cell? w _ hw541_1)).trans hw541_1), ((HB.out.cell (World.block_lt_of_cell? w _ hw541_2)).trans hw541_2), ((HB.out.cell (World.block_lt_of_cell? w _ hw541_3)).trans hw541_3), ((HB.out.cell (World.block_lt_of_cell? w _ hw541_4)).trans hw541_4)⟩ (fun hHeld => ?_); refine with_tabW spec_l18For.tab6 spec_l18For.bits6 (fun HT_ HW_ => ?_)
  generalize wr.drew = w18 at HO_540001 BK537 BK538 BK539 HB hx541_0 hx541_1 hx541_2 hx541_3 hx541_4 hHeld ⊢
  refine pure_ (i := 0) (N := some 25) (v := ?_) (a' := ?_) (ms 11 1) rfl rfl (any_of HT_.out (by kernel_rfl)) (fun _ _ _ h => h) (Or.inl ⟨by rfl, ?_⟩) ?_ ?_
  rotate_left
  ·intro w'
   go_simp
   with_reducible rfl
  rotate_left
  ·simp only [Act.put, sA, sB, sC, i64_w, i32_w]
   rfl
  refine pure_ (i := 2) (N := some 27) (v := ?_) (a' := ?_) (ms 11 5) rfl rfl (any_of HT_.out (by kernel_rfl)) (fun _ _ _ h => h) (Or.inl ⟨by rfl, ?_⟩) ?_ ?_
  rotate_left
  ·intro w'
   go_simp
   with_reducible rfl
  rotate_left
  ·simp only [Act.put, sA, sB, sC, i64_w, i32_w]
   rfl
  refine pure_ (i := 4) (N := some 29) (v := ?_) (a' := ?_) (ms 11 21) rfl rfl (any_of HT_.out (by kernel_rfl)) (fun _ _ _ h => h) (Or.inl ⟨by rfl, ?_⟩) ?_ ?_
  rotate_left
  ·intro w'
   go_simp
   with_reducible rfl
  rotate_left
  ·simp only [Act.put, sA, sB, sC, i64_w, i32_w]
   rfl
  refine take_ (i := 1) (N := some 26) (v := ?_) (a' := ?_) (ms 11 23) rfl rfl (take_ofW HT_.out HW_.out (by kernel_rfl)) (fun _ _ _ h => h) (Or.inl ⟨by rfl, ?_⟩) hHeld ?_ ?_
  rotate_left
  ·rintro w' ⟨s0, s1, s2, s3, s4, s5, s6, s7, s8⟩
   go_simp
   with_reducible rfl
  rotate_left
  ·simp only [Act.put, sA, sB, sC, i64_w, i32_w]
   rfl
  refine take_ (i := 3) (N := some 28) (v := ?_) (a' := ?_) (ms 11 31) rfl rfl (take_ofW HT_.out HW_.out (by kernel_rfl)) (fun _ _ _ h => h) (Or.inl ⟨by rfl, ?_⟩) hHeld ?_ ?_
  rotate_left
  ·rintro w' ⟨s0, s1, s2, s3, s4, s5, s6, s7, s8⟩
   go_simp
   with_reducible rfl
  rotate_left
  ·simp only [Act.put, sA, sB, sC, i64_w, i32_w]
   rfl
  refine pure_ (i := 5) (N := some 30) (v := ?_) (a' := ?_) (ms 11 63) rfl rfl (any_of HT_.out (by kernel_rfl)) (fun _ _ _ h => h) (Or.inl ⟨by rfl, ?_⟩) ?_ ?_
  rotate_left
  ·intro w'
   go_simp
   with_reducible rfl
  rotate_left
  ·simp only [Act.put, sA, sB, sC, i64_w, i32_w]
   rfl
  refine take_ (i := 6) (N := some 31) (v := ?_) (a' := ?_) (ms 11 127) rfl rfl (take_ofW HT_.out HW_.out (by kernel_rfl)) (fun _ _ _ h => h) (Or.inl ⟨by rfl, ?_⟩) hHeld ?_ ?_
  rotate_left
  ·rintro w' ⟨s0, s1, s2, s3, s4, s5, s6, s7, s8⟩
   go_simp
   with_reducible rfl
  rotate_left
  ·simp only [Act.put, sA, sB, sC, i64_w, i32_w]
   rfl
  refine one_ (i := 7) (N := some 32) (ms 11 255) rfl rfl (one_of HT_.out (by kernel_rfl)) (by decide) (fun K hK => ?_)
  refine value_ (w1 := ?_) (v := ?_) (by rfl) rfl ?_ ?_
  rotate_left 2
  ·go_simp
   constructor
   rotate_left
   ·rfl
   rfl
  refine hK.out _ _ ⟨(blk_cell (blk_alloc BK539.out _) 0).trans rfl, (blk_cell (blk_alloc BK539.out _) 1).trans rfl, (blk_cell (blk_alloc BK537.out _) 0).trans rfl, (blk_cell (blk_alloc BK537.out _) 1).trans rfl, (World.cell?_alloc_lt _ _ _ (World.block_lt_of_cell? _ _ (((HB.out.cell (World.block_lt_of_cell? w _ hw541_0)).trans hw541_0)))).trans (((HB.out.cell (World.block_lt_of_cell? w _ hw541_0)).trans hw541_0)), (World.cell?_alloc_lt _ _ _ (World.block_lt_of_cell? _ _ (((HB.out.cell (World.block_lt_of_cell? w _ hw541_1)).trans hw541_1)))).trans (((HB.out.cell (World.block_lt_of_cell? w _ hw541_1)).trans hw541_1)), (World.cell?_alloc_lt _ _ _ (World.block_lt_of_cell? _ _ (((HB.out.cell (World.block_lt_of_cell? w _ hw541_2)).trans hw541_2)))).trans (((HB.out.cell (World.block_lt_of_cell? w _ hw541_2)).trans hw541_2)), (World.cell?_alloc_lt _ _ _ (World.block_lt_of_cell? _ _ (((HB.out.cell (World.block_lt_of_cell? w _ hw541_3)).trans hw541_3)))).trans (((HB.out.cell (World.block_lt_of_cell? w _ hw541_3)).trans hw541_3)), (World.cell?_alloc_lt _ _ _ (World.block_lt_of_cell? _ _ (((HB.out.cell (World.block_lt_of_cell? w _ hw541_4)).trans hw541_4)))).trans (((HB.out.cell (World.block_lt_of_cell? w _ hw541_4)).trans hw541_4))⟩ (fun hHeld => ?_)
  clear hK K
  refine norm_ (a' := ?_) ?_ ?_
  rotate_left
  ·show Act.put _ (some 32) _ = _
   simp only [Act.put, sA, sB, sC, i64_w, i32_w]
   rfl
  refine one_ (i := 8) (N := some 33) (ms 11 511) rfl rfl (one_of HT_.out (by kernel_rfl)) (by decide) (fun K hK => ?_)
  refine Kd.R_append_step k100 (w0 := w) w.heap.size (by rfl) (.tmp 26) (.tmp 32) 28 100 (.agg #[(.int .i64 0), (.int .i64 0), (.int .i64 0), (.int .i64 0), (.int .i64 0)]) 40 rfl Try.underlying28 info100 rfl (by decide) (by omega) u540001 x540001_1 (⟨(rd_T100 l0_1 x6_1).f0, (rd_T100 l0_1 x6_1).f1, (rd_T100 l0_1 x6_1).f2, (rd_T100 l0_1 x6_1).f3, (rd_T100 l0_1 x6_1).f4⟩ : S100) [.int .i64 ((rd_T100 l0_1 x6_1).f0), .int .i64 ((rd_T100 l0_1 x6_1).f1), .int .i64 ((rd_T100 l0_1 x6_1).f2), .int .i64 ((rd_T100 l0_1 x6_1).f3), .int .i64 ((rd_T100 l0_1 x6_1).f4)] (fun _ => True) (fun _ => False) rfl rfl ?aP (fun _ hk => hk.elim) ?aF ?aO ?aB ?aS ?aL ?_
  (case aP => exact k100_mkM _ _ _ (⟨(rd_T100 l0_1 x6_1).f0, (rd_T100 l0_1 x6_1).f1, (rd_T100 l0_1 x6_1).f2, (rd_T100 l0_1 x6_1).f3, (rd_T100 l0_1 x6_1).f4⟩ : S100))
  (case aB => exact (bl3 HB GE537 GE538 GE539))
  (case aF => exact (fun _ _ => trivial))
  (case aO => exact (rk HO_540001))
  (case aS => exact (below_size (bl3 HB GE537 GE538 GE539)))
  (case aL => have := LMc14.out; omega)
  intro v543 w19 ho hb hg hat
  rw [← Ny542.out] at ho
  have n0_ := Aside0.mk (blk_grown (bk BK537) hg (Kd.R_ne HO_540001.out BK537.out (by decide)))
  have n1_ := Aside0.mk (blk_grown (bk BK538) hg (Kd.R_ne HO_540001.out BK538.out (by decide)))
  have n2_ := Aside0.mk (blk_grown (bk BK539) hg (Kd.R_ne HO_540001.out BK539.out (by decide)))
  have n3_ := Aside0.mk (hb)
  have n4_ := Aside0.mk (ho)
  clear BK537
  clear BK538
  clear BK539
  clear HB
  clear HO_540001
  have BK537 := n0_
  have BK538 := n1_
  have BK539 := n2_
  have HB := n3_
  have HO544 := n4_
  clear n0_ n1_ n2_ n3_ n4_
  clear ho hb hg hat
  obtain ⟨Ao20, co20, eo20⟩ := Kd.R_slice HO544.out
  (first | subst eo20 | (injection eo20 with f1_ f2_ f3_; have f4_ := f1_.symm; have f5_ := f3_.symm; clear f1_ f2_ f3_; subst f4_; subst f5_))
  refine hK.out _ _ ⟨(blk_cell BK539.out 0).trans rfl, (blk_cell BK539.out 1).trans rfl, (blk_cell BK537.out 0).trans rfl, (blk_cell BK537.out 1).trans rfl, ((HB.out.cell (World.block_lt_of_cell? w _ hw541_0)).trans hw541_0), ((HB.out.cell (World.block_lt_of_cell? w _ hw541_1)).trans hw541_1), ((HB.out.cell (World.block_lt_of_cell? w _ hw541_2)).trans hw541_2), ((HB.out.cell (World.block_lt_of_cell? w _ hw541_3)).trans hw541_3), ((HB.out.cell (World.block_lt_of_cell? w _ hw541_4)).trans hw541_4)⟩ (fun hHeld => ?_)
  clear hK K
  refine norm_ (a' := ?_) ?_ ?_
  rotate_left
  ·show Act.put _ (some 33) _ = _
   simp only [Act.put, sA, sB, sC, i64_w, i32_w]
   rfl
  refine pure_ (i := 9) (N := some 34) (v := ?_) (a' := ?_) (ms 11 1023) rfl rfl (any_of HT_.out (by kernel_rfl)) (fun _ _ _ h => h) (Or.inl ⟨by rfl, ?_⟩) ?_ ?_
  rotate_left
  ·intro w'
   go_simp
   with_reducible rfl
  rotate_left
  ·simp only [Act.put, sA, sB, sC, i64_w, i32_w]
   rfl
  refine last_ (i := 10) (N := none) (ms 11 2047) rfl rfl (one_of HT_.out (by kernel_rfl)) (by decide) (fun K hK => ?_)
  have hs21 : w19.cell? ⟨gb539, 1, none⟩ = some (u540001) := (blk_cell BK539.out 1).trans rfl
  have hfs21 := blk_frozen BK539.out 1
  have hns21_0 := NB537_539.out
  have hns21_1 := NB538_539.out
  have hms21_0 := NB539_537.out
  have hms21_1 := NB539_538.out
  refine skip_ (w1 := ?_) (by rfl) rfl ?_ ?_
  rotate_left
  ·go_simp
   rfl
  refine hK.out _ _ ?_
  clear hK K
  refine done_ (done_of HT_.out (by kernel_rfl)) ?_
  try go_wp2
  go_roundg k1
  case measure => have := HK1.out; omega
  case rel => exact ⟨(wrap64 (x6_1 + 1)), (y542), (.slice Ao20 y542.length co20), (by first | rfl | (simp; done) | (simp [*]; done)), H', ⟨by have := HK1.out; omega⟩, ⟨by (with_reducible repeat (first | apply Kd.R_alloc | apply Kd.R_drewN | apply Kd.R_drew)); exact Kd.R_mono (Kd.R_far (p := ⟨gb539, 1, none⟩) (Kd.R_types HO544.out BK539.out (by decide)) (fun _ hk => hk.2) (.slice Ao20 y542.length co20)) (fun _ hk => trivial)⟩, ⟨by (with_reducible repeat (first | refine blk_drewN ?_ _ | refine blk_drew ?_ | refine blk_alloc ?_ _)); refine blk_far ?_ NB537_539.out _; (with_reducible repeat (first | refine blk_drewN ?_ _ | refine blk_drew ?_ | refine blk_alloc ?_ _)); exact BK537.out⟩, ⟨by (with_reducible repeat (first | refine blk_drewN ?_ _ | refine blk_drew ?_ | refine blk_alloc ?_ _)); refine blk_far ?_ NB538_539.out _; (with_reducible repeat (first | refine blk_drewN ?_ _ | refine blk_drew ?_ | refine blk_alloc ?_ _)); exact BK538.out⟩, ⟨by (with_reducible repeat (first | refine blk_drewN ?_ _ | refine blk_drew ?_ | refine blk_alloc ?_ _)); refine blk_put (cs := #[.int .i64 a0_0, u540001]) ?_ 1 _ rfl; (with_reducible repeat (first | refine blk_drewN ?_ _ | refine blk_drew ?_ | refine blk_alloc ?_ _)); exact BK539.out⟩, ⟨bl3 HB GE537 GE538 GE539⟩⟩

end Go.Proofs.Ytbappbbljncdeaa.F
