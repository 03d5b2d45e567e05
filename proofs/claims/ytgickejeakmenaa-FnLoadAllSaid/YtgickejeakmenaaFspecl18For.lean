-- Printed by wip/px/px.py of this claim's repository (the kit's printer, extended there). Lean checks it.
import Derived.Test.YtgickejeakmenaaFKinds
namespace Go.Proofs.Ytgickejeakmenaa.F
open Go.RowKit Go.Proofs.YtgickejeakmenaaW.PrintWords Go.Proofs.YtgickejeakmenaaW.PrintLast Go.Proofs.YtgickejeakmenaaW.PrintMore
attribute [local go_sem] max2_int min2_int max_two min_two max_three min_three max_four min_four   -- for this text's walks alone
set_option linter.unusedVariables false
set_option linter.unusedSimpArgs false

/-! ### spec_l18For: function 98 -/
def spec_l18For.l0 : Nat → Int → Int → Int → List (S41) → Int → List (S41) → Option (Int × (List (S41)))
 | 0, _, _, _, _, _, _ => none
 | k + 1, x1, x6, x329000, x329001, x331000, x331001 => if x6 < (x329001.length : Int) then (if 0 ≤ x6 then (if ((rd_T41 x329001 x6).f4) ≥ x1 then (if x331001.length < 3518437208883 then (spec_l18For.l0 k x1 (wrap64 (x6 + 1)) x329000 x329001 x331000 (x331001 ++ [(⟨(rd_T41 x329001 x6).f0, (rd_T41 x329001 x6).f1, (rd_T41 x329001 x6).f2, (rd_T41 x329001 x6).f3, (rd_T41 x329001 x6).f4⟩ : S41)])) else (none)) else (spec_l18For.l0 k x1 (wrap64 (x6 + 1)) x329000 x329001 x331000 x331001)) else (none)) else (some (x331000, x331001))
def spec_l18For.f (k : Nat) (a0_0 : Int) (l0_1 : List (S41)) (a1 : Int) : Option (Int × (List (S41))) := spec_l18For.l0 k a1 0 a0_0 l0_1 a0_0 ([] : List (S41))
theorem spec_l18For.mono_l : ∀ k, (∀ y0 y1 y2 y3 y4 y5, LeO (spec_l18For.l0 k y0 y1 y2 y3 y4 y5) (spec_l18For.l0 (k + 1) y0 y1 y2 y3 y4 y5))
 | 0 => fun _ _ _ _ _ _ r h => by simp [spec_l18For.l0] at h
 | k + 1 => by
  have ih0 := spec_l18For.mono_l k
  ·intro y0 y1 y2 y3 y4 y5
   unfold spec_l18For.l0
   repeat' first
   | (with_reducible exact ih0 _ _ _ _ _ _)
   | (with_reducible exact LeO.refl _)
   | (with_reducible exact LeO.none _)
   | (with_reducible refine LeO.ite ?_ ?_)
   | (with_reducible refine LeO.bind ?_ (fun _ => ?_))
   | exact ih0 _ _ _ _ _ _
   | exact LeO.none _
   | refine LeO.ite ?_ ?_
   | refine LeO.bind ?_ (fun _ => ?_)
theorem spec_l18For.mono : ∀ a0 a1 a2 k, LeO (spec_l18For.f k a0 a1 a2) (spec_l18For.f (k + 1) a0 a1 a2) := by
 intro a0 a1 a2 k
 have ih0 := spec_l18For.mono_l k
 unfold spec_l18For.f
 repeat' first
   | (with_reducible exact ih0 _ _ _ _ _ _)
   | (with_reducible exact LeO.refl _)
   | (with_reducible exact LeO.none _)
   | (with_reducible refine LeO.ite ?_ ?_)
   | (with_reducible refine LeO.bind ?_ (fun _ => ?_))
   | exact ih0 _ _ _ _ _ _
   | exact LeO.none _
   | refine LeO.ite ?_ ?_
   | refine LeO.bind ?_ (fun _ => ?_)
def spec_l18For.T6 : Bool × List (List Nat × List Nat) := (true, [([], []), ([0], [0]), ([], []), ([2], [2]), ([], []), ([3, 4], [3, 4]), ([5], [5]), ([6], [6]), ([1, 7], [1, 7]), ([0, 1, 2, 3, 4, 5, 6, 7, 8], []), ([9, 8, 8, 0, 1, 2, 3, 4, 5, 6, 7, 8], [8, 9])])
def spec_l18For.B6 : List Nat := [0, 1, 0, 4, 0, 28, 60, 124, 255, 511, 1023]
theorem spec_l18For.tab6 : rtab .any (opsOf Try.f98 6) = spec_l18For.T6 := by kernel_rfl
theorem spec_l18For.bits6 : waitsOk spec_l18For.T6.2 spec_l18For.B6 = true := by kernel_rfl
set_option maxHeartbeats 8000000 in
set_option maxRecDepth 100000 in
theorem spec_l18For.calls (k : Nat) (a0_0 : Int) (A0_1 : Option Addr) (c0_1 : Nat) (l0_1 : List (S41)) (a1 : Int) (r1 : Int) (r2 : List (S41)) (w : World) (hr0_1 : Kd.C k41 w A0_1 l0_1.length l0_1) (hc0_1 : l0_1.length ≤ c0_1) (h : spec_l18For.f k a0_0 l0_1 a1 = some (r1, r2)) :
  Calls Try.prog 98 #[.agg #[.int .i64 a0_0, .slice A0_1 l0_1.length c0_1], .int .i64 a1] w fun e w' => ∃ v1_ : Value, e = .returned (.agg #[.int .i64 r1, v1_]) ∧ Kd.R k41 41 w' w.heap.size (fun _ => True) v1_ r2 ∧ Below w.heap.size w w' := by
 have hu25 := Try.underlying25
 have hu41 := Try.underlying41
 have HR0_1 := Aside0.mk hr0_1
 have HC0_1 := Aside0.mk hc0_1
 clear hr0_1 hc0_1
 have HB := Aside0.mk (Below.refl w.heap.size w)
 have H : (spec_l18For.l0 k a1 0 a0_0 l0_1 a0_0 ([] : List (S41))) = some (r1, r2) := h
 clear h
 have H' := Aside0.mk H
 clear H
 go_enter Try.func98, Try.ntmps98
 go_wp2_with (first | ((with_reducible refine gate_dst (N := 2) rfl ?_); refine box_event ?hg (N := 2) ?hd (cs := #[.int .i64 a0_0, .slice A0_1 l0_1.length c0_1]) (t := 25) ?hr ?_; (case hd => rfl); (case hg => rfl); (case hr => first | (go_simp; done) | (go_simp; rfl)); intro gb328 hg w3 hbox hb; have BK328 := Aside0.mk (hbox); have GW328 := Aside0.mk ((by rw [hg]; exact (below_size (bl HB)) : w.heap.size ≤ gb328)); have GE328 := Aside0.mk ((by rw [hg]; exact (below_size (bl HB)) : w.heap.size ≤ gb328)); replace HB := Aside0.mk (below_step (bl HB) hb); clear hb hbox hg) | ((with_reducible refine gate_dst (N := 4) rfl ?_); refine box_event ?hg (N := 4) ?hd (cs := #[.int .i64 0, .slice none 0 0]) (t := 25) ?hr ?_; (case hd => rfl); (case hg => rfl); (case hr => first | (go_simp; done) | (go_simp; rfl)); intro gb329 hg w4 hbox hb; have BK329 := Aside0.mk (hbox); have GW329 := Aside0.mk ((by rw [hg]; exact (below_size (bl1 HB GE328)) : w.heap.size ≤ gb329)); have GE329 := Aside0.mk ((by rw [hg]; exact (below_size (bl1 HB GE328)) : w.heap.size ≤ gb329)); replace HB := Aside0.mk (below_step (bl1 HB GE328) hb); have NB328_329 := Aside0.mk ((by rw [hg]; exact Nat.ne_of_lt (blk_lt (bk BK328)) : gb328 ≠ gb329)); have NB329_328 := Aside0.mk ((by rw [hg]; exact Nat.ne_of_gt (blk_lt (bk BK328)) : gb329 ≠ gb328)); replace BK328 := Aside0.mk (blk_below (bk BK328) hb); clear hb hbox hg; have hnb5 := NB328_329.out; have hnc5 := NB329_328.out; have hcz6_0 : w4.cell? ⟨gb328, 0, none⟩ = some (.int .i64 a0_0) := (blk_cell BK328.out 0).trans rfl; have hcz6_1 : w4.cell? ⟨gb328, 1, none⟩ = some (.slice A0_1 l0_1.length c0_1) := (blk_cell BK328.out 1).trans rfl; have hfz6_0 := blk_frozen BK328.out 0; have hfz6_1 := blk_frozen BK328.out 1) | ((with_reducible refine gate_dst (N := 5) rfl ?_); refine box_event ?hg (N := 5) ?hd (cs := #[.int .i64 0, .slice none 0 0]) (t := 25) ?hr ?_; (case hd => rfl); (case hg => rfl); (case hr => first | (go_simp; done) | (go_simp; rfl)); intro gb330 hg w7 hbox hb; have BK330 := Aside0.mk (hbox); have GW330 := Aside0.mk ((by rw [hg]; exact (below_size (bl2 HB GE328 GE329)) : w.heap.size ≤ gb330)); have GE330 := Aside0.mk ((by rw [hg]; exact (below_size (bl2 HB GE328 GE329)) : w.heap.size ≤ gb330)); replace HB := Aside0.mk (below_step (bl2 HB GE328 GE329) hb); have NB328_330 := Aside0.mk ((by rw [hg]; exact Nat.ne_of_lt (blk_lt (bk BK328)) : gb328 ≠ gb330)); have NB330_328 := Aside0.mk ((by rw [hg]; exact Nat.ne_of_gt (blk_lt (bk BK328)) : gb330 ≠ gb328)); replace BK328 := Aside0.mk (blk_below (bk BK328) hb); have NB329_330 := Aside0.mk ((by rw [hg]; exact Nat.ne_of_lt (blk_lt (bk BK329)) : gb329 ≠ gb330)); have NB330_329 := Aside0.mk ((by rw [hg]; exact Nat.ne_of_gt (blk_lt (bk BK329)) : gb330 ≠ gb329)); replace BK329 := Aside0.mk (blk_below (bk BK329) hb); clear hb hbox hg; have hnb8 := NB330_328.out; have hnc8 := NB328_330.out; have hnb9 := NB330_329.out; have hnc9 := NB329_330.out; have hcz10_0 : w7.cell? ⟨gb330, 0, none⟩ = some (.int .i64 0) := (blk_cell BK330.out 0).trans rfl; have hcz10_1 : w7.cell? ⟨gb330, 1, none⟩ = some (.slice none 0 0) := (blk_cell BK330.out 1).trans rfl; have hfz10_0 := blk_frozen BK330.out 0; have hfz10_1 := blk_frozen BK330.out 1))
 go_loopg [6] k (fun kq v6 w' => ∃ (x6_1 : Int) (x331001_1 : List (S41)) (u331001 : Value), v6 = .int .i64 x6_1 ∧ Aside0 (spec_l18For.l0 kq a1 x6_1 a0_0 l0_1 a0_0 x331001_1 = some (r1, r2)) ∧ Aside0 (kq ≤ k) ∧ Aside0 (Kd.R k41 41 w' w.heap.size (fun _ => True) u331001 x331001_1) ∧ Aside0 (w'.heap[gb328]? = some (.cells #[.int .i64 a0_0, (.slice A0_1 l0_1.length c0_1)] 25 (0, 0))) ∧ Aside0 (w'.heap[gb329]? = some (.cells #[.int .i64 0, (.slice none 0 0)] 25 (0, 0))) ∧ Aside0 (w'.heap[gb330]? = some (.cells #[.int .i64 a0_0, u331001] 25 (0, 0))) ∧ Aside0 (Below w.heap.size w w'))
 case atStart => exact ⟨(0), (([] : List (S41))), (.slice none 0 0), (by first | rfl | (simp; done) | (simp [*]; done)), H', ⟨Nat.le_refl _⟩, ⟨by first | exact Kd.R_nil _ _ _ _ _ | exact Kd.N_nil _ _ _ _ _ | exact Kd.V_nil _ _ _ _ _ | exact Kd.Q_nil _ _ _ _ _ | exact Kd.S_nil _ _ _ _ _⟩, ⟨by (with_reducible repeat (first | refine blk_drewN ?_ _ | refine blk_drew ?_ | refine blk_alloc ?_ _)); refine blk_far ?_ NB328_330.out _; refine blk_far ?_ NB328_330.out _; (with_reducible repeat (first | refine blk_drewN ?_ _ | refine blk_drew ?_ | refine blk_alloc ?_ _)); exact BK328.out⟩, ⟨by (with_reducible repeat (first | refine blk_drewN ?_ _ | refine blk_drew ?_ | refine blk_alloc ?_ _)); refine blk_far ?_ NB329_330.out _; refine blk_far ?_ NB329_330.out _; (with_reducible repeat (first | refine blk_drewN ?_ _ | refine blk_drew ?_ | refine blk_alloc ?_ _)); exact BK329.out⟩, ⟨by (with_reducible repeat (first | refine blk_drewN ?_ _ | refine blk_drew ?_ | refine blk_alloc ?_ _)); refine blk_put (cs := #[.int .i64 a0_0, .slice none 0 0]) ?_ 1 _ rfl; refine blk_put (cs := #[.int .i64 0, .slice none 0 0]) ?_ 0 _ rfl; (with_reducible repeat (first | refine blk_drewN ?_ _ | refine blk_drew ?_ | refine blk_alloc ?_ _)); exact BK330.out⟩, ⟨bl3 HB GE328 GE329 GE330⟩⟩
 clear H'
 try clear p2
 try clear c5
 try clear c8
 try clear c9
 try clear hcz10_0
 try clear hcz10_1
 try clear hcz6_0
 try clear hcz6_1
 try clear hfz10_0
 try clear hfz10_1
 try clear hfz6_0
 try clear hfz6_1
 obtain ⟨x6_1, x331001_1, u331001, rfl, HA, HK1, HO_331001, BK328, BK329, BK330, HB⟩ := hrel
 cases gk with
 | zero => exact absurd HA.out (by simp [spec_l18For.l0])
 | succ k1 =>
  have H := HA.out
  clear HA
  simp only [spec_l18For.l0] at H
  by_cases c11 : x6_1 < (l0_1.length : Int)
  rotate_left
  ·rw [if_neg c11] at H
   have c11b0 : decide (x6_1 < (l0_1.length : Int)) = false := decide_eq_false c11
   clear c11
   simp only [Option.some.injEq, Prod.mk.injEq] at H
   obtain ⟨rfl, rfl⟩ := H
   have hnb25 := NB328_329.out
   have hnc25 := NB329_328.out
   have hnb26 := NB328_330.out
   have hnc26 := NB330_328.out
   have hcz27_0 : wr.cell? ⟨gb328, 0, none⟩ = some (.int .i64 a0_0) := (blk_cell BK328.out 0).trans rfl
   have hcz27_1 : wr.cell? ⟨gb328, 1, none⟩ = some (.slice A0_1 l0_1.length c0_1) := (blk_cell BK328.out 1).trans rfl
   have hfz27_0 := blk_frozen BK328.out 0
   have hfz27_1 := blk_frozen BK328.out 1
   have hnb28 := NB330_329.out
   have hnc28 := NB329_330.out
   have hcz29_0 : wr.cell? ⟨gb330, 0, none⟩ = some (.int .i64 a0_0) := (blk_cell BK330.out 0).trans rfl
   have hcz29_1 : wr.cell? ⟨gb330, 1, none⟩ = some (u331001) := (blk_cell BK330.out 1).trans rfl
   have hfz29_0 := blk_frozen BK330.out 0
   have hfz29_1 := blk_frozen BK330.out 1
   have hcz30_0 : wr.cell? ⟨gb329, 0, none⟩ = some (.int .i64 0) := (blk_cell BK329.out 0).trans rfl
   have hcz30_1 : wr.cell? ⟨gb329, 1, none⟩ = some (.slice none 0 0) := (blk_cell BK329.out 1).trans rfl
   have hfz30_0 := blk_frozen BK329.out 0
   have hfz30_1 := blk_frozen BK329.out 1
   obtain ⟨Ao31, co31, eo31⟩ := Kd.R_slice HO_331001.out
   subst eo31
   go_wp2
   refine bodyPost_ret (results_cell_row rfl _ _ gb329 25 #[.int .i64 a0_0, .slice Ao31 x331001_1.length co31] (0, 0) _ rfl (by (with_reducible repeat (first | refine blk_drewN ?_ _ | refine blk_drew ?_ | refine blk_alloc ?_ _)); refine blk_put (cs := #[.int .i64 a0_0, .slice none 0 0]) ?_ 1 _ rfl; refine blk_put (cs := #[.int .i64 0, .slice none 0 0]) ?_ 0 _ rfl; (with_reducible repeat (first | refine blk_drewN ?_ _ | refine blk_drew ?_ | refine blk_alloc ?_ _)); exact BK329.out) Try.underlying25 rfl (by kernel_rfl)) rfl ?_
   exact ⟨_, by first | rfl | (simp [errW_none, errW_some] <;> rfl) | (simp [*, errW_none, errW_some] <;> rfl), by (with_reducible repeat (first | apply Kd.R_alloc | apply Kd.R_drewN | apply Kd.R_drew)); exact Kd.R_mono (Kd.R_far (p := ⟨gb329, 1, none⟩) (Kd.R_far (p := ⟨gb329, 0, none⟩) (Kd.R_types HO_331001.out BK329.out (by decide)) (fun _ hk => hk.2) (.int .i64 a0_0)) (fun _ hk => hk.2) (.slice Ao31 x331001_1.length co31)) (fun _ hk => trivial), bl3 HB GE328 GE329 GE330⟩
  rw [if_pos c11] at H
  have c11b0 : decide (x6_1 < (l0_1.length : Int)) = true := decide_eq_true c11
  clear c11
  by_cases c12 : 0 ≤ x6_1
  rotate_left
  ·rw [if_neg c12] at H
   exact absurd H (by simp)
  rw [if_pos c12] at H
  have c12b0 : decide (0 ≤ x6_1) = true := decide_eq_true c12
  clear c12
  by_cases c13 : ((rd_T41 l0_1 x6_1).f4) ≥ a1
  rotate_left
  ·rw [if_neg c13] at H
   have c13b0 : decide (a1 ≤ ((rd_T41 l0_1 x6_1).f4)) = false := decide_eq_false c13
   clear c13
   have H' := Aside0.mk H
   clear H
   have hnb22 := NB328_329.out
   have hnc22 := NB329_328.out
   have hnb23 := NB328_330.out
   have hnc23 := NB330_328.out
   have hcz24_0 : wr.cell? ⟨gb328, 0, none⟩ = some (.int .i64 a0_0) := (blk_cell BK328.out 0).trans rfl
   have hcz24_1 : wr.cell? ⟨gb328, 1, none⟩ = some (.slice A0_1 l0_1.length c0_1) := (blk_cell BK328.out 1).trans rfl
   have hfz24_0 := blk_frozen BK328.out 0
   have hfz24_1 := blk_frozen BK328.out 1
   have p331 : 0 ≤ (x6_1 : Int) := oT (by first | (with_reducible assumption) | assumption)
   have q331 : x6_1 < (l0_1.length : Int) := oT (by first | (with_reducible assumption) | assumption)
   obtain ⟨ad331, e331, hx331_0, hx331_1, hx331_2, hx331_3, hx331_4⟩ := at_T41 HR0_1.out x6_1 p331 q331
   cases e331
   replace hx331_0 := hcb HB.out hx331_0
   replace hx331_1 := hcb HB.out hx331_1
   replace hx331_2 := hcb HB.out hx331_2
   replace hx331_3 := hcb HB.out hx331_3
   replace hx331_4 := hcb HB.out hx331_4
   replace p331 := eq_true p331
   replace q331 := eq_true q331
   go_wp2
   go_roundg k1
   case measure => have := HK1.out; omega
   case rel => exact ⟨(wrap64 (x6_1 + 1)), (x331001_1), (u331001), (by first | rfl | (simp; done) | (simp [*]; done)), H', ⟨by have := HK1.out; omega⟩, ⟨rk HO_331001⟩, ⟨bk BK328⟩, ⟨bk BK329⟩, ⟨bk BK330⟩, ⟨bl3 HB GE328 GE329 GE330⟩⟩
  rw [if_pos c13] at H
  have c13b0 : decide (a1 ≤ ((rd_T41 l0_1 x6_1).f4)) = true := decide_eq_true c13
  clear c13
  by_cases c14 : x331001_1.length < 3518437208883
  rotate_left
  ·rw [if_neg c14] at H
   exact absurd H (by simp)
  rw [if_pos c14] at H
  have LMc14 := Aside0.mk c14
  clear c14
  obtain ⟨y333, hy333⟩ : ∃ y_ : List (S41), y_ = (x331001_1 ++ [(⟨(rd_T41 l0_1 x6_1).f0, (rd_T41 l0_1 x6_1).f1, (rd_T41 l0_1 x6_1).f2, (rd_T41 l0_1 x6_1).f3, (rd_T41 l0_1 x6_1).f4⟩ : S41)]) := ⟨_, rfl⟩
  replace H : (spec_l18For.l0 k1 a1 (wrap64 (x6_1 + 1)) a0_0 l0_1 a0_0 y333) = some (r1, r2) := by first | (rw [hy333]; with_reducible exact H) | (have H2_ := (Option.bind_some _ _).symm.trans H; rw [hy333]; with_reducible exact H2_) | (have H2_ := (Option.bind_some _ _).symm.trans H; with_reducible exact H2_) | with_reducible exact H | (rw [hy333]; exact H) | exact H
  have Ny333 := Aside0.mk hy333
  clear hy333
  have H' := Aside0.mk H
  clear H
  have hnb15 := NB328_329.out
  have hnc15 := NB329_328.out
  have hnb16 := NB328_330.out
  have hnc16 := NB330_328.out
  have hcz17_0 : wr.cell? ⟨gb328, 0, none⟩ = some (.int .i64 a0_0) := (blk_cell BK328.out 0).trans rfl
  have hcz17_1 : wr.cell? ⟨gb328, 1, none⟩ = some (.slice A0_1 l0_1.length c0_1) := (blk_cell BK328.out 1).trans rfl
  have hfz17_0 := blk_frozen BK328.out 0
  have hfz17_1 := blk_frozen BK328.out 1
  have p331 : 0 ≤ (x6_1 : Int) := oT (by first | (with_reducible assumption) | assumption)
  have q331 : x6_1 < (l0_1.length : Int) := oT (by first | (with_reducible assumption) | assumption)
  obtain ⟨ad331, e331, hx331_0, hx331_1, hx331_2, hx331_3, hx331_4⟩ := at_T41 HR0_1.out x6_1 p331 q331
  cases e331
  replace hx331_0 := hcb HB.out hx331_0
  replace hx331_1 := hcb HB.out hx331_1
  replace hx331_2 := hcb HB.out hx331_2
  replace hx331_3 := hcb HB.out hx331_3
  replace hx331_4 := hcb HB.out hx331_4
  replace p331 := eq_true p331
  replace q331 := eq_true q331
  try go_wp2
  replace HO_331001 := Aside0.mk (Kd.R_drew HO_331001.out)
  replace BK328 := Aside0.mk (blk_drew BK328.out)
  replace BK329 := Aside0.mk (blk_drew BK329.out)
  replace BK330 := Aside0.mk (blk_drew BK330.out)
  replace HB := Aside0.mk (below_drew1 HB.out)
  have p332 : 0 ≤ (x6_1 : Int) := oT (by first | (with_reducible assumption) | assumption)
  have q332 : x6_1 < (l0_1.length : Int) := oT (by first | (with_reducible assumption) | assumption)
  obtain ⟨ad332, e332, hx332_0, hx332_1, hx332_2, hx332_3, hx332_4⟩ := at_T41 HR0_1.out x6_1 p332 q332
  have hw332_4 := hx332_4
  have hw332_3 := hx332_3
  have hw332_2 := hx332_2
  have hw332_1 := hx332_1
  have hw332_0 := hx332_0
  obtain rfl : ad331 = ad332 := (by injection e332)
  replace hx332_0 := hcb HB.out hx332_0
  replace hx332_1 := hcb HB.out hx332_1
  replace hx332_2 := hcb HB.out hx332_2
  replace hx332_3 := hcb HB.out hx332_3
  replace hx332_4 := hcb HB.out hx332_4
  replace p332 := eq_true p332
  replace q332 := eq_true q332
  refine start_ (n := 11) (S := fun w' => w'.cell? ⟨gb330, 0, none⟩ = some (.int .i64 a0_0) ∧ w'.cell? ⟨gb330, 1, none⟩ = some (u331001) ∧ w'.cell? ⟨gb328, 0, none⟩ = some (.int .i64 a0_0) ∧ w'.cell? ⟨gb328, 1, none⟩ = some (.slice (some ad331) l0_1.length c0_1) ∧ w'.cell? (ad331.add ((x6_1).toNat * 5)) = some (.int .i64 ((rd_T41 l0_1 x6_1).f0)) ∧ w'.cell? ⟨(ad331.add ((x6_1).toNat * 5)).block, (ad331.add ((x6_1).toNat * 5)).off + 1, none⟩ = some (.int .i64 ((rd_T41 l0_1 x6_1).f1)) ∧ w'.cell? ⟨(ad331.add ((x6_1).toNat * 5)).block, (ad331.add ((x6_1).toNat * 5)).off + 2, none⟩ = some (.int .i64 ((rd_T41 l0_1 x6_1).f2)) ∧ w'.cell? ⟨(ad331.add ((x6_1).toNat * 5)).block, (ad331.add ((x6_1).toNat * 5)).off + 3, none⟩ = some (.int .i64 ((rd_T41 l0_1 x6_1).f3)) ∧ w'.cell? ⟨(ad331.add ((x6_1).toNat * 5)).block, (ad331.add ((x6_1).toNat * 5)).off + 4, none⟩ = some (.int .i64 ((rd_T41 l0_1 x6_1).f4))) (ds := [10]) (ms 11 0) (by kernel_rfl) rfl (by kernel_rfl) ⟨(blk_cell BK330.out 0).trans rfl, (blk_cell BK330.out 1).trans rfl, (blk_cell BK328.out 0).trans rfl, (blk_cell BK328.out 1).trans rfl, ((HB.out.cell (World.block_lt_of_cell? w _ hw332_0)).trans hw332_0), ((HB.out.cell (World.block_lt_of_cell? w _ hw332_1)).trans hw332_1), ((HB.out.cell (World.block_lt_of_cell? w _ hw332_2)).trans hw332_2), ((HB.out.cell (World.block_lt_of_cell? w _ hw332_3)).trans hw332_3), ((HB.out.cell (World.block_lt_of_cell? w _ hw332_4)).trans hw332_4)⟩ (fun hHeld => ?_); refine with_tabW spec_l18For.tab6 spec_l18For.bits6 (fun HT_ HW_ => ?_)
  generalize wr.drew = w18 at HO_331001 BK328 BK329 BK330 HB hx332_0 hx332_1 hx332_2 hx332_3 hx332_4 hHeld ⊢
  refine pure_ (i := 0) (N := some 25) (v := ?_) (a' := ?_) (ms 11 1) rfl rfl (any_of HT_.out (by kernel_rfl)) (fun _ _ _ h => h) (Or.inl ⟨by rfl, ?_⟩) ?_ ?_
  rotate_left
  ·intro w'
   go_simp
   with_reducible rfl
  rotate_left
  ·simp only [Act.put, sA, sB, sC, i64_w, i32_w]
   rfl
  refine pure_ (i := 2) (N := some 27) (v := ?_) (a' := ?_) (ms 11 5) rfl rfl (any_of HT_.out (by kernel_rfl)) (fun _ _ _ h => h) (Or.inl ⟨by rfl, ?_⟩) ?_ ?_
  rotate_left
  ·intro w'
   go_simp
   with_reducible rfl
  rotate_left
  ·simp only [Act.put, sA, sB, sC, i64_w, i32_w]
   rfl
  refine pure_ (i := 4) (N := some 29) (v := ?_) (a' := ?_) (ms 11 21) rfl rfl (any_of HT_.out (by kernel_rfl)) (fun _ _ _ h => h) (Or.inl ⟨by rfl, ?_⟩) ?_ ?_
  rotate_left
  ·intro w'
   go_simp
   with_reducible rfl
  rotate_left
  ·simp only [Act.put, sA, sB, sC, i64_w, i32_w]
   rfl
  refine take_ (i := 1) (N := some 26) (v := ?_) (a' := ?_) (ms 11 23) rfl rfl (take_ofW HT_.out HW_.out (by kernel_rfl)) (fun _ _ _ h => h) (Or.inl ⟨by rfl, ?_⟩) hHeld ?_ ?_
  rotate_left
  ·rintro w' ⟨s0, s1, s2, s3, s4, s5, s6, s7, s8⟩
   go_simp
   with_reducible rfl
  rotate_left
  ·simp only [Act.put, sA, sB, sC, i64_w, i32_w]
   rfl
  refine take_ (i := 3) (N := some 28) (v := ?_) (a' := ?_) (ms 11 31) rfl rfl (take_ofW HT_.out HW_.out (by kernel_rfl)) (fun _ _ _ h => h) (Or.inl ⟨by rfl, ?_⟩) hHeld ?_ ?_
  rotate_left
  ·rintro w' ⟨s0, s1, s2, s3, s4, s5, s6, s7, s8⟩
   go_simp
   with_reducible rfl
  rotate_left
  ·simp only [Act.put, sA, sB, sC, i64_w, i32_w]
   rfl
  refine pure_ (i := 5) (N := some 30) (v := ?_) (a' := ?_) (ms 11 63) rfl rfl (any_of HT_.out (by kernel_rfl)) (fun _ _ _ h => h) (Or.inl ⟨by rfl, ?_⟩) ?_ ?_
  rotate_left
  ·intro w'
   go_simp
   with_reducible rfl
  rotate_left
  ·simp only [Act.put, sA, sB, sC, i64_w, i32_w]
   rfl
  refine take_ (i := 6) (N := some 31) (v := ?_) (a' := ?_) (ms 11 127) rfl rfl (take_ofW HT_.out HW_.out (by kernel_rfl)) (fun _ _ _ h => h) (Or.inl ⟨by rfl, ?_⟩) hHeld ?_ ?_
  rotate_left
  ·rintro w' ⟨s0, s1, s2, s3, s4, s5, s6, s7, s8⟩
   go_simp
   with_reducible rfl
  rotate_left
  ·simp only [Act.put, sA, sB, sC, i64_w, i32_w]
   rfl
  refine one_ (i := 7) (N := some 32) (ms 11 255) rfl rfl (one_of HT_.out (by kernel_rfl)) (by decide) (fun K hK => ?_)
  refine value_ (w1 := ?_) (v := ?_) (by rfl) rfl ?_ ?_
  rotate_left 2
  ·go_simp
   constructor
   rotate_left
   ·rfl
   rfl
  refine hK.out _ _ ⟨(blk_cell (blk_alloc BK330.out _) 0).trans rfl, (blk_cell (blk_alloc BK330.out _) 1).trans rfl, (blk_cell (blk_alloc BK328.out _) 0).trans rfl, (blk_cell (blk_alloc BK328.out _) 1).trans rfl, (World.cell?_alloc_lt _ _ _ (World.block_lt_of_cell? _ _ (((HB.out.cell (World.block_lt_of_cell? w _ hw332_0)).trans hw332_0)))).trans (((HB.out.cell (World.block_lt_of_cell? w _ hw332_0)).trans hw332_0)), (World.cell?_alloc_lt _ _ _ (World.block_lt_of_cell? _ _ (((HB.out.cell (World.block_lt_of_cell? w _ hw332_1)).trans hw332_1)))).trans (((HB.out.cell (World.block_lt_of_cell? w _ hw332_1)).trans hw332_1)), (World.cell?_alloc_lt _ _ _ (World.block_lt_of_cell? _ _ (((HB.out.cell (World.block_lt_of_cell? w _ hw332_2)).trans hw332_2)))).trans (((HB.out.cell (World.block_lt_of_cell? w _ hw332_2)).trans hw332_2)), (World.cell?_alloc_lt _ _ _ (World.block_lt_of_cell? _ _ (((HB.out.cell (World.block_lt_of_cell? w _ hw332_3)).trans hw332_3)))).trans (((HB.out.cell (World.block_lt_of_cell? w _ hw332_3)).trans hw332_3)), (World.cell?_alloc_lt _ _ _ (World.block_lt_of_cell? _ _ (((HB.out.cell (World.block_lt_of_cell? w _ hw332_4)).trans hw332_4)))).trans (((HB.out.cell (World.block_lt_of_cell? w _ hw332_4)).trans hw332_4))⟩ (fun hHeld => ?_)
  clear hK K
  refine norm_ (a' := ?_) ?_ ?_
  rotate_left
  ·show Act.put _ (some 32) _ = _
   simp only [Act.put, sA, sB, sC, i64_w, i32_w]
   rfl
  refine one_ (i := 8) (N := some 33) (ms 11 511) rfl rfl (one_of HT_.out (by kernel_rfl)) (by decide) (fun K hK => ?_)
  refine Kd.R_append_step k41 (w0 := w) w.heap.size (by rfl) (.tmp 26) (.tmp 32) 23 41 (.agg #[(.int .i64 0), (.int .i64 0), (.int .i64 0), (.int .i64 0), (.int .i64 0)]) 40 rfl Try.underlying23 info41 rfl (by decide) (by omega) u331001 x331001_1 (⟨(rd_T41 l0_1 x6_1).f0, (rd_T41 l0_1 x6_1).f1, (rd_T41 l0_1 x6_1).f2, (rd_T41 l0_1 x6_1).f3, (rd_T41 l0_1 x6_1).f4⟩ : S41) [.int .i64 ((rd_T41 l0_1 x6_1).f0), .int .i64 ((rd_T41 l0_1 x6_1).f1), .int .i64 ((rd_T41 l0_1 x6_1).f2), .int .i64 ((rd_T41 l0_1 x6_1).f3), .int .i64 ((rd_T41 l0_1 x6_1).f4)] (fun _ => True) (fun _ => False) rfl rfl ?aP (fun _ hk => hk.elim) ?aF ?aO ?aB ?aS ?aL ?_
  (case aP => exact k41_mkM _ _ _ (⟨(rd_T41 l0_1 x6_1).f0, (rd_T41 l0_1 x6_1).f1, (rd_T41 l0_1 x6_1).f2, (rd_T41 l0_1 x6_1).f3, (rd_T41 l0_1 x6_1).f4⟩ : S41))
  (case aB => exact (bl3 HB GE328 GE329 GE330))
  (case aF => exact (fun _ _ => trivial))
  (case aO => exact (rk HO_331001))
  (case aS => exact (below_size (bl3 HB GE328 GE329 GE330)))
  (case aL => have := LMc14.out; omega)
  intro v334 w19 ho hb hg hat
  rw [← Ny333.out] at ho
  have n0_ := Aside0.mk (blk_grown (bk BK328) hg (Kd.R_ne HO_331001.out BK328.out (by decide)))
  have n1_ := Aside0.mk (blk_grown (bk BK329) hg (Kd.R_ne HO_331001.out BK329.out (by decide)))
  have n2_ := Aside0.mk (blk_grown (bk BK330) hg (Kd.R_ne HO_331001.out BK330.out (by decide)))
  have n3_ := Aside0.mk (hb)
  have n4_ := Aside0.mk (ho)
  clear BK328
  clear BK329
  clear BK330
  clear HB
  clear HO_331001
  have BK328 := n0_
  have BK329 := n1_
  have BK330 := n2_
  have HB := n3_
  have HO335 := n4_
  clear n0_ n1_ n2_ n3_ n4_
  clear ho hb hg hat
  obtain ⟨Ao20, co20, eo20⟩ := Kd.R_slice HO335.out
  (first | subst eo20 | (injection eo20 with f1_ f2_ f3_; have f4_ := f1_.symm; have f5_ := f3_.symm; clear f1_ f2_ f3_; subst f4_; subst f5_))
  refine hK.out _ _ ⟨(blk_cell BK330.out 0).trans rfl, (blk_cell BK330.out 1).trans rfl, (blk_cell BK328.out 0).trans rfl, (blk_cell BK328.out 1).trans rfl, ((HB.out.cell (World.block_lt_of_cell? w _ hw332_0)).trans hw332_0), ((HB.out.cell (World.block_lt_of_cell? w _ hw332_1)).trans hw332_1), ((HB.out.cell (World.block_lt_of_cell? w _ hw332_2)).trans hw332_2), ((HB.out.cell (World.block_lt_of_cell? w _ hw332_3)).trans hw332_3), ((HB.out.cell (World.block_lt_of_cell? w _ hw332_4)).trans hw332_4)⟩ (fun hHeld => ?_)
  clear hK K
  refine norm_ (a' := ?_) ?_ ?_
  rotate_left
  ·show Act.put _ (some 33) _ = _
   simp only [Act.put, sA, sB, sC, i64_w, i32_w]
   rfl
  refine pure_ (i := 9) (N := some 34) (v := ?_) (a' := ?_) (ms 11 1023) rfl rfl (any_of HT_.out (by kernel_rfl)) (fun _ _ _ h => h) (Or.inl ⟨by rfl, ?_⟩) ?_ ?_
  rotate_left
  ·intro w'
   go_simp
   with_reducible rfl
  rotate_left
  ·simp only [Act.put, sA, sB, sC, i64_w, i32_w]
   rfl
  refine last_ (i := 10) (N := none) (ms 11 2047) rfl rfl (one_of HT_.out (by kernel_rfl)) (by decide) (fun K hK => ?_)
  have hs21 : w19.cell? ⟨gb330, 1, none⟩ = some (u331001) := (blk_cell BK330.out 1).trans rfl
  have hfs21 := blk_frozen BK330.out 1
  have hns21_0 := NB328_330.out
  have hns21_1 := NB329_330.out
  have hms21_0 := NB330_328.out
  have hms21_1 := NB330_329.out
  refine skip_ (w1 := ?_) (by rfl) rfl ?_ ?_
  rotate_left
  ·go_simp
   rfl
  refine hK.out _ _ ?_
  clear hK K
  refine done_ (done_of HT_.out (by kernel_rfl)) ?_
  try go_wp2
  go_roundg k1
  case measure => have := HK1.out; omega
  case rel => exact ⟨(wrap64 (x6_1 + 1)), (y333), (.slice Ao20 y333.length co20), (by first | rfl | (simp; done) | (simp [*]; done)), H', ⟨by have := HK1.out; omega⟩, ⟨by (with_reducible repeat (first | apply Kd.R_alloc | apply Kd.R_drewN | apply Kd.R_drew)); exact Kd.R_mono (Kd.R_far (p := ⟨gb330, 1, none⟩) (Kd.R_types HO335.out BK330.out (by decide)) (fun _ hk => hk.2) (.slice Ao20 y333.length co20)) (fun _ hk => trivial)⟩, ⟨by (with_reducible repeat (first | refine blk_drewN ?_ _ | refine blk_drew ?_ | refine blk_alloc ?_ _)); refine blk_far ?_ NB328_330.out _; (with_reducible repeat (first | refine blk_drewN ?_ _ | refine blk_drew ?_ | refine blk_alloc ?_ _)); exact BK328.out⟩, ⟨by (with_reducible repeat (first | refine blk_drewN ?_ _ | refine blk_drew ?_ | refine blk_alloc ?_ _)); refine blk_far ?_ NB329_330.out _; (with_reducible repeat (first | refine blk_drewN ?_ _ | refine blk_drew ?_ | refine blk_alloc ?_ _)); exact BK329.out⟩, ⟨by (with_reducible repeat (first | refine blk_drewN ?_ _ | refine blk_drew ?_ | refine blk_alloc ?_ _)); refine blk_put (cs := #[.int .i64 a0_0, u331001]) ?_ 1 _ rfl; (with_reducible repeat (first | refine blk_drewN ?_ _ | refine blk_drew ?_ | refine blk_alloc ?_ _)); exact BK330.out⟩, ⟨bl3 HB GE328 GE329 GE330⟩⟩

end Go.Proofs.Ytgickejeakmenaa.F
