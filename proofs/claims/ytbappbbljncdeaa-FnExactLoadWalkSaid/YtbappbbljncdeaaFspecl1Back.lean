-- Printed by wip/px/px.py of this claim's repository (the kit's printer, extended there). Lean checks it.
import Derived.Test.YtbappbbljncdeaaFKinds
namespace Go.Proofs.Ytbappbbljncdeaa.F
open Go.RowKit Go.Proofs.YtbappbbljncdeaaW.PrintWords Go.Proofs.YtbappbbljncdeaaW.PrintLast Go.Proofs.YtbappbbljncdeaaW.PrintMore
attribute [local go_sem] max2_int min2_int max_two min_two max_three min_three max_four min_four   -- for this text's walks alone
set_option linter.unusedVariables false
set_option linter.unusedSimpArgs false

/-! ### spec_l1Back: function 60 -/
def spec_l1Back.l0 : Nat → Int → Int → List (S100) → Int → List (S100) → Option (Int × (List (S100)))
 | 0, _, _, _, _, _ => none
 | k + 1, x4, x483000, x483001, x485000, x485001 => if x4 < (x483001.length : Int) then (if 0 ≤ x4 then (if x485001.length < 3518437208883 then (spec_l1Back.l0 k (wrap64 (x4 + 1)) x483000 x483001 x485000 (x485001 ++ [(⟨(rd_T100 x483001 x4).f1, (rd_T100 x483001 x4).f0, (rd_T100 x483001 x4).f2, (rd_T100 x483001 x4).f3, (rd_T100 x483001 x4).f4⟩ : S100)])) else (none)) else (none)) else (some (x485000, x485001))
def spec_l1Back.f (k : Nat) (a0_0 : Int) (l0_1 : List (S100)) : Option (Int × (List (S100))) := spec_l1Back.l0 k 0 a0_0 l0_1 a0_0 ([] : List (S100))
theorem spec_l1Back.mono_l : ∀ k, (∀ y0 y1 y2 y3 y4, LeO (spec_l1Back.l0 k y0 y1 y2 y3 y4) (spec_l1Back.l0 (k + 1) y0 y1 y2 y3 y4))
 | 0 => fun _ _ _ _ _ r h => by simp [spec_l1Back.l0] at h
 | k + 1 => by
  have ih0 := spec_l1Back.mono_l k
  ·intro y0 y1 y2 y3 y4
   unfold spec_l1Back.l0
   repeat' first
   | (with_reducible exact ih0 _ _ _ _ _)
   | (with_reducible exact LeO.refl _)
   | (with_reducible exact LeO.none _)
   | (with_reducible refine LeO.ite ?_ ?_)
   | (with_reducible refine LeO.bind ?_ (fun _ => ?_))
   | exact ih0 _ _ _ _ _
   | exact LeO.none _
   | refine LeO.ite ?_ ?_
   | refine LeO.bind ?_ (fun _ => ?_)
theorem spec_l1Back.mono : ∀ a0 a1 k, LeO (spec_l1Back.f k a0 a1) (spec_l1Back.f (k + 1) a0 a1) := by
 intro a0 a1 k
 have ih0 := spec_l1Back.mono_l k
 unfold spec_l1Back.f
 repeat' first
   | (with_reducible exact ih0 _ _ _ _ _)
   | (with_reducible exact LeO.refl _)
   | (with_reducible exact LeO.none _)
   | (with_reducible refine LeO.ite ?_ ?_)
   | (with_reducible refine LeO.bind ?_ (fun _ => ?_))
   | exact ih0 _ _ _ _ _
   | exact LeO.none _
   | refine LeO.ite ?_ ?_
   | refine LeO.bind ?_ (fun _ => ?_)
set_option maxHeartbeats 8000000 in
set_option maxRecDepth 100000 in
theorem spec_l1Back.calls (k : Nat) (a0_0 : Int) (A0_1 : Option Addr) (c0_1 : Nat) (l0_1 : List (S100)) (r1 : Int) (r2 : List (S100)) (w : World) (hr0_1 : Kd.C k100 w A0_1 l0_1.length l0_1) (hc0_1 : l0_1.length ≤ c0_1) (h : spec_l1Back.f k a0_0 l0_1 = some (r1, r2)) :
  Calls Try.prog 60 #[.agg #[.int .i64 a0_0, .slice A0_1 l0_1.length c0_1]] w fun e w' => ∃ v1_ : Value, e = .returned (.agg #[.int .i64 r1, v1_]) ∧ Kd.R k100 100 w' w.heap.size (fun _ => True) v1_ r2 ∧ Below w.heap.size w w' := by
 have hu30 := Try.underlying30
 have hu100 := Try.underlying100
 have HR0_1 := Aside0.mk hr0_1
 have HC0_1 := Aside0.mk hc0_1
 clear hr0_1 hc0_1
 have HB := Aside0.mk (Below.refl w.heap.size w)
 have H : (spec_l1Back.l0 k 0 a0_0 l0_1 a0_0 ([] : List (S100))) = some (r1, r2) := h
 clear h
 have H' := Aside0.mk H
 clear H
 go_enter Try.func60, Try.ntmps60
 go_wp2_with (first | ((with_reducible refine gate_dst (N := 1) rfl ?_); refine box_event ?hg (N := 1) ?hd (cs := #[.int .i64 a0_0, .slice A0_1 l0_1.length c0_1]) (t := 30) ?hr ?_; (case hd => rfl); (case hg => rfl); (case hr => first | (go_simp; done) | (go_simp; rfl)); intro gb482 hg w2 hbox hb; have BK482 := Aside0.mk (hbox); have GW482 := Aside0.mk ((by rw [hg]; exact (below_size (bl HB)) : w.heap.size ≤ gb482)); have GE482 := Aside0.mk ((by rw [hg]; exact (below_size (bl HB)) : w.heap.size ≤ gb482)); replace HB := Aside0.mk (below_step (bl HB) hb); clear hb hbox hg) | ((with_reducible refine gate_dst (N := 2) rfl ?_); refine box_event ?hg (N := 2) ?hd (cs := #[.int .i64 0, .slice none 0 0]) (t := 30) ?hr ?_; (case hd => rfl); (case hg => rfl); (case hr => first | (go_simp; done) | (go_simp; rfl)); intro gb483 hg w3 hbox hb; have BK483 := Aside0.mk (hbox); have GW483 := Aside0.mk ((by rw [hg]; exact (below_size (bl1 HB GE482)) : w.heap.size ≤ gb483)); have GE483 := Aside0.mk ((by rw [hg]; exact (below_size (bl1 HB GE482)) : w.heap.size ≤ gb483)); replace HB := Aside0.mk (below_step (bl1 HB GE482) hb); have NB482_483 := Aside0.mk ((by rw [hg]; exact Nat.ne_of_lt (blk_lt (bk BK482)) : gb482 ≠ gb483)); have NB483_482 := Aside0.mk ((by rw [hg]; exact Nat.ne_of_gt (blk_lt (bk BK482)) : gb483 ≠ gb482)); replace BK482 := Aside0.mk (blk_below (bk BK482) hb); clear hb hbox hg; have hnb4 := NB482_483.out; have hnc4 := NB483_482.out; have hcz5_0 : w3.cell? ⟨gb482, 0, none⟩ = some (.int .i64 a0_0) := (blk_cell BK482.out 0).trans rfl; have hcz5_1 : w3.cell? ⟨gb482, 1, none⟩ = some (.slice A0_1 l0_1.length c0_1) := (blk_cell BK482.out 1).trans rfl; have hfz5_0 := blk_frozen BK482.out 0; have hfz5_1 := blk_frozen BK482.out 1) | ((with_reducible refine gate_dst (N := 3) rfl ?_); refine box_event ?hg (N := 3) ?hd (cs := #[.int .i64 0, .slice none 0 0]) (t := 30) ?hr ?_; (case hd => rfl); (case hg => rfl); (case hr => first | (go_simp; done) | (go_simp; rfl)); intro gb484 hg w6 hbox hb; have BK484 := Aside0.mk (hbox); have GW484 := Aside0.mk ((by rw [hg]; exact (below_size (bl2 HB GE482 GE483)) : w.heap.size ≤ gb484)); have GE484 := Aside0.mk ((by rw [hg]; exact (below_size (bl2 HB GE482 GE483)) : w.heap.size ≤ gb484)); replace HB := Aside0.mk (below_step (bl2 HB GE482 GE483) hb); have NB482_484 := Aside0.mk ((by rw [hg]; exact Nat.ne_of_lt (blk_lt (bk BK482)) : gb482 ≠ gb484)); have NB484_482 := Aside0.mk ((by rw [hg]; exact Nat.ne_of_gt (blk_lt (bk BK482)) : gb484 ≠ gb482)); replace BK482 := Aside0.mk (blk_below (bk BK482) hb); have NB483_484 := Aside0.mk ((by rw [hg]; exact Nat.ne_of_lt (blk_lt (bk BK483)) : gb483 ≠ gb484)); have NB484_483 := Aside0.mk ((by rw [hg]; exact Nat.ne_of_gt (blk_lt (bk BK483)) : gb484 ≠ gb483)); replace BK483 := Aside0.mk (blk_below (bk BK483) hb); clear hb hbox hg; have hnb7 := NB484_482.out; have hnc7 := NB482_484.out; have hnb8 := NB484_483.out; have hnc8 := NB483_484.out; have hcz9_0 : w6.cell? ⟨gb484, 0, none⟩ = some (.int .i64 0) := (blk_cell BK484.out 0).trans rfl; have hcz9_1 : w6.cell? ⟨gb484, 1, none⟩ = some (.slice none 0 0) := (blk_cell BK484.out 1).trans rfl; have hfz9_0 := blk_frozen BK484.out 0; have hfz9_1 := blk_frozen BK484.out 1))
 go_loopg [4] k (fun kq v4 w' => ∃ (x4_1 : Int) (x485001_1 : List (S100)) (u485001 : Value), v4 = .int .i64 x4_1 ∧ Aside0 (spec_l1Back.l0 kq x4_1 a0_0 l0_1 a0_0 x485001_1 = some (r1, r2)) ∧ Aside0 (kq ≤ k) ∧ Aside0 (Kd.R k100 100 w' w.heap.size (fun _ => True) u485001 x485001_1) ∧ Aside0 (w'.heap[gb482]? = some (.cells #[.int .i64 a0_0, (.slice A0_1 l0_1.length c0_1)] 30 (0, 0))) ∧ Aside0 (w'.heap[gb483]? = some (.cells #[.int .i64 0, (.slice none 0 0)] 30 (0, 0))) ∧ Aside0 (w'.heap[gb484]? = some (.cells #[.int .i64 a0_0, u485001] 30 (0, 0))) ∧ Aside0 (Below w.heap.size w w'))
 case atStart => exact ⟨(0), (([] : List (S100))), (.slice none 0 0), (by first | rfl | (simp; done) | (simp [*]; done)), H', ⟨Nat.le_refl _⟩, ⟨by first | exact Kd.R_nil _ _ _ _ _ | exact Kd.N_nil _ _ _ _ _ | exact Kd.V_nil _ _ _ _ _ | exact Kd.Q_nil _ _ _ _ _ | exact Kd.S_nil _ _ _ _ _⟩, ⟨by (with_reducible repeat (first | refine blk_drewN ?_ _ | refine blk_drew ?_ | refine blk_alloc ?_ _)); refine blk_far ?_ NB482_484.out _; refine blk_far ?_ NB482_484.out _; (with_reducible repeat (first | refine blk_drewN ?_ _ | refine blk_drew ?_ | refine blk_alloc ?_ _)); exact BK482.out⟩, ⟨by (with_reducible repeat (first | refine blk_drewN ?_ _ | refine blk_drew ?_ | refine blk_alloc ?_ _)); refine blk_far ?_ NB483_484.out _; refine blk_far ?_ NB483_484.out _; (with_reducible repeat (first | refine blk_drewN ?_ _ | refine blk_drew ?_ | refine blk_alloc ?_ _)); exact BK483.out⟩, ⟨by (with_reducible repeat (first | refine blk_drewN ?_ _ | refine blk_drew ?_ | refine blk_alloc ?_ _)); refine blk_put (cs := #[.int .i64 a0_0, .slice none 0 0]) ?_ 1 _ rfl; refine blk_put (cs := #[.int .i64 0, .slice none 0 0]) ?_ 0 _ rfl; (with_reducible repeat (first | refine blk_drewN ?_ _ | refine blk_drew ?_ | refine blk_alloc ?_ _)); exact BK484.out⟩, ⟨bl3 HB GE482 GE483 GE484⟩⟩
 clear H'
 try clear p2
 try clear c4
 try clear c6
 try clear c7
 try clear c8
 try clear hcz5_0
 try clear hcz5_1
 try clear hcz9_0
 try clear hcz9_1
 try clear hfz5_0
 try clear hfz5_1
 try clear hfz9_0
 try clear hfz9_1
 obtain ⟨x4_1, x485001_1, u485001, rfl, HA, HK1, HO_485001, BK482, BK483, BK484, HB⟩ := hrel
 cases gk with
 | zero => exact absurd HA.out (by simp [spec_l1Back.l0])
 | succ k1 =>
  have H := HA.out
  clear HA
  simp only [spec_l1Back.l0] at H
  by_cases c10 : x4_1 < (l0_1.length : Int)
  rotate_left
  ·rw [if_neg c10] at H
   have c10b0 : decide (x4_1 < (l0_1.length : Int)) = false := decide_eq_false c10
   clear c10
   simp only [Option.some.injEq, Prod.mk.injEq] at H
   obtain ⟨rfl, rfl⟩ := H
   have hnb26 := NB482_483.out
   have hnc26 := NB483_482.out
   have hnb27 := NB482_484.out
   have hnc27 := NB484_482.out
   have hcz28_0 : wr.cell? ⟨gb482, 0, none⟩ = some (.int .i64 a0_0) := (blk_cell BK482.out 0).trans rfl
   have hcz28_1 : wr.cell? ⟨gb482, 1, none⟩ = some (.slice A0_1 l0_1.length c0_1) := (blk_cell BK482.out 1).trans rfl
   have hfz28_0 := blk_frozen BK482.out 0
   have hfz28_1 := blk_frozen BK482.out 1
   have hnb29 := NB484_483.out
   have hnc29 := NB483_484.out
   have hcz30_0 : wr.cell? ⟨gb484, 0, none⟩ = some (.int .i64 a0_0) := (blk_cell BK484.out 0).trans rfl
   have hcz30_1 : wr.cell? ⟨gb484, 1, none⟩ = some (u485001) := (blk_cell BK484.out 1).trans rfl
   have hfz30_0 := blk_frozen BK484.out 0
   have hfz30_1 := blk_frozen BK484.out 1
   have hcz31_0 : wr.cell? ⟨gb483, 0, none⟩ = some (.int .i64 0) := (blk_cell BK483.out 0).trans rfl
   have hcz31_1 : wr.cell? ⟨gb483, 1, none⟩ = some (.slice none 0 0) := (blk_cell BK483.out 1).trans rfl
   have hfz31_0 := blk_frozen BK483.out 0
   have hfz31_1 := blk_frozen BK483.out 1
   obtain ⟨Ao32, co32, eo32⟩ := Kd.R_slice HO_485001.out
   subst eo32
   go_wp2
   refine bodyPost_ret (results_cell_row rfl _ _ gb483 30 #[.int .i64 a0_0, .slice Ao32 x485001_1.length co32] (0, 0) _ rfl (by (with_reducible repeat (first | refine blk_drewN ?_ _ | refine blk_drew ?_ | refine blk_alloc ?_ _)); refine blk_put (cs := #[.int .i64 a0_0, .slice none 0 0]) ?_ 1 _ rfl; refine blk_put (cs := #[.int .i64 0, .slice none 0 0]) ?_ 0 _ rfl; (with_reducible repeat (first | refine blk_drewN ?_ _ | refine blk_drew ?_ | refine blk_alloc ?_ _)); exact BK483.out) Try.underlying30 rfl (by kernel_rfl)) rfl ?_
   exact ⟨_, by first | rfl | (simp [errW_none, errW_some] <;> rfl) | (simp [*, errW_none, errW_some] <;> rfl), by (with_reducible repeat (first | apply Kd.R_alloc | apply Kd.R_drewN | apply Kd.R_drew)); exact Kd.R_mono (Kd.R_far (p := ⟨gb483, 1, none⟩) (Kd.R_far (p := ⟨gb483, 0, none⟩) (Kd.R_types HO_485001.out BK483.out (by decide)) (fun _ hk => hk.2) (.int .i64 a0_0)) (fun _ hk => hk.2) (.slice Ao32 x485001_1.length co32)) (fun _ hk => trivial), bl3 HB GE482 GE483 GE484⟩
  rw [if_pos c10] at H
  have c10b0 : decide (x4_1 < (l0_1.length : Int)) = true := decide_eq_true c10
  clear c10
  by_cases c11 : 0 ≤ x4_1
  rotate_left
  ·rw [if_neg c11] at H
   exact absurd H (by simp)
  rw [if_pos c11] at H
  have c11b0 : decide (0 ≤ x4_1) = true := decide_eq_true c11
  clear c11
  by_cases c12 : x485001_1.length < 3518437208883
  rotate_left
  ·rw [if_neg c12] at H
   exact absurd H (by simp)
  rw [if_pos c12] at H
  have LMc12 := Aside0.mk c12
  clear c12
  obtain ⟨y487, hy487⟩ : ∃ y_ : List (S100), y_ = (x485001_1 ++ [(⟨(rd_T100 l0_1 x4_1).f1, (rd_T100 l0_1 x4_1).f0, (rd_T100 l0_1 x4_1).f2, (rd_T100 l0_1 x4_1).f3, (rd_T100 l0_1 x4_1).f4⟩ : S100)]) := ⟨_, rfl⟩
  replace H : (spec_l1Back.l0 k1 (wrap64 (x4_1 + 1)) a0_0 l0_1 a0_0 y487) = some (r1, r2) := by first | (rw [hy487]; with_reducible exact H) | (have H2_ := (Option.bind_some _ _).symm.trans H; rw [hy487]; with_reducible exact H2_) | (have H2_ := (Option.bind_some _ _).symm.trans H; with_reducible exact H2_) | with_reducible exact H | (rw [hy487]; exact H) | exact H
  have Ny487 := Aside0.mk hy487
  clear hy487
  have H' := Aside0.mk H
  clear H
  have hnb13 := NB482_483.out
  have hnc13 := NB483_482.out
  have hnb14 := NB482_484.out
  have hnc14 := NB484_482.out
  have hcz15_0 : wr.cell? ⟨gb482, 0, none⟩ = some (.int .i64 a0_0) := (blk_cell BK482.out 0).trans rfl
  have hcz15_1 : wr.cell? ⟨gb482, 1, none⟩ = some (.slice A0_1 l0_1.length c0_1) := (blk_cell BK482.out 1).trans rfl
  have hfz15_0 := blk_frozen BK482.out 0
  have hfz15_1 := blk_frozen BK482.out 1
  have p485 : 0 ≤ (x4_1 : Int) := oT (by first | (with_reducible assumption) | assumption)
  have q485 : x4_1 < (l0_1.length : Int) := oT (by first | (with_reducible assumption) | assumption)
  obtain ⟨ad485, e485, hx485_0, hx485_1, hx485_2, hx485_3, hx485_4⟩ := at_T100 HR0_1.out x4_1 p485 q485
  cases e485
  replace hx485_0 := hcb HB.out hx485_0
  replace hx485_1 := hcb HB.out hx485_1
  replace hx485_2 := hcb HB.out hx485_2
  replace hx485_3 := hcb HB.out hx485_3
  replace hx485_4 := hcb HB.out hx485_4
  replace p485 := eq_true p485
  replace q485 := eq_true q485
  go_wp2_with (first | ((with_reducible refine gate_dst (N := 5) rfl ?_); refine box_event ?hg (N := 5) ?hd (cs := #[.int .i64 0, .int .i64 0, .int .i64 0, .int .i64 0, .int .i64 0]) (t := 100) ?hr ?_; (case hd => rfl); (case hg => rfl); (case hr => first | (go_simp; done) | (go_simp; rfl)); intro gb486 hg w16 hbox hb; replace HO_485001 := Aside0.mk (Kd.R_below (Kd.R_elderB (rk HO_485001) gb486 (Nat.le_of_eq hg.symm)) hb); have BK486 := Aside0.mk (hbox); have GW486 := Aside0.mk ((by rw [hg]; exact (below_size (bl3 HB GE482 GE483 GE484)) : w.heap.size ≤ gb486)); have GE486 := Aside0.mk ((by rw [hg]; exact (below_size (bl3 HB GE482 GE483 GE484)) : w.heap.size ≤ gb486)); replace HB := Aside0.mk (below_step (bl3 HB GE482 GE483 GE484) hb); have NB482_486 := Aside0.mk ((by rw [hg]; exact Nat.ne_of_lt (blk_lt (bk BK482)) : gb482 ≠ gb486)); have NB486_482 := Aside0.mk ((by rw [hg]; exact Nat.ne_of_gt (blk_lt (bk BK482)) : gb486 ≠ gb482)); replace BK482 := Aside0.mk (blk_below (bk BK482) hb); have NB483_486 := Aside0.mk ((by rw [hg]; exact Nat.ne_of_lt (blk_lt (bk BK483)) : gb483 ≠ gb486)); have NB486_483 := Aside0.mk ((by rw [hg]; exact Nat.ne_of_gt (blk_lt (bk BK483)) : gb486 ≠ gb483)); replace BK483 := Aside0.mk (blk_below (bk BK483) hb); have NB484_486 := Aside0.mk ((by rw [hg]; exact Nat.ne_of_lt (blk_lt (bk BK484)) : gb484 ≠ gb486)); have NB486_484 := Aside0.mk ((by rw [hg]; exact Nat.ne_of_gt (blk_lt (bk BK484)) : gb486 ≠ gb484)); replace BK484 := Aside0.mk (blk_below (bk BK484) hb); clear hb hbox hg; have hnb17 := NB486_482.out; have hnc17 := NB482_486.out; have hnb18 := NB486_483.out; have hnc18 := NB483_486.out; have hnb19 := NB486_484.out; have hnc19 := NB484_486.out; have hcz20_0 : w16.cell? ⟨gb486, 0, none⟩ = some (.int .i64 0) := (blk_cell BK486.out 0).trans rfl; have hcz20_1 : w16.cell? ⟨gb486, 1, none⟩ = some (.int .i64 0) := (blk_cell BK486.out 1).trans rfl; have hcz20_2 : w16.cell? ⟨gb486, 2, none⟩ = some (.int .i64 0) := (blk_cell BK486.out 2).trans rfl; have hcz20_3 : w16.cell? ⟨gb486, 3, none⟩ = some (.int .i64 0) := (blk_cell BK486.out 3).trans rfl; have hcz20_4 : w16.cell? ⟨gb486, 4, none⟩ = some (.int .i64 0) := (blk_cell BK486.out 4).trans rfl; have hfz20_0 := blk_frozen BK486.out 0; have hfz20_1 := blk_frozen BK486.out 1; have hfz20_2 := blk_frozen BK486.out 2; have hfz20_3 := blk_frozen BK486.out 3; have hfz20_4 := blk_frozen BK486.out 4; have hnb21 := NB484_483.out; have hnc21 := NB483_484.out; have hcz22_0 : w16.cell? ⟨gb484, 0, none⟩ = some (.int .i64 a0_0) := (blk_cell BK484.out 0).trans rfl; have hcz22_1 : w16.cell? ⟨gb484, 1, none⟩ = some (u485001) := (blk_cell BK484.out 1).trans rfl; have hfz22_0 := blk_frozen BK484.out 0; have hfz22_1 := blk_frozen BK484.out 1) | ((with_reducible refine gate_builtin (b := .append) (xs := #[.tmp 22, .tmp 34]) rfl ?_); at_builtin; refine Kd.R_append k100 (w0 := w) w.heap.size rfl (.tmp 22) (.tmp 34) 28 100 (.agg #[(.int .i64 0), (.int .i64 0), (.int .i64 0), (.int .i64 0), (.int .i64 0)]) 40 rfl Try.underlying28 info100 rfl (by decide) (by omega) u485001 x485001_1 (⟨(rd_T100 l0_1 x4_1).f1, (rd_T100 l0_1 x4_1).f0, (rd_T100 l0_1 x4_1).f2, (rd_T100 l0_1 x4_1).f3, (rd_T100 l0_1 x4_1).f4⟩ : S100) [.int .i64 ((rd_T100 l0_1 x4_1).f1), .int .i64 ((rd_T100 l0_1 x4_1).f0), .int .i64 ((rd_T100 l0_1 x4_1).f2), .int .i64 ((rd_T100 l0_1 x4_1).f3), .int .i64 ((rd_T100 l0_1 x4_1).f4)] (fun k_ => k_ ≠ gb486) (fun _ => False) rfl (by first | (go_simp; done) | (go_simp; rfl)) ?aP (fun _ hk => hk.elim) ?aF ?aO ?aB ?aS ?aL ?_; (case aP => exact k100_mkM _ _ _ (⟨(rd_T100 l0_1 x4_1).f1, (rd_T100 l0_1 x4_1).f0, (rd_T100 l0_1 x4_1).f2, (rd_T100 l0_1 x4_1).f3, (rd_T100 l0_1 x4_1).f4⟩ : S100)); (case aB => exact (bl4 HB GE482 GE483 GE484 GE486)); (case aF => exact (fun k_ hk => Kd.freshB (g := gb486) (o := .cells #[.int .i64 ((rd_T100 l0_1 x4_1).f0), .int .i64 ((rd_T100 l0_1 x4_1).f1), .int .i64 ((rd_T100 l0_1 x4_1).f2), .int .i64 ((rd_T100 l0_1 x4_1).f3), .int .i64 ((rd_T100 l0_1 x4_1).f4)] 100 (0, 0)) (by (with_reducible repeat (first | refine blk_drewN ?_ _ | refine blk_drew ?_ | refine blk_alloc ?_ _)); refine blk_put (cs := #[.int .i64 ((rd_T100 l0_1 x4_1).f0), .int .i64 ((rd_T100 l0_1 x4_1).f1), .int .i64 ((rd_T100 l0_1 x4_1).f2), .int .i64 ((rd_T100 l0_1 x4_1).f3), .int .i64 0]) ?_ 4 _ rfl; refine blk_put (cs := #[.int .i64 ((rd_T100 l0_1 x4_1).f0), .int .i64 ((rd_T100 l0_1 x4_1).f1), .int .i64 ((rd_T100 l0_1 x4_1).f2), .int .i64 0, .int .i64 0]) ?_ 3 _ rfl; refine blk_put (cs := #[.int .i64 ((rd_T100 l0_1 x4_1).f0), .int .i64 ((rd_T100 l0_1 x4_1).f1), .int .i64 0, .int .i64 0, .int .i64 0]) ?_ 2 _ rfl; refine blk_put (cs := #[.int .i64 ((rd_T100 l0_1 x4_1).f0), .int .i64 0, .int .i64 0, .int .i64 0, .int .i64 0]) ?_ 1 _ rfl; refine blk_put (cs := #[.int .i64 0, .int .i64 0, .int .i64 0, .int .i64 0, .int .i64 0]) ?_ 0 _ rfl; (with_reducible repeat (first | refine blk_drewN ?_ _ | refine blk_drew ?_ | refine blk_alloc ?_ _)); exact BK486.out) k_ hk)); (case aO => exact (by (with_reducible repeat (first | apply Kd.R_alloc | apply Kd.R_drewN | apply Kd.R_drew)); exact Kd.R_mono (Kd.R_far (p := ⟨gb486, 4, none⟩) (Kd.R_far (p := ⟨gb486, 3, none⟩) (Kd.R_far (p := ⟨gb486, 2, none⟩) (Kd.R_far (p := ⟨gb486, 1, none⟩) (Kd.R_far (p := ⟨gb486, 0, none⟩) (Kd.R_mono HO_485001.out (fun k_ hk => (⟨hk, hk.2⟩ : _ ∧ k_ ≠ gb486))) (fun _ hk => hk.2) (.int .i64 ((rd_T100 l0_1 x4_1).f0))) (fun _ hk => hk.2) (.int .i64 ((rd_T100 l0_1 x4_1).f1))) (fun _ hk => hk.2) (.int .i64 ((rd_T100 l0_1 x4_1).f2))) (fun _ hk => hk.2) (.int .i64 ((rd_T100 l0_1 x4_1).f3))) (fun _ hk => hk.2) (.int .i64 ((rd_T100 l0_1 x4_1).f4))) (fun _ hk => hk.1.2))); (case aS => exact (below_size (bl4 HB GE482 GE483 GE484 GE486))); (case aL => have := LMc12.out; omega); intro v488 w23 ho hb hg hat; rw [← Ny487.out] at ho; have n0_ := Aside0.mk (blk_grown (g := gb482) (o := .cells #[.int .i64 a0_0, .slice (some ad485) l0_1.length c0_1] 30 (0, 0)) (by (with_reducible repeat (first | refine blk_drewN ?_ _ | refine blk_drew ?_ | refine blk_alloc ?_ _)); refine blk_far ?_ NB482_486.out _; refine blk_far ?_ NB482_486.out _; refine blk_far ?_ NB482_486.out _; refine blk_far ?_ NB482_486.out _; refine blk_far ?_ NB482_486.out _; (with_reducible repeat (first | refine blk_drewN ?_ _ | refine blk_drew ?_ | refine blk_alloc ?_ _)); exact BK482.out) hg (Kd.R_ne HO_485001.out BK482.out (by decide))); have n1_ := Aside0.mk (blk_grown (g := gb483) (o := .cells #[.int .i64 0, .slice none 0 0] 30 (0, 0)) (by (with_reducible repeat (first | refine blk_drewN ?_ _ | refine blk_drew ?_ | refine blk_alloc ?_ _)); refine blk_far ?_ NB483_486.out _; refine blk_far ?_ NB483_486.out _; refine blk_far ?_ NB483_486.out _; refine blk_far ?_ NB483_486.out _; refine blk_far ?_ NB483_486.out _; (with_reducible repeat (first | refine blk_drewN ?_ _ | refine blk_drew ?_ | refine blk_alloc ?_ _)); exact BK483.out) hg (Kd.R_ne HO_485001.out BK483.out (by decide))); have n2_ := Aside0.mk (blk_grown (g := gb484) (o := .cells #[.int .i64 a0_0, u485001] 30 (0, 0)) (by (with_reducible repeat (first | refine blk_drewN ?_ _ | refine blk_drew ?_ | refine blk_alloc ?_ _)); refine blk_far ?_ NB484_486.out _; refine blk_far ?_ NB484_486.out _; refine blk_far ?_ NB484_486.out _; refine blk_far ?_ NB484_486.out _; refine blk_far ?_ NB484_486.out _; (with_reducible repeat (first | refine blk_drewN ?_ _ | refine blk_drew ?_ | refine blk_alloc ?_ _)); exact BK484.out) hg (Kd.R_ne HO_485001.out BK484.out (by decide))); have n3_ := Aside0.mk (blk_grown (g := gb486) (o := .cells #[.int .i64 ((rd_T100 l0_1 x4_1).f0), .int .i64 ((rd_T100 l0_1 x4_1).f1), .int .i64 ((rd_T100 l0_1 x4_1).f2), .int .i64 ((rd_T100 l0_1 x4_1).f3), .int .i64 ((rd_T100 l0_1 x4_1).f4)] 100 (0, 0)) (by (with_reducible repeat (first | refine blk_drewN ?_ _ | refine blk_drew ?_ | refine blk_alloc ?_ _)); refine blk_put (cs := #[.int .i64 ((rd_T100 l0_1 x4_1).f0), .int .i64 ((rd_T100 l0_1 x4_1).f1), .int .i64 ((rd_T100 l0_1 x4_1).f2), .int .i64 ((rd_T100 l0_1 x4_1).f3), .int .i64 0]) ?_ 4 _ rfl; refine blk_put (cs := #[.int .i64 ((rd_T100 l0_1 x4_1).f0), .int .i64 ((rd_T100 l0_1 x4_1).f1), .int .i64 ((rd_T100 l0_1 x4_1).f2), .int .i64 0, .int .i64 0]) ?_ 3 _ rfl; refine blk_put (cs := #[.int .i64 ((rd_T100 l0_1 x4_1).f0), .int .i64 ((rd_T100 l0_1 x4_1).f1), .int .i64 0, .int .i64 0, .int .i64 0]) ?_ 2 _ rfl; refine blk_put (cs := #[.int .i64 ((rd_T100 l0_1 x4_1).f0), .int .i64 0, .int .i64 0, .int .i64 0, .int .i64 0]) ?_ 1 _ rfl; refine blk_put (cs := #[.int .i64 0, .int .i64 0, .int .i64 0, .int .i64 0, .int .i64 0]) ?_ 0 _ rfl; (with_reducible repeat (first | refine blk_drewN ?_ _ | refine blk_drew ?_ | refine blk_alloc ?_ _)); exact BK486.out) hg (Kd.R_away HO_485001.out (fun _ hk => hk.2))); have n4_ := Aside0.mk (hb); have n5_ := Aside0.mk (ho); clear BK482; clear BK483; clear BK484; clear BK486; clear HB; clear HO_485001; have BK482 := n0_; have BK483 := n1_; have BK484 := n2_; have BK486 := n3_; have HB := n4_; have HO489 := n5_; clear n0_ n1_ n2_ n3_ n4_ n5_; clear ho hb hg hat; obtain ⟨Ao24, co24, eo24⟩ := Kd.R_slice HO489.out; subst eo24; have hcz25_0 : w23.cell? ⟨gb484, 0, none⟩ = some (.int .i64 a0_0) := (blk_cell BK484.out 0).trans rfl; have hcz25_1 : w23.cell? ⟨gb484, 1, none⟩ = some (u485001) := (blk_cell BK484.out 1).trans rfl; have hfz25_0 := blk_frozen BK484.out 0; have hfz25_1 := blk_frozen BK484.out 1))
  go_roundg k1
  case measure => have := HK1.out; omega
  case rel => exact ⟨(wrap64 (x4_1 + 1)), (y487), (.slice Ao24 y487.length co24), (by first | rfl | (simp; done) | (simp [*]; done)), H', ⟨by have := HK1.out; omega⟩, ⟨by (with_reducible repeat (first | apply Kd.R_alloc | apply Kd.R_drewN | apply Kd.R_drew)); exact Kd.R_mono (Kd.R_far (p := ⟨gb484, 1, none⟩) (Kd.R_types HO489.out BK484.out (by decide)) (fun _ hk => hk.2) (.slice Ao24 y487.length co24)) (fun _ hk => trivial)⟩, ⟨by (with_reducible repeat (first | refine blk_drewN ?_ _ | refine blk_drew ?_ | refine blk_alloc ?_ _)); refine blk_far ?_ NB482_484.out _; (with_reducible repeat (first | refine blk_drewN ?_ _ | refine blk_drew ?_ | refine blk_alloc ?_ _)); exact BK482.out⟩, ⟨by (with_reducible repeat (first | refine blk_drewN ?_ _ | refine blk_drew ?_ | refine blk_alloc ?_ _)); refine blk_far ?_ NB483_484.out _; (with_reducible repeat (first | refine blk_drewN ?_ _ | refine blk_drew ?_ | refine blk_alloc ?_ _)); exact BK483.out⟩, ⟨by (with_reducible repeat (first | refine blk_drewN ?_ _ | refine blk_drew ?_ | refine blk_alloc ?_ _)); refine blk_put (cs := #[.int .i64 a0_0, u485001]) ?_ 1 _ rfl; (with_reducible repeat (first | refine blk_drewN ?_ _ | refine blk_drew ?_ | refine blk_alloc ?_ _)); exact BK484.out⟩, ⟨bl4 HB GE482 GE483 GE484 GE486⟩⟩

end Go.Proofs.Ytbappbbljncdeaa.F
