-- Printed by wip/px/px.py of this claim's repository (the kit's printer, extended there). Lean checks it.
import Derived.Test.YtgickejeakmenaaFKinds
namespace Go.Proofs.Ytgickejeakmenaa.F
open Go.RowKit Go.Proofs.YtgickejeakmenaaW.PrintWords Go.Proofs.YtgickejeakmenaaW.PrintLast Go.Proofs.YtgickejeakmenaaW.PrintMore
attribute [local go_sem] max2_int min2_int max_two min_two max_three min_three max_four min_four   -- for this text's walks alone
set_option linter.unusedVariables false
set_option linter.unusedSimpArgs false

/-! ### spec_l1Back: function 122 -/
def spec_l1Back.l0 : Nat → Int → Int → List (S41) → Int → List (S41) → Option (Int × (List (S41)))
 | 0, _, _, _, _, _ => none
 | k + 1, x4, x1267000, x1267001, x1269000, x1269001 => if x4 < (x1267001.length : Int) then (if 0 ≤ x4 then (if x1269001.length < 3518437208883 then (spec_l1Back.l0 k (wrap64 (x4 + 1)) x1267000 x1267001 x1269000 (x1269001 ++ [(⟨(rd_T41 x1267001 x4).f1, (rd_T41 x1267001 x4).f0, (rd_T41 x1267001 x4).f2, (rd_T41 x1267001 x4).f3, (rd_T41 x1267001 x4).f4⟩ : S41)])) else (none)) else (none)) else (some (x1269000, x1269001))
def spec_l1Back.f (k : Nat) (a0_0 : Int) (l0_1 : List (S41)) : Option (Int × (List (S41))) := spec_l1Back.l0 k 0 a0_0 l0_1 a0_0 ([] : List (S41))
theorem spec_l1Back.mono_l : ∀ k, (∀ y0 y1 y2 y3 y4, LeO (spec_l1Back.l0 k y0 y1 y2 y3 y4) (spec_l1Back.l0 (k + 1) y0 y1 y2 y3 y4))
 | 0 => fun _ _ _ _ _ r h => by simp [spec_l1Back.l0] at h
 | k + 1 => by
  have ih0 := spec_l1Back.mono_l k
  ·intro y0 y1 y2 y3 y4
   unfold spec_l1Back.l0
   repeat' first | (with_reducible exact ih0 _ _ _ _ _) | (with_reducible exact LeO.refl _) | (with_reducible refine LeO.ite ?_ ?_)
theorem spec_l1Back.mono : ∀ a0 a1 k, LeO (spec_l1Back.f k a0 a1) (spec_l1Back.f (k + 1) a0 a1) := by
 intro a0 a1 k
 have ih0 := spec_l1Back.mono_l k
 unfold spec_l1Back.f
 repeat' (with_reducible exact ih0 _ _ _ _ _)
set_option maxHeartbeats 8000000 in
set_option maxRecDepth 100000 in
theorem spec_l1Back.calls (k : Nat) (a0_0 : Int) (A0_1 : Option Addr) (c0_1 : Nat) (l0_1 : List (S41)) (r1 : Int) (r2 : List (S41)) (w : World) (hr0_1 : Kd.C k41 w A0_1 l0_1.length l0_1) (hc0_1 : l0_1.length ≤ c0_1) (h : spec_l1Back.f k a0_0 l0_1 = some (r1, r2)) :
  Calls Try.prog 122 #[.agg #[.int .i64 a0_0, .slice A0_1 l0_1.length c0_1]] w fun e w' => ∃ v1_ : Value, e = .returned (.agg #[.int .i64 r1, v1_]) ∧ Kd.R k41 41 w' w.heap.size (fun _ => True) v1_ r2 ∧ Below w.heap.size w w' := by
 have hu25 := Try.underlying25
 have hu41 := Try.underlying41
 have HR0_1 := Aside0.mk hr0_1
 have HC0_1 := Aside0.mk hc0_1
 clear hr0_1 hc0_1
 have HB := Aside0.mk (Below.refl w.heap.size w)
 have H : (spec_l1Back.l0 k 0 a0_0 l0_1 a0_0 ([] : List (S41))) = some (r1, r2) := h
 clear h
 have H' := Aside0.mk H
 clear H
 go_enter Try.func122, Try.ntmps122
 go_wp2_with (first | ((with_reducible refine gate_dst (N := 1) rfl ?_); refine box_event ?hg (N := 1) ?hd (cs := #[.int .i64 a0_0, .slice A0_1 l0_1.length c0_1]) (t := 25) ?hr ?_; (case hd => rfl); (case hg => rfl); (case hr => (go_simp; done)); intro gb1266 hg w2 hbox hb; have BK1266 := Aside0.mk (hbox); have GW1266 := Aside0.mk ((by rw [hg]; exact (below_size (bl HB)) : w.heap.size ≤ gb1266)); have GE1266 := Aside0.mk ((by rw [hg]; exact (below_size (bl HB)) : w.heap.size ≤ gb1266)); replace HB := Aside0.mk (below_step (bl HB) hb); clear hb hbox hg) | ((with_reducible refine gate_dst (N := 2) rfl ?_); refine box_event ?hg (N := 2) ?hd (cs := #[.int .i64 0, .slice none 0 0]) (t := 25) ?hr ?_; (case hd => rfl); (case hg => rfl); (case hr => (go_simp; done)); intro gb1267 hg w3 hbox hb; have BK1267 := Aside0.mk (hbox); have GW1267 := Aside0.mk ((by rw [hg]; exact (below_size (bl1 HB GE1266)) : w.heap.size ≤ gb1267)); have GE1267 := Aside0.mk ((by rw [hg]; exact (below_size (bl1 HB GE1266)) : w.heap.size ≤ gb1267)); replace HB := Aside0.mk (below_step (bl1 HB GE1266) hb); have NB1266_1267 := Aside0.mk ((by rw [hg]; exact Nat.ne_of_lt (blk_lt (bk BK1266)) : gb1266 ≠ gb1267)); have NB1267_1266 := Aside0.mk ((by rw [hg]; exact Nat.ne_of_gt (blk_lt (bk BK1266)) : gb1267 ≠ gb1266)); replace BK1266 := Aside0.mk (blk_below (bk BK1266) hb); clear hb hbox hg; have hnb4 := NB1266_1267.out; have hnc4 := NB1267_1266.out; have hcz5_0 := bc w3 BK1266 0 (.int .i64 a0_0) rfl; have hcz5_1 := bc w3 BK1266 1 (.slice A0_1 l0_1.length c0_1) rfl; have hfz5_0 := fz BK1266 0; have hfz5_1 := fz BK1266 1) | ((with_reducible refine gate_dst (N := 3) rfl ?_); refine box_event ?hg (N := 3) ?hd (cs := #[.int .i64 0, .slice none 0 0]) (t := 25) ?hr ?_; (case hd => rfl); (case hg => rfl); (case hr => (go_simp; done)); intro gb1268 hg w6 hbox hb; have BK1268 := Aside0.mk (hbox); have GW1268 := Aside0.mk ((by rw [hg]; exact (below_size (bl2 HB GE1266 GE1267)) : w.heap.size ≤ gb1268)); have GE1268 := Aside0.mk ((by rw [hg]; exact (below_size (bl2 HB GE1266 GE1267)) : w.heap.size ≤ gb1268)); replace HB := Aside0.mk (below_step (bl2 HB GE1266 GE1267) hb); have NB1266_1268 := Aside0.mk ((by rw [hg]; exact Nat.ne_of_lt (blk_lt (bk BK1266)) : gb1266 ≠ gb1268)); have NB1268_1266 := Aside0.mk ((by rw [hg]; exact Nat.ne_of_gt (blk_lt (bk BK1266)) : gb1268 ≠ gb1266)); replace BK1266 := Aside0.mk (blk_below (bk BK1266) hb); have NB1267_1268 := Aside0.mk ((by rw [hg]; exact Nat.ne_of_lt (blk_lt (bk BK1267)) : gb1267 ≠ gb1268)); have NB1268_1267 := Aside0.mk ((by rw [hg]; exact Nat.ne_of_gt (blk_lt (bk BK1267)) : gb1268 ≠ gb1267)); replace BK1267 := Aside0.mk (blk_below (bk BK1267) hb); clear hb hbox hg; have hnb7 := NB1268_1266.out; have hnc7 := NB1266_1268.out; have hnb8 := NB1268_1267.out; have hnc8 := NB1267_1268.out; have hcz9_0 := bc w6 BK1268 0 (.int .i64 0) rfl; have hcz9_1 := bc w6 BK1268 1 (.slice none 0 0) rfl; have hfz9_0 := fz BK1268 0; have hfz9_1 := fz BK1268 1))
 go_loopg [4] k (fun kq v4 w' => ∃ (x4_1 : Int) (x1269001_1 : List (S41)) (u1269001 : Value), v4 = .int .i64 x4_1 ∧ Aside0 (spec_l1Back.l0 kq x4_1 a0_0 l0_1 a0_0 x1269001_1 = some (r1, r2)) ∧ Aside0 (kq ≤ k) ∧ Aside0 (Kd.R k41 41 w' w.heap.size (fun _ => True) u1269001 x1269001_1) ∧ Aside0 (w'.heap[gb1266]? = some (.cells #[.int .i64 a0_0, (.slice A0_1 l0_1.length c0_1)] 25 (0, 0))) ∧ Aside0 (w'.heap[gb1267]? = some (.cells #[.int .i64 0, (.slice none 0 0)] 25 (0, 0))) ∧ Aside0 (w'.heap[gb1268]? = some (.cells #[.int .i64 a0_0, u1269001] 25 (0, 0))) ∧ Aside0 (Below w.heap.size w w'))
 case atStart => exact ⟨(0), (([] : List (S41))), (.slice none 0 0), (by rfl), H', ⟨Nat.le_refl _⟩, ⟨by exact Kd.R_nil _ _ _ _ _⟩, ⟨by (with_reducible repeat (fail)); refine blk_far ?_ NB1266_1268.out _; refine blk_far ?_ NB1266_1268.out _; (with_reducible repeat (fail)); exact BK1266.out⟩, ⟨by (with_reducible repeat (fail)); refine blk_far ?_ NB1267_1268.out _; refine blk_far ?_ NB1267_1268.out _; (with_reducible repeat (fail)); exact BK1267.out⟩, ⟨by (with_reducible repeat (fail)); refine blk_put (cs := #[.int .i64 a0_0, .slice none 0 0]) ?_ 1 _ rfl; refine blk_put (cs := #[.int .i64 0, .slice none 0 0]) ?_ 0 _ rfl; (with_reducible repeat (fail)); exact BK1268.out⟩, ⟨bl3 HB GE1266 GE1267 GE1268⟩⟩
 clear H'
 try clear c1
 try clear p2
 try clear c4
 try clear c7
 try clear c8
 try clear hcz5_0
 try clear hcz5_1
 try clear hcz9_0
 try clear hcz9_1
 try clear hfz5_0
 try clear hfz5_1
 try clear hfz9_0
 try clear hfz9_1
 obtain ⟨x4_1, x1269001_1, u1269001, rfl, HA, HK1, HO_1269001, BK1266, BK1267, BK1268, HB⟩ := hrel
 cases gk with
 | zero => exact absurd HA.out (by simp [spec_l1Back.l0])
 | succ k1 =>
  have H := HA.out
  clear HA
  simp only [spec_l1Back.l0] at H
  by_cases c10 : x4_1 < (l0_1.length : Int)
  rotate_left
  ·rw [if_neg c10] at H
   have c10b0 : decide (x4_1 < (l0_1.length : Int)) = false := decide_eq_false c10
   clear c10
   simp only [Option.some.injEq, Prod.mk.injEq] at H
   obtain ⟨rfl, rfl⟩ := H
   have hnb26 := NB1266_1267.out
   have hnc26 := NB1267_1266.out
   have hnb27 := NB1266_1268.out
   have hnc27 := NB1268_1266.out
   have hcz28_0 := bc wr BK1266 0 (.int .i64 a0_0) rfl
   have hcz28_1 := bc wr BK1266 1 (.slice A0_1 l0_1.length c0_1) rfl
   have hfz28_0 := fz BK1266 0
   have hfz28_1 := fz BK1266 1
   have hnb29 := NB1268_1267.out
   have hnc29 := NB1267_1268.out
   have hcz30_0 := bc wr BK1268 0 (.int .i64 a0_0) rfl
   have hcz30_1 := bc wr BK1268 1 (u1269001) rfl
   have hfz30_0 := fz BK1268 0
   have hfz30_1 := fz BK1268 1
   have hcz31_0 := bc wr BK1267 0 (.int .i64 0) rfl
   have hcz31_1 := bc wr BK1267 1 (.slice none 0 0) rfl
   have hfz31_0 := fz BK1267 0
   have hfz31_1 := fz BK1267 1
   obtain ⟨Ao32, co32, eo32⟩ := Kd.R_slice HO_1269001.out
   subst eo32
   go_wp2
   refine bodyPost_ret (results_cell_row rfl _ _ gb1267 25 #[.int .i64 a0_0, .slice Ao32 x1269001_1.length co32] (0, 0) _ rfl (by (with_reducible repeat (fail)); refine blk_put (cs := #[.int .i64 a0_0, .slice none 0 0]) ?_ 1 _ rfl; refine blk_put (cs := #[.int .i64 0, .slice none 0 0]) ?_ 0 _ rfl; (with_reducible repeat (fail)); exact BK1267.out) Try.underlying25 rfl (by kernel_rfl)) rfl ?_
   exact ⟨_, by rfl, by (with_reducible repeat (fail)); exact Kd.R_mono (Kd.R_far (p := ⟨gb1267, 1, none⟩) (Kd.R_far (p := ⟨gb1267, 0, none⟩) (Kd.R_types HO_1269001.out BK1267.out (by decide)) (fun _ hk => hk.2) (.int .i64 a0_0)) (fun _ hk => hk.2) (.slice Ao32 x1269001_1.length co32)) (fun _ hk => trivial), bl3 HB GE1266 GE1267 GE1268⟩
  rw [if_pos c10] at H
  have c10b0 : decide (x4_1 < (l0_1.length : Int)) = true := decide_eq_true c10
  clear c10
  by_cases c11 : 0 ≤ x4_1
  rotate_left
  ·rw [if_neg c11] at H
   exact absurd H (by simp)
  rw [if_pos c11] at H
  have c11b0 : decide (0 ≤ x4_1) = true := decide_eq_true c11
  clear c11
  by_cases c12 : x1269001_1.length < 3518437208883
  rotate_left
  ·rw [if_neg c12] at H
   exact absurd H (by simp)
  rw [if_pos c12] at H
  have LMc12 := Aside0.mk c12
  clear c12
  obtain ⟨y1271, hy1271⟩ : ∃ y_ : List (S41), y_ = (x1269001_1 ++ [(⟨(rd_T41 l0_1 x4_1).f1, (rd_T41 l0_1 x4_1).f0, (rd_T41 l0_1 x4_1).f2, (rd_T41 l0_1 x4_1).f3, (rd_T41 l0_1 x4_1).f4⟩ : S41)]) := ⟨_, rfl⟩
  replace H : (spec_l1Back.l0 k1 (wrap64 (x4_1 + 1)) a0_0 l0_1 a0_0 y1271) = some (r1, r2) := by (rw [hy1271]; with_reducible exact H)
  have Ny1271 := Aside0.mk hy1271
  clear hy1271
  have H' := Aside0.mk H
  clear H
  have hnb13 := NB1266_1267.out
  have hnc13 := NB1267_1266.out
  have hnb14 := NB1266_1268.out
  have hnc14 := NB1268_1266.out
  have hcz15_0 := bc wr BK1266 0 (.int .i64 a0_0) rfl
  have hcz15_1 := bc wr BK1266 1 (.slice A0_1 l0_1.length c0_1) rfl
  have hfz15_0 := fz BK1266 0
  have hfz15_1 := fz BK1266 1
  have p1269 : 0 ≤ (x4_1 : Int) := oT (by (with_reducible assumption))
  have q1269 : x4_1 < (l0_1.length : Int) := oT (by (with_reducible assumption))
  obtain ⟨ad1269, e1269, hx1269_0, hx1269_1, hx1269_2, hx1269_3, hx1269_4⟩ := at_T41 HR0_1.out x4_1 p1269 q1269
  cases e1269
  replace hx1269_0 := hcb HB.out hx1269_0
  replace hx1269_1 := hcb HB.out hx1269_1
  replace hx1269_2 := hcb HB.out hx1269_2
  replace hx1269_3 := hcb HB.out hx1269_3
  replace hx1269_4 := hcb HB.out hx1269_4
  replace p1269 := eq_true p1269
  replace q1269 := eq_true q1269
  go_wp2_with (first | ((with_reducible refine gate_dst (N := 5) rfl ?_); refine box_event ?hg (N := 5) ?hd (cs := #[.int .i64 0, .int .i64 0, .int .i64 0, .int .i64 0, .int .i64 0]) (t := 41) ?hr ?_; (case hd => rfl); (case hg => rfl); (case hr => (go_simp; done)); intro gb1270 hg w16 hbox hb; replace HO_1269001 := Aside0.mk (Kd.R_below (Kd.R_elderB (rk HO_1269001) gb1270 (Nat.le_of_eq hg.symm)) hb); have BK1270 := Aside0.mk (hbox); have GW1270 := Aside0.mk ((by rw [hg]; exact (below_size (bl3 HB GE1266 GE1267 GE1268)) : w.heap.size ≤ gb1270)); have GE1270 := Aside0.mk ((by rw [hg]; exact (below_size (bl3 HB GE1266 GE1267 GE1268)) : w.heap.size ≤ gb1270)); replace HB := Aside0.mk (below_step (bl3 HB GE1266 GE1267 GE1268) hb); have NB1266_1270 := Aside0.mk ((by rw [hg]; exact Nat.ne_of_lt (blk_lt (bk BK1266)) : gb1266 ≠ gb1270)); have NB1270_1266 := Aside0.mk ((by rw [hg]; exact Nat.ne_of_gt (blk_lt (bk BK1266)) : gb1270 ≠ gb1266)); replace BK1266 := Aside0.mk (blk_below (bk BK1266) hb); have NB1267_1270 := Aside0.mk ((by rw [hg]; exact Nat.ne_of_lt (blk_lt (bk BK1267)) : gb1267 ≠ gb1270)); have NB1270_1267 := Aside0.mk ((by rw [hg]; exact Nat.ne_of_gt (blk_lt (bk BK1267)) : gb1270 ≠ gb1267)); replace BK1267 := Aside0.mk (blk_below (bk BK1267) hb); have NB1268_1270 := Aside0.mk ((by rw [hg]; exact Nat.ne_of_lt (blk_lt (bk BK1268)) : gb1268 ≠ gb1270)); have NB1270_1268 := Aside0.mk ((by rw [hg]; exact Nat.ne_of_gt (blk_lt (bk BK1268)) : gb1270 ≠ gb1268)); replace BK1268 := Aside0.mk (blk_below (bk BK1268) hb); clear hb hbox hg; have hnb17 := NB1270_1266.out; have hnc17 := NB1266_1270.out; have hnb18 := NB1270_1267.out; have hnc18 := NB1267_1270.out; have hnb19 := NB1270_1268.out; have hnc19 := NB1268_1270.out; have hcz20_0 := bc w16 BK1270 0 (.int .i64 0) rfl; have hcz20_1 := bc w16 BK1270 1 (.int .i64 0) rfl; have hcz20_2 := bc w16 BK1270 2 (.int .i64 0) rfl; have hcz20_3 := bc w16 BK1270 3 (.int .i64 0) rfl; have hcz20_4 := bc w16 BK1270 4 (.int .i64 0) rfl; have hfz20_0 := fz BK1270 0; have hfz20_1 := fz BK1270 1; have hfz20_2 := fz BK1270 2; have hfz20_3 := fz BK1270 3; have hfz20_4 := fz BK1270 4; have hnb21 := NB1268_1267.out; have hnc21 := NB1267_1268.out; have hcz22_0 := bc w16 BK1268 0 (.int .i64 a0_0) rfl; have hcz22_1 := bc w16 BK1268 1 (u1269001) rfl; have hfz22_0 := fz BK1268 0; have hfz22_1 := fz BK1268 1) | ((with_reducible refine gate_builtin (b := .append) (xs := #[.tmp 22, .tmp 34]) rfl ?_); at_builtin; refine Kd.R_append k41 (w0 := w) w.heap.size rfl (.tmp 22) (.tmp 34) 23 41 (.agg #[(.int .i64 0), (.int .i64 0), (.int .i64 0), (.int .i64 0), (.int .i64 0)]) 40 rfl Try.underlying23 info41 rfl (by decide) (by omega) u1269001 x1269001_1 (⟨(rd_T41 l0_1 x4_1).f1, (rd_T41 l0_1 x4_1).f0, (rd_T41 l0_1 x4_1).f2, (rd_T41 l0_1 x4_1).f3, (rd_T41 l0_1 x4_1).f4⟩ : S41) [.int .i64 ((rd_T41 l0_1 x4_1).f1), .int .i64 ((rd_T41 l0_1 x4_1).f0), .int .i64 ((rd_T41 l0_1 x4_1).f2), .int .i64 ((rd_T41 l0_1 x4_1).f3), .int .i64 ((rd_T41 l0_1 x4_1).f4)] (fun k_ => k_ ≠ gb1270) (fun _ => False) rfl (by (go_simp; done)) ?aP (fun _ hk => hk.elim) ?aF ?aO ?aB ?aS ?aL ?_; (case aP => exact k41_mkM _ _ _ (⟨(rd_T41 l0_1 x4_1).f1, (rd_T41 l0_1 x4_1).f0, (rd_T41 l0_1 x4_1).f2, (rd_T41 l0_1 x4_1).f3, (rd_T41 l0_1 x4_1).f4⟩ : S41)); (case aB => exact (bl4 HB GE1266 GE1267 GE1268 GE1270)); (case aF => exact (fun k_ hk => Kd.freshB (g := gb1270) (o := .cells #[.int .i64 ((rd_T41 l0_1 x4_1).f0), .int .i64 ((rd_T41 l0_1 x4_1).f1), .int .i64 ((rd_T41 l0_1 x4_1).f2), .int .i64 ((rd_T41 l0_1 x4_1).f3), .int .i64 ((rd_T41 l0_1 x4_1).f4)] 41 (0, 0)) (by (with_reducible repeat (fail)); refine blk_put (cs := #[.int .i64 ((rd_T41 l0_1 x4_1).f0), .int .i64 ((rd_T41 l0_1 x4_1).f1), .int .i64 ((rd_T41 l0_1 x4_1).f2), .int .i64 ((rd_T41 l0_1 x4_1).f3), .int .i64 0]) ?_ 4 _ rfl; refine blk_put (cs := #[.int .i64 ((rd_T41 l0_1 x4_1).f0), .int .i64 ((rd_T41 l0_1 x4_1).f1), .int .i64 ((rd_T41 l0_1 x4_1).f2), .int .i64 0, .int .i64 0]) ?_ 3 _ rfl; refine blk_put (cs := #[.int .i64 ((rd_T41 l0_1 x4_1).f0), .int .i64 ((rd_T41 l0_1 x4_1).f1), .int .i64 0, .int .i64 0, .int .i64 0]) ?_ 2 _ rfl; refine blk_put (cs := #[.int .i64 ((rd_T41 l0_1 x4_1).f0), .int .i64 0, .int .i64 0, .int .i64 0, .int .i64 0]) ?_ 1 _ rfl; refine blk_put (cs := #[.int .i64 0, .int .i64 0, .int .i64 0, .int .i64 0, .int .i64 0]) ?_ 0 _ rfl; (with_reducible repeat (fail)); exact BK1270.out) k_ hk)); (case aO => exact (by (with_reducible repeat (fail)); exact Kd.R_mono (Kd.R_far (p := ⟨gb1270, 4, none⟩) (Kd.R_far (p := ⟨gb1270, 3, none⟩) (Kd.R_far (p := ⟨gb1270, 2, none⟩) (Kd.R_far (p := ⟨gb1270, 1, none⟩) (Kd.R_far (p := ⟨gb1270, 0, none⟩) (Kd.R_mono HO_1269001.out (fun k_ hk => (⟨hk, hk.2⟩ : _ ∧ k_ ≠ gb1270))) (fun _ hk => hk.2) (.int .i64 ((rd_T41 l0_1 x4_1).f0))) (fun _ hk => hk.2) (.int .i64 ((rd_T41 l0_1 x4_1).f1))) (fun _ hk => hk.2) (.int .i64 ((rd_T41 l0_1 x4_1).f2))) (fun _ hk => hk.2) (.int .i64 ((rd_T41 l0_1 x4_1).f3))) (fun _ hk => hk.2) (.int .i64 ((rd_T41 l0_1 x4_1).f4))) (fun _ hk => hk.1.2))); (case aS => exact (below_size (bl4 HB GE1266 GE1267 GE1268 GE1270))); (case aL => have := LMc12.out; omega); intro v1272 w23 ho hb hg hat; rw [← Ny1271.out] at ho; have n0_ := Aside0.mk (blk_grown (g := gb1266) (o := .cells #[.int .i64 a0_0, .slice (some ad1269) l0_1.length c0_1] 25 (0, 0)) (by (with_reducible repeat (fail)); refine blk_far ?_ NB1266_1270.out _; refine blk_far ?_ NB1266_1270.out _; refine blk_far ?_ NB1266_1270.out _; refine blk_far ?_ NB1266_1270.out _; refine blk_far ?_ NB1266_1270.out _; (with_reducible repeat (fail)); exact BK1266.out) hg (Kd.R_ne HO_1269001.out BK1266.out (by decide))); have n1_ := Aside0.mk (blk_grown (g := gb1267) (o := .cells #[.int .i64 0, .slice none 0 0] 25 (0, 0)) (by (with_reducible repeat (fail)); refine blk_far ?_ NB1267_1270.out _; refine blk_far ?_ NB1267_1270.out _; refine blk_far ?_ NB1267_1270.out _; refine blk_far ?_ NB1267_1270.out _; refine blk_far ?_ NB1267_1270.out _; (with_reducible repeat (fail)); exact BK1267.out) hg (Kd.R_ne HO_1269001.out BK1267.out (by decide))); have n2_ := Aside0.mk (blk_grown (g := gb1268) (o := .cells #[.int .i64 a0_0, u1269001] 25 (0, 0)) (by (with_reducible repeat (fail)); refine blk_far ?_ NB1268_1270.out _; refine blk_far ?_ NB1268_1270.out _; refine blk_far ?_ NB1268_1270.out _; refine blk_far ?_ NB1268_1270.out _; refine blk_far ?_ NB1268_1270.out _; (with_reducible repeat (fail)); exact BK1268.out) hg (Kd.R_ne HO_1269001.out BK1268.out (by decide))); have n3_ := Aside0.mk (blk_grown (g := gb1270) (o := .cells #[.int .i64 ((rd_T41 l0_1 x4_1).f0), .int .i64 ((rd_T41 l0_1 x4_1).f1), .int .i64 ((rd_T41 l0_1 x4_1).f2), .int .i64 ((rd_T41 l0_1 x4_1).f3), .int .i64 ((rd_T41 l0_1 x4_1).f4)] 41 (0, 0)) (by (with_reducible repeat (fail)); refine blk_put (cs := #[.int .i64 ((rd_T41 l0_1 x4_1).f0), .int .i64 ((rd_T41 l0_1 x4_1).f1), .int .i64 ((rd_T41 l0_1 x4_1).f2), .int .i64 ((rd_T41 l0_1 x4_1).f3), .int .i64 0]) ?_ 4 _ rfl; refine blk_put (cs := #[.int .i64 ((rd_T41 l0_1 x4_1).f0), .int .i64 ((rd_T41 l0_1 x4_1).f1), .int .i64 ((rd_T41 l0_1 x4_1).f2), .int .i64 0, .int .i64 0]) ?_ 3 _ rfl; refine blk_put (cs := #[.int .i64 ((rd_T41 l0_1 x4_1).f0), .int .i64 ((rd_T41 l0_1 x4_1).f1), .int .i64 0, .int .i64 0, .int .i64 0]) ?_ 2 _ rfl; refine blk_put (cs := #[.int .i64 ((rd_T41 l0_1 x4_1).f0), .int .i64 0, .int .i64 0, .int .i64 0, .int .i64 0]) ?_ 1 _ rfl; refine blk_put (cs := #[.int .i64 0, .int .i64 0, .int .i64 0, .int .i64 0, .int .i64 0]) ?_ 0 _ rfl; (with_reducible repeat (fail)); exact BK1270.out) hg (Kd.R_away HO_1269001.out (fun _ hk => hk.2))); have n4_ := Aside0.mk (hb); have n5_ := Aside0.mk (ho); clear BK1266; clear BK1267; clear BK1268; clear BK1270; clear HB; clear HO_1269001; have BK1266 := n0_; have BK1267 := n1_; have BK1268 := n2_; have BK1270 := n3_; have HB := n4_; have HO1273 := n5_; clear n0_ n1_ n2_ n3_ n4_ n5_; clear ho hb hg hat; obtain ⟨Ao24, co24, eo24⟩ := Kd.R_slice HO1273.out; subst eo24; have hcz25_0 := bc w23 BK1268 0 (.int .i64 a0_0) rfl; have hcz25_1 := bc w23 BK1268 1 (u1269001) rfl; have hfz25_0 := fz BK1268 0; have hfz25_1 := fz BK1268 1))
  go_roundg k1
  case measure => have := HK1.out; omega
  case rel => exact ⟨(wrap64 (x4_1 + 1)), (y1271), (.slice Ao24 y1271.length co24), (by rfl), H', ⟨by have := HK1.out; omega⟩, ⟨by (with_reducible repeat (fail)); exact Kd.R_mono (Kd.R_far (p := ⟨gb1268, 1, none⟩) (Kd.R_types HO1273.out BK1268.out (by decide)) (fun _ hk => hk.2) (.slice Ao24 y1271.length co24)) (fun _ hk => trivial)⟩, ⟨by (with_reducible repeat (fail)); refine blk_far ?_ NB1266_1268.out _; (with_reducible repeat (fail)); exact BK1266.out⟩, ⟨by (with_reducible repeat (fail)); refine blk_far ?_ NB1267_1268.out _; (with_reducible repeat (fail)); exact BK1267.out⟩, ⟨by (with_reducible repeat (fail)); refine blk_put (cs := #[.int .i64 a0_0, u1269001]) ?_ 1 _ rfl; (with_reducible repeat (fail)); exact BK1268.out⟩, ⟨bl4 HB GE1266 GE1267 GE1268 GE1270⟩⟩

end Go.Proofs.Ytgickejeakmenaa.F
