-- Printed by wip/px/px.py of this claim's repository (the kit's printer, extended there). Lean checks it.
import Derived.Test.YtgickejeakmenaaFKinds
namespace Go.Proofs.Ytgickejeakmenaa.F
open Go.RowKit Go.Proofs.YtgickejeakmenaaW.PrintWords Go.Proofs.YtgickejeakmenaaW.PrintLast Go.Proofs.YtgickejeakmenaaW.PrintMore
attribute [local go_sem] max2_int min2_int max_two min_two max_three min_three max_four min_four   -- for this text's walks alone
set_option linter.unusedVariables false
set_option linter.unusedSimpArgs false

/-! ### spec_l18For: function 98 -/
def spec_l18For.l0 : Nat → Int → Int → Int → List (S41) → Int → List (S41) → Option (Int × (List (S41)))
 | 0, _, _, _, _, _, _ => none
 | k + 1, x1, x6, x451000, x451001, x453000, x453001 => if x6 < (x451001.length : Int) then (if 0 ≤ x6 then (if ((rd_T41 x451001 x6).f4) ≥ x1 then (if x453001.length < 3518437208883 then (spec_l18For.l0 k x1 (wrap64 (x6 + 1)) x451000 x451001 x453000 (x453001 ++ [(⟨(rd_T41 x451001 x6).f0, (rd_T41 x451001 x6).f1, (rd_T41 x451001 x6).f2, (rd_T41 x451001 x6).f3, (rd_T41 x451001 x6).f4⟩ : S41)])) else (none)) else (spec_l18For.l0 k x1 (wrap64 (x6 + 1)) x451000 x451001 x453000 x453001)) else (none)) else (some (x453000, x453001))
def spec_l18For.f (k : Nat) (a0_0 : Int) (l0_1 : List (S41)) (a1 : Int) : Option (Int × (List (S41))) := spec_l18For.l0 k a1 0 a0_0 l0_1 a0_0 ([] : List (S41))
theorem spec_l18For.mono_l : ∀ k, (∀ y0 y1 y2 y3 y4 y5, LeO (spec_l18For.l0 k y0 y1 y2 y3 y4 y5) (spec_l18For.l0 (k + 1) y0 y1 y2 y3 y4 y5))
 | 0 => fun _ _ _ _ _ _ r h => by simp [spec_l18For.l0] at h
 | k + 1 => by
  have ih0 := spec_l18For.mono_l k
  ·intro y0 y1 y2 y3 y4 y5
   unfold spec_l18For.l0
   repeat' first | (with_reducible exact ih0 _ _ _ _ _ _) | (with_reducible exact LeO.refl _) | (with_reducible refine LeO.ite ?_ ?_)
theorem spec_l18For.mono : ∀ a0 a1 a2 k, LeO (spec_l18For.f k a0 a1 a2) (spec_l18For.f (k + 1) a0 a1 a2) := by
 intro a0 a1 a2 k
 have ih0 := spec_l18For.mono_l k
 unfold spec_l18For.f
 repeat' (with_reducible exact ih0 _ _ _ _ _ _)
def spec_l18For.T6 : Bool × List (List Nat × List Nat) := (true, [([], []), ([0], [0]), ([], []), ([2], [2]), ([], []), ([3, 4], [3, 4]), ([5], [5]), ([6], [6]), ([1, 7], [1, 7]), ([0, 1, 2, 3, 4, 5, 6, 7, 8], []), ([9, 8, 8, 0, 1, 2, 3, 4, 5, 6, 7, 8], [8, 9])])
def spec_l18For.B6 : List Nat := [0, 1, 0, 4, 0, 28, 60, 124, 255, 511, 1023]
theorem spec_l18For.tab6 : rtab .any (opsOf Try.f98 6) = spec_l18For.T6 := by kernel_rfl
theorem spec_l18For.bits6 : waitsOk spec_l18For.T6.2 spec_l18For.B6 = true := by kernel_rfl
set_option maxHeartbeats 8000000 in
set_option maxRecDepth 100000 in
theorem spec_l18For.calls (k : Nat) (a0_0 : Int) (A0_1 : Option Addr) (c0_1 : Nat) (l0_1 : List (S41)) (a1 : Int) (r1 : Int) (r2 : List (S41)) (w : World) (hr0_1 : Kd.C k41 w A0_1 l0_1.length l0_1) (hc0_1 : l0_1.length ≤ c0_1) (h : spec_l18For.f k a0_0 l0_1 a1 = some (r1, r2)) :
  Calls Try.prog 98 #[.agg #[.int .i64 a0_0, .slice A0_1 l0_1.length c0_1], .int .i64 a1] w fun e w' => ∃ v1_ : Value, e = .returned (.agg #[.int .i64 r1, v1_]) ∧ Kd.R k41 41 w' w.heap.size (fun _ => True) v1_ r2 ∧ Below w.heap.size w w' := by
 have hu25 := Try.underlying25
 have hu41 := Try.underlying41
 have HR0_1 := Aside0.mk hr0_1
 have HC0_1 := Aside0.mk hc0_1
 clear hr0_1 hc0_1
 have HB := Aside0.mk (Below.refl w.heap.size w)
 have H : (spec_l18For.l0 k a1 0 a0_0 l0_1 a0_0 ([] : List (S41))) = some (r1, r2) := h
 clear h
 have H' := Aside0.mk H
 clear H
 go_enter Try.func98, Try.ntmps98
 go_wp2_with (first | ((with_reducible refine gate_dst (N := 2) rfl ?_); refine box_event ?hg (N := 2) ?hd (cs := #[.int .i64 a0_0, .slice A0_1 l0_1.length c0_1]) (t := 25) ?hr ?_; (case hd => rfl); (case hg => rfl); (case hr => (go_simp; done)); intro gb450 hg w3 hbox hb; have BK450 := Aside0.mk (hbox); have GW450 := Aside0.mk ((by rw [hg]; exact (below_size (bl HB)) : w.heap.size ≤ gb450)); have GE450 := Aside0.mk ((by rw [hg]; exact (below_size (bl HB)) : w.heap.size ≤ gb450)); replace HB := Aside0.mk (below_step (bl HB) hb); clear hb hbox hg) | ((with_reducible refine gate_dst (N := 4) rfl ?_); refine box_event ?hg (N := 4) ?hd (cs := #[.int .i64 0, .slice none 0 0]) (t := 25) ?hr ?_; (case hd => rfl); (case hg => rfl); (case hr => (go_simp; done)); intro gb451 hg w4 hbox hb; have BK451 := Aside0.mk (hbox); have GW451 := Aside0.mk ((by rw [hg]; exact (below_size (bl1 HB GE450)) : w.heap.size ≤ gb451)); have GE451 := Aside0.mk ((by rw [hg]; exact (below_size (bl1 HB GE450)) : w.heap.size ≤ gb451)); replace HB := Aside0.mk (below_step (bl1 HB GE450) hb); have NB450_451 := Aside0.mk ((by rw [hg]; exact Nat.ne_of_lt (blk_lt (bk BK450)) : gb450 ≠ gb451)); have NB451_450 := Aside0.mk ((by rw [hg]; exact Nat.ne_of_gt (blk_lt (bk BK450)) : gb451 ≠ gb450)); replace BK450 := Aside0.mk (blk_below (bk BK450) hb); clear hb hbox hg; have hnb5 := NB450_451.out; have hnc5 := NB451_450.out; have hcz6_0 := bc w4 BK450 0 (.int .i64 a0_0) rfl; have hcz6_1 := bc w4 BK450 1 (.slice A0_1 l0_1.length c0_1) rfl; have hfz6_0 := fz BK450 0; have hfz6_1 := fz BK450 1) | ((with_reducible refine gate_dst (N := 5) rfl ?_); refine box_event ?hg (N := 5) ?hd (cs := #[.int .i64 0, .slice none 0 0]) (t := 25) ?hr ?_; (case hd => rfl); (case hg => rfl); (case hr => (go_simp; done)); intro gb452 hg w7 hbox hb; have BK452 := Aside0.mk (hbox); have GW452 := Aside0.mk ((by rw [hg]; exact (below_size (bl2 HB GE450 GE451)) : w.heap.size ≤ gb452)); have GE452 := Aside0.mk ((by rw [hg]; exact (below_size (bl2 HB GE450 GE451)) : w.heap.size ≤ gb452)); replace HB := Aside0.mk (below_step (bl2 HB GE450 GE451) hb); have NB450_452 := Aside0.mk ((by rw [hg]; exact Nat.ne_of_lt (blk_lt (bk BK450)) : gb450 ≠ gb452)); have NB452_450 := Aside0.mk ((by rw [hg]; exact Nat.ne_of_gt (blk_lt (bk BK450)) : gb452 ≠ gb450)); replace BK450 := Aside0.mk (blk_below (bk BK450) hb); have NB451_452 := Aside0.mk ((by rw [hg]; exact Nat.ne_of_lt (blk_lt (bk BK451)) : gb451 ≠ gb452)); have NB452_451 := Aside0.mk ((by rw [hg]; exact Nat.ne_of_gt (blk_lt (bk BK451)) : gb452 ≠ gb451)); replace BK451 := Aside0.mk (blk_below (bk BK451) hb); clear hb hbox hg; have hnb8 := NB452_450.out; have hnc8 := NB450_452.out; have hnb9 := NB452_451.out; have hnc9 := NB451_452.out; have hcz10_0 := bc w7 BK452 0 (.int .i64 0) rfl; have hcz10_1 := bc w7 BK452 1 (.slice none 0 0) rfl; have hfz10_0 := fz BK452 0; have hfz10_1 := fz BK452 1))
 go_loopg [6] k (fun kq v6 w' => ∃ (x6_1 : Int) (x453001_1 : List (S41)) (u453001 : Value), v6 = .int .i64 x6_1 ∧ Aside0 (spec_l18For.l0 kq a1 x6_1 a0_0 l0_1 a0_0 x453001_1 = some (r1, r2)) ∧ Aside0 (kq ≤ k) ∧ Aside0 (Kd.R k41 41 w' w.heap.size (fun _ => True) u453001 x453001_1) ∧ Aside0 (w'.heap[gb450]? = some (.cells #[.int .i64 a0_0, (.slice A0_1 l0_1.length c0_1)] 25 (0, 0))) ∧ Aside0 (w'.heap[gb451]? = some (.cells #[.int .i64 0, (.slice none 0 0)] 25 (0, 0))) ∧ Aside0 (w'.heap[gb452]? = some (.cells #[.int .i64 a0_0, u453001] 25 (0, 0))) ∧ Aside0 (Below w.heap.size w w'))
 case atStart => exact ⟨(0), (([] : List (S41))), (.slice none 0 0), (by rfl), H', ⟨Nat.le_refl _⟩, ⟨by exact Kd.R_nil _ _ _ _ _⟩, ⟨by (with_reducible repeat (fail)); refine blk_far ?_ NB450_452.out _; refine blk_far ?_ NB450_452.out _; (with_reducible repeat (fail)); exact BK450.out⟩, ⟨by (with_reducible repeat (fail)); refine blk_far ?_ NB451_452.out _; refine blk_far ?_ NB451_452.out _; (with_reducible repeat (fail)); exact BK451.out⟩, ⟨by (with_reducible repeat (fail)); refine blk_put (cs := #[.int .i64 a0_0, .slice none 0 0]) ?_ 1 _ rfl; refine blk_put (cs := #[.int .i64 0, .slice none 0 0]) ?_ 0 _ rfl; (with_reducible repeat (fail)); exact BK452.out⟩, ⟨bl3 HB GE450 GE451 GE452⟩⟩
 clear H'
 try clear p2
 try clear c5
 try clear c8
 try clear c9
 try clear hcz10_0
 try clear hcz10_1
 try clear hcz6_0
 try clear hcz6_1
 try clear hfz10_0
 try clear hfz10_1
 try clear hfz6_0
 try clear hfz6_1
 obtain ⟨x6_1, x453001_1, u453001, rfl, HA, HK1, HO_453001, BK450, BK451, BK452, HB⟩ := hrel
 cases gk with
 | zero => exact absurd HA.out (by simp [spec_l18For.l0])
 | succ k1 =>
  have H := HA.out
  clear HA
  simp only [spec_l18For.l0] at H
  by_cases c11 : x6_1 < (l0_1.length : Int)
  rotate_left
  ·rw [if_neg c11] at H
   have c11b0 : decide (x6_1 < (l0_1.length : Int)) = false := decide_eq_false c11
   clear c11
   simp only [Option.some.injEq, Prod.mk.injEq] at H
   obtain ⟨rfl, rfl⟩ := H
   have hnb25 := NB450_451.out
   have hnc25 := NB451_450.out
   have hnb26 := NB450_452.out
   have hnc26 := NB452_450.out
   have hcz27_0 := bc wr BK450 0 (.int .i64 a0_0) rfl
   have hcz27_1 := bc wr BK450 1 (.slice A0_1 l0_1.length c0_1) rfl
   have hfz27_0 := fz BK450 0
   have hfz27_1 := fz BK450 1
   have hnb28 := NB452_451.out
   have hnc28 := NB451_452.out
   have hcz29_0 := bc wr BK452 0 (.int .i64 a0_0) rfl
   have hcz29_1 := bc wr BK452 1 (u453001) rfl
   have hfz29_0 := fz BK452 0
   have hfz29_1 := fz BK452 1
   have hcz30_0 := bc wr BK451 0 (.int .i64 0) rfl
   have hcz30_1 := bc wr BK451 1 (.slice none 0 0) rfl
   have hfz30_0 := fz BK451 0
   have hfz30_1 := fz BK451 1
   obtain ⟨Ao31, co31, eo31⟩ := Kd.R_slice HO_453001.out
   subst eo31
   go_wp2
   refine bodyPost_ret (results_cell_row rfl _ _ gb451 25 #[.int .i64 a0_0, .slice Ao31 x453001_1.length co31] (0, 0) _ rfl (by (with_reducible repeat (fail)); refine blk_put (cs := #[.int .i64 a0_0, .slice none 0 0]) ?_ 1 _ rfl; refine blk_put (cs := #[.int .i64 0, .slice none 0 0]) ?_ 0 _ rfl; (with_reducible repeat (fail)); exact BK451.out) Try.underlying25 rfl (by kernel_rfl)) rfl ?_
   exact ⟨_, by rfl, by (with_reducible repeat (fail)); exact Kd.R_mono (Kd.R_far (p := ⟨gb451, 1, none⟩) (Kd.R_far (p := ⟨gb451, 0, none⟩) (Kd.R_types HO_453001.out BK451.out (by decide)) (fun _ hk => hk.2) (.int .i64 a0_0)) (fun _ hk => hk.2) (.slice Ao31 x453001_1.length co31)) (fun _ hk => trivial), bl3 HB GE450 GE451 GE452⟩
  rw [if_pos c11] at H
  have c11b0 : decide (x6_1 < (l0_1.length : Int)) = true := decide_eq_true c11
  clear c11
  by_cases c12 : 0 ≤ x6_1
  rotate_left
  ·rw [if_neg c12] at H
   exact absurd H (by simp)
  rw [if_pos c12] at H
  have c12b0 : decide (0 ≤ x6_1) = true := decide_eq_true c12
  clear c12
  by_cases c13 : ((rd_T41 l0_1 x6_1).f4) ≥ a1
  rotate_left
  ·rw [if_neg c13] at H
   have c13b0 : decide (a1 ≤ ((rd_T41 l0_1 x6_1).f4)) = false := decide_eq_false c13
   clear c13
   have H' := Aside0.mk H
   clear H
   have hnb22 := NB450_451.out
   have hnc22 := NB451_450.out
   have hnb23 := NB450_452.out
   have hnc23 := NB452_450.out
   have hcz24_0 := bc wr BK450 0 (.int .i64 a0_0) rfl
   have hcz24_1 := bc wr BK450 1 (.slice A0_1 l0_1.length c0_1) rfl
   have hfz24_0 := fz BK450 0
   have hfz24_1 := fz BK450 1
   have p453 : 0 ≤ (x6_1 : Int) := oT (by (with_reducible assumption))
   have q453 : x6_1 < (l0_1.length : Int) := oT (by (with_reducible assumption))
   obtain ⟨ad453, e453, hx453_0, hx453_1, hx453_2, hx453_3, hx453_4⟩ := at_T41 HR0_1.out x6_1 p453 q453
   cases e453
   replace hx453_0 := hcb HB.out hx453_0
   replace hx453_1 := hcb HB.out hx453_1
   replace hx453_2 := hcb HB.out hx453_2
   replace hx453_3 := hcb HB.out hx453_3
   replace hx453_4 := hcb HB.out hx453_4
   replace p453 := eq_true p453
   replace q453 := eq_true q453
   go_wp2
   go_roundg k1
   case measure => have := HK1.out; omega
   case rel => exact ⟨(wrap64 (x6_1 + 1)), (x453001_1), (u453001), (by rfl), H', ⟨by have := HK1.out; omega⟩, ⟨rk HO_453001⟩, ⟨bk BK450⟩, ⟨bk BK451⟩, ⟨bk BK452⟩, ⟨bl3 HB GE450 GE451 GE452⟩⟩
  rw [if_pos c13] at H
  have c13b0 : decide (a1 ≤ ((rd_T41 l0_1 x6_1).f4)) = true := decide_eq_true c13
  clear c13
  by_cases c14 : x453001_1.length < 3518437208883
  rotate_left
  ·rw [if_neg c14] at H
   exact absurd H (by simp)
  rw [if_pos c14] at H
  have LMc14 := Aside0.mk c14
  clear c14
  obtain ⟨y455, hy455⟩ : ∃ y_ : List (S41), y_ = (x453001_1 ++ [(⟨(rd_T41 l0_1 x6_1).f0, (rd_T41 l0_1 x6_1).f1, (rd_T41 l0_1 x6_1).f2, (rd_T41 l0_1 x6_1).f3, (rd_T41 l0_1 x6_1).f4⟩ : S41)]) := ⟨_, rfl⟩
  replace H : (spec_l18For.l0 k1 a1 (wrap64 (x6_1 + 1)) a0_0 l0_1 a0_0 y455) = some (r1, r2) := by (rw [hy455]; with_reducible exact H)
  have Ny455 := Aside0.mk hy455
  clear hy455
  have H' := Aside0.mk H
  clear H
  have hnb15 := NB450_451.out
  have hnc15 := NB451_450.out
  have hnb16 := NB450_452.out
  have hnc16 := NB452_450.out
  have hcz17_0 := bc wr BK450 0 (.int .i64 a0_0) rfl
  have hcz17_1 := bc wr BK450 1 (.slice A0_1 l0_1.length c0_1) rfl
  have hfz17_0 := fz BK450 0
  have hfz17_1 := fz BK450 1
  have p453 : 0 ≤ (x6_1 : Int) := oT (by (with_reducible assumption))
  have q453 : x6_1 < (l0_1.length : Int) := oT (by (with_reducible assumption))
  obtain ⟨ad453, e453, hx453_0, hx453_1, hx453_2, hx453_3, hx453_4⟩ := at_T41 HR0_1.out x6_1 p453 q453
  cases e453
  replace hx453_0 := hcb HB.out hx453_0
  replace hx453_1 := hcb HB.out hx453_1
  replace hx453_2 := hcb HB.out hx453_2
  replace hx453_3 := hcb HB.out hx453_3
  replace hx453_4 := hcb HB.out hx453_4
  replace p453 := eq_true p453
  replace q453 := eq_true q453
  try go_wp2
  replace HO_453001 := Aside0.mk (Kd.R_drew HO_453001.out)
  replace BK450 := Aside0.mk (blk_drew BK450.out)
  replace BK451 := Aside0.mk (blk_drew BK451.out)
  replace BK452 := Aside0.mk (blk_drew BK452.out)
  replace HB := Aside0.mk (below_drew1 HB.out)
  have p454 : 0 ≤ (x6_1 : Int) := oT (by (with_reducible assumption))
  have q454 : x6_1 < (l0_1.length : Int) := oT (by (with_reducible assumption))
  obtain ⟨ad454, e454, hx454_0, hx454_1, hx454_2, hx454_3, hx454_4⟩ := at_T41 HR0_1.out x6_1 p454 q454
  have hw454_4 := hx454_4
  have hw454_3 := hx454_3
  have hw454_2 := hx454_2
  have hw454_1 := hx454_1
  have hw454_0 := hx454_0
  obtain rfl : ad453 = ad454 := (by injection e454)
  replace hx454_0 := hcb HB.out hx454_0
  replace hx454_1 := hcb HB.out hx454_1
  replace hx454_2 := hcb HB.out hx454_2
  replace hx454_3 := hcb HB.out hx454_3
  replace hx454_4 := hcb HB.out hx454_4
  replace p454 := eq_true p454
  replace q454 := eq_true q454
  refine start_ (n := 11) (S := fun w' => w'.cell? ⟨gb452, 0, none⟩ = some (.int .i64 a0_0) ∧ w'.cell? ⟨gb452, 1, none⟩ = some (u453001) ∧ w'.cell? ⟨gb450, 0, none⟩ = some (.int .i64 a0_0) ∧ w'.cell? ⟨gb450, 1, none⟩ = some (.slice (some ad453) l0_1.length c0_1) ∧ w'.cell? (ad453.add ((x6_1).toNat * 5)) = some (.int .i64 ((rd_T41 l0_1 x6_1).f0)) ∧ w'.cell? ⟨(ad453.add ((x6_1).toNat * 5)).block, (ad453.add ((x6_1).toNat * 5)).off + 1, none⟩ = some (.int .i64 ((rd_T41 l0_1 x6_1).f1)) ∧ w'.cell? ⟨(ad453.add ((x6_1).toNat * 5)).block, (ad453.add ((x6_1).toNat * 5)).off + 2, none⟩ = some (.int .i64 ((rd_T41 l0_1 x6_1).f2)) ∧ w'.cell? ⟨(ad453.add ((x6_1).toNat * 5)).block, (ad453.add ((x6_1).toNat * 5)).off + 3, none⟩ = some (.int .i64 ((rd_T41 l0_1 x6_1).f3)) ∧ w'.cell? ⟨(ad453.add ((x6_1).toNat * 5)).block, (ad453.add ((x6_1).toNat * 5)).off + 4, none⟩ = some (.int .i64 ((rd_T41 l0_1 x6_1).f4))) (ds := [10]) (ms 11 0) (by kernel_rfl) rfl (by kernel_rfl) ⟨(blk_cell BK452.out 0).trans rfl, (blk_cell BK452.out 1).trans rfl, (blk_cell BK450.out 0).trans rfl, (blk_cell BK450.out 1).trans rfl, ((HB.out.cell (World.block_lt_of_cell? w _ hw454_0)).trans hw454_0), ((HB.out.cell (World.block_lt_of_cell? w _ hw454_1)).trans hw454_1), ((HB.out.cell (World.block_lt_of_cell? w _ hw454_2)).trans hw454_2), ((HB.out.cell (World.block_lt_of_cell? w _ hw454_3)).trans hw454_3), ((HB.out.cell (World.block_lt_of_cell? w _ hw454_4)).trans hw454_4)⟩ (fun hHeld => ?_); refine with_tabW spec_l18For.tab6 spec_l18For.bits6 (fun HT_ HW_ => ?_)
  generalize wr.drew = w18 at HO_453001 BK450 BK451 BK452 HB hx454_0 hx454_1 hx454_2 hx454_3 hx454_4 hHeld ⊢
  refine pu 0 25 ?_ (ms 11 1) rfl rfl HT_ (by kernel_rfl) (fun _ _ _ h => h) (by rfl) ?_ ?_ ?_ ?_
  rotate_left
  ·intro w'
   go_simp
   with_reducible rfl
  rotate_left
  ·simp only [SX]
   rfl
  refine pu 2 27 ?_ (ms 11 5) rfl rfl HT_ (by kernel_rfl) (fun _ _ _ h => h) (by rfl) ?_ ?_ ?_ ?_
  rotate_left
  ·intro w'
   go_simp
   with_reducible rfl
  rotate_left
  ·simp only [SX]
   rfl
  refine pu 4 29 ?_ (ms 11 21) rfl rfl HT_ (by kernel_rfl) (fun _ _ _ h => h) (by rfl) ?_ ?_ ?_ ?_
  rotate_left
  ·intro w'
   go_simp
   with_reducible rfl
  rotate_left
  ·simp only [SX]
   rfl
  refine tk 1 26 ?_ (ms 11 23) rfl rfl HT_ HW_ (by kernel_rfl) (fun _ _ _ h => h) (by rfl) ?_ hHeld ?_ ?_ ?_
  rotate_left
  ·rintro w' ⟨s0, s1, s2, s3, s4, s5, s6, s7, s8⟩
   go_simp
   with_reducible rfl
  rotate_left
  ·simp only [SX]
   rfl
  refine tk 3 28 ?_ (ms 11 31) rfl rfl HT_ HW_ (by kernel_rfl) (fun _ _ _ h => h) (by rfl) ?_ hHeld ?_ ?_ ?_
  rotate_left
  ·rintro w' ⟨s0, s1, s2, s3, s4, s5, s6, s7, s8⟩
   go_simp
   with_reducible rfl
  rotate_left
  ·simp only [SX]
   rfl
  refine pu 5 30 ?_ (ms 11 63) rfl rfl HT_ (by kernel_rfl) (fun _ _ _ h => h) (by rfl) ?_ ?_ ?_ ?_
  rotate_left
  ·intro w'
   go_simp
   with_reducible rfl
  rotate_left
  ·simp only [SX]
   rfl
  refine tk 6 31 ?_ (ms 11 127) rfl rfl HT_ HW_ (by kernel_rfl) (fun _ _ _ h => h) (by rfl) ?_ hHeld ?_ ?_ ?_
  rotate_left
  ·rintro w' ⟨s0, s1, s2, s3, s4, s5, s6, s7, s8⟩
   go_simp
   with_reducible rfl
  rotate_left
  ·simp only [SX]
   rfl
  refine one_ (i := 7) (N := some 32) (ms 11 255) rfl rfl (one_of HT_.out (by kernel_rfl)) (by decide) (fun K hK => ?_)
  refine value_ (w1 := ?_) (v := ?_) (by rfl) rfl ?_ ?_
  rotate_left 2
  ·go_simp
   constructor
   rotate_left
   ·rfl
   rfl
  refine hK.out _ _ ⟨(blk_cell (blk_alloc BK452.out _) 0).trans rfl, (blk_cell (blk_alloc BK452.out _) 1).trans rfl, (blk_cell (blk_alloc BK450.out _) 0).trans rfl, (blk_cell (blk_alloc BK450.out _) 1).trans rfl, (World.cell?_alloc_lt _ _ _ (World.block_lt_of_cell? _ _ (((HB.out.cell (World.block_lt_of_cell? w _ hw454_0)).trans hw454_0)))).trans (((HB.out.cell (World.block_lt_of_cell? w _ hw454_0)).trans hw454_0)), (World.cell?_alloc_lt _ _ _ (World.block_lt_of_cell? _ _ (((HB.out.cell (World.block_lt_of_cell? w _ hw454_1)).trans hw454_1)))).trans (((HB.out.cell (World.block_lt_of_cell? w _ hw454_1)).trans hw454_1)), (World.cell?_alloc_lt _ _ _ (World.block_lt_of_cell? _ _ (((HB.out.cell (World.block_lt_of_cell? w _ hw454_2)).trans hw454_2)))).trans (((HB.out.cell (World.block_lt_of_cell? w _ hw454_2)).trans hw454_2)), (World.cell?_alloc_lt _ _ _ (World.block_lt_of_cell? _ _ (((HB.out.cell (World.block_lt_of_cell? w _ hw454_3)).trans hw454_3)))).trans (((HB.out.cell (World.block_lt_of_cell? w _ hw454_3)).trans hw454_3)), (World.cell?_alloc_lt _ _ _ (World.block_lt_of_cell? _ _ (((HB.out.cell (World.block_lt_of_cell? w _ hw454_4)).trans hw454_4)))).trans (((HB.out.cell (World.block_lt_of_cell? w _ hw454_4)).trans hw454_4))⟩ (fun hHeld => ?_)
  clear hK K
  refine norm_ (a' := ?_) ?_ ?_
  rotate_left
  ·show Act.put _ (some 32) _ = _
   simp only [SX]
   rfl
  refine one_ (i := 8) (N := some 33) (ms 11 511) rfl rfl (one_of HT_.out (by kernel_rfl)) (by decide) (fun K hK => ?_)
  refine Kd.R_append_step k41 (w0 := w) w.heap.size (by rfl) (.tmp 26) (.tmp 32) 23 41 (.agg #[(.int .i64 0), (.int .i64 0), (.int .i64 0), (.int .i64 0), (.int .i64 0)]) 40 rfl Try.underlying23 info41 rfl (by decide) (by omega) u453001 x453001_1 (⟨(rd_T41 l0_1 x6_1).f0, (rd_T41 l0_1 x6_1).f1, (rd_T41 l0_1 x6_1).f2, (rd_T41 l0_1 x6_1).f3, (rd_T41 l0_1 x6_1).f4⟩ : S41) [.int .i64 ((rd_T41 l0_1 x6_1).f0), .int .i64 ((rd_T41 l0_1 x6_1).f1), .int .i64 ((rd_T41 l0_1 x6_1).f2), .int .i64 ((rd_T41 l0_1 x6_1).f3), .int .i64 ((rd_T41 l0_1 x6_1).f4)] (fun _ => True) (fun _ => False) rfl rfl ?aP (fun _ hk => hk.elim) ?aF ?aO ?aB ?aS ?aL ?_
  (case aP => exact k41_mkM _ _ _ (⟨(rd_T41 l0_1 x6_1).f0, (rd_T41 l0_1 x6_1).f1, (rd_T41 l0_1 x6_1).f2, (rd_T41 l0_1 x6_1).f3, (rd_T41 l0_1 x6_1).f4⟩ : S41))
  (case aB => exact (bl3 HB GE450 GE451 GE452))
  (case aF => exact (fun _ _ => trivial))
  (case aO => exact (rk HO_453001))
  (case aS => exact (below_size (bl3 HB GE450 GE451 GE452)))
  (case aL => have := LMc14.out; omega)
  intro v456 w19 ho hb hg hat
  rw [← Ny455.out] at ho
  have n0_ := Aside0.mk (blk_grown (bk BK450) hg (Kd.R_ne HO_453001.out BK450.out (by decide)))
  have n1_ := Aside0.mk (blk_grown (bk BK451) hg (Kd.R_ne HO_453001.out BK451.out (by decide)))
  have n2_ := Aside0.mk (blk_grown (bk BK452) hg (Kd.R_ne HO_453001.out BK452.out (by decide)))
  have n3_ := Aside0.mk (hb)
  have n4_ := Aside0.mk (ho)
  clear BK450
  clear BK451
  clear BK452
  clear HB
  clear HO_453001
  have BK450 := n0_
  have BK451 := n1_
  have BK452 := n2_
  have HB := n3_
  have HO457 := n4_
  clear n0_ n1_ n2_ n3_ n4_
  clear ho hb hg hat
  obtain ⟨Ao20, co20, eo20⟩ := Kd.R_slice HO457.out
  (subst eo20)
  refine hK.out _ _ ⟨(blk_cell BK452.out 0).trans rfl, (blk_cell BK452.out 1).trans rfl, (blk_cell BK450.out 0).trans rfl, (blk_cell BK450.out 1).trans rfl, ((HB.out.cell (World.block_lt_of_cell? w _ hw454_0)).trans hw454_0), ((HB.out.cell (World.block_lt_of_cell? w _ hw454_1)).trans hw454_1), ((HB.out.cell (World.block_lt_of_cell? w _ hw454_2)).trans hw454_2), ((HB.out.cell (World.block_lt_of_cell? w _ hw454_3)).trans hw454_3), ((HB.out.cell (World.block_lt_of_cell? w _ hw454_4)).trans hw454_4)⟩ (fun hHeld => ?_)
  clear hK K
  refine norm_ (a' := ?_) ?_ ?_
  rotate_left
  ·show Act.put _ (some 33) _ = _
   simp only [SX]
   rfl
  refine pu 9 34 ?_ (ms 11 1023) rfl rfl HT_ (by kernel_rfl) (fun _ _ _ h => h) (by rfl) ?_ ?_ ?_ ?_
  rotate_left
  ·intro w'
   go_simp
   with_reducible rfl
  rotate_left
  ·simp only [SX]
   rfl
  refine last_ (i := 10) (N := none) (ms 11 2047) rfl rfl (one_of HT_.out (by kernel_rfl)) (by decide) (fun K hK => ?_)
  have hs21 : w19.cell? ⟨gb452, 1, none⟩ = some (u453001) := (blk_cell BK452.out 1).trans rfl
  have hfs21 := blk_frozen BK452.out 1
  have hns21_0 := NB450_452.out
  have hns21_1 := NB451_452.out
  have hms21_0 := NB452_450.out
  have hms21_1 := NB452_451.out
  refine skip_ (w1 := ?_) (by rfl) rfl ?_ ?_
  rotate_left
  ·go_simp
   rfl
  refine hK.out _ _ ?_
  clear hK K
  refine done_ (done_of HT_.out (by kernel_rfl)) ?_
  try go_wp2
  go_roundg k1
  case measure => have := HK1.out; omega
  case rel => exact ⟨(wrap64 (x6_1 + 1)), (y455), (.slice Ao20 y455.length co20), (by rfl), H', ⟨by have := HK1.out; omega⟩, ⟨by (with_reducible repeat (fail)); exact Kd.R_mono (Kd.R_far (p := ⟨gb452, 1, none⟩) (Kd.R_types HO457.out BK452.out (by decide)) (fun _ hk => hk.2) (.slice Ao20 y455.length co20)) (fun _ hk => trivial)⟩, ⟨by (with_reducible repeat (fail)); refine blk_far ?_ NB450_452.out _; (with_reducible repeat (fail)); exact BK450.out⟩, ⟨by (with_reducible repeat (fail)); refine blk_far ?_ NB451_452.out _; (with_reducible repeat (fail)); exact BK451.out⟩, ⟨by (with_reducible repeat (fail)); refine blk_put (cs := #[.int .i64 a0_0, u453001]) ?_ 1 _ rfl; (with_reducible repeat (fail)); exact BK452.out⟩, ⟨bl3 HB GE450 GE451 GE452⟩⟩

end Go.Proofs.Ytgickejeakmenaa.F
