-- Printed by wip/px/px.py of this claim's repository (the kit's printer, extended there). Lean checks it.
import Derived.Test.YtgickejeakmenaaFKinds
namespace Go.Proofs.Ytgickejeakmenaa.F
open Go.RowKit Go.Proofs.YtgickejeakmenaaW.PrintWords Go.Proofs.YtgickejeakmenaaW.PrintLast Go.Proofs.YtgickejeakmenaaW.PrintMore
attribute [local go_sem] max2_int min2_int max_two min_two max_three min_three max_four min_four   -- for this text's walks alone
set_option linter.unusedVariables false
set_option linter.unusedSimpArgs false

/-! ### spec_l16Now: function 77 -/
mutual
def spec_l16Now.l0 : Nat → Int → Int → List (S41) → List (S113) → Int → List (S41) → Option (Int × (List (S41)))
 | 0, _, _, _, _, _, _ => none
 | k + 1, x4, x818000, x818001, x818002, x820000, x820001 => if x4 < (x818001.length : Int) then (if 0 ≤ x4 then (spec_l16Now.l1 k x4 false 0 x818000 x818001 x818002 x820000 x820001 ((rd_T41 x818001 x4).f0) ((rd_T41 x818001 x4).f1) ((rd_T41 x818001 x4).f2) ((rd_T41 x818001 x4).f3) ((rd_T41 x818001 x4).f4)) else (none)) else (some (x820000, x820001))
def spec_l16Now.l1 : Nat → Int → Bool → Int → Int → List (S41) → List (S113) → Int → List (S41) → Int → Int → Int → Int → Int → Option (Int × (List (S41)))
 | 0, _, _, _, _, _, _, _, _, _, _, _, _, _ => none
 | k + 1, x4, x6, x7, x818000, x818001, x818002, x820000, x820001, x822000, x822001, x822002, x822003, x822004 => if x7 < (x818002.length : Int) then (if 0 ≤ x7 then (if ((rd_T113 x818002 x7).f1) = x4 then (spec_l16Now.j2 k x4 x6 x7 (decide (((rd_T113 x818002 x7).f2) < 0)) x818000 x818001 x818002 x820000 x820001 x822000 x822001 x822002 x822003 x822004) else (spec_l16Now.j2 k x4 x6 x7 false x818000 x818001 x818002 x820000 x820001 x822000 x822001 x822002 x822003 x822004)) else (none)) else (if x822002 > 99 then (if x6 = true then (spec_l16Now.l0 k (wrap64 (x4 + 1)) x818000 x818001 x818002 x820000 x820001) else (if x820001.length < 3518437208883 then (spec_l16Now.l0 k (wrap64 (x4 + 1)) x818000 x818001 x818002 x820000 (x820001 ++ [(⟨x822000, x822001, 99, x822003, x822004⟩ : S41)])) else (none))) else (if x6 = true then (spec_l16Now.l0 k (wrap64 (x4 + 1)) x818000 x818001 x818002 x820000 x820001) else (if x820001.length < 3518437208883 then (spec_l16Now.l0 k (wrap64 (x4 + 1)) x818000 x818001 x818002 x820000 (x820001 ++ [(⟨x822000, x822001, x822002, x822003, x822004⟩ : S41)])) else (none))))
def spec_l16Now.j2 : Nat → Int → Bool → Int → Bool → Int → List (S41) → List (S113) → Int → List (S41) → Int → Int → Int → Int → Int → Option (Int × (List (S41)))
 | 0, _, _, _, _, _, _, _, _, _, _, _, _, _, _ => none
 | k + 1, x4, x6, x7, x49, x818000, x818001, x818002, x820000, x820001, x822000, x822001, x822002, x822003, x822004 => if x49 = true then (spec_l16Now.l1 k x4 true (wrap64 (x7 + 1)) x818000 x818001 x818002 x820000 x820001 x822000 x822001 x822002 x822003 x822004) else (if 0 ≤ x7 then (if x7 < (x818002.length : Int) then (if ((rd_T113 x818002 x7).f1) = x4 then (spec_l16Now.l1 k x4 x6 (wrap64 (x7 + 1)) x818000 x818001 x818002 x820000 x820001 x822000 x822001 (wrap64 (x822002 + ((rd_T113 x818002 x7).f2))) x822003 x822004) else (spec_l16Now.l1 k x4 x6 (wrap64 (x7 + 1)) x818000 x818001 x818002 x820000 x820001 x822000 x822001 x822002 x822003 x822004)) else (none)) else (none))
end
def spec_l16Now.f (k : Nat) (a0_0 : Int) (l0_1 : List (S41)) (l0_2 : List (S113)) : Option (Int × (List (S41))) := spec_l16Now.l0 k 0 a0_0 l0_1 l0_2 a0_0 ([] : List (S41))
theorem spec_l16Now.mono_l : ∀ k, (∀ y0 y1 y2 y3 y4 y5, LeO (spec_l16Now.l0 k y0 y1 y2 y3 y4 y5) (spec_l16Now.l0 (k + 1) y0 y1 y2 y3 y4 y5)) ∧ (∀ y0 y1 y2 y3 y4 y5 y6 y7 y8 y9 y10 y11 y12, LeO (spec_l16Now.l1 k y0 y1 y2 y3 y4 y5 y6 y7 y8 y9 y10 y11 y12) (spec_l16Now.l1 (k + 1) y0 y1 y2 y3 y4 y5 y6 y7 y8 y9 y10 y11 y12)) ∧ (∀ y0 y1 y2 y3 y4 y5 y6 y7 y8 y9 y10 y11 y12 y13, LeO (spec_l16Now.j2 k y0 y1 y2 y3 y4 y5 y6 y7 y8 y9 y10 y11 y12 y13) (spec_l16Now.j2 (k + 1) y0 y1 y2 y3 y4 y5 y6 y7 y8 y9 y10 y11 y12 y13))
 | 0 => ⟨fun _ _ _ _ _ _ r h => by simp [spec_l16Now.l0] at h, fun _ _ _ _ _ _ _ _ _ _ _ _ _ r h => by simp [spec_l16Now.l1] at h, fun _ _ _ _ _ _ _ _ _ _ _ _ _ _ r h => by simp [spec_l16Now.j2] at h⟩
 | k + 1 => by
  obtain ⟨ih0, ih1, ih2⟩ := spec_l16Now.mono_l k
  refine ⟨?_, ?_, ?_⟩
  ·intro y0 y1 y2 y3 y4 y5
   unfold spec_l16Now.l0
   repeat' first | (with_reducible exact ih1 _ _ _ _ _ _ _ _ _ _ _ _ _) | (with_reducible exact LeO.refl _) | (with_reducible refine LeO.ite ?_ ?_)
  ·intro y0 y1 y2 y3 y4 y5 y6 y7 y8 y9 y10 y11 y12
   unfold spec_l16Now.l1
   repeat' first | (with_reducible exact ih0 _ _ _ _ _ _) | (with_reducible exact ih2 _ _ _ _ _ _ _ _ _ _ _ _ _ _) | (with_reducible exact LeO.refl _) | (with_reducible refine LeO.ite ?_ ?_)
  ·intro y0 y1 y2 y3 y4 y5 y6 y7 y8 y9 y10 y11 y12 y13
   unfold spec_l16Now.j2
   repeat' first | (with_reducible exact ih1 _ _ _ _ _ _ _ _ _ _ _ _ _) | (with_reducible exact LeO.refl _) | (with_reducible refine LeO.ite ?_ ?_)
theorem spec_l16Now.mono : ∀ a0 a1 a2 k, LeO (spec_l16Now.f k a0 a1 a2) (spec_l16Now.f (k + 1) a0 a1 a2) := by
 intro a0 a1 a2 k
 obtain ⟨ih0, ih1, ih2⟩ := spec_l16Now.mono_l k
 unfold spec_l16Now.f
 repeat' (with_reducible exact ih0 _ _ _ _ _ _)
def spec_l16Now.T13 : Bool × List (List Nat × List Nat) := (true, [([], []), ([0], [0]), ([], []), ([2], [2]), ([], []), ([3, 4], [3, 4]), ([5], [5]), ([6], [6]), ([1, 7], [1, 7]), ([0, 1, 2, 3, 4, 5, 6, 7, 8], []), ([9, 8, 0, 1, 2, 3, 4, 5, 6, 7, 8], [8, 9])])
def spec_l16Now.B13 : List Nat := [0, 1, 0, 4, 0, 28, 60, 124, 255, 511, 1023]
theorem spec_l16Now.tab13 : rtab .any (opsOf Try.f77 13) = spec_l16Now.T13 := by kernel_rfl
theorem spec_l16Now.bits13 : waitsOk spec_l16Now.T13.2 spec_l16Now.B13 = true := by kernel_rfl
set_option maxHeartbeats 8000000 in
set_option maxRecDepth 100000 in
theorem spec_l16Now.calls (k : Nat) (a0_0 : Int) (A0_1 : Option Addr) (c0_1 : Nat) (l0_1 : List (S41)) (A0_2 : Option Addr) (c0_2 : Nat) (l0_2 : List (S113)) (r1 : Int) (r2 : List (S41)) (w : World) (hr0_1 : Kd.C k41 w A0_1 l0_1.length l0_1) (hc0_1 : l0_1.length ≤ c0_1) (hr0_2 : Kd.C k113 w A0_2 l0_2.length l0_2) (hc0_2 : l0_2.length ≤ c0_2) (h : spec_l16Now.f k a0_0 l0_1 l0_2 = some (r1, r2)) :
  Calls Try.prog 77 #[.agg #[.int .i64 a0_0, .slice A0_1 l0_1.length c0_1, .slice A0_2 l0_2.length c0_2]] w fun e w' => ∃ v1_ : Value, e = .returned (.agg #[.int .i64 r1, v1_]) ∧ Kd.R k41 41 w' w.heap.size (fun _ => True) v1_ r2 ∧ Below w.heap.size w w' := by
 have hu44 := Try.underlying44
 have hu25 := Try.underlying25
 have hu41 := Try.underlying41
 have HR0_1 := ak hr0_1
 have HC0_1 := ak hc0_1
 clear hr0_1 hc0_1
 have HR0_2 := ak hr0_2
 have HC0_2 := ak hc0_2
 clear hr0_2 hc0_2
 have HB := ak (Below.refl w.heap.size w)
 have H : (spec_l16Now.l0 k 0 a0_0 l0_1 l0_2 a0_0 ([] : List (S41))) = some (r1, r2) := h
 clear h
 have H' := ak H
 clear H
 go_enter Try.func77, Try.ntmps77
 go_wp2_with (first | ((with_reducible refine gate_dst (N := 1) rfl ?_); refine box_event ?hg (N := 1) ?hd (cs := #[.int .i64 a0_0, .slice A0_1 l0_1.length c0_1, .slice A0_2 l0_2.length c0_2]) (t := 44) ?hr ?_; (case hd => rfl); (case hg => rfl); (case hr => (go_simp; done)); intro gb817 hg w2 hbox hb; have BK817 := ak (hbox); have GW817 := ak ((by rw [hg]; exact (below_size (bl HB)) : w.heap.size ≤ gb817)); have GE817 := ak ((by rw [hg]; exact (below_size (bl HB)) : w.heap.size ≤ gb817)); replace HB := ak (below_step (bl HB) hb); clear hb hbox hg) | ((with_reducible refine gate_dst (N := 2) rfl ?_); refine box_event ?hg (N := 2) ?hd (cs := #[.int .i64 0, .slice none 0 0]) (t := 25) ?hr ?_; (case hd => rfl); (case hg => rfl); (case hr => (go_simp; done)); intro gb818 hg w3 hbox hb; have BK818 := ak (hbox); have GW818 := ak ((by rw [hg]; exact (below_size (bl1 HB GE817)) : w.heap.size ≤ gb818)); have GE818 := ak ((by rw [hg]; exact (below_size (bl1 HB GE817)) : w.heap.size ≤ gb818)); replace HB := ak (below_step (bl1 HB GE817) hb); have NB817_818 := ak ((by rw [hg]; exact Nat.ne_of_lt (blk_lt (bk BK817)) : gb817 ≠ gb818)); have NB818_817 := ak ((by rw [hg]; exact Nat.ne_of_gt (blk_lt (bk BK817)) : gb818 ≠ gb817)); replace BK817 := ak (blk_below (bk BK817) hb); clear hb hbox hg; have hnb4 := NB817_818.out; have hnc4 := NB818_817.out; have hcz5_0 := bc w3 BK817 0 (.int .i64 a0_0) rfl; have hcz5_1 := bc w3 BK817 1 (.slice A0_1 l0_1.length c0_1) rfl; have hcz5_2 := bc w3 BK817 2 (.slice A0_2 l0_2.length c0_2) rfl; have hfz5_0 := fz BK817 0; have hfz5_1 := fz BK817 1; have hfz5_2 := fz BK817 2) | ((with_reducible refine gate_dst (N := 3) rfl ?_); refine box_event ?hg (N := 3) ?hd (cs := #[.int .i64 0, .slice none 0 0]) (t := 25) ?hr ?_; (case hd => rfl); (case hg => rfl); (case hr => (go_simp; done)); intro gb819 hg w6 hbox hb; have BK819 := ak (hbox); have GW819 := ak ((by rw [hg]; exact (below_size (bl2 HB GE817 GE818)) : w.heap.size ≤ gb819)); have GE819 := ak ((by rw [hg]; exact (below_size (bl2 HB GE817 GE818)) : w.heap.size ≤ gb819)); replace HB := ak (below_step (bl2 HB GE817 GE818) hb); have NB817_819 := ak ((by rw [hg]; exact Nat.ne_of_lt (blk_lt (bk BK817)) : gb817 ≠ gb819)); have NB819_817 := ak ((by rw [hg]; exact Nat.ne_of_gt (blk_lt (bk BK817)) : gb819 ≠ gb817)); replace BK817 := ak (blk_below (bk BK817) hb); have NB818_819 := ak ((by rw [hg]; exact Nat.ne_of_lt (blk_lt (bk BK818)) : gb818 ≠ gb819)); have NB819_818 := ak ((by rw [hg]; exact Nat.ne_of_gt (blk_lt (bk BK818)) : gb819 ≠ gb818)); replace BK818 := ak (blk_below (bk BK818) hb); clear hb hbox hg; have hnb7 := NB819_817.out; have hnc7 := NB817_819.out; have hnb8 := NB819_818.out; have hnc8 := NB818_819.out; have hcz9_0 := bc w6 BK819 0 (.int .i64 0) rfl; have hcz9_1 := bc w6 BK819 1 (.slice none 0 0) rfl; have hfz9_0 := fz BK819 0; have hfz9_1 := fz BK819 1))
 go_loopg [4] k (fun kq v4 w' => ∃ (x4_1 : Int) (x820001_1 : List (S41)) (u820001 : Value), v4 = .int .i64 x4_1 ∧ Aside0 (spec_l16Now.l0 kq x4_1 a0_0 l0_1 l0_2 a0_0 x820001_1 = some (r1, r2)) ∧ Aside0 (kq ≤ k) ∧ Aside0 (Kd.R k41 41 w' w.heap.size (fun _ => True) u820001 x820001_1) ∧ Aside0 (w'.heap[gb817]? = some (.cells #[.int .i64 a0_0, (.slice A0_1 l0_1.length c0_1), (.slice A0_2 l0_2.length c0_2)] 44 (0, 0))) ∧ Aside0 (w'.heap[gb818]? = some (.cells #[.int .i64 0, (.slice none 0 0)] 25 (0, 0))) ∧ Aside0 (w'.heap[gb819]? = some (.cells #[.int .i64 a0_0, u820001] 25 (0, 0))) ∧ Aside0 (Below w.heap.size w w'))
 case atStart => exact ⟨(0), (([] : List (S41))), (.slice none 0 0), (by rfl), H', ⟨Nat.le_refl _⟩, ⟨by exact Kd.R_nil _ _ _ _ _⟩, ⟨by refine blk_far ?_ NB817_819.out _; refine blk_far ?_ NB817_819.out _; exact BK817.out⟩, ⟨by refine blk_far ?_ NB818_819.out _; refine blk_far ?_ NB818_819.out _; exact BK818.out⟩, ⟨by refine blk_put (cs := #[.int .i64 a0_0, .slice none 0 0]) ?_ 1 _ rfl; refine blk_put (cs := #[.int .i64 0, .slice none 0 0]) ?_ 0 _ rfl; exact BK819.out⟩, ⟨bl3 HB GE817 GE818 GE819⟩⟩
 clear H'
 try clear p2
 try clear c4
 try clear c7
 try clear c8
 try clear hcz5_0
 try clear hcz5_1
 try clear hcz5_2
 try clear hcz9_0
 try clear hcz9_1
 try clear hfz5_0
 try clear hfz5_1
 try clear hfz5_2
 try clear hfz9_0
 try clear hfz9_1
 obtain ⟨x4_1, x820001_1, u820001, rfl, HA, HK1, HO_820001, BK817, BK818, BK819, HB⟩ := hrel
 cases gk with
 | zero => exact absurd HA.out (by simp [spec_l16Now.l0])
 | succ k1 =>
  have H := HA.out
  clear HA
  simp only [spec_l16Now.l0] at H
  by_cases c10 : x4_1 < (l0_1.length : Int)
  rotate_left
  ·rw [if_neg c10] at H
   have c10b0 : decide (x4_1 < (l0_1.length : Int)) = false := decide_eq_false c10
   clear c10
   simp only [Option.some.injEq, Prod.mk.injEq] at H
   obtain ⟨rfl, rfl⟩ := H
   have hnb93 := NB817_818.out
   have hnc93 := NB818_817.out
   have hnb94 := NB817_819.out
   have hnc94 := NB819_817.out
   have hcz95_0 := bc wr BK817 0 (.int .i64 a0_0) rfl
   have hcz95_1 := bc wr BK817 1 (.slice A0_1 l0_1.length c0_1) rfl
   have hcz95_2 := bc wr BK817 2 (.slice A0_2 l0_2.length c0_2) rfl
   have hfz95_0 := fz BK817 0
   have hfz95_1 := fz BK817 1
   have hfz95_2 := fz BK817 2
   have hnb96 := NB819_818.out
   have hnc96 := NB818_819.out
   have hcz97_0 := bc wr BK819 0 (.int .i64 a0_0) rfl
   have hcz97_1 := bc wr BK819 1 (u820001) rfl
   have hfz97_0 := fz BK819 0
   have hfz97_1 := fz BK819 1
   have hcz98_0 := bc wr BK818 0 (.int .i64 0) rfl
   have hcz98_1 := bc wr BK818 1 (.slice none 0 0) rfl
   have hfz98_0 := fz BK818 0
   have hfz98_1 := fz BK818 1
   obtain ⟨Ao99, co99, eo99⟩ := Kd.R_slice HO_820001.out
   subst eo99
   go_wp2
   refine bodyPost_ret (results_cell_row rfl _ _ gb818 25 #[.int .i64 a0_0, .slice Ao99 x820001_1.length co99] (0, 0) _ rfl (by refine blk_put (cs := #[.int .i64 a0_0, .slice none 0 0]) ?_ 1 _ rfl; refine blk_put (cs := #[.int .i64 0, .slice none 0 0]) ?_ 0 _ rfl; exact BK818.out) Try.underlying25 rfl (by kernel_rfl)) rfl ?_
   exact ⟨_, by rfl, by exact Kd.R_mono (Kd.R_far (p := ⟨gb818, 1, none⟩) (Kd.R_far (p := ⟨gb818, 0, none⟩) (Kd.R_types HO_820001.out BK818.out (by decide)) (fun _ hk => hk.2) (.int .i64 a0_0)) (fun _ hk => hk.2) (.slice Ao99 x820001_1.length co99)) (fun _ hk => trivial), bl3 HB GE817 GE818 GE819⟩
  rw [if_pos c10] at H
  have c10b0 : decide (x4_1 < (l0_1.length : Int)) = true := decide_eq_true c10
  clear c10
  by_cases c11 : 0 ≤ x4_1
  rotate_left
  ·rw [if_neg c11] at H
   exact absurd H (by simp)
  rw [if_pos c11] at H
  have c11b0 : decide (0 ≤ x4_1) = true := decide_eq_true c11
  clear c11
  have H' := ak H
  clear H
  have hnb12 := NB817_818.out
  have hnc12 := NB818_817.out
  have hnb13 := NB817_819.out
  have hnc13 := NB819_817.out
  have hcz14_0 := bc wr BK817 0 (.int .i64 a0_0) rfl
  have hcz14_1 := bc wr BK817 1 (.slice A0_1 l0_1.length c0_1) rfl
  have hcz14_2 := bc wr BK817 2 (.slice A0_2 l0_2.length c0_2) rfl
  have hfz14_0 := fz BK817 0
  have hfz14_1 := fz BK817 1
  have hfz14_2 := fz BK817 2
  have p820 : 0 ≤ (x4_1 : Int) := oT (by (with_reducible assumption))
  have q820 : x4_1 < (l0_1.length : Int) := oT (by (with_reducible assumption))
  obtain ⟨ad820, e820, hx820_0, hx820_1, hx820_2, hx820_3, hx820_4⟩ := at_T41 HR0_1.out x4_1 p820 q820
  cases e820
  replace hx820_0 := hcb HB.out hx820_0
  replace hx820_1 := hcb HB.out hx820_1
  replace hx820_2 := hcb HB.out hx820_2
  replace hx820_3 := hcb HB.out hx820_3
  replace hx820_4 := hcb HB.out hx820_4
  replace p820 := eq_true p820
  replace q820 := eq_true q820
  go_wp2_with (((with_reducible refine gate_dst (N := 5) rfl ?_); refine box_event ?hg (N := 5) ?hd (cs := #[.int .i64 0, .int .i64 0, .int .i64 0, .int .i64 0, .int .i64 0]) (t := 41) ?hr ?_; (case hd => rfl); (case hg => rfl); (case hr => (go_simp; done)); intro gb821 hg w15 hbox hb; replace HO_820001 := ak (Kd.R_below (Kd.R_elderB (rk HO_820001) gb821 (Nat.le_of_eq hg.symm)) hb); have BK821 := ak (hbox); have GW821 := ak ((by rw [hg]; exact (below_size (bl3 HB GE817 GE818 GE819)) : w.heap.size ≤ gb821)); have GE821 := ak ((by rw [hg]; exact (below_size (bl3 HB GE817 GE818 GE819)) : w.heap.size ≤ gb821)); replace HB := ak (below_step (bl3 HB GE817 GE818 GE819) hb); have NB817_821 := ak ((by rw [hg]; exact Nat.ne_of_lt (blk_lt (bk BK817)) : gb817 ≠ gb821)); have NB821_817 := ak ((by rw [hg]; exact Nat.ne_of_gt (blk_lt (bk BK817)) : gb821 ≠ gb817)); replace BK817 := ak (blk_below (bk BK817) hb); have NB818_821 := ak ((by rw [hg]; exact Nat.ne_of_lt (blk_lt (bk BK818)) : gb818 ≠ gb821)); have NB821_818 := ak ((by rw [hg]; exact Nat.ne_of_gt (blk_lt (bk BK818)) : gb821 ≠ gb818)); replace BK818 := ak (blk_below (bk BK818) hb); have NB819_821 := ak ((by rw [hg]; exact Nat.ne_of_lt (blk_lt (bk BK819)) : gb819 ≠ gb821)); have NB821_819 := ak ((by rw [hg]; exact Nat.ne_of_gt (blk_lt (bk BK819)) : gb821 ≠ gb819)); replace BK819 := ak (blk_below (bk BK819) hb); clear hb hbox hg; have hnb16 := NB821_817.out; have hnc16 := NB817_821.out; have hnb17 := NB821_818.out; have hnc17 := NB818_821.out; have hnb18 := NB821_819.out; have hnc18 := NB819_821.out; have hcz19_0 := bc w15 BK821 0 (.int .i64 0) rfl; have hcz19_1 := bc w15 BK821 1 (.int .i64 0) rfl; have hcz19_2 := bc w15 BK821 2 (.int .i64 0) rfl; have hcz19_3 := bc w15 BK821 3 (.int .i64 0) rfl; have hcz19_4 := bc w15 BK821 4 (.int .i64 0) rfl; have hfz19_0 := fz BK821 0; have hfz19_1 := fz BK821 1; have hfz19_2 := fz BK821 2; have hfz19_3 := fz BK821 3; have hfz19_4 := fz BK821 4))
  go_loopg [6, 7] k1 (fun kq v6 v7 w' => ∃ (x6_2 : Bool) (x7_2 : Int) (x822002_2 : Int), v6 = .bool x6_2 ∧ v7 = .int .i64 x7_2 ∧ Aside0 (spec_l16Now.l1 kq x4_1 x6_2 x7_2 a0_0 l0_1 l0_2 a0_0 x820001_1 ((rd_T41 l0_1 x4_1).f0) ((rd_T41 l0_1 x4_1).f1) x822002_2 ((rd_T41 l0_1 x4_1).f3) ((rd_T41 l0_1 x4_1).f4) = some (r1, r2)) ∧ Aside0 (kq ≤ k1) ∧ Aside0 (Kd.R k41 41 w' w.heap.size (fun k_ => k_ ≠ gb821) u820001 x820001_1) ∧ Aside0 (w'.heap[gb817]? = some (.cells #[.int .i64 a0_0, (.slice (some ad820) l0_1.length c0_1), (.slice A0_2 l0_2.length c0_2)] 44 (0, 0))) ∧ Aside0 (w'.heap[gb818]? = some (.cells #[.int .i64 0, (.slice none 0 0)] 25 (0, 0))) ∧ Aside0 (w'.heap[gb819]? = some (.cells #[.int .i64 a0_0, u820001] 25 (0, 0))) ∧ Aside0 (w'.heap[gb821]? = some (.cells #[.int .i64 ((rd_T41 l0_1 x4_1).f0), .int .i64 ((rd_T41 l0_1 x4_1).f1), .int .i64 x822002_2, .int .i64 ((rd_T41 l0_1 x4_1).f3), .int .i64 ((rd_T41 l0_1 x4_1).f4)] 41 (0, 0))) ∧ Aside0 (Below w.heap.size w w'))
  case atStart => exact ⟨(false), (0), ((rd_T41 l0_1 x4_1).f2), (by rfl), (by rfl), H', ⟨Nat.le_refl _⟩, ⟨by exact Kd.R_mono (Kd.R_far (p := ⟨gb821, 4, none⟩) (Kd.R_far (p := ⟨gb821, 3, none⟩) (Kd.R_far (p := ⟨gb821, 2, none⟩) (Kd.R_far (p := ⟨gb821, 1, none⟩) (Kd.R_far (p := ⟨gb821, 0, none⟩) (Kd.R_mono HO_820001.out (fun k_ hk => (⟨hk, hk.2⟩ : _ ∧ k_ ≠ gb821))) (fun _ hk => hk.2) (.int .i64 ((rd_T41 l0_1 x4_1).f0))) (fun _ hk => hk.2) (.int .i64 ((rd_T41 l0_1 x4_1).f1))) (fun _ hk => hk.2) (.int .i64 ((rd_T41 l0_1 x4_1).f2))) (fun _ hk => hk.2) (.int .i64 ((rd_T41 l0_1 x4_1).f3))) (fun _ hk => hk.2) (.int .i64 ((rd_T41 l0_1 x4_1).f4))) (fun _ hk => hk.1.2)⟩, ⟨by refine blk_far ?_ NB817_821.out _; refine blk_far ?_ NB817_821.out _; refine blk_far ?_ NB817_821.out _; refine blk_far ?_ NB817_821.out _; refine blk_far ?_ NB817_821.out _; exact BK817.out⟩, ⟨by refine blk_far ?_ NB818_821.out _; refine blk_far ?_ NB818_821.out _; refine blk_far ?_ NB818_821.out _; refine blk_far ?_ NB818_821.out _; refine blk_far ?_ NB818_821.out _; exact BK818.out⟩, ⟨by refine blk_far ?_ NB819_821.out _; refine blk_far ?_ NB819_821.out _; refine blk_far ?_ NB819_821.out _; refine blk_far ?_ NB819_821.out _; refine blk_far ?_ NB819_821.out _; exact BK819.out⟩, ⟨by refine blk_put (cs := #[.int .i64 ((rd_T41 l0_1 x4_1).f0), .int .i64 ((rd_T41 l0_1 x4_1).f1), .int .i64 ((rd_T41 l0_1 x4_1).f2), .int .i64 ((rd_T41 l0_1 x4_1).f3), .int .i64 0]) ?_ 4 _ rfl; refine blk_put (cs := #[.int .i64 ((rd_T41 l0_1 x4_1).f0), .int .i64 ((rd_T41 l0_1 x4_1).f1), .int .i64 ((rd_T41 l0_1 x4_1).f2), .int .i64 0, .int .i64 0]) ?_ 3 _ rfl; refine blk_put (cs := #[.int .i64 ((rd_T41 l0_1 x4_1).f0), .int .i64 ((rd_T41 l0_1 x4_1).f1), .int .i64 0, .int .i64 0, .int .i64 0]) ?_ 2 _ rfl; refine blk_put (cs := #[.int .i64 ((rd_T41 l0_1 x4_1).f0), .int .i64 0, .int .i64 0, .int .i64 0, .int .i64 0]) ?_ 1 _ rfl; refine blk_put (cs := #[.int .i64 0, .int .i64 0, .int .i64 0, .int .i64 0, .int .i64 0]) ?_ 0 _ rfl; exact BK821.out⟩, ⟨bl4 HB GE817 GE818 GE819 GE821⟩⟩
  clear H'
  try clear c1
  try clear p2
  try clear c4
  try clear c7
  try clear c8
  try clear p8
  try clear q8
  try clear hx8
  try clear c10
  try clear c10b0
  try clear c11
  try clear c11b0
  try clear c12
  try clear c13
  try clear c16
  try clear c17
  try clear c18
  try clear hcz14_0
  try clear hcz14_1
  try clear hcz14_2
  try clear hcz19_0
  try clear hcz19_1
  try clear hcz19_2
  try clear hcz19_3
  try clear hcz19_4
  try clear hcz5_0
  try clear hcz5_1
  try clear hcz5_2
  try clear hcz9_0
  try clear hcz9_1
  try clear hfz14_0
  try clear hfz14_1
  try clear hfz14_2
  try clear hfz19_0
  try clear hfz19_1
  try clear hfz19_2
  try clear hfz19_3
  try clear hfz19_4
  try clear hfz5_0
  try clear hfz5_1
  try clear hfz5_2
  try clear hfz9_0
  try clear hfz9_1
  try clear hx820_0
  try clear hx820_1
  try clear hx820_2
  try clear hx820_3
  try clear hx820_4
  try clear p2
  try clear p820
  try clear q820
  obtain ⟨x6_2, x7_2, x822002_2, rfl, rfl, HA, HK2, HO_820001, BK817, BK818, BK819, BK821, HB⟩ := hrel
  cases gk with
  | zero => exact absurd HA.out (by simp [spec_l16Now.l1])
  | succ k2 =>
   have H := HA.out
   clear HA
   simp only [spec_l16Now.l1] at H
   by_cases c20 : x7_2 < (l0_2.length : Int)
   rotate_left
   ·rw [if_neg c20] at H
    have c20b0 : decide (x7_2 < (l0_2.length : Int)) = false := decide_eq_false c20
    clear c20
    by_cases c50 : x822002_2 > 99
    rotate_left
    ·rw [if_neg c50] at H
     have c50b0 : decide (99 < x822002_2) = false := decide_eq_false c50
     clear c50
     by_cases c72 : x6_2 = true
     ·subst c72
      rw [if_pos rfl] at H
      have H' := ak H
      clear H
      have hnb73 := NB817_818.out
      have hnc73 := NB818_817.out
      have hnb74 := NB817_819.out
      have hnc74 := NB819_817.out
      have hnb75 := NB817_821.out
      have hnc75 := NB821_817.out
      have hcz76_0 := bc wr BK817 0 (.int .i64 a0_0) rfl
      have hcz76_1 := bc wr BK817 1 (.slice (some ad820) l0_1.length c0_1) rfl
      have hcz76_2 := bc wr BK817 2 (.slice A0_2 l0_2.length c0_2) rfl
      have hfz76_0 := fz BK817 0
      have hfz76_1 := fz BK817 1
      have hfz76_2 := fz BK817 2
      have hnb77 := NB821_818.out
      have hnc77 := NB818_821.out
      have hnb78 := NB821_819.out
      have hnc78 := NB819_821.out
      have hcz79_0 := bc wr BK821 0 (.int .i64 ((rd_T41 l0_1 x4_1).f0)) rfl
      have hcz79_1 := bc wr BK821 1 (.int .i64 ((rd_T41 l0_1 x4_1).f1)) rfl
      have hcz79_2 := bc wr BK821 2 (.int .i64 x822002_2) rfl
      have hcz79_3 := bc wr BK821 3 (.int .i64 ((rd_T41 l0_1 x4_1).f3)) rfl
      have hcz79_4 := bc wr BK821 4 (.int .i64 ((rd_T41 l0_1 x4_1).f4)) rfl
      have hfz79_0 := fz BK821 0
      have hfz79_1 := fz BK821 1
      have hfz79_2 := fz BK821 2
      have hfz79_3 := fz BK821 3
      have hfz79_4 := fz BK821 4
      go_wp2
      go_roundg k2
      case measure => have := HK1.out; have := HK2.out; omega
      case rel => exact ⟨(wrap64 (x4_1 + 1)), (x820001_1), (u820001), (by rfl), H', ⟨by have := HK1.out; have := HK2.out; omega⟩, ⟨by exact Kd.R_mono HO_820001.out (fun _ hk => trivial)⟩, ⟨bk BK817⟩, ⟨bk BK818⟩, ⟨bk BK819⟩, ⟨bl4 HB GE817 GE818 GE819 GE821⟩⟩
     replace c72 := Bool.eq_false_iff.mpr c72
     subst c72
     rw [if_neg (show ¬ (false = true) by decide)] at H
     by_cases c80 : x820001_1.length < 3518437208883
     rotate_left
     ·rw [if_neg c80] at H
      exact absurd H (by simp)
     rw [if_pos c80] at H
     have LMc80 := ak c80
     clear c80
     obtain ⟨y829, hy829⟩ : ∃ y_ : List (S41), y_ = (x820001_1 ++ [(⟨((rd_T41 l0_1 x4_1).f0), ((rd_T41 l0_1 x4_1).f1), x822002_2, ((rd_T41 l0_1 x4_1).f3), ((rd_T41 l0_1 x4_1).f4)⟩ : S41)]) := ⟨_, rfl⟩
     replace H : (spec_l16Now.l0 k2 (wrap64 (x4_1 + 1)) a0_0 l0_1 l0_2 a0_0 y829) = some (r1, r2) := by (rw [hy829]; with_reducible exact H)
     have Ny829 := ak hy829
     clear hy829
     have H' := ak H
     clear H
     have hnb81 := NB817_818.out
     have hnc81 := NB818_817.out
     have hnb82 := NB817_819.out
     have hnc82 := NB819_817.out
     have hnb83 := NB817_821.out
     have hnc83 := NB821_817.out
     have hcz84_0 := bc wr BK817 0 (.int .i64 a0_0) rfl
     have hcz84_1 := bc wr BK817 1 (.slice (some ad820) l0_1.length c0_1) rfl
     have hcz84_2 := bc wr BK817 2 (.slice A0_2 l0_2.length c0_2) rfl
     have hfz84_0 := fz BK817 0
     have hfz84_1 := fz BK817 1
     have hfz84_2 := fz BK817 2
     have hnb85 := NB821_818.out
     have hnc85 := NB818_821.out
     have hnb86 := NB821_819.out
     have hnc86 := NB819_821.out
     have hcz87_0 := bc wr BK821 0 (.int .i64 ((rd_T41 l0_1 x4_1).f0)) rfl
     have hcz87_1 := bc wr BK821 1 (.int .i64 ((rd_T41 l0_1 x4_1).f1)) rfl
     have hcz87_2 := bc wr BK821 2 (.int .i64 x822002_2) rfl
     have hcz87_3 := bc wr BK821 3 (.int .i64 ((rd_T41 l0_1 x4_1).f3)) rfl
     have hcz87_4 := bc wr BK821 4 (.int .i64 ((rd_T41 l0_1 x4_1).f4)) rfl
     have hfz87_0 := fz BK821 0
     have hfz87_1 := fz BK821 1
     have hfz87_2 := fz BK821 2
     have hfz87_3 := fz BK821 3
     have hfz87_4 := fz BK821 4
     have hnb88 := NB819_818.out
     have hnc88 := NB818_819.out
     have hcz89_0 := bc wr BK819 0 (.int .i64 a0_0) rfl
     have hcz89_1 := bc wr BK819 1 (u820001) rfl
     have hfz89_0 := fz BK819 0
     have hfz89_1 := fz BK819 1
     go_wp2_with (((with_reducible refine gate_builtin (b := .append) (xs := #[.tmp 75, .tmp 77]) rfl ?_); at_builtin; refine Kd.R_append k41 (w0 := w) w.heap.size rfl (.tmp 75) (.tmp 77) 23 41 (.agg #[(.int .i64 0), (.int .i64 0), (.int .i64 0), (.int .i64 0), (.int .i64 0)]) 40 rfl Try.underlying23 info41 rfl (by decide) (by omega) u820001 x820001_1 (⟨((rd_T41 l0_1 x4_1).f0), ((rd_T41 l0_1 x4_1).f1), x822002_2, ((rd_T41 l0_1 x4_1).f3), ((rd_T41 l0_1 x4_1).f4)⟩ : S41) [.int .i64 ((rd_T41 l0_1 x4_1).f0), .int .i64 ((rd_T41 l0_1 x4_1).f1), .int .i64 x822002_2, .int .i64 ((rd_T41 l0_1 x4_1).f3), .int .i64 ((rd_T41 l0_1 x4_1).f4)] (fun k_ => k_ ≠ gb821) (fun _ => False) rfl rfl ?aP (fun _ hk => hk.elim) ?aF ?aO ?aB ?aS ?aL ?_; (case aP => exact k41_mkM _ _ _ (⟨((rd_T41 l0_1 x4_1).f0), ((rd_T41 l0_1 x4_1).f1), x822002_2, ((rd_T41 l0_1 x4_1).f3), ((rd_T41 l0_1 x4_1).f4)⟩ : S41)); (case aB => exact (bl4 HB GE817 GE818 GE819 GE821)); (case aF => exact (fun k_ hk => Kd.freshB (bk BK821) k_ hk)); (case aO => exact (rk HO_820001)); (case aS => exact (below_size (bl4 HB GE817 GE818 GE819 GE821))); (case aL => have := LMc80.out; omega); intro v830 w90 ho hb hg hat; rw [← Ny829.out] at ho; have n0_ := ak (blk_grown (bk BK817) hg (Kd.R_ne HO_820001.out BK817.out (by decide))); have n1_ := ak (blk_grown (bk BK818) hg (Kd.R_ne HO_820001.out BK818.out (by decide))); have n2_ := ak (blk_grown (bk BK819) hg (Kd.R_ne HO_820001.out BK819.out (by decide))); have n3_ := ak (blk_grown (bk BK821) hg (Kd.R_away HO_820001.out (fun _ hk => hk))); have n4_ := ak (hb); have n5_ := ak (ho); clear BK817; clear BK818; clear BK819; clear BK821; clear HB; clear HO_820001; have BK817 := n0_; have BK818 := n1_; have BK819 := n2_; have BK821 := n3_; have HB := n4_; have HO831 := n5_; clear n0_ n1_ n2_ n3_ n4_ n5_; clear ho hb hg hat; obtain ⟨Ao91, co91, eo91⟩ := Kd.R_slice HO831.out; subst eo91; have hcz92_0 := bc w90 BK819 0 (.int .i64 a0_0) rfl; have hcz92_1 := bc w90 BK819 1 (u820001) rfl; have hfz92_0 := fz BK819 0; have hfz92_1 := fz BK819 1))
     go_roundg k2
     case measure => have := HK1.out; have := HK2.out; omega
     case rel => exact ⟨(wrap64 (x4_1 + 1)), (y829), (.slice Ao91 y829.length co91), (by rfl), H', ⟨by have := HK1.out; have := HK2.out; omega⟩, ⟨by exact Kd.R_mono (Kd.R_far (p := ⟨gb819, 1, none⟩) (Kd.R_types HO831.out BK819.out (by decide)) (fun _ hk => hk.2) (.slice Ao91 y829.length co91)) (fun _ hk => trivial)⟩, ⟨by refine blk_far ?_ NB817_819.out _; exact BK817.out⟩, ⟨by refine blk_far ?_ NB818_819.out _; exact BK818.out⟩, ⟨by refine blk_put (cs := #[.int .i64 a0_0, u820001]) ?_ 1 _ rfl; exact BK819.out⟩, ⟨bl4 HB GE817 GE818 GE819 GE821⟩⟩
    rw [if_pos c50] at H
    have c50b0 : decide (99 < x822002_2) = true := decide_eq_true c50
    clear c50
    by_cases c51 : x6_2 = true
    ·subst c51
     rw [if_pos rfl] at H
     have H' := ak H
     clear H
     have hnb52 := NB817_818.out
     have hnc52 := NB818_817.out
     have hnb53 := NB817_819.out
     have hnc53 := NB819_817.out
     have hnb54 := NB817_821.out
     have hnc54 := NB821_817.out
     have hcz55_0 := bc wr BK817 0 (.int .i64 a0_0) rfl
     have hcz55_1 := bc wr BK817 1 (.slice (some ad820) l0_1.length c0_1) rfl
     have hcz55_2 := bc wr BK817 2 (.slice A0_2 l0_2.length c0_2) rfl
     have hfz55_0 := fz BK817 0
     have hfz55_1 := fz BK817 1
     have hfz55_2 := fz BK817 2
     have hnb56 := NB821_818.out
     have hnc56 := NB818_821.out
     have hnb57 := NB821_819.out
     have hnc57 := NB819_821.out
     have hcz58_0 := bc wr BK821 0 (.int .i64 ((rd_T41 l0_1 x4_1).f0)) rfl
     have hcz58_1 := bc wr BK821 1 (.int .i64 ((rd_T41 l0_1 x4_1).f1)) rfl
     have hcz58_2 := bc wr BK821 2 (.int .i64 x822002_2) rfl
     have hcz58_3 := bc wr BK821 3 (.int .i64 ((rd_T41 l0_1 x4_1).f3)) rfl
     have hcz58_4 := bc wr BK821 4 (.int .i64 ((rd_T41 l0_1 x4_1).f4)) rfl
     have hfz58_0 := fz BK821 0
     have hfz58_1 := fz BK821 1
     have hfz58_2 := fz BK821 2
     have hfz58_3 := fz BK821 3
     have hfz58_4 := fz BK821 4
     go_wp2
     go_roundg k2
     case measure => have := HK1.out; have := HK2.out; omega
     case rel => exact ⟨(wrap64 (x4_1 + 1)), (x820001_1), (u820001), (by rfl), H', ⟨by have := HK1.out; have := HK2.out; omega⟩, ⟨by exact Kd.R_mono (Kd.R_far (p := ⟨gb821, 2, none⟩) (Kd.R_mono HO_820001.out (fun k_ hk => (⟨hk, hk⟩ : _ ∧ k_ ≠ gb821))) (fun _ hk => hk.2) (.int .i64 99)) (fun _ hk => trivial)⟩, ⟨by refine blk_far ?_ NB817_821.out _; exact BK817.out⟩, ⟨by refine blk_far ?_ NB818_821.out _; exact BK818.out⟩, ⟨by refine blk_far ?_ NB819_821.out _; exact BK819.out⟩, ⟨bl4 HB GE817 GE818 GE819 GE821⟩⟩
    replace c51 := Bool.eq_false_iff.mpr c51
    subst c51
    rw [if_neg (show ¬ (false = true) by decide)] at H
    by_cases c59 : x820001_1.length < 3518437208883
    rotate_left
    ·rw [if_neg c59] at H
     exact absurd H (by simp)
    rw [if_pos c59] at H
    have LMc59 := ak c59
    clear c59
    obtain ⟨y826, hy826⟩ : ∃ y_ : List (S41), y_ = (x820001_1 ++ [(⟨((rd_T41 l0_1 x4_1).f0), ((rd_T41 l0_1 x4_1).f1), 99, ((rd_T41 l0_1 x4_1).f3), ((rd_T41 l0_1 x4_1).f4)⟩ : S41)]) := ⟨_, rfl⟩
    replace H : (spec_l16Now.l0 k2 (wrap64 (x4_1 + 1)) a0_0 l0_1 l0_2 a0_0 y826) = some (r1, r2) := by (rw [hy826]; with_reducible exact H)
    have Ny826 := ak hy826
    clear hy826
    have H' := ak H
    clear H
    have hnb60 := NB817_818.out
    have hnc60 := NB818_817.out
    have hnb61 := NB817_819.out
    have hnc61 := NB819_817.out
    have hnb62 := NB817_821.out
    have hnc62 := NB821_817.out
    have hcz63_0 := bc wr BK817 0 (.int .i64 a0_0) rfl
    have hcz63_1 := bc wr BK817 1 (.slice (some ad820) l0_1.length c0_1) rfl
    have hcz63_2 := bc wr BK817 2 (.slice A0_2 l0_2.length c0_2) rfl
    have hfz63_0 := fz BK817 0
    have hfz63_1 := fz BK817 1
    have hfz63_2 := fz BK817 2
    have hnb64 := NB821_818.out
    have hnc64 := NB818_821.out
    have hnb65 := NB821_819.out
    have hnc65 := NB819_821.out
    have hcz66_0 := bc wr BK821 0 (.int .i64 ((rd_T41 l0_1 x4_1).f0)) rfl
    have hcz66_1 := bc wr BK821 1 (.int .i64 ((rd_T41 l0_1 x4_1).f1)) rfl
    have hcz66_2 := bc wr BK821 2 (.int .i64 x822002_2) rfl
    have hcz66_3 := bc wr BK821 3 (.int .i64 ((rd_T41 l0_1 x4_1).f3)) rfl
    have hcz66_4 := bc wr BK821 4 (.int .i64 ((rd_T41 l0_1 x4_1).f4)) rfl
    have hfz66_0 := fz BK821 0
    have hfz66_1 := fz BK821 1
    have hfz66_2 := fz BK821 2
    have hfz66_3 := fz BK821 3
    have hfz66_4 := fz BK821 4
    have hnb67 := NB819_818.out
    have hnc67 := NB818_819.out
    have hcz68_0 := bc wr BK819 0 (.int .i64 a0_0) rfl
    have hcz68_1 := bc wr BK819 1 (u820001) rfl
    have hfz68_0 := fz BK819 0
    have hfz68_1 := fz BK819 1
    go_wp2_with (((with_reducible refine gate_builtin (b := .append) (xs := #[.tmp 75, .tmp 77]) rfl ?_); at_builtin; refine Kd.R_append k41 (w0 := w) w.heap.size rfl (.tmp 75) (.tmp 77) 23 41 (.agg #[(.int .i64 0), (.int .i64 0), (.int .i64 0), (.int .i64 0), (.int .i64 0)]) 40 rfl Try.underlying23 info41 rfl (by decide) (by omega) u820001 x820001_1 (⟨((rd_T41 l0_1 x4_1).f0), ((rd_T41 l0_1 x4_1).f1), 99, ((rd_T41 l0_1 x4_1).f3), ((rd_T41 l0_1 x4_1).f4)⟩ : S41) [.int .i64 ((rd_T41 l0_1 x4_1).f0), .int .i64 ((rd_T41 l0_1 x4_1).f1), .int .i64 99, .int .i64 ((rd_T41 l0_1 x4_1).f3), .int .i64 ((rd_T41 l0_1 x4_1).f4)] (fun k_ => k_ ≠ gb821) (fun _ => False) rfl (by (go_simp; done)) ?aP (fun _ hk => hk.elim) ?aF ?aO ?aB ?aS ?aL ?_; (case aP => exact k41_mkM _ _ _ (⟨((rd_T41 l0_1 x4_1).f0), ((rd_T41 l0_1 x4_1).f1), 99, ((rd_T41 l0_1 x4_1).f3), ((rd_T41 l0_1 x4_1).f4)⟩ : S41)); (case aB => exact (bl4 HB GE817 GE818 GE819 GE821)); (case aF => exact (fun k_ hk => Kd.freshB (g := gb821) (o := .cells #[.int .i64 ((rd_T41 l0_1 x4_1).f0), .int .i64 ((rd_T41 l0_1 x4_1).f1), .int .i64 99, .int .i64 ((rd_T41 l0_1 x4_1).f3), .int .i64 ((rd_T41 l0_1 x4_1).f4)] 41 (0, 0)) (by refine blk_put (cs := #[.int .i64 ((rd_T41 l0_1 x4_1).f0), .int .i64 ((rd_T41 l0_1 x4_1).f1), .int .i64 x822002_2, .int .i64 ((rd_T41 l0_1 x4_1).f3), .int .i64 ((rd_T41 l0_1 x4_1).f4)]) ?_ 2 _ rfl; exact BK821.out) k_ hk)); (case aO => exact (by exact Kd.R_mono (Kd.R_far (p := ⟨gb821, 2, none⟩) (Kd.R_mono HO_820001.out (fun k_ hk => (⟨hk, hk⟩ : _ ∧ k_ ≠ gb821))) (fun _ hk => hk.2) (.int .i64 99)) (fun _ hk => hk.1))); (case aS => exact (below_size (bl4 HB GE817 GE818 GE819 GE821))); (case aL => have := LMc59.out; omega); intro v827 w69 ho hb hg hat; rw [← Ny826.out] at ho; have n0_ := ak (blk_grown (g := gb817) (o := .cells #[.int .i64 a0_0, .slice (some ad820) l0_1.length c0_1, .slice A0_2 l0_2.length c0_2] 44 (0, 0)) (by refine blk_far ?_ NB817_821.out _; exact BK817.out) hg (Kd.R_ne HO_820001.out BK817.out (by decide))); have n1_ := ak (blk_grown (g := gb818) (o := .cells #[.int .i64 0, .slice none 0 0] 25 (0, 0)) (by refine blk_far ?_ NB818_821.out _; exact BK818.out) hg (Kd.R_ne HO_820001.out BK818.out (by decide))); have n2_ := ak (blk_grown (g := gb819) (o := .cells #[.int .i64 a0_0, u820001] 25 (0, 0)) (by refine blk_far ?_ NB819_821.out _; exact BK819.out) hg (Kd.R_ne HO_820001.out BK819.out (by decide))); have n3_ := ak (blk_grown (g := gb821) (o := .cells #[.int .i64 ((rd_T41 l0_1 x4_1).f0), .int .i64 ((rd_T41 l0_1 x4_1).f1), .int .i64 99, .int .i64 ((rd_T41 l0_1 x4_1).f3), .int .i64 ((rd_T41 l0_1 x4_1).f4)] 41 (0, 0)) (by refine blk_put (cs := #[.int .i64 ((rd_T41 l0_1 x4_1).f0), .int .i64 ((rd_T41 l0_1 x4_1).f1), .int .i64 x822002_2, .int .i64 ((rd_T41 l0_1 x4_1).f3), .int .i64 ((rd_T41 l0_1 x4_1).f4)]) ?_ 2 _ rfl; exact BK821.out) hg (Kd.R_away HO_820001.out (fun _ hk => hk))); have n4_ := ak (hb); have n5_ := ak (ho); clear BK817; clear BK818; clear BK819; clear BK821; clear HB; clear HO_820001; have BK817 := n0_; have BK818 := n1_; have BK819 := n2_; have BK821 := n3_; have HB := n4_; have HO828 := n5_; clear n0_ n1_ n2_ n3_ n4_ n5_; clear ho hb hg hat; obtain ⟨Ao70, co70, eo70⟩ := Kd.R_slice HO828.out; subst eo70; have hcz71_0 := bc w69 BK819 0 (.int .i64 a0_0) rfl; have hcz71_1 := bc w69 BK819 1 (u820001) rfl; have hfz71_0 := fz BK819 0; have hfz71_1 := fz BK819 1))
    go_roundg k2
    case measure => have := HK1.out; have := HK2.out; omega
    case rel => exact ⟨(wrap64 (x4_1 + 1)), (y826), (.slice Ao70 y826.length co70), (by rfl), H', ⟨by have := HK1.out; have := HK2.out; omega⟩, ⟨by exact Kd.R_mono (Kd.R_far (p := ⟨gb819, 1, none⟩) (Kd.R_types HO828.out BK819.out (by decide)) (fun _ hk => hk.2) (.slice Ao70 y826.length co70)) (fun _ hk => trivial)⟩, ⟨by refine blk_far ?_ NB817_819.out _; exact BK817.out⟩, ⟨by refine blk_far ?_ NB818_819.out _; exact BK818.out⟩, ⟨by refine blk_put (cs := #[.int .i64 a0_0, u820001]) ?_ 1 _ rfl; exact BK819.out⟩, ⟨bl4 HB GE817 GE818 GE819 GE821⟩⟩
   rw [if_pos c20] at H
   have c20b0 : decide (x7_2 < (l0_2.length : Int)) = true := decide_eq_true c20
   clear c20
   have HC21 := ak H
   clear H
   have hnb22 := NB817_818.out
   have hnc22 := NB818_817.out
   have hnb23 := NB817_819.out
   have hnc23 := NB819_817.out
   have hnb24 := NB817_821.out
   have hnc24 := NB821_817.out
   have hcz25_0 := bc wr BK817 0 (.int .i64 a0_0) rfl
   have hcz25_1 := bc wr BK817 1 (.slice (some ad820) l0_1.length c0_1) rfl
   have hcz25_2 := bc wr BK817 2 (.slice A0_2 l0_2.length c0_2) rfl
   have hfz25_0 := fz BK817 0
   have hfz25_1 := fz BK817 1
   have hfz25_2 := fz BK817 2
   go_upto_region 10 with (fail)
   go_cut [49] (fun v49 wc => ∃ (kq : Nat) (x49_20 : Bool), v49 = .bool x49_20 ∧ Aside0 (spec_l16Now.j2 kq x4_1 x6_2 x7_2 x49_20 a0_0 l0_1 l0_2 a0_0 x820001_1 ((rd_T41 l0_1 x4_1).f0) ((rd_T41 l0_1 x4_1).f1) x822002_2 ((rd_T41 l0_1 x4_1).f3) ((rd_T41 l0_1 x4_1).f4) = some (r1, r2)) ∧ Aside0 (kq ≤ k2) ∧ Aside0 (Kd.R k41 41 wc w.heap.size (fun k_ => k_ ≠ gb821) u820001 x820001_1) ∧ Aside0 (wc.heap[gb817]? = some (.cells #[.int .i64 a0_0, (.slice (some ad820) l0_1.length c0_1), (.slice A0_2 l0_2.length c0_2)] 44 (0, 0))) ∧ Aside0 (wc.heap[gb818]? = some (.cells #[.int .i64 0, (.slice none 0 0)] 25 (0, 0))) ∧ Aside0 (wc.heap[gb819]? = some (.cells #[.int .i64 a0_0, u820001] 25 (0, 0))) ∧ Aside0 (wc.heap[gb821]? = some (.cells #[.int .i64 ((rd_T41 l0_1 x4_1).f0), .int .i64 ((rd_T41 l0_1 x4_1).f1), .int .i64 x822002_2, .int .i64 ((rd_T41 l0_1 x4_1).f3), .int .i64 ((rd_T41 l0_1 x4_1).f4)] 41 (0, 0))) ∧ Aside0 (Below w.heap.size w wc))
   case first =>
    have H := HC21.out
    clear HC21
    by_cases c26 : 0 ≤ x7_2
    rotate_left
    ·rw [if_neg c26] at H
     exact absurd H (by simp)
    rw [if_pos c26] at H
    have c26b0 : decide (0 ≤ x7_2) = true := decide_eq_true c26
    clear c26
    (skip)
    by_cases c27 : ((rd_T113 l0_2 x7_2).f1) = x4_1
    rotate_left
    ·rw [if_neg c27] at H
     have c27b0 : (((rd_T113 l0_2 x7_2).f1) == x4_1) = false := beq_eq_false_iff_ne.mpr c27
     have c27b1 : (((rd_T113 l0_2 x7_2).f1) != x4_1) = true := bne_iff_ne.mpr c27
     have H' := ak H
     clear H
     have hnb32 := NB817_818.out
     have hnc32 := NB818_817.out
     have hnb33 := NB817_819.out
     have hnc33 := NB819_817.out
     have hnb34 := NB817_821.out
     have hnc34 := NB821_817.out
     have hcz35_0 := bc wr BK817 0 (.int .i64 a0_0) rfl
     have hcz35_1 := bc wr BK817 1 (.slice (some ad820) l0_1.length c0_1) rfl
     have hcz35_2 := bc wr BK817 2 (.slice A0_2 l0_2.length c0_2) rfl
     have hfz35_0 := fz BK817 0
     have hfz35_1 := fz BK817 1
     have hfz35_2 := fz BK817 2
     have p822 : 0 ≤ (x7_2 : Int) := oT (by (with_reducible assumption))
     have q822 : x7_2 < (l0_2.length : Int) := oT (by (with_reducible assumption))
     obtain ⟨ad822, e822, hx822_0, hx822_1, hx822_2⟩ := at_T113 HR0_2.out x7_2 p822 q822
     cases e822
     replace hx822_0 := hcb HB.out hx822_0
     replace hx822_1 := hcb HB.out hx822_1
     replace hx822_2 := hcb HB.out hx822_2
     replace p822 := eq_true p822
     replace q822 := eq_true q822
     go_wp2
     go_meet
     case rel => exact ⟨_, (false), (by rfl), H', ⟨by have := HK1.out; have := HK2.out; omega⟩, ⟨rk HO_820001⟩, ⟨bk BK817⟩, ⟨bk BK818⟩, ⟨bk BK819⟩, ⟨bk BK821⟩, ⟨bl4 HB GE817 GE818 GE819 GE821⟩⟩
    rw [if_pos c27] at H
    have c27b0 : (((rd_T113 l0_2 x7_2).f1) == x4_1) = true := beq_iff_eq.mpr c27
    have c27b1 : (((rd_T113 l0_2 x7_2).f1) != x4_1) = false := bne_eq_false_iff_eq.mpr c27
    clear c27
    have H' := ak H
    clear H
    have hnb28 := NB817_818.out
    have hnc28 := NB818_817.out
    have hnb29 := NB817_819.out
    have hnc29 := NB819_817.out
    have hnb30 := NB817_821.out
    have hnc30 := NB821_817.out
    have hcz31_0 := bc wr BK817 0 (.int .i64 a0_0) rfl
    have hcz31_1 := bc wr BK817 1 (.slice (some ad820) l0_1.length c0_1) rfl
    have hcz31_2 := bc wr BK817 2 (.slice A0_2 l0_2.length c0_2) rfl
    have hfz31_0 := fz BK817 0
    have hfz31_1 := fz BK817 1
    have hfz31_2 := fz BK817 2
    have p822 : 0 ≤ (x7_2 : Int) := oT (by (with_reducible assumption))
    have q822 : x7_2 < (l0_2.length : Int) := oT (by (with_reducible assumption))
    obtain ⟨ad822, e822, hx822_0, hx822_1, hx822_2⟩ := at_T113 HR0_2.out x7_2 p822 q822
    cases e822
    replace hx822_0 := hcb HB.out hx822_0
    replace hx822_1 := hcb HB.out hx822_1
    replace hx822_2 := hcb HB.out hx822_2
    replace p822 := eq_true p822
    replace q822 := eq_true q822
    have p823 : 0 ≤ (x7_2 : Int) := oT (by (with_reducible assumption))
    have q823 : x7_2 < (l0_2.length : Int) := oT (by (with_reducible assumption))
    obtain ⟨ad823, e823, hx823_0, hx823_1, hx823_2⟩ := at_T113 HR0_2.out x7_2 p823 q823
    obtain rfl : ad822 = ad823 := (by injection e823)
    replace hx823_0 := hcb HB.out hx823_0
    replace hx823_1 := hcb HB.out hx823_1
    replace hx823_2 := hcb HB.out hx823_2
    replace p823 := eq_true p823
    replace q823 := eq_true q823
    go_wp2
    go_meet
    case rel => exact ⟨_, (decide (((rd_T113 l0_2 x7_2).f2) < 0)), (by rfl), H', ⟨by have := HK1.out; have := HK2.out; omega⟩, ⟨rk HO_820001⟩, ⟨bk BK817⟩, ⟨bk BK818⟩, ⟨bk BK819⟩, ⟨bk BK821⟩, ⟨bl4 HB GE817 GE818 GE819 GE821⟩⟩
   clear HC21
   try clear c1
   try clear c2
   try clear p2
   try clear c3
   try clear c4
   try clear c7
   try clear c8
   try clear p8
   try clear q8
   try clear hx8
   try clear c10
   try clear c10b0
   try clear c11
   try clear c11b0
   try clear c12
   try clear c13
   try clear c16
   try clear c17
   try clear c18
   try clear c20
   try clear c20b0
   try clear c22
   try clear c23
   try clear c24
   try clear c26
   try clear c26b0
   try clear c27
   try clear c27b0
   try clear c27b1
   try clear c28
   try clear c29
   try clear c30
   try clear c32
   try clear c33
   try clear c34
   try clear hcz14_0
   try clear hcz14_1
   try clear hcz14_2
   try clear hcz19_0
   try clear hcz19_1
   try clear hcz19_2
   try clear hcz19_3
   try clear hcz19_4
   try clear hcz25_0
   try clear hcz25_1
   try clear hcz25_2
   try clear hcz31_0
   try clear hcz31_1
   try clear hcz31_2
   try clear hcz35_0
   try clear hcz35_1
   try clear hcz35_2
   try clear hcz5_0
   try clear hcz5_1
   try clear hcz5_2
   try clear hcz9_0
   try clear hcz9_1
   try clear hfz14_0
   try clear hfz14_1
   try clear hfz14_2
   try clear hfz19_0
   try clear hfz19_1
   try clear hfz19_2
   try clear hfz19_3
   try clear hfz19_4
   try clear hfz25_0
   try clear hfz25_1
   try clear hfz25_2
   try clear hfz31_0
   try clear hfz31_1
   try clear hfz31_2
   try clear hfz35_0
   try clear hfz35_1
   try clear hfz35_2
   try clear hfz5_0
   try clear hfz5_1
   try clear hfz5_2
   try clear hfz9_0
   try clear hfz9_1
   try clear hx820_0
   try clear hx820_1
   try clear hx820_2
   try clear hx820_3
   try clear hx820_4
   try clear hx822_0
   try clear hx822_1
   try clear hx822_2
   try clear hx823_0
   try clear hx823_1
   try clear hx823_2
   try clear p2
   try clear p8
   try clear p820
   try clear p822
   try clear p823
   try clear q8
   try clear q820
   try clear q822
   try clear q823
   obtain ⟨kq, x49_20, rfl, HA, HJ20, HO_820001, BK817, BK818, BK819, BK821, HB⟩ := hcut
   cases kq with
   | zero => exact absurd HA.out (by simp [spec_l16Now.j2])
   | succ kj20 =>
    have H := HA.out
    clear HA
    simp only [spec_l16Now.j2] at H
    by_cases c36 : x49_20 = true
    ·subst c36
     rw [if_pos rfl] at H
     have H' := ak H
     clear H
     go_wp2
     go_roundg kj20
     case measure => have := HK1.out; have := HK2.out; have := HJ20.out; omega
     case rel => exact ⟨(true), (wrap64 (x7_2 + 1)), (x822002_2), (by rfl), (by rfl), H', ⟨by have := HK1.out; have := HK2.out; have := HJ20.out; omega⟩, ⟨rk HO_820001⟩, ⟨bk BK817⟩, ⟨bk BK818⟩, ⟨bk BK819⟩, ⟨bk BK821⟩, ⟨bl4 HB GE817 GE818 GE819 GE821⟩⟩
    replace c36 := Bool.eq_false_iff.mpr c36
    subst c36
    rw [if_neg (show ¬ (false = true) by decide)] at H
    by_cases c37 : 0 ≤ x7_2
    rotate_left
    ·rw [if_neg c37] at H
     exact absurd H (by simp)
    rw [if_pos c37] at H
    have c37b0 : decide (0 ≤ x7_2) = true := decide_eq_true c37
    clear c37
    by_cases c38 : x7_2 < (l0_2.length : Int)
    rotate_left
    ·rw [if_neg c38] at H
     exact absurd H (by simp)
    rw [if_pos c38] at H
    have c38b0 : decide (x7_2 < (l0_2.length : Int)) = true := decide_eq_true c38
    clear c38
    by_cases c39 : ((rd_T113 l0_2 x7_2).f1) = x4_1
    rotate_left
    ·rw [if_neg c39] at H
     have c39b0 : (((rd_T113 l0_2 x7_2).f1) == x4_1) = false := beq_eq_false_iff_ne.mpr c39
     have c39b1 : (((rd_T113 l0_2 x7_2).f1) != x4_1) = true := bne_iff_ne.mpr c39
     have H' := ak H
     clear H
     have hnb46 := NB817_818.out
     have hnc46 := NB818_817.out
     have hnb47 := NB817_819.out
     have hnc47 := NB819_817.out
     have hnb48 := NB817_821.out
     have hnc48 := NB821_817.out
     have hcz49_0 := bc wc BK817 0 (.int .i64 a0_0) rfl
     have hcz49_1 := bc wc BK817 1 (.slice (some ad820) l0_1.length c0_1) rfl
     have hcz49_2 := bc wc BK817 2 (.slice A0_2 l0_2.length c0_2) rfl
     have hfz49_0 := fz BK817 0
     have hfz49_1 := fz BK817 1
     have hfz49_2 := fz BK817 2
     have p824 : 0 ≤ (x7_2 : Int) := oT (by (with_reducible assumption))
     have q824 : x7_2 < (l0_2.length : Int) := oT (by (with_reducible assumption))
     obtain ⟨ad824, e824, hx824_0, hx824_1, hx824_2⟩ := at_T113 HR0_2.out x7_2 p824 q824
     cases e824
     replace hx824_0 := hcb HB.out hx824_0
     replace hx824_1 := hcb HB.out hx824_1
     replace hx824_2 := hcb HB.out hx824_2
     replace p824 := eq_true p824
     replace q824 := eq_true q824
     go_wp2
     go_roundg kj20
     case measure => have := HK1.out; have := HK2.out; have := HJ20.out; omega
     case rel => exact ⟨(x6_2), (wrap64 (x7_2 + 1)), (x822002_2), (by rfl), (by rfl), H', ⟨by have := HK1.out; have := HK2.out; have := HJ20.out; omega⟩, ⟨rk HO_820001⟩, ⟨bk BK817⟩, ⟨bk BK818⟩, ⟨bk BK819⟩, ⟨bk BK821⟩, ⟨bl4 HB GE817 GE818 GE819 GE821⟩⟩
    rw [if_pos c39] at H
    have c39b0 : (((rd_T113 l0_2 x7_2).f1) == x4_1) = true := beq_iff_eq.mpr c39
    have c39b1 : (((rd_T113 l0_2 x7_2).f1) != x4_1) = false := bne_eq_false_iff_eq.mpr c39
    clear c39
    have H' := ak H
    clear H
    have hnb40 := NB817_818.out
    have hnc40 := NB818_817.out
    have hnb41 := NB817_819.out
    have hnc41 := NB819_817.out
    have hnb42 := NB817_821.out
    have hnc42 := NB821_817.out
    have hcz43_0 := bc wc BK817 0 (.int .i64 a0_0) rfl
    have hcz43_1 := bc wc BK817 1 (.slice (some ad820) l0_1.length c0_1) rfl
    have hcz43_2 := bc wc BK817 2 (.slice A0_2 l0_2.length c0_2) rfl
    have hfz43_0 := fz BK817 0
    have hfz43_1 := fz BK817 1
    have hfz43_2 := fz BK817 2
    have p824 : 0 ≤ (x7_2 : Int) := oT (by (with_reducible assumption))
    have q824 : x7_2 < (l0_2.length : Int) := oT (by (with_reducible assumption))
    obtain ⟨ad824, e824, hx824_0, hx824_1, hx824_2⟩ := at_T113 HR0_2.out x7_2 p824 q824
    cases e824
    replace hx824_0 := hcb HB.out hx824_0
    replace hx824_1 := hcb HB.out hx824_1
    replace hx824_2 := hcb HB.out hx824_2
    replace p824 := eq_true p824
    replace q824 := eq_true q824
    try go_wp2
    replace HO_820001 := ak (Kd.R_drew HO_820001.out)
    replace BK817 := ak (blk_drew BK817.out)
    replace BK818 := ak (blk_drew BK818.out)
    replace BK819 := ak (blk_drew BK819.out)
    replace BK821 := ak (blk_drew BK821.out)
    replace HB := ak (below_drew1 HB.out)
    have p825 : 0 ≤ (x7_2 : Int) := oT (by (with_reducible assumption))
    have q825 : x7_2 < (l0_2.length : Int) := oT (by (with_reducible assumption))
    obtain ⟨ad825, e825, hx825_0, hx825_1, hx825_2⟩ := at_T113 HR0_2.out x7_2 p825 q825
    have hw825_2 := hx825_2
    have hw825_1 := hx825_1
    have hw825_0 := hx825_0
    obtain rfl : ad824 = ad825 := (by injection e825)
    replace hx825_0 := hcb HB.out hx825_0
    replace hx825_1 := hcb HB.out hx825_1
    replace hx825_2 := hcb HB.out hx825_2
    replace p825 := eq_true p825
    replace q825 := eq_true q825
    refine start_ (n := 11) (S := fun w' => w'.cell? ⟨gb821, 0, none⟩ = some (.int .i64 ((rd_T41 l0_1 x4_1).f0)) ∧ w'.cell? ⟨gb821, 1, none⟩ = some (.int .i64 ((rd_T41 l0_1 x4_1).f1)) ∧ w'.cell? ⟨gb821, 2, none⟩ = some (.int .i64 x822002_2) ∧ w'.cell? ⟨gb821, 3, none⟩ = some (.int .i64 ((rd_T41 l0_1 x4_1).f3)) ∧ w'.cell? ⟨gb821, 4, none⟩ = some (.int .i64 ((rd_T41 l0_1 x4_1).f4)) ∧ w'.cell? ⟨gb817, 0, none⟩ = some (.int .i64 a0_0) ∧ w'.cell? ⟨gb817, 1, none⟩ = some (.slice (some ad820) l0_1.length c0_1) ∧ w'.cell? ⟨gb817, 2, none⟩ = some (.slice (some ad824) l0_2.length c0_2) ∧ w'.cell? (ad824.add ((x7_2).toNat * 3)) = some (.int .i64 ((rd_T113 l0_2 x7_2).f0)) ∧ w'.cell? ⟨(ad824.add ((x7_2).toNat * 3)).block, (ad824.add ((x7_2).toNat * 3)).off + 1, none⟩ = some (.int .i64 ((rd_T113 l0_2 x7_2).f1)) ∧ w'.cell? ⟨(ad824.add ((x7_2).toNat * 3)).block, (ad824.add ((x7_2).toNat * 3)).off + 2, none⟩ = some (.int .i64 ((rd_T113 l0_2 x7_2).f2))) (ds := [10]) (ms 11 0) (by kernel_rfl) rfl (by kernel_rfl) ⟨(blk_cell BK821.out 0).trans rfl, (blk_cell BK821.out 1).trans rfl, (blk_cell BK821.out 2).trans rfl, (blk_cell BK821.out 3).trans rfl, (blk_cell BK821.out 4).trans rfl, (blk_cell BK817.out 0).trans rfl, (blk_cell BK817.out 1).trans rfl, (blk_cell BK817.out 2).trans rfl, ((HB.out.cell (World.block_lt_of_cell? w _ hw825_0)).trans hw825_0), ((HB.out.cell (World.block_lt_of_cell? w _ hw825_1)).trans hw825_1), ((HB.out.cell (World.block_lt_of_cell? w _ hw825_2)).trans hw825_2)⟩ (fun hHeld => ?_); refine with_tabW spec_l16Now.tab13 spec_l16Now.bits13 (fun HT_ HW_ => ?_)
    generalize wc.drew = w44 at HO_820001 BK817 BK818 BK819 BK821 HB hx825_0 hx825_1 hx825_2 hHeld ⊢
    refine pu 0 58 ?_ (ms 11 1) rfl rfl HT_ (by kernel_rfl) (fun _ _ _ h => h) (by rfl) ?_ ?_ ?_ ?_
    rotate_left
    ·intro w'
     go_simp
     with_reducible rfl
    rotate_left
    ·simp only [SX]
     rfl
    refine pu 2 60 ?_ (ms 11 5) rfl rfl HT_ (by kernel_rfl) (fun _ _ _ h => h) (by rfl) ?_ ?_ ?_ ?_
    rotate_left
    ·intro w'
     go_simp
     with_reducible rfl
    rotate_left
    ·simp only [SX]
     rfl
    refine pu 4 62 ?_ (ms 11 21) rfl rfl HT_ (by kernel_rfl) (fun _ _ _ h => h) (by rfl) ?_ ?_ ?_ ?_
    rotate_left
    ·intro w'
     go_simp
     with_reducible rfl
    rotate_left
    ·simp only [SX]
     rfl
    refine tk 1 59 ?_ (ms 11 23) rfl rfl HT_ HW_ (by kernel_rfl) (fun _ _ _ h => h) (by rfl) ?_ hHeld ?_ ?_ ?_
    rotate_left
    ·rintro w' ⟨s0, s1, s2, s3, s4, s5, s6, s7, s8, s9, s10⟩
     go_simp
     with_reducible rfl
    rotate_left
    ·simp only [SX]
     rfl
    refine tk 3 61 ?_ (ms 11 31) rfl rfl HT_ HW_ (by kernel_rfl) (fun _ _ _ h => h) (by rfl) ?_ hHeld ?_ ?_ ?_
    rotate_left
    ·rintro w' ⟨s0, s1, s2, s3, s4, s5, s6, s7, s8, s9, s10⟩
     go_simp
     with_reducible rfl
    rotate_left
    ·simp only [SX]
     rfl
    refine pu 5 63 ?_ (ms 11 63) rfl rfl HT_ (by kernel_rfl) (fun _ _ _ h => h) (by rfl) ?_ ?_ ?_ ?_
    rotate_left
    ·intro w'
     go_simp
     with_reducible rfl
    rotate_left
    ·simp only [SX]
     rfl
    refine pu 6 64 ?_ (ms 11 127) rfl rfl HT_ (by kernel_rfl) (fun _ _ _ h => h) (by rfl) ?_ ?_ ?_ ?_
    rotate_left
    ·intro w'
     go_simp
     with_reducible rfl
    rotate_left
    ·simp only [SX]
     rfl
    refine tk 7 65 ?_ (ms 11 255) rfl rfl HT_ HW_ (by kernel_rfl) (fun _ _ _ h => h) (by rfl) ?_ hHeld ?_ ?_ ?_
    rotate_left
    ·rintro w' ⟨s0, s1, s2, s3, s4, s5, s6, s7, s8, s9, s10⟩
     go_simp
     with_reducible rfl
    rotate_left
    ·simp only [SX]
     rfl
    refine pu 8 66 ?_ (ms 11 511) rfl rfl HT_ (by kernel_rfl) (fun _ _ _ h => h) (by rfl) ?_ ?_ ?_ ?_
    rotate_left
    ·intro w'
     go_simp
     with_reducible rfl
    rotate_left
    ·simp only [SX]
     rfl
    refine pu 9 67 ?_ (ms 11 1023) rfl rfl HT_ (by kernel_rfl) (fun _ _ _ h => h) (by rfl) ?_ ?_ ?_ ?_
    rotate_left
    ·intro w'
     go_simp
     with_reducible rfl
    rotate_left
    ·simp only [SX]
     rfl
    refine last_ (i := 10) (N := none) (ms 11 2047) rfl rfl (one_of HT_.out (by kernel_rfl)) (by decide) (fun K hK => ?_)
    have hs45 : w44.cell? ⟨gb821, 2, none⟩ = some (.int .i64 x822002_2) := (blk_cell BK821.out 2).trans rfl
    have hfs45 := blk_frozen BK821.out 2
    have hns45_0 := NB817_821.out
    have hns45_1 := NB818_821.out
    have hns45_2 := NB819_821.out
    have hms45_0 := NB821_817.out
    have hms45_1 := NB821_818.out
    have hms45_2 := NB821_819.out
    refine skip_ (w1 := ?_) (by rfl) rfl ?_ ?_
    rotate_left
    ·go_simp
     rfl
    refine hK.out _ _ ?_
    clear hK K
    refine done_ (done_of HT_.out (by kernel_rfl)) ?_
    try go_wp2
    go_roundg kj20
    case measure => have := HK1.out; have := HK2.out; have := HJ20.out; omega
    case rel => exact ⟨(x6_2), (wrap64 (x7_2 + 1)), (wrap64 (x822002_2 + ((rd_T113 l0_2 x7_2).f2))), (by rfl), (by rfl), H', ⟨by have := HK1.out; have := HK2.out; have := HJ20.out; omega⟩, ⟨by exact Kd.R_mono (Kd.R_far (p := ⟨gb821, 2, none⟩) (Kd.R_mono HO_820001.out (fun k_ hk => (⟨hk, hk⟩ : _ ∧ k_ ≠ gb821))) (fun _ hk => hk.2) (.int .i64 (wrap64 (x822002_2 + ((rd_T113 l0_2 x7_2).f2))))) (fun _ hk => hk.1)⟩, ⟨by refine blk_far ?_ NB817_821.out _; exact BK817.out⟩, ⟨by refine blk_far ?_ NB818_821.out _; exact BK818.out⟩, ⟨by refine blk_far ?_ NB819_821.out _; exact BK819.out⟩, ⟨by refine blk_put (cs := #[.int .i64 ((rd_T41 l0_1 x4_1).f0), .int .i64 ((rd_T41 l0_1 x4_1).f1), .int .i64 x822002_2, .int .i64 ((rd_T41 l0_1 x4_1).f3), .int .i64 ((rd_T41 l0_1 x4_1).f4)]) ?_ 2 _ rfl; exact BK821.out⟩, ⟨bl4 HB GE817 GE818 GE819 GE821⟩⟩

end Go.Proofs.Ytgickejeakmenaa.F
