-- Printed by wip/px/px.py of this claim's repository (the kit's printer, extended there). Lean checks it.
import Derived.Test.YthgihpbpebbebaaFKinds
namespace Go.Proofs.Ythgihpbpebbebaa.F
open Go.RowKit Go.Proofs.YthgihpbpebbebaaW.PrintWords Go.Proofs.YthgihpbpebbebaaW.PrintLast Go.Proofs.YthgihpbpebbebaaW.PrintMore
attribute [local go_sem] max2_int min2_int max_two min_two max_three min_three max_four min_four   -- for this text's walks alone
set_option linter.unusedVariables false
set_option linter.unusedSimpArgs false

/-! ### spec_l16Now: function 88 -/
mutual
def spec_l16Now.l0 : Nat → Int → Int → List (S31) → List (S64) → Int → List (S31) → Option (Int × (List (S31)))
 | 0, _, _, _, _, _, _ => none
 | k + 1, x4, x795000, x795001, x795002, x797000, x797001 => if x4 < (x795001.length : Int) then (if 0 ≤ x4 then (spec_l16Now.l1 k x4 false 0 x795000 x795001 x795002 x797000 x797001 ((rd_T31 x795001 x4).f0) ((rd_T31 x795001 x4).f1) ((rd_T31 x795001 x4).f2) ((rd_T31 x795001 x4).f3) ((rd_T31 x795001 x4).f4)) else (none)) else (some (x797000, x797001))
def spec_l16Now.l1 : Nat → Int → Bool → Int → Int → List (S31) → List (S64) → Int → List (S31) → Int → Int → Int → Int → Int → Option (Int × (List (S31)))
 | 0, _, _, _, _, _, _, _, _, _, _, _, _, _ => none
 | k + 1, x4, x6, x7, x795000, x795001, x795002, x797000, x797001, x799000, x799001, x799002, x799003, x799004 => if x7 < (x795002.length : Int) then (if 0 ≤ x7 then (if ((rd_T64 x795002 x7).f1) = x4 then (spec_l16Now.j2 k x4 x6 x7 (decide (((rd_T64 x795002 x7).f2) < 0)) x795000 x795001 x795002 x797000 x797001 x799000 x799001 x799002 x799003 x799004) else (spec_l16Now.j2 k x4 x6 x7 false x795000 x795001 x795002 x797000 x797001 x799000 x799001 x799002 x799003 x799004)) else (none)) else (if x799002 > 99 then (if x6 = true then (spec_l16Now.l0 k (wrap64 (x4 + 1)) x795000 x795001 x795002 x797000 x797001) else (if x797001.length < 3518437208883 then (spec_l16Now.l0 k (wrap64 (x4 + 1)) x795000 x795001 x795002 x797000 (x797001 ++ [(⟨x799000, x799001, 99, x799003, x799004⟩ : S31)])) else (none))) else (if x6 = true then (spec_l16Now.l0 k (wrap64 (x4 + 1)) x795000 x795001 x795002 x797000 x797001) else (if x797001.length < 3518437208883 then (spec_l16Now.l0 k (wrap64 (x4 + 1)) x795000 x795001 x795002 x797000 (x797001 ++ [(⟨x799000, x799001, x799002, x799003, x799004⟩ : S31)])) else (none))))
def spec_l16Now.j2 : Nat → Int → Bool → Int → Bool → Int → List (S31) → List (S64) → Int → List (S31) → Int → Int → Int → Int → Int → Option (Int × (List (S31)))
 | 0, _, _, _, _, _, _, _, _, _, _, _, _, _, _ => none
 | k + 1, x4, x6, x7, x49, x795000, x795001, x795002, x797000, x797001, x799000, x799001, x799002, x799003, x799004 => if x49 = true then (spec_l16Now.l1 k x4 true (wrap64 (x7 + 1)) x795000 x795001 x795002 x797000 x797001 x799000 x799001 x799002 x799003 x799004) else (if 0 ≤ x7 then (if x7 < (x795002.length : Int) then (if ((rd_T64 x795002 x7).f1) = x4 then (spec_l16Now.l1 k x4 x6 (wrap64 (x7 + 1)) x795000 x795001 x795002 x797000 x797001 x799000 x799001 (wrap64 (x799002 + ((rd_T64 x795002 x7).f2))) x799003 x799004) else (spec_l16Now.l1 k x4 x6 (wrap64 (x7 + 1)) x795000 x795001 x795002 x797000 x797001 x799000 x799001 x799002 x799003 x799004)) else (none)) else (none))
end
def spec_l16Now.f (k : Nat) (a0_0 : Int) (l0_1 : List (S31)) (l0_2 : List (S64)) : Option (Int × (List (S31))) := spec_l16Now.l0 k 0 a0_0 l0_1 l0_2 a0_0 ([] : List (S31))
theorem spec_l16Now.mono_l : ∀ k, (∀ y0 y1 y2 y3 y4 y5, LeO (spec_l16Now.l0 k y0 y1 y2 y3 y4 y5) (spec_l16Now.l0 (k + 1) y0 y1 y2 y3 y4 y5)) ∧ (∀ y0 y1 y2 y3 y4 y5 y6 y7 y8 y9 y10 y11 y12, LeO (spec_l16Now.l1 k y0 y1 y2 y3 y4 y5 y6 y7 y8 y9 y10 y11 y12) (spec_l16Now.l1 (k + 1) y0 y1 y2 y3 y4 y5 y6 y7 y8 y9 y10 y11 y12)) ∧ (∀ y0 y1 y2 y3 y4 y5 y6 y7 y8 y9 y10 y11 y12 y13, LeO (spec_l16Now.j2 k y0 y1 y2 y3 y4 y5 y6 y7 y8 y9 y10 y11 y12 y13) (spec_l16Now.j2 (k + 1) y0 y1 y2 y3 y4 y5 y6 y7 y8 y9 y10 y11 y12 y13))
 | 0 => ⟨fun _ _ _ _ _ _ r h => by simp [spec_l16Now.l0] at h, fun _ _ _ _ _ _ _ _ _ _ _ _ _ r h => by simp [spec_l16Now.l1] at h, fun _ _ _ _ _ _ _ _ _ _ _ _ _ _ r h => by simp [spec_l16Now.j2] at h⟩
 | k + 1 => by
  obtain ⟨ih0, ih1, ih2⟩ := spec_l16Now.mono_l k
  refine ⟨?_, ?_, ?_⟩
  ·intro y0 y1 y2 y3 y4 y5
   unfold spec_l16Now.l0
   repeat' first
   | (with_reducible exact ih0 _ _ _ _ _ _)
   | (with_reducible exact ih1 _ _ _ _ _ _ _ _ _ _ _ _ _)
   | (with_reducible exact ih2 _ _ _ _ _ _ _ _ _ _ _ _ _ _)
   | (with_reducible exact LeO.refl _)
   | (with_reducible exact LeO.none _)
   | (with_reducible refine LeO.ite ?_ ?_)
   | (with_reducible refine LeO.bind ?_ (fun _ => ?_))
   | exact ih0 _ _ _ _ _ _
   | exact ih1 _ _ _ _ _ _ _ _ _ _ _ _ _
   | exact ih2 _ _ _ _ _ _ _ _ _ _ _ _ _ _
   | exact LeO.none _
   | refine LeO.ite ?_ ?_
   | refine LeO.bind ?_ (fun _ => ?_)
  ·intro y0 y1 y2 y3 y4 y5 y6 y7 y8 y9 y10 y11 y12
   unfold spec_l16Now.l1
   repeat' first
   | (with_reducible exact ih0 _ _ _ _ _ _)
   | (with_reducible exact ih1 _ _ _ _ _ _ _ _ _ _ _ _ _)
   | (with_reducible exact ih2 _ _ _ _ _ _ _ _ _ _ _ _ _ _)
   | (with_reducible exact LeO.refl _)
   | (with_reducible exact LeO.none _)
   | (with_reducible refine LeO.ite ?_ ?_)
   | (with_reducible refine LeO.bind ?_ (fun _ => ?_))
   | exact ih0 _ _ _ _ _ _
   | exact ih1 _ _ _ _ _ _ _ _ _ _ _ _ _
   | exact ih2 _ _ _ _ _ _ _ _ _ _ _ _ _ _
   | exact LeO.none _
   | refine LeO.ite ?_ ?_
   | refine LeO.bind ?_ (fun _ => ?_)
  ·intro y0 y1 y2 y3 y4 y5 y6 y7 y8 y9 y10 y11 y12 y13
   unfold spec_l16Now.j2
   repeat' first
   | (with_reducible exact ih0 _ _ _ _ _ _)
   | (with_reducible exact ih1 _ _ _ _ _ _ _ _ _ _ _ _ _)
   | (with_reducible exact ih2 _ _ _ _ _ _ _ _ _ _ _ _ _ _)
   | (with_reducible exact LeO.refl _)
   | (with_reducible exact LeO.none _)
   | (with_reducible refine LeO.ite ?_ ?_)
   | (with_reducible refine LeO.bind ?_ (fun _ => ?_))
   | exact ih0 _ _ _ _ _ _
   | exact ih1 _ _ _ _ _ _ _ _ _ _ _ _ _
   | exact ih2 _ _ _ _ _ _ _ _ _ _ _ _ _ _
   | exact LeO.none _
   | refine LeO.ite ?_ ?_
   | refine LeO.bind ?_ (fun _ => ?_)
theorem spec_l16Now.mono : ∀ a0 a1 a2 k, LeO (spec_l16Now.f k a0 a1 a2) (spec_l16Now.f (k + 1) a0 a1 a2) := by
 intro a0 a1 a2 k
 obtain ⟨ih0, ih1, ih2⟩ := spec_l16Now.mono_l k
 unfold spec_l16Now.f
 repeat' first
   | (with_reducible exact ih0 _ _ _ _ _ _)
   | (with_reducible exact ih1 _ _ _ _ _ _ _ _ _ _ _ _ _)
   | (with_reducible exact ih2 _ _ _ _ _ _ _ _ _ _ _ _ _ _)
   | (with_reducible exact LeO.refl _)
   | (with_reducible exact LeO.none _)
   | (with_reducible refine LeO.ite ?_ ?_)
   | (with_reducible refine LeO.bind ?_ (fun _ => ?_))
   | exact ih0 _ _ _ _ _ _
   | exact ih1 _ _ _ _ _ _ _ _ _ _ _ _ _
   | exact ih2 _ _ _ _ _ _ _ _ _ _ _ _ _ _
   | exact LeO.none _
   | refine LeO.ite ?_ ?_
   | refine LeO.bind ?_ (fun _ => ?_)
def spec_l16Now.T13 : Bool × List (List Nat × List Nat) := (true, [([], []), ([0], [0]), ([], []), ([2], [2]), ([], []), ([3, 4], [3, 4]), ([5], [5]), ([6], [6]), ([1, 7], [1, 7]), ([0, 1, 2, 3, 4, 5, 6, 7, 8], []), ([9, 8, 0, 1, 2, 3, 4, 5, 6, 7, 8], [8, 9])])
def spec_l16Now.B13 : List Nat := [0, 1, 0, 4, 0, 28, 60, 124, 255, 511, 1023]
theorem spec_l16Now.tab13 : rtab .any (opsOf Try.f88 13) = spec_l16Now.T13 := by kernel_rfl
theorem spec_l16Now.bits13 : waitsOk spec_l16Now.T13.2 spec_l16Now.B13 = true := by kernel_rfl
set_option maxHeartbeats 8000000 in
set_option maxRecDepth 100000 in
theorem spec_l16Now.calls (k : Nat) (a0_0 : Int) (A0_1 : Option Addr) (c0_1 : Nat) (l0_1 : List (S31)) (A0_2 : Option Addr) (c0_2 : Nat) (l0_2 : List (S64)) (r1 : Int) (r2 : List (S31)) (w : World) (hr0_1 : Kd.C k31 w A0_1 l0_1.length l0_1) (hc0_1 : l0_1.length ≤ c0_1) (hr0_2 : Kd.C k64 w A0_2 l0_2.length l0_2) (hc0_2 : l0_2.length ≤ c0_2) (h : spec_l16Now.f k a0_0 l0_1 l0_2 = some (r1, r2)) :
  Calls Try.prog 88 #[.agg #[.int .i64 a0_0, .slice A0_1 l0_1.length c0_1, .slice A0_2 l0_2.length c0_2]] w fun e w' => ∃ v1_ : Value, e = .returned (.agg #[.int .i64 r1, v1_]) ∧ Kd.R k31 31 w' w.heap.size (fun _ => True) v1_ r2 ∧ Below w.heap.size w w' := by
 have hu57 := Try.underlying57
 have hu25 := Try.underlying25
 have hu31 := Try.underlying31
 have HR0_1 := Aside0.mk hr0_1
 have HC0_1 := Aside0.mk hc0_1
 clear hr0_1 hc0_1
 have HR0_2 := Aside0.mk hr0_2
 have HC0_2 := Aside0.mk hc0_2
 clear hr0_2 hc0_2
 have HB := Aside0.mk (Below.refl w.heap.size w)
 have H : (spec_l16Now.l0 k 0 a0_0 l0_1 l0_2 a0_0 ([] : List (S31))) = some (r1, r2) := h
 clear h
 have H' := Aside0.mk H
 clear H
 go_enter Try.func88, Try.ntmps88
 go_wp2_with (first | ((with_reducible refine gate_dst (N := 1) rfl ?_); refine box_event ?hg (N := 1) ?hd (cs := #[.int .i64 a0_0, .slice A0_1 l0_1.length c0_1, .slice A0_2 l0_2.length c0_2]) (t := 57) ?hr ?_; (case hd => rfl); (case hg => rfl); (case hr => first | (go_simp; done) | (go_simp; rfl)); intro gb794 hg w2 hbox hb; have BK794 := Aside0.mk (hbox); have GW794 := Aside0.mk ((by rw [hg]; exact (below_size (bl HB)) : w.heap.size ≤ gb794)); have GE794 := Aside0.mk ((by rw [hg]; exact (below_size (bl HB)) : w.heap.size ≤ gb794)); replace HB := Aside0.mk (below_step (bl HB) hb); clear hb hbox hg) | ((with_reducible refine gate_dst (N := 2) rfl ?_); refine box_event ?hg (N := 2) ?hd (cs := #[.int .i64 0, .slice none 0 0]) (t := 25) ?hr ?_; (case hd => rfl); (case hg => rfl); (case hr => first | (go_simp; done) | (go_simp; rfl)); intro gb795 hg w3 hbox hb; have BK795 := Aside0.mk (hbox); have GW795 := Aside0.mk ((by rw [hg]; exact (below_size (bl1 HB GE794)) : w.heap.size ≤ gb795)); have GE795 := Aside0.mk ((by rw [hg]; exact (below_size (bl1 HB GE794)) : w.heap.size ≤ gb795)); replace HB := Aside0.mk (below_step (bl1 HB GE794) hb); have NB794_795 := Aside0.mk ((by rw [hg]; exact Nat.ne_of_lt (blk_lt (bk BK794)) : gb794 ≠ gb795)); have NB795_794 := Aside0.mk ((by rw [hg]; exact Nat.ne_of_gt (blk_lt (bk BK794)) : gb795 ≠ gb794)); replace BK794 := Aside0.mk (blk_below (bk BK794) hb); clear hb hbox hg; have hnb4 := NB794_795.out; have hnc4 := NB795_794.out; have hcz5_0 := bc w3 BK794 0 (.int .i64 a0_0) rfl; have hcz5_1 := bc w3 BK794 1 (.slice A0_1 l0_1.length c0_1) rfl; have hcz5_2 := bc w3 BK794 2 (.slice A0_2 l0_2.length c0_2) rfl; have hfz5_0 := fz BK794 0; have hfz5_1 := fz BK794 1; have hfz5_2 := fz BK794 2) | ((with_reducible refine gate_dst (N := 3) rfl ?_); refine box_event ?hg (N := 3) ?hd (cs := #[.int .i64 0, .slice none 0 0]) (t := 25) ?hr ?_; (case hd => rfl); (case hg => rfl); (case hr => first | (go_simp; done) | (go_simp; rfl)); intro gb796 hg w6 hbox hb; have BK796 := Aside0.mk (hbox); have GW796 := Aside0.mk ((by rw [hg]; exact (below_size (bl2 HB GE794 GE795)) : w.heap.size ≤ gb796)); have GE796 := Aside0.mk ((by rw [hg]; exact (below_size (bl2 HB GE794 GE795)) : w.heap.size ≤ gb796)); replace HB := Aside0.mk (below_step (bl2 HB GE794 GE795) hb); have NB794_796 := Aside0.mk ((by rw [hg]; exact Nat.ne_of_lt (blk_lt (bk BK794)) : gb794 ≠ gb796)); have NB796_794 := Aside0.mk ((by rw [hg]; exact Nat.ne_of_gt (blk_lt (bk BK794)) : gb796 ≠ gb794)); replace BK794 := Aside0.mk (blk_below (bk BK794) hb); have NB795_796 := Aside0.mk ((by rw [hg]; exact Nat.ne_of_lt (blk_lt (bk BK795)) : gb795 ≠ gb796)); have NB796_795 := Aside0.mk ((by rw [hg]; exact Nat.ne_of_gt (blk_lt (bk BK795)) : gb796 ≠ gb795)); replace BK795 := Aside0.mk (blk_below (bk BK795) hb); clear hb hbox hg; have hnb7 := NB796_794.out; have hnc7 := NB794_796.out; have hnb8 := NB796_795.out; have hnc8 := NB795_796.out; have hcz9_0 := bc w6 BK796 0 (.int .i64 0) rfl; have hcz9_1 := bc w6 BK796 1 (.slice none 0 0) rfl; have hfz9_0 := fz BK796 0; have hfz9_1 := fz BK796 1))
 go_loopg [4] k (fun kq v4 w' => ∃ (x4_1 : Int) (x797001_1 : List (S31)) (u797001 : Value), v4 = .int .i64 x4_1 ∧ Aside0 (spec_l16Now.l0 kq x4_1 a0_0 l0_1 l0_2 a0_0 x797001_1 = some (r1, r2)) ∧ Aside0 (kq ≤ k) ∧ Aside0 (Kd.R k31 31 w' w.heap.size (fun _ => True) u797001 x797001_1) ∧ Aside0 (w'.heap[gb794]? = some (.cells #[.int .i64 a0_0, (.slice A0_1 l0_1.length c0_1), (.slice A0_2 l0_2.length c0_2)] 57 (0, 0))) ∧ Aside0 (w'.heap[gb795]? = some (.cells #[.int .i64 0, (.slice none 0 0)] 25 (0, 0))) ∧ Aside0 (w'.heap[gb796]? = some (.cells #[.int .i64 a0_0, u797001] 25 (0, 0))) ∧ Aside0 (Below w.heap.size w w'))
 case atStart => exact ⟨(0), (([] : List (S31))), (.slice none 0 0), (by first | rfl | (simp; done) | (simp [*]; done)), H', ⟨Nat.le_refl _⟩, ⟨by first | exact Kd.R_nil _ _ _ _ _ | exact Kd.N_nil _ _ _ _ _ | exact Kd.V_nil _ _ _ _ _ | exact Kd.Q_nil _ _ _ _ _ | exact Kd.S_nil _ _ _ _ _⟩, ⟨by (with_reducible repeat (first | refine blk_drewN ?_ _ | refine blk_drew ?_ | refine blk_alloc ?_ _)); refine blk_far ?_ NB794_796.out _; refine blk_far ?_ NB794_796.out _; (with_reducible repeat (first | refine blk_drewN ?_ _ | refine blk_drew ?_ | refine blk_alloc ?_ _)); exact BK794.out⟩, ⟨by (with_reducible repeat (first | refine blk_drewN ?_ _ | refine blk_drew ?_ | refine blk_alloc ?_ _)); refine blk_far ?_ NB795_796.out _; refine blk_far ?_ NB795_796.out _; (with_reducible repeat (first | refine blk_drewN ?_ _ | refine blk_drew ?_ | refine blk_alloc ?_ _)); exact BK795.out⟩, ⟨by (with_reducible repeat (first | refine blk_drewN ?_ _ | refine blk_drew ?_ | refine blk_alloc ?_ _)); refine blk_put (cs := #[.int .i64 a0_0, .slice none 0 0]) ?_ 1 _ rfl; refine blk_put (cs := #[.int .i64 0, .slice none 0 0]) ?_ 0 _ rfl; (with_reducible repeat (first | refine blk_drewN ?_ _ | refine blk_drew ?_ | refine blk_alloc ?_ _)); exact BK796.out⟩, ⟨bl3 HB GE794 GE795 GE796⟩⟩
 clear H'
 try clear p2
 try clear c4
 try clear c7
 try clear c8
 try clear hcz5_0
 try clear hcz5_1
 try clear hcz5_2
 try clear hcz9_0
 try clear hcz9_1
 try clear hfz5_0
 try clear hfz5_1
 try clear hfz5_2
 try clear hfz9_0
 try clear hfz9_1
 obtain ⟨x4_1, x797001_1, u797001, rfl, HA, HK1, HO_797001, BK794, BK795, BK796, HB⟩ := hrel
 cases gk with
 | zero => exact absurd HA.out (by simp [spec_l16Now.l0])
 | succ k1 =>
  have H := HA.out
  clear HA
  simp only [spec_l16Now.l0] at H
  by_cases c10 : x4_1 < (l0_1.length : Int)
  rotate_left
  ·rw [if_neg c10] at H
   have c10b0 : decide (x4_1 < (l0_1.length : Int)) = false := decide_eq_false c10
   clear c10
   simp only [Option.some.injEq, Prod.mk.injEq] at H
   obtain ⟨rfl, rfl⟩ := H
   have hnb93 := NB794_795.out
   have hnc93 := NB795_794.out
   have hnb94 := NB794_796.out
   have hnc94 := NB796_794.out
   have hcz95_0 := bc wr BK794 0 (.int .i64 a0_0) rfl
   have hcz95_1 := bc wr BK794 1 (.slice A0_1 l0_1.length c0_1) rfl
   have hcz95_2 := bc wr BK794 2 (.slice A0_2 l0_2.length c0_2) rfl
   have hfz95_0 := fz BK794 0
   have hfz95_1 := fz BK794 1
   have hfz95_2 := fz BK794 2
   have hnb96 := NB796_795.out
   have hnc96 := NB795_796.out
   have hcz97_0 := bc wr BK796 0 (.int .i64 a0_0) rfl
   have hcz97_1 := bc wr BK796 1 (u797001) rfl
   have hfz97_0 := fz BK796 0
   have hfz97_1 := fz BK796 1
   have hcz98_0 := bc wr BK795 0 (.int .i64 0) rfl
   have hcz98_1 := bc wr BK795 1 (.slice none 0 0) rfl
   have hfz98_0 := fz BK795 0
   have hfz98_1 := fz BK795 1
   obtain ⟨Ao99, co99, eo99⟩ := Kd.R_slice HO_797001.out
   subst eo99
   go_wp2
   refine bodyPost_ret (results_cell_row rfl _ _ gb795 25 #[.int .i64 a0_0, .slice Ao99 x797001_1.length co99] (0, 0) _ rfl (by (with_reducible repeat (first | refine blk_drewN ?_ _ | refine blk_drew ?_ | refine blk_alloc ?_ _)); refine blk_put (cs := #[.int .i64 a0_0, .slice none 0 0]) ?_ 1 _ rfl; refine blk_put (cs := #[.int .i64 0, .slice none 0 0]) ?_ 0 _ rfl; (with_reducible repeat (first | refine blk_drewN ?_ _ | refine blk_drew ?_ | refine blk_alloc ?_ _)); exact BK795.out) Try.underlying25 rfl (by kernel_rfl)) rfl ?_
   exact ⟨_, by first | rfl | (simp [errW_none, errW_some] <;> rfl) | (simp [*, errW_none, errW_some] <;> rfl), by (with_reducible repeat (first | apply Kd.R_alloc | apply Kd.R_drewN | apply Kd.R_drew)); exact Kd.R_mono (Kd.R_far (p := ⟨gb795, 1, none⟩) (Kd.R_far (p := ⟨gb795, 0, none⟩) (Kd.R_types HO_797001.out BK795.out (by decide)) (fun _ hk => hk.2) (.int .i64 a0_0)) (fun _ hk => hk.2) (.slice Ao99 x797001_1.length co99)) (fun _ hk => trivial), bl3 HB GE794 GE795 GE796⟩
  rw [if_pos c10] at H
  have c10b0 : decide (x4_1 < (l0_1.length : Int)) = true := decide_eq_true c10
  clear c10
  by_cases c11 : 0 ≤ x4_1
  rotate_left
  ·rw [if_neg c11] at H
   exact absurd H (by simp)
  rw [if_pos c11] at H
  have c11b0 : decide (0 ≤ x4_1) = true := decide_eq_true c11
  clear c11
  have H' := Aside0.mk H
  clear H
  have hnb12 := NB794_795.out
  have hnc12 := NB795_794.out
  have hnb13 := NB794_796.out
  have hnc13 := NB796_794.out
  have hcz14_0 := bc wr BK794 0 (.int .i64 a0_0) rfl
  have hcz14_1 := bc wr BK794 1 (.slice A0_1 l0_1.length c0_1) rfl
  have hcz14_2 := bc wr BK794 2 (.slice A0_2 l0_2.length c0_2) rfl
  have hfz14_0 := fz BK794 0
  have hfz14_1 := fz BK794 1
  have hfz14_2 := fz BK794 2
  have p797 : 0 ≤ (x4_1 : Int) := oT (by first | (with_reducible assumption) | assumption)
  have q797 : x4_1 < (l0_1.length : Int) := oT (by first | (with_reducible assumption) | assumption)
  obtain ⟨ad797, e797, hx797_0, hx797_1, hx797_2, hx797_3, hx797_4⟩ := at_T31 HR0_1.out x4_1 p797 q797
  cases e797
  replace hx797_0 := hcb HB.out hx797_0
  replace hx797_1 := hcb HB.out hx797_1
  replace hx797_2 := hcb HB.out hx797_2
  replace hx797_3 := hcb HB.out hx797_3
  replace hx797_4 := hcb HB.out hx797_4
  replace p797 := eq_true p797
  replace q797 := eq_true q797
  go_wp2_with (first | ((with_reducible refine gate_dst (N := 5) rfl ?_); refine box_event ?hg (N := 5) ?hd (cs := #[.int .i64 0, .int .i64 0, .int .i64 0, .int .i64 0, .int .i64 0]) (t := 31) ?hr ?_; (case hd => rfl); (case hg => rfl); (case hr => first | (go_simp; done) | (go_simp; rfl)); intro gb798 hg w15 hbox hb; replace HO_797001 := Aside0.mk (Kd.R_below (Kd.R_elderB (rk HO_797001) gb798 (Nat.le_of_eq hg.symm)) hb); have BK798 := Aside0.mk (hbox); have GW798 := Aside0.mk ((by rw [hg]; exact (below_size (bl3 HB GE794 GE795 GE796)) : w.heap.size ≤ gb798)); have GE798 := Aside0.mk ((by rw [hg]; exact (below_size (bl3 HB GE794 GE795 GE796)) : w.heap.size ≤ gb798)); replace HB := Aside0.mk (below_step (bl3 HB GE794 GE795 GE796) hb); have NB794_798 := Aside0.mk ((by rw [hg]; exact Nat.ne_of_lt (blk_lt (bk BK794)) : gb794 ≠ gb798)); have NB798_794 := Aside0.mk ((by rw [hg]; exact Nat.ne_of_gt (blk_lt (bk BK794)) : gb798 ≠ gb794)); replace BK794 := Aside0.mk (blk_below (bk BK794) hb); have NB795_798 := Aside0.mk ((by rw [hg]; exact Nat.ne_of_lt (blk_lt (bk BK795)) : gb795 ≠ gb798)); have NB798_795 := Aside0.mk ((by rw [hg]; exact Nat.ne_of_gt (blk_lt (bk BK795)) : gb798 ≠ gb795)); replace BK795 := Aside0.mk (blk_below (bk BK795) hb); have NB796_798 := Aside0.mk ((by rw [hg]; exact Nat.ne_of_lt (blk_lt (bk BK796)) : gb796 ≠ gb798)); have NB798_796 := Aside0.mk ((by rw [hg]; exact Nat.ne_of_gt (blk_lt (bk BK796)) : gb798 ≠ gb796)); replace BK796 := Aside0.mk (blk_below (bk BK796) hb); clear hb hbox hg; have hnb16 := NB798_794.out; have hnc16 := NB794_798.out; have hnb17 := NB798_795.out; have hnc17 := NB795_798.out; have hnb18 := NB798_796.out; have hnc18 := NB796_798.out; have hcz19_0 := bc w15 BK798 0 (.int .i64 0) rfl; have hcz19_1 := bc w15 BK798 1 (.int .i64 0) rfl; have hcz19_2 := bc w15 BK798 2 (.int .i64 0) rfl; have hcz19_3 := bc w15 BK798 3 (.int .i64 0) rfl; have hcz19_4 := bc w15 BK798 4 (.int .i64 0) rfl; have hfz19_0 := fz BK798 0; have hfz19_1 := fz BK798 1; have hfz19_2 := fz BK798 2; have hfz19_3 := fz BK798 3; have hfz19_4 := fz BK798 4))
  go_loopg [6, 7] k1 (fun kq v6 v7 w' => ∃ (x6_2 : Bool) (x7_2 : Int) (x799002_2 : Int), v6 = .bool x6_2 ∧ v7 = .int .i64 x7_2 ∧ Aside0 (spec_l16Now.l1 kq x4_1 x6_2 x7_2 a0_0 l0_1 l0_2 a0_0 x797001_1 ((rd_T31 l0_1 x4_1).f0) ((rd_T31 l0_1 x4_1).f1) x799002_2 ((rd_T31 l0_1 x4_1).f3) ((rd_T31 l0_1 x4_1).f4) = some (r1, r2)) ∧ Aside0 (kq ≤ k1) ∧ Aside0 (Kd.R k31 31 w' w.heap.size (fun k_ => k_ ≠ gb798) u797001 x797001_1) ∧ Aside0 (w'.heap[gb794]? = some (.cells #[.int .i64 a0_0, (.slice (some ad797) l0_1.length c0_1), (.slice A0_2 l0_2.length c0_2)] 57 (0, 0))) ∧ Aside0 (w'.heap[gb795]? = some (.cells #[.int .i64 0, (.slice none 0 0)] 25 (0, 0))) ∧ Aside0 (w'.heap[gb796]? = some (.cells #[.int .i64 a0_0, u797001] 25 (0, 0))) ∧ Aside0 (w'.heap[gb798]? = some (.cells #[.int .i64 ((rd_T31 l0_1 x4_1).f0), .int .i64 ((rd_T31 l0_1 x4_1).f1), .int .i64 x799002_2, .int .i64 ((rd_T31 l0_1 x4_1).f3), .int .i64 ((rd_T31 l0_1 x4_1).f4)] 31 (0, 0))) ∧ Aside0 (Below w.heap.size w w'))
  case atStart => exact ⟨(false), (0), ((rd_T31 l0_1 x4_1).f2), (by first | rfl | (simp; done) | (simp [*]; done)), (by first | rfl | (simp; done) | (simp [*]; done)), H', ⟨Nat.le_refl _⟩, ⟨by (with_reducible repeat (first | apply Kd.R_alloc | apply Kd.R_drewN | apply Kd.R_drew)); exact Kd.R_mono (Kd.R_far (p := ⟨gb798, 4, none⟩) (Kd.R_far (p := ⟨gb798, 3, none⟩) (Kd.R_far (p := ⟨gb798, 2, none⟩) (Kd.R_far (p := ⟨gb798, 1, none⟩) (Kd.R_far (p := ⟨gb798, 0, none⟩) (Kd.R_mono HO_797001.out (fun k_ hk => (⟨hk, hk.2⟩ : _ ∧ k_ ≠ gb798))) (fun _ hk => hk.2) (.int .i64 ((rd_T31 l0_1 x4_1).f0))) (fun _ hk => hk.2) (.int .i64 ((rd_T31 l0_1 x4_1).f1))) (fun _ hk => hk.2) (.int .i64 ((rd_T31 l0_1 x4_1).f2))) (fun _ hk => hk.2) (.int .i64 ((rd_T31 l0_1 x4_1).f3))) (fun _ hk => hk.2) (.int .i64 ((rd_T31 l0_1 x4_1).f4))) (fun _ hk => hk.1.2)⟩, ⟨by (with_reducible repeat (first | refine blk_drewN ?_ _ | refine blk_drew ?_ | refine blk_alloc ?_ _)); refine blk_far ?_ NB794_798.out _; refine blk_far ?_ NB794_798.out _; refine blk_far ?_ NB794_798.out _; refine blk_far ?_ NB794_798.out _; refine blk_far ?_ NB794_798.out _; (with_reducible repeat (first | refine blk_drewN ?_ _ | refine blk_drew ?_ | refine blk_alloc ?_ _)); exact BK794.out⟩, ⟨by (with_reducible repeat (first | refine blk_drewN ?_ _ | refine blk_drew ?_ | refine blk_alloc ?_ _)); refine blk_far ?_ NB795_798.out _; refine blk_far ?_ NB795_798.out _; refine blk_far ?_ NB795_798.out _; refine blk_far ?_ NB795_798.out _; refine blk_far ?_ NB795_798.out _; (with_reducible repeat (first | refine blk_drewN ?_ _ | refine blk_drew ?_ | refine blk_alloc ?_ _)); exact BK795.out⟩, ⟨by (with_reducible repeat (first | refine blk_drewN ?_ _ | refine blk_drew ?_ | refine blk_alloc ?_ _)); refine blk_far ?_ NB796_798.out _; refine blk_far ?_ NB796_798.out _; refine blk_far ?_ NB796_798.out _; refine blk_far ?_ NB796_798.out _; refine blk_far ?_ NB796_798.out _; (with_reducible repeat (first | refine blk_drewN ?_ _ | refine blk_drew ?_ | refine blk_alloc ?_ _)); exact BK796.out⟩, ⟨by (with_reducible repeat (first | refine blk_drewN ?_ _ | refine blk_drew ?_ | refine blk_alloc ?_ _)); refine blk_put (cs := #[.int .i64 ((rd_T31 l0_1 x4_1).f0), .int .i64 ((rd_T31 l0_1 x4_1).f1), .int .i64 ((rd_T31 l0_1 x4_1).f2), .int .i64 ((rd_T31 l0_1 x4_1).f3), .int .i64 0]) ?_ 4 _ rfl; refine blk_put (cs := #[.int .i64 ((rd_T31 l0_1 x4_1).f0), .int .i64 ((rd_T31 l0_1 x4_1).f1), .int .i64 ((rd_T31 l0_1 x4_1).f2), .int .i64 0, .int .i64 0]) ?_ 3 _ rfl; refine blk_put (cs := #[.int .i64 ((rd_T31 l0_1 x4_1).f0), .int .i64 ((rd_T31 l0_1 x4_1).f1), .int .i64 0, .int .i64 0, .int .i64 0]) ?_ 2 _ rfl; refine blk_put (cs := #[.int .i64 ((rd_T31 l0_1 x4_1).f0), .int .i64 0, .int .i64 0, .int .i64 0, .int .i64 0]) ?_ 1 _ rfl; refine blk_put (cs := #[.int .i64 0, .int .i64 0, .int .i64 0, .int .i64 0, .int .i64 0]) ?_ 0 _ rfl; (with_reducible repeat (first | refine blk_drewN ?_ _ | refine blk_drew ?_ | refine blk_alloc ?_ _)); exact BK798.out⟩, ⟨bl4 HB GE794 GE795 GE796 GE798⟩⟩
  clear H'
  try clear c1
  try clear p2
  try clear c4
  try clear c7
  try clear p7
  try clear q7
  try clear hx7
  try clear c8
  try clear c10
  try clear c10b0
  try clear c11
  try clear c11b0
  try clear c12
  try clear c13
  try clear c16
  try clear c17
  try clear c18
  try clear hcz14_0
  try clear hcz14_1
  try clear hcz14_2
  try clear hcz19_0
  try clear hcz19_1
  try clear hcz19_2
  try clear hcz19_3
  try clear hcz19_4
  try clear hcz5_0
  try clear hcz5_1
  try clear hcz5_2
  try clear hcz9_0
  try clear hcz9_1
  try clear hfz14_0
  try clear hfz14_1
  try clear hfz14_2
  try clear hfz19_0
  try clear hfz19_1
  try clear hfz19_2
  try clear hfz19_3
  try clear hfz19_4
  try clear hfz5_0
  try clear hfz5_1
  try clear hfz5_2
  try clear hfz9_0
  try clear hfz9_1
  try clear hx797_0
  try clear hx797_1
  try clear hx797_2
  try clear hx797_3
  try clear hx797_4
  try clear p2
  try clear p797
  try clear q797
  obtain ⟨x6_2, x7_2, x799002_2, rfl, rfl, HA, HK2, HO_797001, BK794, BK795, BK796, BK798, HB⟩ := hrel
  cases gk with
  | zero => exact absurd HA.out (by simp [spec_l16Now.l1])
  | succ k2 =>
   have H := HA.out
   clear HA
   simp only [spec_l16Now.l1] at H
   by_cases c20 : x7_2 < (l0_2.length : Int)
   rotate_left
   ·rw [if_neg c20] at H
    have c20b0 : decide (x7_2 < (l0_2.length : Int)) = false := decide_eq_false c20
    clear c20
    by_cases c50 : x799002_2 > 99
    rotate_left
    ·rw [if_neg c50] at H
     have c50b0 : decide (99 < x799002_2) = false := decide_eq_false c50
     clear c50
     by_cases c72 : x6_2 = true
     ·subst c72
      rw [if_pos rfl] at H
      have H' := Aside0.mk H
      clear H
      have hnb73 := NB794_795.out
      have hnc73 := NB795_794.out
      have hnb74 := NB794_796.out
      have hnc74 := NB796_794.out
      have hnb75 := NB794_798.out
      have hnc75 := NB798_794.out
      have hcz76_0 := bc wr BK794 0 (.int .i64 a0_0) rfl
      have hcz76_1 := bc wr BK794 1 (.slice (some ad797) l0_1.length c0_1) rfl
      have hcz76_2 := bc wr BK794 2 (.slice A0_2 l0_2.length c0_2) rfl
      have hfz76_0 := fz BK794 0
      have hfz76_1 := fz BK794 1
      have hfz76_2 := fz BK794 2
      have hnb77 := NB798_795.out
      have hnc77 := NB795_798.out
      have hnb78 := NB798_796.out
      have hnc78 := NB796_798.out
      have hcz79_0 := bc wr BK798 0 (.int .i64 ((rd_T31 l0_1 x4_1).f0)) rfl
      have hcz79_1 := bc wr BK798 1 (.int .i64 ((rd_T31 l0_1 x4_1).f1)) rfl
      have hcz79_2 := bc wr BK798 2 (.int .i64 x799002_2) rfl
      have hcz79_3 := bc wr BK798 3 (.int .i64 ((rd_T31 l0_1 x4_1).f3)) rfl
      have hcz79_4 := bc wr BK798 4 (.int .i64 ((rd_T31 l0_1 x4_1).f4)) rfl
      have hfz79_0 := fz BK798 0
      have hfz79_1 := fz BK798 1
      have hfz79_2 := fz BK798 2
      have hfz79_3 := fz BK798 3
      have hfz79_4 := fz BK798 4
      go_wp2
      go_roundg k2
      case measure => have := HK1.out; have := HK2.out; omega
      case rel => exact ⟨(wrap64 (x4_1 + 1)), (x797001_1), (u797001), (by first | rfl | (simp; done) | (simp [*]; done)), H', ⟨by have := HK1.out; have := HK2.out; omega⟩, ⟨by (with_reducible repeat (first | apply Kd.R_alloc | apply Kd.R_drewN | apply Kd.R_drew)); exact Kd.R_mono HO_797001.out (fun _ hk => trivial)⟩, ⟨bk BK794⟩, ⟨bk BK795⟩, ⟨bk BK796⟩, ⟨bl4 HB GE794 GE795 GE796 GE798⟩⟩
     replace c72 := Bool.eq_false_iff.mpr c72
     subst c72
     rw [if_neg (show ¬ (false = true) by decide)] at H
     by_cases c80 : x797001_1.length < 3518437208883
     rotate_left
     ·rw [if_neg c80] at H
      exact absurd H (by simp)
     rw [if_pos c80] at H
     have LMc80 := Aside0.mk c80
     clear c80
     obtain ⟨y806, hy806⟩ : ∃ y_ : List (S31), y_ = (x797001_1 ++ [(⟨((rd_T31 l0_1 x4_1).f0), ((rd_T31 l0_1 x4_1).f1), x799002_2, ((rd_T31 l0_1 x4_1).f3), ((rd_T31 l0_1 x4_1).f4)⟩ : S31)]) := ⟨_, rfl⟩
     replace H : (spec_l16Now.l0 k2 (wrap64 (x4_1 + 1)) a0_0 l0_1 l0_2 a0_0 y806) = some (r1, r2) := by first | (rw [hy806]; with_reducible exact H) | (have H2_ := (Option.bind_some _ _).symm.trans H; rw [hy806]; with_reducible exact H2_) | (have H2_ := (Option.bind_some _ _).symm.trans H; with_reducible exact H2_) | with_reducible exact H | (rw [hy806]; exact H) | exact H
     have Ny806 := Aside0.mk hy806
     clear hy806
     have H' := Aside0.mk H
     clear H
     have hnb81 := NB794_795.out
     have hnc81 := NB795_794.out
     have hnb82 := NB794_796.out
     have hnc82 := NB796_794.out
     have hnb83 := NB794_798.out
     have hnc83 := NB798_794.out
     have hcz84_0 := bc wr BK794 0 (.int .i64 a0_0) rfl
     have hcz84_1 := bc wr BK794 1 (.slice (some ad797) l0_1.length c0_1) rfl
     have hcz84_2 := bc wr BK794 2 (.slice A0_2 l0_2.length c0_2) rfl
     have hfz84_0 := fz BK794 0
     have hfz84_1 := fz BK794 1
     have hfz84_2 := fz BK794 2
     have hnb85 := NB798_795.out
     have hnc85 := NB795_798.out
     have hnb86 := NB798_796.out
     have hnc86 := NB796_798.out
     have hcz87_0 := bc wr BK798 0 (.int .i64 ((rd_T31 l0_1 x4_1).f0)) rfl
     have hcz87_1 := bc wr BK798 1 (.int .i64 ((rd_T31 l0_1 x4_1).f1)) rfl
     have hcz87_2 := bc wr BK798 2 (.int .i64 x799002_2) rfl
     have hcz87_3 := bc wr BK798 3 (.int .i64 ((rd_T31 l0_1 x4_1).f3)) rfl
     have hcz87_4 := bc wr BK798 4 (.int .i64 ((rd_T31 l0_1 x4_1).f4)) rfl
     have hfz87_0 := fz BK798 0
     have hfz87_1 := fz BK798 1
     have hfz87_2 := fz BK798 2
     have hfz87_3 := fz BK798 3
     have hfz87_4 := fz BK798 4
     have hnb88 := NB796_795.out
     have hnc88 := NB795_796.out
     have hcz89_0 := bc wr BK796 0 (.int .i64 a0_0) rfl
     have hcz89_1 := bc wr BK796 1 (u797001) rfl
     have hfz89_0 := fz BK796 0
     have hfz89_1 := fz BK796 1
     go_wp2_with (first | ((with_reducible refine gate_builtin (b := .append) (xs := #[.tmp 75, .tmp 77]) rfl ?_); at_builtin; refine Kd.R_append k31 (w0 := w) w.heap.size rfl (.tmp 75) (.tmp 77) 23 31 (.agg #[(.int .i64 0), (.int .i64 0), (.int .i64 0), (.int .i64 0), (.int .i64 0)]) 40 rfl Try.underlying23 info31 rfl (by decide) (by omega) u797001 x797001_1 (⟨((rd_T31 l0_1 x4_1).f0), ((rd_T31 l0_1 x4_1).f1), x799002_2, ((rd_T31 l0_1 x4_1).f3), ((rd_T31 l0_1 x4_1).f4)⟩ : S31) [.int .i64 ((rd_T31 l0_1 x4_1).f0), .int .i64 ((rd_T31 l0_1 x4_1).f1), .int .i64 x799002_2, .int .i64 ((rd_T31 l0_1 x4_1).f3), .int .i64 ((rd_T31 l0_1 x4_1).f4)] (fun k_ => k_ ≠ gb798) (fun _ => False) rfl rfl ?aP (fun _ hk => hk.elim) ?aF ?aO ?aB ?aS ?aL ?_; (case aP => exact k31_mkM _ _ _ (⟨((rd_T31 l0_1 x4_1).f0), ((rd_T31 l0_1 x4_1).f1), x799002_2, ((rd_T31 l0_1 x4_1).f3), ((rd_T31 l0_1 x4_1).f4)⟩ : S31)); (case aB => exact (bl4 HB GE794 GE795 GE796 GE798)); (case aF => exact (fun k_ hk => Kd.freshB (bk BK798) k_ hk)); (case aO => exact (rk HO_797001)); (case aS => exact (below_size (bl4 HB GE794 GE795 GE796 GE798))); (case aL => have := LMc80.out; omega); intro v807 w90 ho hb hg hat; rw [← Ny806.out] at ho; have n0_ := Aside0.mk (blk_grown (bk BK794) hg (Kd.R_ne HO_797001.out BK794.out (by decide))); have n1_ := Aside0.mk (blk_grown (bk BK795) hg (Kd.R_ne HO_797001.out BK795.out (by decide))); have n2_ := Aside0.mk (blk_grown (bk BK796) hg (Kd.R_ne HO_797001.out BK796.out (by decide))); have n3_ := Aside0.mk (blk_grown (bk BK798) hg (Kd.R_away HO_797001.out (fun _ hk => hk))); have n4_ := Aside0.mk (hb); have n5_ := Aside0.mk (ho); clear BK794; clear BK795; clear BK796; clear BK798; clear HB; clear HO_797001; have BK794 := n0_; have BK795 := n1_; have BK796 := n2_; have BK798 := n3_; have HB := n4_; have HO808 := n5_; clear n0_ n1_ n2_ n3_ n4_ n5_; clear ho hb hg hat; obtain ⟨Ao91, co91, eo91⟩ := Kd.R_slice HO808.out; subst eo91; have hcz92_0 := bc w90 BK796 0 (.int .i64 a0_0) rfl; have hcz92_1 := bc w90 BK796 1 (u797001) rfl; have hfz92_0 := fz BK796 0; have hfz92_1 := fz BK796 1))
     go_roundg k2
     case measure => have := HK1.out; have := HK2.out; omega
     case rel => exact ⟨(wrap64 (x4_1 + 1)), (y806), (.slice Ao91 y806.length co91), (by first | rfl | (simp; done) | (simp [*]; done)), H', ⟨by have := HK1.out; have := HK2.out; omega⟩, ⟨by (with_reducible repeat (first | apply Kd.R_alloc | apply Kd.R_drewN | apply Kd.R_drew)); exact Kd.R_mono (Kd.R_far (p := ⟨gb796, 1, none⟩) (Kd.R_types HO808.out BK796.out (by decide)) (fun _ hk => hk.2) (.slice Ao91 y806.length co91)) (fun _ hk => trivial)⟩, ⟨by (with_reducible repeat (first | refine blk_drewN ?_ _ | refine blk_drew ?_ | refine blk_alloc ?_ _)); refine blk_far ?_ NB794_796.out _; (with_reducible repeat (first | refine blk_drewN ?_ _ | refine blk_drew ?_ | refine blk_alloc ?_ _)); exact BK794.out⟩, ⟨by (with_reducible repeat (first | refine blk_drewN ?_ _ | refine blk_drew ?_ | refine blk_alloc ?_ _)); refine blk_far ?_ NB795_796.out _; (with_reducible repeat (first | refine blk_drewN ?_ _ | refine blk_drew ?_ | refine blk_alloc ?_ _)); exact BK795.out⟩, ⟨by (with_reducible repeat (first | refine blk_drewN ?_ _ | refine blk_drew ?_ | refine blk_alloc ?_ _)); refine blk_put (cs := #[.int .i64 a0_0, u797001]) ?_ 1 _ rfl; (with_reducible repeat (first | refine blk_drewN ?_ _ | refine blk_drew ?_ | refine blk_alloc ?_ _)); exact BK796.out⟩, ⟨bl4 HB GE794 GE795 GE796 GE798⟩⟩
    rw [if_pos c50] at H
    have c50b0 : decide (99 < x799002_2) = true := decide_eq_true c50
    clear c50
    by_cases c51 : x6_2 = true
    ·subst c51
     rw [if_pos rfl] at H
     have H' := Aside0.mk H
     clear H
     have hnb52 := NB794_795.out
     have hnc52 := NB795_794.out
     have hnb53 := NB794_796.out
     have hnc53 := NB796_794.out
     have hnb54 := NB794_798.out
     have hnc54 := NB798_794.out
     have hcz55_0 := bc wr BK794 0 (.int .i64 a0_0) rfl
     have hcz55_1 := bc wr BK794 1 (.slice (some ad797) l0_1.length c0_1) rfl
     have hcz55_2 := bc wr BK794 2 (.slice A0_2 l0_2.length c0_2) rfl
     have hfz55_0 := fz BK794 0
     have hfz55_1 := fz BK794 1
     have hfz55_2 := fz BK794 2
     have hnb56 := NB798_795.out
     have hnc56 := NB795_798.out
     have hnb57 := NB798_796.out
     have hnc57 := NB796_798.out
     have hcz58_0 := bc wr BK798 0 (.int .i64 ((rd_T31 l0_1 x4_1).f0)) rfl
     have hcz58_1 := bc wr BK798 1 (.int .i64 ((rd_T31 l0_1 x4_1).f1)) rfl
     have hcz58_2 := bc wr BK798 2 (.int .i64 x799002_2) rfl
     have hcz58_3 := bc wr BK798 3 (.int .i64 ((rd_T31 l0_1 x4_1).f3)) rfl
     have hcz58_4 := bc wr BK798 4 (.int .i64 ((rd_T31 l0_1 x4_1).f4)) rfl
     have hfz58_0 := fz BK798 0
     have hfz58_1 := fz BK798 1
     have hfz58_2 := fz BK798 2
     have hfz58_3 := fz BK798 3
     have hfz58_4 := fz BK798 4
     go_wp2
     go_roundg k2
     case measure => have := HK1.out; have := HK2.out; omega
     case rel => exact ⟨(wrap64 (x4_1 + 1)), (x797001_1), (u797001), (by first | rfl | (simp; done) | (simp [*]; done)), H', ⟨by have := HK1.out; have := HK2.out; omega⟩, ⟨by (with_reducible repeat (first | apply Kd.R_alloc | apply Kd.R_drewN | apply Kd.R_drew)); exact Kd.R_mono (Kd.R_far (p := ⟨gb798, 2, none⟩) (Kd.R_mono HO_797001.out (fun k_ hk => (⟨hk, hk⟩ : _ ∧ k_ ≠ gb798))) (fun _ hk => hk.2) (.int .i64 99)) (fun _ hk => trivial)⟩, ⟨by (with_reducible repeat (first | refine blk_drewN ?_ _ | refine blk_drew ?_ | refine blk_alloc ?_ _)); refine blk_far ?_ NB794_798.out _; (with_reducible repeat (first | refine blk_drewN ?_ _ | refine blk_drew ?_ | refine blk_alloc ?_ _)); exact BK794.out⟩, ⟨by (with_reducible repeat (first | refine blk_drewN ?_ _ | refine blk_drew ?_ | refine blk_alloc ?_ _)); refine blk_far ?_ NB795_798.out _; (with_reducible repeat (first | refine blk_drewN ?_ _ | refine blk_drew ?_ | refine blk_alloc ?_ _)); exact BK795.out⟩, ⟨by (with_reducible repeat (first | refine blk_drewN ?_ _ | refine blk_drew ?_ | refine blk_alloc ?_ _)); refine blk_far ?_ NB796_798.out _; (with_reducible repeat (first | refine blk_drewN ?_ _ | refine blk_drew ?_ | refine blk_alloc ?_ _)); exact BK796.out⟩, ⟨bl4 HB GE794 GE795 GE796 GE798⟩⟩
    replace c51 := Bool.eq_false_iff.mpr c51
    subst c51
    rw [if_neg (show ¬ (false = true) by decide)] at H
    by_cases c59 : x797001_1.length < 3518437208883
    rotate_left
    ·rw [if_neg c59] at H
     exact absurd H (by simp)
    rw [if_pos c59] at H
    have LMc59 := Aside0.mk c59
    clear c59
    obtain ⟨y803, hy803⟩ : ∃ y_ : List (S31), y_ = (x797001_1 ++ [(⟨((rd_T31 l0_1 x4_1).f0), ((rd_T31 l0_1 x4_1).f1), 99, ((rd_T31 l0_1 x4_1).f3), ((rd_T31 l0_1 x4_1).f4)⟩ : S31)]) := ⟨_, rfl⟩
    replace H : (spec_l16Now.l0 k2 (wrap64 (x4_1 + 1)) a0_0 l0_1 l0_2 a0_0 y803) = some (r1, r2) := by first | (rw [hy803]; with_reducible exact H) | (have H2_ := (Option.bind_some _ _).symm.trans H; rw [hy803]; with_reducible exact H2_) | (have H2_ := (Option.bind_some _ _).symm.trans H; with_reducible exact H2_) | with_reducible exact H | (rw [hy803]; exact H) | exact H
    have Ny803 := Aside0.mk hy803
    clear hy803
    have H' := Aside0.mk H
    clear H
    have hnb60 := NB794_795.out
    have hnc60 := NB795_794.out
    have hnb61 := NB794_796.out
    have hnc61 := NB796_794.out
    have hnb62 := NB794_798.out
    have hnc62 := NB798_794.out
    have hcz63_0 := bc wr BK794 0 (.int .i64 a0_0) rfl
    have hcz63_1 := bc wr BK794 1 (.slice (some ad797) l0_1.length c0_1) rfl
    have hcz63_2 := bc wr BK794 2 (.slice A0_2 l0_2.length c0_2) rfl
    have hfz63_0 := fz BK794 0
    have hfz63_1 := fz BK794 1
    have hfz63_2 := fz BK794 2
    have hnb64 := NB798_795.out
    have hnc64 := NB795_798.out
    have hnb65 := NB798_796.out
    have hnc65 := NB796_798.out
    have hcz66_0 := bc wr BK798 0 (.int .i64 ((rd_T31 l0_1 x4_1).f0)) rfl
    have hcz66_1 := bc wr BK798 1 (.int .i64 ((rd_T31 l0_1 x4_1).f1)) rfl
    have hcz66_2 := bc wr BK798 2 (.int .i64 x799002_2) rfl
    have hcz66_3 := bc wr BK798 3 (.int .i64 ((rd_T31 l0_1 x4_1).f3)) rfl
    have hcz66_4 := bc wr BK798 4 (.int .i64 ((rd_T31 l0_1 x4_1).f4)) rfl
    have hfz66_0 := fz BK798 0
    have hfz66_1 := fz BK798 1
    have hfz66_2 := fz BK798 2
    have hfz66_3 := fz BK798 3
    have hfz66_4 := fz BK798 4
    have hnb67 := NB796_795.out
    have hnc67 := NB795_796.out
    have hcz68_0 := bc wr BK796 0 (.int .i64 a0_0) rfl
    have hcz68_1 := bc wr BK796 1 (u797001) rfl
    have hfz68_0 := fz BK796 0
    have hfz68_1 := fz BK796 1
    go_wp2_with (first | ((with_reducible refine gate_builtin (b := .append) (xs := #[.tmp 75, .tmp 77]) rfl ?_); at_builtin; refine Kd.R_append k31 (w0 := w) w.heap.size rfl (.tmp 75) (.tmp 77) 23 31 (.agg #[(.int .i64 0), (.int .i64 0), (.int .i64 0), (.int .i64 0), (.int .i64 0)]) 40 rfl Try.underlying23 info31 rfl (by decide) (by omega) u797001 x797001_1 (⟨((rd_T31 l0_1 x4_1).f0), ((rd_T31 l0_1 x4_1).f1), 99, ((rd_T31 l0_1 x4_1).f3), ((rd_T31 l0_1 x4_1).f4)⟩ : S31) [.int .i64 ((rd_T31 l0_1 x4_1).f0), .int .i64 ((rd_T31 l0_1 x4_1).f1), .int .i64 99, .int .i64 ((rd_T31 l0_1 x4_1).f3), .int .i64 ((rd_T31 l0_1 x4_1).f4)] (fun k_ => k_ ≠ gb798) (fun _ => False) rfl (by first | (go_simp; done) | (go_simp; rfl)) ?aP (fun _ hk => hk.elim) ?aF ?aO ?aB ?aS ?aL ?_; (case aP => exact k31_mkM _ _ _ (⟨((rd_T31 l0_1 x4_1).f0), ((rd_T31 l0_1 x4_1).f1), 99, ((rd_T31 l0_1 x4_1).f3), ((rd_T31 l0_1 x4_1).f4)⟩ : S31)); (case aB => exact (bl4 HB GE794 GE795 GE796 GE798)); (case aF => exact (fun k_ hk => Kd.freshB (g := gb798) (o := .cells #[.int .i64 ((rd_T31 l0_1 x4_1).f0), .int .i64 ((rd_T31 l0_1 x4_1).f1), .int .i64 99, .int .i64 ((rd_T31 l0_1 x4_1).f3), .int .i64 ((rd_T31 l0_1 x4_1).f4)] 31 (0, 0)) (by (with_reducible repeat (first | refine blk_drewN ?_ _ | refine blk_drew ?_ | refine blk_alloc ?_ _)); refine blk_put (cs := #[.int .i64 ((rd_T31 l0_1 x4_1).f0), .int .i64 ((rd_T31 l0_1 x4_1).f1), .int .i64 x799002_2, .int .i64 ((rd_T31 l0_1 x4_1).f3), .int .i64 ((rd_T31 l0_1 x4_1).f4)]) ?_ 2 _ rfl; (with_reducible repeat (first | refine blk_drewN ?_ _ | refine blk_drew ?_ | refine blk_alloc ?_ _)); exact BK798.out) k_ hk)); (case aO => exact (by (with_reducible repeat (first | apply Kd.R_alloc | apply Kd.R_drewN | apply Kd.R_drew)); exact Kd.R_mono (Kd.R_far (p := ⟨gb798, 2, none⟩) (Kd.R_mono HO_797001.out (fun k_ hk => (⟨hk, hk⟩ : _ ∧ k_ ≠ gb798))) (fun _ hk => hk.2) (.int .i64 99)) (fun _ hk => hk.1))); (case aS => exact (below_size (bl4 HB GE794 GE795 GE796 GE798))); (case aL => have := LMc59.out; omega); intro v804 w69 ho hb hg hat; rw [← Ny803.out] at ho; have n0_ := Aside0.mk (blk_grown (g := gb794) (o := .cells #[.int .i64 a0_0, .slice (some ad797) l0_1.length c0_1, .slice A0_2 l0_2.length c0_2] 57 (0, 0)) (by (with_reducible repeat (first | refine blk_drewN ?_ _ | refine blk_drew ?_ | refine blk_alloc ?_ _)); refine blk_far ?_ NB794_798.out _; (with_reducible repeat (first | refine blk_drewN ?_ _ | refine blk_drew ?_ | refine blk_alloc ?_ _)); exact BK794.out) hg (Kd.R_ne HO_797001.out BK794.out (by decide))); have n1_ := Aside0.mk (blk_grown (g := gb795) (o := .cells #[.int .i64 0, .slice none 0 0] 25 (0, 0)) (by (with_reducible repeat (first | refine blk_drewN ?_ _ | refine blk_drew ?_ | refine blk_alloc ?_ _)); refine blk_far ?_ NB795_798.out _; (with_reducible repeat (first | refine blk_drewN ?_ _ | refine blk_drew ?_ | refine blk_alloc ?_ _)); exact BK795.out) hg (Kd.R_ne HO_797001.out BK795.out (by decide))); have n2_ := Aside0.mk (blk_grown (g := gb796) (o := .cells #[.int .i64 a0_0, u797001] 25 (0, 0)) (by (with_reducible repeat (first | refine blk_drewN ?_ _ | refine blk_drew ?_ | refine blk_alloc ?_ _)); refine blk_far ?_ NB796_798.out _; (with_reducible repeat (first | refine blk_drewN ?_ _ | refine blk_drew ?_ | refine blk_alloc ?_ _)); exact BK796.out) hg (Kd.R_ne HO_797001.out BK796.out (by decide))); have n3_ := Aside0.mk (blk_grown (g := gb798) (o := .cells #[.int .i64 ((rd_T31 l0_1 x4_1).f0), .int .i64 ((rd_T31 l0_1 x4_1).f1), .int .i64 99, .int .i64 ((rd_T31 l0_1 x4_1).f3), .int .i64 ((rd_T31 l0_1 x4_1).f4)] 31 (0, 0)) (by (with_reducible repeat (first | refine blk_drewN ?_ _ | refine blk_drew ?_ | refine blk_alloc ?_ _)); refine blk_put (cs := #[.int .i64 ((rd_T31 l0_1 x4_1).f0), .int .i64 ((rd_T31 l0_1 x4_1).f1), .int .i64 x799002_2, .int .i64 ((rd_T31 l0_1 x4_1).f3), .int .i64 ((rd_T31 l0_1 x4_1).f4)]) ?_ 2 _ rfl; (with_reducible repeat (first | refine blk_drewN ?_ _ | refine blk_drew ?_ | refine blk_alloc ?_ _)); exact BK798.out) hg (Kd.R_away HO_797001.out (fun _ hk => hk))); have n4_ := Aside0.mk (hb); have n5_ := Aside0.mk (ho); clear BK794; clear BK795; clear BK796; clear BK798; clear HB; clear HO_797001; have BK794 := n0_; have BK795 := n1_; have BK796 := n2_; have BK798 := n3_; have HB := n4_; have HO805 := n5_; clear n0_ n1_ n2_ n3_ n4_ n5_; clear ho hb hg hat; obtain ⟨Ao70, co70, eo70⟩ := Kd.R_slice HO805.out; subst eo70; have hcz71_0 := bc w69 BK796 0 (.int .i64 a0_0) rfl; have hcz71_1 := bc w69 BK796 1 (u797001) rfl; have hfz71_0 := fz BK796 0; have hfz71_1 := fz BK796 1))
    go_roundg k2
    case measure => have := HK1.out; have := HK2.out; omega
    case rel => exact ⟨(wrap64 (x4_1 + 1)), (y803), (.slice Ao70 y803.length co70), (by first | rfl | (simp; done) | (simp [*]; done)), H', ⟨by have := HK1.out; have := HK2.out; omega⟩, ⟨by (with_reducible repeat (first | apply Kd.R_alloc | apply Kd.R_drewN | apply Kd.R_drew)); exact Kd.R_mono (Kd.R_far (p := ⟨gb796, 1, none⟩) (Kd.R_types HO805.out BK796.out (by decide)) (fun _ hk => hk.2) (.slice Ao70 y803.length co70)) (fun _ hk => trivial)⟩, ⟨by (with_reducible repeat (first | refine blk_drewN ?_ _ | refine blk_drew ?_ | refine blk_alloc ?_ _)); refine blk_far ?_ NB794_796.out _; (with_reducible repeat (first | refine blk_drewN ?_ _ | refine blk_drew ?_ | refine blk_alloc ?_ _)); exact BK794.out⟩, ⟨by (with_reducible repeat (first | refine blk_drewN ?_ _ | refine blk_drew ?_ | refine blk_alloc ?_ _)); refine blk_far ?_ NB795_796.out _; (with_reducible repeat (first | refine blk_drewN ?_ _ | refine blk_drew ?_ | refine blk_alloc ?_ _)); exact BK795.out⟩, ⟨by (with_reducible repeat (first | refine blk_drewN ?_ _ | refine blk_drew ?_ | refine blk_alloc ?_ _)); refine blk_put (cs := #[.int .i64 a0_0, u797001]) ?_ 1 _ rfl; (with_reducible repeat (first | refine blk_drewN ?_ _ | refine blk_drew ?_ | refine blk_alloc ?_ _)); exact BK796.out⟩, ⟨bl4 HB GE794 GE795 GE796 GE798⟩⟩
   rw [if_pos c20] at H
   have c20b0 : decide (x7_2 < (l0_2.length : Int)) = true := decide_eq_true c20
   clear c20
   have HC21 := Aside0.mk H
   clear H
   have hnb22 := NB794_795.out
   have hnc22 := NB795_794.out
   have hnb23 := NB794_796.out
   have hnc23 := NB796_794.out
   have hnb24 := NB794_798.out
   have hnc24 := NB798_794.out
   have hcz25_0 := bc wr BK794 0 (.int .i64 a0_0) rfl
   have hcz25_1 := bc wr BK794 1 (.slice (some ad797) l0_1.length c0_1) rfl
   have hcz25_2 := bc wr BK794 2 (.slice A0_2 l0_2.length c0_2) rfl
   have hfz25_0 := fz BK794 0
   have hfz25_1 := fz BK794 1
   have hfz25_2 := fz BK794 2
   go_upto_region 10 with (fail)
   go_cut [49] (fun v49 wc => ∃ (kq : Nat) (x49_20 : Bool), v49 = .bool x49_20 ∧ Aside0 (spec_l16Now.j2 kq x4_1 x6_2 x7_2 x49_20 a0_0 l0_1 l0_2 a0_0 x797001_1 ((rd_T31 l0_1 x4_1).f0) ((rd_T31 l0_1 x4_1).f1) x799002_2 ((rd_T31 l0_1 x4_1).f3) ((rd_T31 l0_1 x4_1).f4) = some (r1, r2)) ∧ Aside0 (kq ≤ k2) ∧ Aside0 (Kd.R k31 31 wc w.heap.size (fun k_ => k_ ≠ gb798) u797001 x797001_1) ∧ Aside0 (wc.heap[gb794]? = some (.cells #[.int .i64 a0_0, (.slice (some ad797) l0_1.length c0_1), (.slice A0_2 l0_2.length c0_2)] 57 (0, 0))) ∧ Aside0 (wc.heap[gb795]? = some (.cells #[.int .i64 0, (.slice none 0 0)] 25 (0, 0))) ∧ Aside0 (wc.heap[gb796]? = some (.cells #[.int .i64 a0_0, u797001] 25 (0, 0))) ∧ Aside0 (wc.heap[gb798]? = some (.cells #[.int .i64 ((rd_T31 l0_1 x4_1).f0), .int .i64 ((rd_T31 l0_1 x4_1).f1), .int .i64 x799002_2, .int .i64 ((rd_T31 l0_1 x4_1).f3), .int .i64 ((rd_T31 l0_1 x4_1).f4)] 31 (0, 0))) ∧ Aside0 (Below w.heap.size w wc))
   case first =>
    have H := HC21.out
    clear HC21
    by_cases c26 : 0 ≤ x7_2
    rotate_left
    ·rw [if_neg c26] at H
     exact absurd H (by simp)
    rw [if_pos c26] at H
    have c26b0 : decide (0 ≤ x7_2) = true := decide_eq_true c26
    clear c26
    (first | rw [c26b0] | (simp only [i64_w, i32_w]; rw [c26b0]) | skip)
    by_cases c27 : ((rd_T64 l0_2 x7_2).f1) = x4_1
    rotate_left
    ·rw [if_neg c27] at H
     have c27b0 : (((rd_T64 l0_2 x7_2).f1) == x4_1) = false := beq_eq_false_iff_ne.mpr c27
     have c27b1 : (((rd_T64 l0_2 x7_2).f1) != x4_1) = true := bne_iff_ne.mpr c27
     have H' := Aside0.mk H
     clear H
     have hnb32 := NB794_795.out
     have hnc32 := NB795_794.out
     have hnb33 := NB794_796.out
     have hnc33 := NB796_794.out
     have hnb34 := NB794_798.out
     have hnc34 := NB798_794.out
     have hcz35_0 := bc wr BK794 0 (.int .i64 a0_0) rfl
     have hcz35_1 := bc wr BK794 1 (.slice (some ad797) l0_1.length c0_1) rfl
     have hcz35_2 := bc wr BK794 2 (.slice A0_2 l0_2.length c0_2) rfl
     have hfz35_0 := fz BK794 0
     have hfz35_1 := fz BK794 1
     have hfz35_2 := fz BK794 2
     have p799 : 0 ≤ (x7_2 : Int) := oT (by first | (with_reducible assumption) | assumption)
     have q799 : x7_2 < (l0_2.length : Int) := oT (by first | (with_reducible assumption) | assumption)
     obtain ⟨ad799, e799, hx799_0, hx799_1, hx799_2⟩ := at_T64 HR0_2.out x7_2 p799 q799
     cases e799
     replace hx799_0 := hcb HB.out hx799_0
     replace hx799_1 := hcb HB.out hx799_1
     replace hx799_2 := hcb HB.out hx799_2
     replace p799 := eq_true p799
     replace q799 := eq_true q799
     go_wp2
     go_meet
     case rel => exact ⟨_, (false), (by first | rfl | (simp; done) | (simp [*]; done)), H', ⟨by have := HK1.out; have := HK2.out; first | omega | exact Nat.le_refl _⟩, ⟨rk HO_797001⟩, ⟨bk BK794⟩, ⟨bk BK795⟩, ⟨bk BK796⟩, ⟨bk BK798⟩, ⟨bl4 HB GE794 GE795 GE796 GE798⟩⟩
    rw [if_pos c27] at H
    have c27b0 : (((rd_T64 l0_2 x7_2).f1) == x4_1) = true := beq_iff_eq.mpr c27
    have c27b1 : (((rd_T64 l0_2 x7_2).f1) != x4_1) = false := bne_eq_false_iff_eq.mpr c27
    clear c27
    have H' := Aside0.mk H
    clear H
    have hnb28 := NB794_795.out
    have hnc28 := NB795_794.out
    have hnb29 := NB794_796.out
    have hnc29 := NB796_794.out
    have hnb30 := NB794_798.out
    have hnc30 := NB798_794.out
    have hcz31_0 := bc wr BK794 0 (.int .i64 a0_0) rfl
    have hcz31_1 := bc wr BK794 1 (.slice (some ad797) l0_1.length c0_1) rfl
    have hcz31_2 := bc wr BK794 2 (.slice A0_2 l0_2.length c0_2) rfl
    have hfz31_0 := fz BK794 0
    have hfz31_1 := fz BK794 1
    have hfz31_2 := fz BK794 2
    have p799 : 0 ≤ (x7_2 : Int) := oT (by first | (with_reducible assumption) | assumption)
    have q799 : x7_2 < (l0_2.length : Int) := oT (by first | (with_reducible assumption) | assumption)
    obtain ⟨ad799, e799, hx799_0, hx799_1, hx799_2⟩ := at_T64 HR0_2.out x7_2 p799 q799
    cases e799
    replace hx799_0 := hcb HB.out hx799_0
    replace hx799_1 := hcb HB.out hx799_1
    replace hx799_2 := hcb HB.out hx799_2
    replace p799 := eq_true p799
    replace q799 := eq_true q799
    have p800 : 0 ≤ (x7_2 : Int) := oT (by first | (with_reducible assumption) | assumption)
    have q800 : x7_2 < (l0_2.length : Int) := oT (by first | (with_reducible assumption) | assumption)
    obtain ⟨ad800, e800, hx800_0, hx800_1, hx800_2⟩ := at_T64 HR0_2.out x7_2 p800 q800
    obtain rfl : ad799 = ad800 := (by injection e800)
    replace hx800_0 := hcb HB.out hx800_0
    replace hx800_1 := hcb HB.out hx800_1
    replace hx800_2 := hcb HB.out hx800_2
    replace p800 := eq_true p800
    replace q800 := eq_true q800
    go_wp2
    go_meet
    case rel => exact ⟨_, (decide (((rd_T64 l0_2 x7_2).f2) < 0)), (by first | rfl | (simp; done) | (simp [*]; done)), H', ⟨by have := HK1.out; have := HK2.out; first | omega | exact Nat.le_refl _⟩, ⟨rk HO_797001⟩, ⟨bk BK794⟩, ⟨bk BK795⟩, ⟨bk BK796⟩, ⟨bk BK798⟩, ⟨bl4 HB GE794 GE795 GE796 GE798⟩⟩
   clear HC21
   try clear c1
   try clear c2
   try clear p2
   try clear c3
   try clear c4
   try clear c7
   try clear p7
   try clear q7
   try clear hx7
   try clear c8
   try clear p8
   try clear q8
   try clear hx8
   try clear c10
   try clear c10b0
   try clear c11
   try clear c11b0
   try clear c12
   try clear c13
   try clear c16
   try clear c17
   try clear c18
   try clear c20
   try clear c20b0
   try clear c22
   try clear c23
   try clear c24
   try clear c26
   try clear c26b0
   try clear c27
   try clear c27b0
   try clear c27b1
   try clear c28
   try clear c29
   try clear c30
   try clear c32
   try clear c33
   try clear c34
   try clear hcz14_0
   try clear hcz14_1
   try clear hcz14_2
   try clear hcz19_0
   try clear hcz19_1
   try clear hcz19_2
   try clear hcz19_3
   try clear hcz19_4
   try clear hcz25_0
   try clear hcz25_1
   try clear hcz25_2
   try clear hcz31_0
   try clear hcz31_1
   try clear hcz31_2
   try clear hcz35_0
   try clear hcz35_1
   try clear hcz35_2
   try clear hcz5_0
   try clear hcz5_1
   try clear hcz5_2
   try clear hcz9_0
   try clear hcz9_1
   try clear hfz14_0
   try clear hfz14_1
   try clear hfz14_2
   try clear hfz19_0
   try clear hfz19_1
   try clear hfz19_2
   try clear hfz19_3
   try clear hfz19_4
   try clear hfz25_0
   try clear hfz25_1
   try clear hfz25_2
   try clear hfz31_0
   try clear hfz31_1
   try clear hfz31_2
   try clear hfz35_0
   try clear hfz35_1
   try clear hfz35_2
   try clear hfz5_0
   try clear hfz5_1
   try clear hfz5_2
   try clear hfz9_0
   try clear hfz9_1
   try clear hx797_0
   try clear hx797_1
   try clear hx797_2
   try clear hx797_3
   try clear hx797_4
   try clear hx799_0
   try clear hx799_1
   try clear hx799_2
   try clear hx800_0
   try clear hx800_1
   try clear hx800_2
   try clear p2
   try clear p7
   try clear p797
   try clear p799
   try clear p800
   try clear q7
   try clear q797
   try clear q799
   try clear q800
   obtain ⟨kq, x49_20, rfl, HA, HJ20, HO_797001, BK794, BK795, BK796, BK798, HB⟩ := hcut
   cases kq with
   | zero => exact absurd HA.out (by simp [spec_l16Now.j2])
   | succ kj20 =>
    have H := HA.out
    clear HA
    simp only [spec_l16Now.j2] at H
    by_cases c36 : x49_20 = true
    ·subst c36
     rw [if_pos rfl] at H
     have H' := Aside0.mk H
     clear H
     go_wp2
     go_roundg kj20
     case measure => have := HK1.out; have := HK2.out; have := HJ20.out; omega
     case rel => exact ⟨(true), (wrap64 (x7_2 + 1)), (x799002_2), (by first | rfl | (simp; done) | (simp [*]; done)), (by first | rfl | (simp; done) | (simp [*]; done)), H', ⟨by have := HK1.out; have := HK2.out; have := HJ20.out; omega⟩, ⟨rk HO_797001⟩, ⟨bk BK794⟩, ⟨bk BK795⟩, ⟨bk BK796⟩, ⟨bk BK798⟩, ⟨bl4 HB GE794 GE795 GE796 GE798⟩⟩
    replace c36 := Bool.eq_false_iff.mpr c36
    subst c36
    rw [if_neg (show ¬ (false = true) by decide)] at H
    by_cases c37 : 0 ≤ x7_2
    rotate_left
    ·rw [if_neg c37] at H
     exact absurd H (by simp)
    rw [if_pos c37] at H
    have c37b0 : decide (0 ≤ x7_2) = true := decide_eq_true c37
    clear c37
    by_cases c38 : x7_2 < (l0_2.length : Int)
    rotate_left
    ·rw [if_neg c38] at H
     exact absurd H (by simp)
    rw [if_pos c38] at H
    have c38b0 : decide (x7_2 < (l0_2.length : Int)) = true := decide_eq_true c38
    clear c38
    by_cases c39 : ((rd_T64 l0_2 x7_2).f1) = x4_1
    rotate_left
    ·rw [if_neg c39] at H
     have c39b0 : (((rd_T64 l0_2 x7_2).f1) == x4_1) = false := beq_eq_false_iff_ne.mpr c39
     have c39b1 : (((rd_T64 l0_2 x7_2).f1) != x4_1) = true := bne_iff_ne.mpr c39
     have H' := Aside0.mk H
     clear H
     have hnb46 := NB794_795.out
     have hnc46 := NB795_794.out
     have hnb47 := NB794_796.out
     have hnc47 := NB796_794.out
     have hnb48 := NB794_798.out
     have hnc48 := NB798_794.out
     have hcz49_0 := bc wc BK794 0 (.int .i64 a0_0) rfl
     have hcz49_1 := bc wc BK794 1 (.slice (some ad797) l0_1.length c0_1) rfl
     have hcz49_2 := bc wc BK794 2 (.slice A0_2 l0_2.length c0_2) rfl
     have hfz49_0 := fz BK794 0
     have hfz49_1 := fz BK794 1
     have hfz49_2 := fz BK794 2
     have p801 : 0 ≤ (x7_2 : Int) := oT (by first | (with_reducible assumption) | assumption)
     have q801 : x7_2 < (l0_2.length : Int) := oT (by first | (with_reducible assumption) | assumption)
     obtain ⟨ad801, e801, hx801_0, hx801_1, hx801_2⟩ := at_T64 HR0_2.out x7_2 p801 q801
     cases e801
     replace hx801_0 := hcb HB.out hx801_0
     replace hx801_1 := hcb HB.out hx801_1
     replace hx801_2 := hcb HB.out hx801_2
     replace p801 := eq_true p801
     replace q801 := eq_true q801
     go_wp2
     go_roundg kj20
     case measure => have := HK1.out; have := HK2.out; have := HJ20.out; omega
     case rel => exact ⟨(x6_2), (wrap64 (x7_2 + 1)), (x799002_2), (by first | rfl | (simp; done) | (simp [*]; done)), (by first | rfl | (simp; done) | (simp [*]; done)), H', ⟨by have := HK1.out; have := HK2.out; have := HJ20.out; omega⟩, ⟨rk HO_797001⟩, ⟨bk BK794⟩, ⟨bk BK795⟩, ⟨bk BK796⟩, ⟨bk BK798⟩, ⟨bl4 HB GE794 GE795 GE796 GE798⟩⟩
    rw [if_pos c39] at H
    have c39b0 : (((rd_T64 l0_2 x7_2).f1) == x4_1) = true := beq_iff_eq.mpr c39
    have c39b1 : (((rd_T64 l0_2 x7_2).f1) != x4_1) = false := bne_eq_false_iff_eq.mpr c39
    clear c39
    have H' := Aside0.mk H
    clear H
    have hnb40 := NB794_795.out
    have hnc40 := NB795_794.out
    have hnb41 := NB794_796.out
    have hnc41 := NB796_794.out
    have hnb42 := NB794_798.out
    have hnc42 := NB798_794.out
    have hcz43_0 := bc wc BK794 0 (.int .i64 a0_0) rfl
    have hcz43_1 := bc wc BK794 1 (.slice (some ad797) l0_1.length c0_1) rfl
    have hcz43_2 := bc wc BK794 2 (.slice A0_2 l0_2.length c0_2) rfl
    have hfz43_0 := fz BK794 0
    have hfz43_1 := fz BK794 1
    have hfz43_2 := fz BK794 2
    have p801 : 0 ≤ (x7_2 : Int) := oT (by first | (with_reducible assumption) | assumption)
    have q801 : x7_2 < (l0_2.length : Int) := oT (by first | (with_reducible assumption) | assumption)
    obtain ⟨ad801, e801, hx801_0, hx801_1, hx801_2⟩ := at_T64 HR0_2.out x7_2 p801 q801
    cases e801
    replace hx801_0 := hcb HB.out hx801_0
    replace hx801_1 := hcb HB.out hx801_1
    replace hx801_2 := hcb HB.out hx801_2
    replace p801 := eq_true p801
    replace q801 := eq_true q801
    try go_wp2
    replace HO_797001 := Aside0.mk (Kd.R_drew HO_797001.out)
    replace BK794 := Aside0.mk (blk_drew BK794.out)
    replace BK795 := Aside0.mk (blk_drew BK795.out)
    replace BK796 := Aside0.mk (blk_drew BK796.out)
    replace BK798 := Aside0.mk (blk_drew BK798.out)
    replace HB := Aside0.mk (below_drew1 HB.out)
    have p802 : 0 ≤ (x7_2 : Int) := oT (by first | (with_reducible assumption) | assumption)
    have q802 : x7_2 < (l0_2.length : Int) := oT (by first | (with_reducible assumption) | assumption)
    obtain ⟨ad802, e802, hx802_0, hx802_1, hx802_2⟩ := at_T64 HR0_2.out x7_2 p802 q802
    have hw802_2 := hx802_2
    have hw802_1 := hx802_1
    have hw802_0 := hx802_0
    obtain rfl : ad801 = ad802 := (by injection e802)
    replace hx802_0 := hcb HB.out hx802_0
    replace hx802_1 := hcb HB.out hx802_1
    replace hx802_2 := hcb HB.out hx802_2
    replace p802 := eq_true p802
    replace q802 := eq_true q802
    refine start_ (n := 11) (S := fun w' => w'.cell? ⟨gb798, 0, none⟩ = some (.int .i64 ((rd_T31 l0_1 x4_1).f0)) ∧ w'.cell? ⟨gb798, 1, none⟩ = some (.int .i64 ((rd_T31 l0_1 x4_1).f1)) ∧ w'.cell? ⟨gb798, 2, none⟩ = some (.int .i64 x799002_2) ∧ w'.cell? ⟨gb798, 3, none⟩ = some (.int .i64 ((rd_T31 l0_1 x4_1).f3)) ∧ w'.cell? ⟨gb798, 4, none⟩ = some (.int .i64 ((rd_T31 l0_1 x4_1).f4)) ∧ w'.cell? ⟨gb794, 0, none⟩ = some (.int .i64 a0_0) ∧ w'.cell? ⟨gb794, 1, none⟩ = some (.slice (some ad797) l0_1.length c0_1) ∧ w'.cell? ⟨gb794, 2, none⟩ = some (.slice (some ad801) l0_2.length c0_2) ∧ w'.cell? (ad801.add ((x7_2).toNat * 3)) = some (.int .i64 ((rd_T64 l0_2 x7_2).f0)) ∧ w'.cell? ⟨(ad801.add ((x7_2).toNat * 3)).block, (ad801.add ((x7_2).toNat * 3)).off + 1, none⟩ = some (.int .i64 ((rd_T64 l0_2 x7_2).f1)) ∧ w'.cell? ⟨(ad801.add ((x7_2).toNat * 3)).block, (ad801.add ((x7_2).toNat * 3)).off + 2, none⟩ = some (.int .i64 ((rd_T64 l0_2 x7_2).f2))) (ds := [10]) (ms 11 0) (by kernel_rfl) rfl (by kernel_rfl) ⟨(blk_cell BK798.out 0).trans rfl, (blk_cell BK798.out 1).trans rfl, (blk_cell BK798.out 2).trans rfl, (blk_cell BK798.out 3).trans rfl, (blk_cell BK798.out 4).trans rfl, (blk_cell BK794.out 0).trans rfl, (blk_cell BK794.out 1).trans rfl, (blk_cell BK794.out 2).trans rfl, ((HB.out.cell (World.block_lt_of_cell? w _ hw802_0)).trans hw802_0), ((HB.out.cell (World.block_lt_of_cell? w _ hw802_1)).trans hw802_1), ((HB.out.cell (World.block_lt_of_cell? w _ hw802_2)).trans hw802_2)⟩ (fun hHeld => ?_); refine with_tabW spec_l16Now.tab13 spec_l16Now.bits13 (fun HT_ HW_ => ?_)
    generalize wc.drew = w44 at HO_797001 BK794 BK795 BK796 BK798 HB hx802_0 hx802_1 hx802_2 hHeld ⊢
    refine pu 0 58 ?_ (ms 11 1) rfl rfl HT_ (by kernel_rfl) (fun _ _ _ h => h) (by rfl) ?_ ?_ ?_ ?_
    rotate_left
    ·intro w'
     go_simp
     with_reducible rfl
    rotate_left
    ·simp only [SX]
     rfl
    refine pu 2 60 ?_ (ms 11 5) rfl rfl HT_ (by kernel_rfl) (fun _ _ _ h => h) (by rfl) ?_ ?_ ?_ ?_
    rotate_left
    ·intro w'
     go_simp
     with_reducible rfl
    rotate_left
    ·simp only [SX]
     rfl
    refine pu 4 62 ?_ (ms 11 21) rfl rfl HT_ (by kernel_rfl) (fun _ _ _ h => h) (by rfl) ?_ ?_ ?_ ?_
    rotate_left
    ·intro w'
     go_simp
     with_reducible rfl
    rotate_left
    ·simp only [SX]
     rfl
    refine tk 1 59 ?_ (ms 11 23) rfl rfl HT_ HW_ (by kernel_rfl) (fun _ _ _ h => h) (by rfl) ?_ hHeld ?_ ?_ ?_
    rotate_left
    ·rintro w' ⟨s0, s1, s2, s3, s4, s5, s6, s7, s8, s9, s10⟩
     go_simp
     with_reducible rfl
    rotate_left
    ·simp only [SX]
     rfl
    refine tk 3 61 ?_ (ms 11 31) rfl rfl HT_ HW_ (by kernel_rfl) (fun _ _ _ h => h) (by rfl) ?_ hHeld ?_ ?_ ?_
    rotate_left
    ·rintro w' ⟨s0, s1, s2, s3, s4, s5, s6, s7, s8, s9, s10⟩
     go_simp
     with_reducible rfl
    rotate_left
    ·simp only [SX]
     rfl
    refine pu 5 63 ?_ (ms 11 63) rfl rfl HT_ (by kernel_rfl) (fun _ _ _ h => h) (by rfl) ?_ ?_ ?_ ?_
    rotate_left
    ·intro w'
     go_simp
     with_reducible rfl
    rotate_left
    ·simp only [SX]
     rfl
    refine pu 6 64 ?_ (ms 11 127) rfl rfl HT_ (by kernel_rfl) (fun _ _ _ h => h) (by rfl) ?_ ?_ ?_ ?_
    rotate_left
    ·intro w'
     go_simp
     with_reducible rfl
    rotate_left
    ·simp only [SX]
     rfl
    refine tk 7 65 ?_ (ms 11 255) rfl rfl HT_ HW_ (by kernel_rfl) (fun _ _ _ h => h) (by rfl) ?_ hHeld ?_ ?_ ?_
    rotate_left
    ·rintro w' ⟨s0, s1, s2, s3, s4, s5, s6, s7, s8, s9, s10⟩
     go_simp
     with_reducible rfl
    rotate_left
    ·simp only [SX]
     rfl
    refine pu 8 66 ?_ (ms 11 511) rfl rfl HT_ (by kernel_rfl) (fun _ _ _ h => h) (by rfl) ?_ ?_ ?_ ?_
    rotate_left
    ·intro w'
     go_simp
     with_reducible rfl
    rotate_left
    ·simp only [SX]
     rfl
    refine pu 9 67 ?_ (ms 11 1023) rfl rfl HT_ (by kernel_rfl) (fun _ _ _ h => h) (by rfl) ?_ ?_ ?_ ?_
    rotate_left
    ·intro w'
     go_simp
     with_reducible rfl
    rotate_left
    ·simp only [SX]
     rfl
    refine last_ (i := 10) (N := none) (ms 11 2047) rfl rfl (one_of HT_.out (by kernel_rfl)) (by decide) (fun K hK => ?_)
    have hs45 : w44.cell? ⟨gb798, 2, none⟩ = some (.int .i64 x799002_2) := (blk_cell BK798.out 2).trans rfl
    have hfs45 := blk_frozen BK798.out 2
    have hns45_0 := NB794_798.out
    have hns45_1 := NB795_798.out
    have hns45_2 := NB796_798.out
    have hms45_0 := NB798_794.out
    have hms45_1 := NB798_795.out
    have hms45_2 := NB798_796.out
    refine skip_ (w1 := ?_) (by rfl) rfl ?_ ?_
    rotate_left
    ·go_simp
     rfl
    refine hK.out _ _ ?_
    clear hK K
    refine done_ (done_of HT_.out (by kernel_rfl)) ?_
    try go_wp2
    go_roundg kj20
    case measure => have := HK1.out; have := HK2.out; have := HJ20.out; omega
    case rel => exact ⟨(x6_2), (wrap64 (x7_2 + 1)), (wrap64 (x799002_2 + ((rd_T64 l0_2 x7_2).f2))), (by first | rfl | (simp; done) | (simp [*]; done)), (by first | rfl | (simp; done) | (simp [*]; done)), H', ⟨by have := HK1.out; have := HK2.out; have := HJ20.out; omega⟩, ⟨by (with_reducible repeat (first | apply Kd.R_alloc | apply Kd.R_drewN | apply Kd.R_drew)); exact Kd.R_mono (Kd.R_far (p := ⟨gb798, 2, none⟩) (Kd.R_mono HO_797001.out (fun k_ hk => (⟨hk, hk⟩ : _ ∧ k_ ≠ gb798))) (fun _ hk => hk.2) (.int .i64 (wrap64 (x799002_2 + ((rd_T64 l0_2 x7_2).f2))))) (fun _ hk => hk.1)⟩, ⟨by (with_reducible repeat (first | refine blk_drewN ?_ _ | refine blk_drew ?_ | refine blk_alloc ?_ _)); refine blk_far ?_ NB794_798.out _; (with_reducible repeat (first | refine blk_drewN ?_ _ | refine blk_drew ?_ | refine blk_alloc ?_ _)); exact BK794.out⟩, ⟨by (with_reducible repeat (first | refine blk_drewN ?_ _ | refine blk_drew ?_ | refine blk_alloc ?_ _)); refine blk_far ?_ NB795_798.out _; (with_reducible repeat (first | refine blk_drewN ?_ _ | refine blk_drew ?_ | refine blk_alloc ?_ _)); exact BK795.out⟩, ⟨by (with_reducible repeat (first | refine blk_drewN ?_ _ | refine blk_drew ?_ | refine blk_alloc ?_ _)); refine blk_far ?_ NB796_798.out _; (with_reducible repeat (first | refine blk_drewN ?_ _ | refine blk_drew ?_ | refine blk_alloc ?_ _)); exact BK796.out⟩, ⟨by (with_reducible repeat (first | refine blk_drewN ?_ _ | refine blk_drew ?_ | refine blk_alloc ?_ _)); refine blk_put (cs := #[.int .i64 ((rd_T31 l0_1 x4_1).f0), .int .i64 ((rd_T31 l0_1 x4_1).f1), .int .i64 x799002_2, .int .i64 ((rd_T31 l0_1 x4_1).f3), .int .i64 ((rd_T31 l0_1 x4_1).f4)]) ?_ 2 _ rfl; (with_reducible repeat (first | refine blk_drewN ?_ _ | refine blk_drew ?_ | refine blk_alloc ?_ _)); exact BK798.out⟩, ⟨bl4 HB GE794 GE795 GE796 GE798⟩⟩

end Go.Proofs.Ythgihpbpebbebaa.F
