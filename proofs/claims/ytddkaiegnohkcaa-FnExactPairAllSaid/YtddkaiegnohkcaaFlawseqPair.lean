-- Printed by wip/px/px.py of this claim's repository (the kit's printer, extended there). Lean checks it.
import Derived.Test.YtddkaiegnohkcaaFKinds
namespace Go.Proofs.Ytddkaiegnohkcaa.F
open Go.RowKit Go.Proofs.YtddkaiegnohkcaaW.PrintWords Go.Proofs.YtddkaiegnohkcaaW.PrintLast Go.Proofs.YtddkaiegnohkcaaW.PrintMore
attribute [local go_sem] max2_int min2_int max_two min_two max_three min_three max_four min_four   -- for this text's walks alone
set_option linter.unusedVariables false
set_option linter.unusedSimpArgs false

/-! ### laws_eqPair: function 52 -/
def laws_eqPair.f (a0_0 : Int) (a0_1 : Int) (a1_0 : Int) (a1_1 : Int) : Option (Bool) := if a0_0 = a1_0 then (if a0_1 = a1_1 then (some true) else (some false)) else (some false)
set_option maxHeartbeats 8000000 in
set_option maxRecDepth 100000 in
theorem laws_eqPair.calls (a0_0 : Int) (a0_1 : Int) (a1_0 : Int) (a1_1 : Int) (r : Bool) (w : World) (h : laws_eqPair.f a0_0 a0_1 a1_0 a1_1 = some r) :
  Calls Try.prog 52 #[.agg #[.int .i64 a0_0, .int .i64 a0_1], .agg #[.int .i64 a1_0, .int .i64 a1_1]] w fun e w' => e = .returned (.bool r) ∧ Below w.heap.size w w' := by
 have hu35 := Try.underlying35
 have HB := ak (Below.refl w.heap.size w)
 have H : (if a0_0 = a1_0 then (if a0_1 = a1_1 then (some true) else (some false)) else (some false)) = some r := h
 clear h
 by_cases c3 : a0_0 = a1_0
 rotate_left
 ·rw [if_neg c3] at H
  have c3b0 : (a0_0 == a1_0) = false := beq_eq_false_iff_ne.mpr c3
  have c3b1 : (a0_0 != a1_0) = true := bne_iff_ne.mpr c3
  obtain rfl := Option.some.inj H
  go_enter Try.func52, Try.ntmps52
  go_wp2_with (first | ((with_reducible refine gate_dst (N := 2) rfl ?_); refine box_event ?hg (N := 2) ?hd (cs := #[.int .i64 a0_0, .int .i64 a0_1]) (t := 35) ?hr ?_; (case hd => rfl); (case hg => rfl); (case hr => (go_simp; done)); intro gb433 hg w15 hbox hb; have BK433 := ak (hbox); have GW433 := ak ((by rw [hg]; exact (below_size (bl HB)) : w.heap.size ≤ gb433)); have GE433 := ak ((by rw [hg]; exact (below_size (bl HB)) : w.heap.size ≤ gb433)); replace HB := ak (below_step (bl HB) hb); clear hb hbox hg) | ((with_reducible refine gate_dst (N := 3) rfl ?_); refine box_event ?hg (N := 3) ?hd (cs := #[.int .i64 a1_0, .int .i64 a1_1]) (t := 35) ?hr ?_; (case hd => rfl); (case hg => rfl); (case hr => (go_simp; done)); intro gb434 hg w16 hbox hb; have BK434 := ak (hbox); have GW434 := ak ((by rw [hg]; exact (below_size (bl1 HB GE433)) : w.heap.size ≤ gb434)); have GE434 := ak ((by rw [hg]; exact (below_size (bl1 HB GE433)) : w.heap.size ≤ gb434)); replace HB := ak (below_step (bl1 HB GE433) hb); have NB433_434 := ak ((by rw [hg]; exact Nat.ne_of_lt (blk_lt (bk BK433)) : gb433 ≠ gb434)); have NB434_433 := ak ((by rw [hg]; exact Nat.ne_of_gt (blk_lt (bk BK433)) : gb434 ≠ gb433)); replace BK433 := ak (blk_below (bk BK433) hb); clear hb hbox hg; have hnb17 := NB433_434.out; have hnc17 := NB434_433.out; have hcz18_0 := bc w16 BK433 0 (.int .i64 a0_0) rfl; have hcz18_1 := bc w16 BK433 1 (.int .i64 a0_1) rfl; have hfz18_0 := fz BK433 0; have hfz18_1 := fz BK433 1; have hcz19_0 := bc w16 BK434 0 (.int .i64 a1_0) rfl; have hcz19_1 := bc w16 BK434 1 (.int .i64 a1_1) rfl; have hfz19_0 := fz BK434 0; have hfz19_1 := fz BK434 1))
  go_ret
  exact ⟨by rfl, bl2 HB GE433 GE434⟩
 rw [if_pos c3] at H
 have c3b0 : (a0_0 == a1_0) = true := beq_iff_eq.mpr c3
 have c3b1 : (a0_0 != a1_0) = false := bne_eq_false_iff_eq.mpr c3
 clear c3
 by_cases c4 : a0_1 = a1_1
 ·rw [if_pos c4] at H
  have c4b0 : (a0_1 == a1_1) = true := beq_iff_eq.mpr c4
  have c4b1 : (a0_1 != a1_1) = false := bne_eq_false_iff_eq.mpr c4
  clear c4
  obtain rfl := Option.some.inj H
  go_enter Try.func52, Try.ntmps52
  go_wp2_with (first | ((with_reducible refine gate_dst (N := 2) rfl ?_); refine box_event ?hg (N := 2) ?hd (cs := #[.int .i64 a0_0, .int .i64 a0_1]) (t := 35) ?hr ?_; (case hd => rfl); (case hg => rfl); (case hr => (go_simp; done)); intro gb433 hg w5 hbox hb; have BK433 := ak (hbox); have GW433 := ak ((by rw [hg]; exact (below_size (bl HB)) : w.heap.size ≤ gb433)); have GE433 := ak ((by rw [hg]; exact (below_size (bl HB)) : w.heap.size ≤ gb433)); replace HB := ak (below_step (bl HB) hb); clear hb hbox hg) | ((with_reducible refine gate_dst (N := 3) rfl ?_); refine box_event ?hg (N := 3) ?hd (cs := #[.int .i64 a1_0, .int .i64 a1_1]) (t := 35) ?hr ?_; (case hd => rfl); (case hg => rfl); (case hr => (go_simp; done)); intro gb434 hg w6 hbox hb; have BK434 := ak (hbox); have GW434 := ak ((by rw [hg]; exact (below_size (bl1 HB GE433)) : w.heap.size ≤ gb434)); have GE434 := ak ((by rw [hg]; exact (below_size (bl1 HB GE433)) : w.heap.size ≤ gb434)); replace HB := ak (below_step (bl1 HB GE433) hb); have NB433_434 := ak ((by rw [hg]; exact Nat.ne_of_lt (blk_lt (bk BK433)) : gb433 ≠ gb434)); have NB434_433 := ak ((by rw [hg]; exact Nat.ne_of_gt (blk_lt (bk BK433)) : gb434 ≠ gb433)); replace BK433 := ak (blk_below (bk BK433) hb); clear hb hbox hg; have hnb7 := NB433_434.out; have hnc7 := NB434_433.out; have hcz8_0 := bc w6 BK433 0 (.int .i64 a0_0) rfl; have hcz8_1 := bc w6 BK433 1 (.int .i64 a0_1) rfl; have hfz8_0 := fz BK433 0; have hfz8_1 := fz BK433 1; have hcz9_0 := bc w6 BK434 0 (.int .i64 a1_0) rfl; have hcz9_1 := bc w6 BK434 1 (.int .i64 a1_1) rfl; have hfz9_0 := fz BK434 0; have hfz9_1 := fz BK434 1))
  go_ret
  exact ⟨by rfl, bl2 HB GE433 GE434⟩
 rw [if_neg c4] at H
 have c4b0 : (a0_1 == a1_1) = false := beq_eq_false_iff_ne.mpr c4
 have c4b1 : (a0_1 != a1_1) = true := bne_iff_ne.mpr c4
 obtain rfl := Option.some.inj H
 go_enter Try.func52, Try.ntmps52
 go_wp2_with (first | ((with_reducible refine gate_dst (N := 2) rfl ?_); refine box_event ?hg (N := 2) ?hd (cs := #[.int .i64 a0_0, .int .i64 a0_1]) (t := 35) ?hr ?_; (case hd => rfl); (case hg => rfl); (case hr => (go_simp; done)); intro gb433 hg w10 hbox hb; have BK433 := ak (hbox); have GW433 := ak ((by rw [hg]; exact (below_size (bl HB)) : w.heap.size ≤ gb433)); have GE433 := ak ((by rw [hg]; exact (below_size (bl HB)) : w.heap.size ≤ gb433)); replace HB := ak (below_step (bl HB) hb); clear hb hbox hg) | ((with_reducible refine gate_dst (N := 3) rfl ?_); refine box_event ?hg (N := 3) ?hd (cs := #[.int .i64 a1_0, .int .i64 a1_1]) (t := 35) ?hr ?_; (case hd => rfl); (case hg => rfl); (case hr => (go_simp; done)); intro gb434 hg w11 hbox hb; have BK434 := ak (hbox); have GW434 := ak ((by rw [hg]; exact (below_size (bl1 HB GE433)) : w.heap.size ≤ gb434)); have GE434 := ak ((by rw [hg]; exact (below_size (bl1 HB GE433)) : w.heap.size ≤ gb434)); replace HB := ak (below_step (bl1 HB GE433) hb); have NB433_434 := ak ((by rw [hg]; exact Nat.ne_of_lt (blk_lt (bk BK433)) : gb433 ≠ gb434)); have NB434_433 := ak ((by rw [hg]; exact Nat.ne_of_gt (blk_lt (bk BK433)) : gb434 ≠ gb433)); replace BK433 := ak (blk_below (bk BK433) hb); clear hb hbox hg; have hnb12 := NB433_434.out; have hnc12 := NB434_433.out; have hcz13_0 := bc w11 BK433 0 (.int .i64 a0_0) rfl; have hcz13_1 := bc w11 BK433 1 (.int .i64 a0_1) rfl; have hfz13_0 := fz BK433 0; have hfz13_1 := fz BK433 1; have hcz14_0 := bc w11 BK434 0 (.int .i64 a1_0) rfl; have hcz14_1 := bc w11 BK434 1 (.int .i64 a1_1) rfl; have hfz14_0 := fz BK434 0; have hfz14_1 := fz BK434 1))
 go_ret
 exact ⟨by rfl, bl2 HB GE433 GE434⟩

end Go.Proofs.Ytddkaiegnohkcaa.F
