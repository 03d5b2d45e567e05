-- Printed by wip/px/px.py of this claim's repository (the kit's printer, extended there). Lean checks it.
import Derived.Test.YtgickejeakmenaaFKinds
import Derived.Test.YtgickejeakmenaaFimplnodesIn
namespace Go.Proofs.Ytgickejeakmenaa.F
open Go.RowKit Go.Proofs.YtgickejeakmenaaW.PrintWords Go.Proofs.YtgickejeakmenaaW.PrintLast Go.Proofs.YtgickejeakmenaaW.PrintMore
attribute [local go_sem] max2_int min2_int max_two min_two max_three min_three max_four min_four   -- for this text's walks alone
set_option linter.unusedVariables false
set_option linter.unusedSimpArgs false

/-! ### impl_listOk: function 82 -/
def impl_listOk.f (a0_0 : Int) (l0_1 : List (S41)) (l1 : List Int) : Option (Bool) := if (l1.length : Int) ≤ 8 then ((impl_nodesIn.f a0_0 l0_1 l1).bind fun t957 => (some t957)) else (some false)
set_option maxHeartbeats 8000000 in
set_option maxRecDepth 100000 in
theorem impl_listOk.calls (a0_0 : Int) (A0_1 : Option Addr) (c0_1 : Nat) (l0_1 : List (S41)) (A1 : Option Addr) (c1 : Nat) (l1 : List Int) (r : Bool) (w : World) (hr0_1 : Kd.C k41 w A0_1 l0_1.length l0_1) (hc0_1 : l0_1.length ≤ c0_1) (hr1 : Kd.C (Kd.int .i64) w A1 l1.length l1) (hc1 : l1.length ≤ c1) (h : impl_listOk.f a0_0 l0_1 l1 = some r) :
  Calls Try.prog 82 #[.agg #[.int .i64 a0_0, .slice A0_1 l0_1.length c0_1], .slice A1 l1.length c1] w fun e w' => e = .returned (.bool r) ∧ Below w.heap.size w w' := by
 have hu25 := Try.underlying25
 have HR0_1 := ak hr0_1
 have HC0_1 := ak hc0_1
 clear hr0_1 hc0_1
 have HR1 := ak hr1
 have HC1 := ak hc1
 clear hr1 hc1
 have HB := ak (Below.refl w.heap.size w)
 have H : (if (l1.length : Int) ≤ 8 then ((impl_nodesIn.f a0_0 l0_1 l1).bind fun t957 => (some t957)) else (some false)) = some r := h
 clear h
 by_cases c3 : (l1.length : Int) ≤ 8
 rotate_left
 ·rw [if_neg c3] at H
  have c3b0 : decide ((l1.length : Int) ≤ 8) = false := decide_eq_false c3
  have c3b1 : decide (l1.length ≤ 8) = false := decide_eq_false (by omega)
  clear c3
  obtain rfl := Option.some.inj H
  go_enter Try.func82, Try.ntmps82
  go_wp2_with (first | ((with_reducible refine gate_dst (N := 2) rfl ?_); refine box_event ?hg (N := 2) ?hd (cs := #[.int .i64 a0_0, .slice A0_1 l0_1.length c0_1]) (t := 25) ?hr ?_; (case hd => rfl); (case hg => rfl); (case hr => first | (go_simp; done) | (go_simp; rfl)); intro gb956 hg w8 hbox hb; have BK956 := ak (hbox); have GW956 := ak ((by rw [hg]; exact (below_size (bl HB)) : w.heap.size ≤ gb956)); have GE956 := ak ((by rw [hg]; exact (below_size (bl HB)) : w.heap.size ≤ gb956)); replace HB := ak (below_step (bl HB) hb); clear hb hbox hg))
  go_ret
  exact ⟨by first | rfl | (simp [errW_none, errW_some] <;> rfl) | (simp [*, errW_none, errW_some] <;> rfl), bl1 HB GE956⟩
 rw [if_pos c3] at H
 have c3b0 : decide ((l1.length : Int) ≤ 8) = true := decide_eq_true c3
 have c3b1 : decide (l1.length ≤ 8) = true := decide_eq_true (by omega)
 clear c3
 replace H := Option.bind_eq_some_iff.mp H
 obtain ⟨t957, A40, H⟩ := H
 have A4 := ak A40
 clear A40
 obtain rfl := Option.some.inj H
 go_enter Try.func82, Try.ntmps82
 go_wp2_with (first | ((with_reducible refine gate_dst (N := 2) rfl ?_); refine box_event ?hg (N := 2) ?hd (cs := #[.int .i64 a0_0, .slice A0_1 l0_1.length c0_1]) (t := 25) ?hr ?_; (case hd => rfl); (case hg => rfl); (case hr => first | (go_simp; done) | (go_simp; rfl)); intro gb956 hg w5 hbox hb; have BK956 := ak (hbox); have GW956 := ak ((by rw [hg]; exact (below_size (bl HB)) : w.heap.size ≤ gb956)); have GE956 := ak ((by rw [hg]; exact (below_size (bl HB)) : w.heap.size ≤ gb956)); replace HB := ak (below_step (bl HB) hb); clear hb hbox hg; have hcz6_0 := bc w5 BK956 0 (.int .i64 a0_0) rfl; have hcz6_1 := bc w5 BK956 1 (.slice A0_1 l0_1.length c0_1) rfl; have hfz6_0 := fz BK956 0; have hfz6_1 := fz BK956 1) | (go_at_call 58; (with_reducible refine (impl_nodesIn.calls a0_0 _ _ l0_1 _ _ l1 t957 _ ?side1 ?side2 ?side3 ?side4 A4.out).mono ?_); (case side1 => repeat (first | exact (Kd.C_below HR0_1.out HB.out) | (with_reducible refine Kd.C_alloc ?_ _) | (with_reducible refine Kd.C_drewN ?_ _) | (with_reducible refine Kd.C_drew ?_))); (case side2 => exact HC0_1.out); (case side3 => repeat (first | exact (Kd.C_below HR1.out HB.out) | (with_reducible refine Kd.C_alloc ?_ _) | (with_reducible refine Kd.C_drewN ?_ _) | (with_reducible refine Kd.C_drew ?_))); (case side4 => exact HC1.out); rintro e w7 ⟨rfl, hb⟩; have n0_ := ak (blk_below (bk BK956) hb); have n1_ := ak (below_step (bl1 HB GE956) hb); clear BK956; clear HB; have BK956 := n0_; have HB := n1_; clear n0_ n1_; (try clear hb); (try clear hb2); (try clear hk); (try clear hi)))
 go_ret
 exact ⟨by first | rfl | (simp [errW_none, errW_some] <;> rfl) | (simp [*, errW_none, errW_some] <;> rfl), bl1 HB GE956⟩

end Go.Proofs.Ytgickejeakmenaa.F
