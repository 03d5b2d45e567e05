-- Printed by wip/px/px.py of this claim's repository (the kit's printer, extended there). Lean checks it.
import Derived.Test.YtgickejeakmenaaFKinds
import Derived.Test.YtgickejeakmenaaFspecl1Ok
import Derived.Test.YtgickejeakmenaaFspecl15Ok
import Derived.Test.YtgickejeakmenaaFspecl11Any
import Derived.Test.YtgickejeakmenaaFspecl15Cost
namespace Go.Proofs.Ytgickejeakmenaa.F
open Go.RowKit Go.Proofs.YtgickejeakmenaaW.PrintWords Go.Proofs.YtgickejeakmenaaW.PrintLast Go.Proofs.YtgickejeakmenaaW.PrintMore
attribute [local go_sem] max2_int min2_int max_two min_two max_three min_three max_four min_four   -- for this text's walks alone
set_option linter.unusedVariables false
set_option linter.unusedSimpArgs false

/-! ### spec_SeenCost: function 41 -/
def spec_SeenCost.f (k : Nat) (a0_0 : Int) (l0_1 : List (S41)) (l1 : List (List Int)) (l2 : List Int) : Option (Int) := (spec_l1Ok.f k a0_0 l0_1).bind fun t499 => (if t499 = true then ((spec_l15Ok.f k a0_0 l0_1 l1).bind fun t500 => (if t500 = true then (if (l2.length : Int) = (l1.length : Int) then ((spec_l11Any.f k a0_0 l0_1 l2).bind fun t501 => (if t501 = true then ((spec_l15Cost.f k a0_0 l0_1 l1 l2).bind fun t502 => (some t502)) else (some (-1)))) else (some (-1))) else (some (-1)))) else (some (-1)))
theorem spec_SeenCost.mono : ∀ a0 a1 a2 a3 k, LeO (spec_SeenCost.f k a0 a1 a2 a3) (spec_SeenCost.f (k + 1) a0 a1 a2 a3) := by
 intro a0 a1 a2 a3 k
 unfold spec_SeenCost.f
 repeat' first
   | (with_reducible exact spec_l11Any.mono _ _ _ _)
   | (with_reducible exact spec_l15Cost.mono _ _ _ _ _)
   | (with_reducible exact spec_l15Ok.mono _ _ _ _)
   | (with_reducible exact spec_l1Ok.mono _ _ _)
   | (with_reducible exact LeO.refl _)
   | (with_reducible exact LeO.none _)
   | (with_reducible refine LeO.ite ?_ ?_)
   | (with_reducible refine LeO.bind ?_ (fun _ => ?_))
   | exact spec_l11Any.mono _ _ _ _
   | exact spec_l15Cost.mono _ _ _ _ _
   | exact spec_l15Ok.mono _ _ _ _
   | exact spec_l1Ok.mono _ _ _
   | exact LeO.none _
   | refine LeO.ite ?_ ?_
   | refine LeO.bind ?_ (fun _ => ?_)
set_option maxHeartbeats 8000000 in
set_option maxRecDepth 100000 in
theorem spec_SeenCost.calls (k : Nat) (a0_0 : Int) (A0_1 : Option Addr) (c0_1 : Nat) (l0_1 : List (S41)) (A1 : Option Addr) (c1 : Nat) (l1 : List (List Int)) (A2 : Option Addr) (c2 : Nat) (l2 : List Int) (r : Int) (w : World) (hr0_1 : Kd.C k41 w A0_1 l0_1.length l0_1) (hc0_1 : l0_1.length ≤ c0_1) (hr1 : Kd.C (Kd.slice 3 (Kd.int .i64)) w A1 l1.length l1) (hc1 : l1.length ≤ c1) (hr2 : Kd.C (Kd.int .i64) w A2 l2.length l2) (hc2 : l2.length ≤ c2) (h : spec_SeenCost.f k a0_0 l0_1 l1 l2 = some r) :
  Calls Try.prog 41 #[.agg #[.int .i64 a0_0, .slice A0_1 l0_1.length c0_1], .slice A1 l1.length c1, .slice A2 l2.length c2] w fun e w' => e = .returned (.int .i64 r) ∧ Below w.heap.size w w' := by
 have hu25 := Try.underlying25
 have HR0_1 := ak hr0_1
 have HC0_1 := ak hc0_1
 clear hr0_1 hc0_1
 have HR1 := ak hr1
 have HC1 := ak hc1
 clear hr1 hc1
 have HR2 := ak hr2
 have HC2 := ak hc2
 clear hr2 hc2
 have HB := ak (Below.refl w.heap.size w)
 have H : ((spec_l1Ok.f k a0_0 l0_1).bind fun t499 => (if t499 = true then ((spec_l15Ok.f k a0_0 l0_1 l1).bind fun t500 => (if t500 = true then (if (l2.length : Int) = (l1.length : Int) then ((spec_l11Any.f k a0_0 l0_1 l2).bind fun t501 => (if t501 = true then ((spec_l15Cost.f k a0_0 l0_1 l1 l2).bind fun t502 => (some t502)) else (some (-1)))) else (some (-1))) else (some (-1)))) else (some (-1)))) = some r := h
 clear h
 replace H := Option.bind_eq_some_iff.mp H
 obtain ⟨t499, A40, H⟩ := H
 have A4 := ak A40
 clear A40
 by_cases c5 : t499 = true
 rotate_left
 ·replace c5 := Bool.eq_false_iff.mpr c5
  subst c5
  rw [if_neg (show ¬ (false = true) by decide)] at H
  obtain rfl := Option.some.inj H
  go_enter Try.func41, Try.ntmps41
  go_wp2_with (first | ((with_reducible refine gate_dst (N := 3) rfl ?_); refine box_event ?hg (N := 3) ?hd (cs := #[.int .i64 a0_0, .slice A0_1 l0_1.length c0_1]) (t := 25) ?hr ?_; (case hd => rfl); (case hg => rfl); (case hr => first | (go_simp; done) | (go_simp; rfl)); intro gb498 hg w38 hbox hb; have BK498 := ak (hbox); have GW498 := ak ((by rw [hg]; exact (below_size (bl HB)) : w.heap.size ≤ gb498)); have GE498 := ak ((by rw [hg]; exact (below_size (bl HB)) : w.heap.size ≤ gb498)); replace HB := ak (below_step (bl HB) hb); clear hb hbox hg; have hcz39_0 := bc w38 BK498 0 (.int .i64 a0_0) rfl; have hcz39_1 := bc w38 BK498 1 (.slice A0_1 l0_1.length c0_1) rfl; have hfz39_0 := fz BK498 0; have hfz39_1 := fz BK498 1) | ((with_reducible refine gate_callee (f := 55) rfl ?_); refine goesL_ (some 8) rfl rfl Try.func55 (by kernel_rfl) rfl #[.agg #[.int .i64 a0_0, .slice A0_1 l0_1.length c0_1]] rfl (by (try simp only [List.map_toArray, List.map_cons, List.map_nil]); first | done | rfl | (simp only [List.length_drop, List.length_take]; rfl)) ?_; (with_reducible refine (spec_l1Ok.calls k a0_0 _ _ l0_1 false _ ?side1 ?side2 A4.out).mono ?_); (case side1 => repeat (first | exact (Kd.C_below HR0_1.out HB.out) | (with_reducible refine Kd.C_alloc ?_ _) | (with_reducible refine Kd.C_drewN ?_ _) | (with_reducible refine Kd.C_drew ?_))); (case side2 => exact HC0_1.out); rintro e w40 ⟨rfl, hb⟩; refine ⟨_, rfl, ?_⟩; replace BK498 := ak (blk_below (bk BK498) hb); replace HB := ak (below_step (bl1 HB GE498) hb); (try clear hb); (try clear hb2); (try clear hk); (try clear hi)))
  go_ret
  exact ⟨by first | rfl | (simp [errW_none, errW_some] <;> rfl) | (simp [*, errW_none, errW_some] <;> rfl), bl1 HB GE498⟩
 subst c5
 rw [if_pos rfl] at H
 replace H := Option.bind_eq_some_iff.mp H
 obtain ⟨t500, A60, H⟩ := H
 have A6 := ak A60
 clear A60
 by_cases c7 : t500 = true
 rotate_left
 ·replace c7 := Bool.eq_false_iff.mpr c7
  subst c7
  rw [if_neg (show ¬ (false = true) by decide)] at H
  obtain rfl := Option.some.inj H
  go_enter Try.func41, Try.ntmps41
  go_wp2_with (first | ((with_reducible refine gate_dst (N := 3) rfl ?_); refine box_event ?hg (N := 3) ?hd (cs := #[.int .i64 a0_0, .slice A0_1 l0_1.length c0_1]) (t := 25) ?hr ?_; (case hd => rfl); (case hg => rfl); (case hr => first | (go_simp; done) | (go_simp; rfl)); intro gb498 hg w33 hbox hb; have BK498 := ak (hbox); have GW498 := ak ((by rw [hg]; exact (below_size (bl HB)) : w.heap.size ≤ gb498)); have GE498 := ak ((by rw [hg]; exact (below_size (bl HB)) : w.heap.size ≤ gb498)); replace HB := ak (below_step (bl HB) hb); clear hb hbox hg; have hcz34_0 := bc w33 BK498 0 (.int .i64 a0_0) rfl; have hcz34_1 := bc w33 BK498 1 (.slice A0_1 l0_1.length c0_1) rfl; have hfz34_0 := fz BK498 0; have hfz34_1 := fz BK498 1) | ((with_reducible refine gate_callee (f := 55) rfl ?_); refine goesL_ (some 8) rfl rfl Try.func55 (by kernel_rfl) rfl #[.agg #[.int .i64 a0_0, .slice A0_1 l0_1.length c0_1]] rfl (by (try simp only [List.map_toArray, List.map_cons, List.map_nil]); first | done | rfl | (simp only [List.length_drop, List.length_take]; rfl)) ?_; (with_reducible refine (spec_l1Ok.calls k a0_0 _ _ l0_1 true _ ?side1 ?side2 A4.out).mono ?_); (case side1 => repeat (first | exact (Kd.C_below HR0_1.out HB.out) | (with_reducible refine Kd.C_alloc ?_ _) | (with_reducible refine Kd.C_drewN ?_ _) | (with_reducible refine Kd.C_drew ?_))); (case side2 => exact HC0_1.out); rintro e w35 ⟨rfl, hb⟩; refine ⟨_, rfl, ?_⟩; replace BK498 := ak (blk_below (bk BK498) hb); replace HB := ak (below_step (bl1 HB GE498) hb); (try clear hb); (try clear hb2); (try clear hk); (try clear hi); have hcz36_0 := bc w35 BK498 0 (.int .i64 a0_0) rfl; have hcz36_1 := bc w35 BK498 1 (.slice A0_1 l0_1.length c0_1) rfl; have hfz36_0 := fz BK498 0; have hfz36_1 := fz BK498 1) | (go_at_call 91; (with_reducible refine (spec_l15Ok.calls k a0_0 _ _ l0_1 _ _ l1 false _ ?side1 ?side2 ?side3 ?side4 A6.out).mono ?_); (case side1 => repeat (first | exact (Kd.C_below HR0_1.out HB.out) | (with_reducible refine Kd.C_alloc ?_ _) | (with_reducible refine Kd.C_drewN ?_ _) | (with_reducible refine Kd.C_drew ?_))); (case side2 => exact HC0_1.out); (case side3 => repeat (first | exact (Kd.C_below HR1.out HB.out) | (with_reducible refine Kd.C_alloc ?_ _) | (with_reducible refine Kd.C_drewN ?_ _) | (with_reducible refine Kd.C_drew ?_))); (case side4 => exact HC1.out); rintro e w37 ⟨rfl, hb⟩; have n0_ := ak (blk_below (bk BK498) hb); have n1_ := ak (below_step (bl1 HB GE498) hb); clear BK498; clear HB; have BK498 := n0_; have HB := n1_; clear n0_ n1_; (try clear hb); (try clear hb2); (try clear hk); (try clear hi)))
  go_ret
  exact ⟨by first | rfl | (simp [errW_none, errW_some] <;> rfl) | (simp [*, errW_none, errW_some] <;> rfl), bl1 HB GE498⟩
 subst c7
 rw [if_pos rfl] at H
 by_cases c8 : (l2.length : Int) = (l1.length : Int)
 rotate_left
 ·rw [if_neg c8] at H
  have c8b0 : ((l2.length : Int) == (l1.length : Int)) = false := beq_eq_false_iff_ne.mpr c8
  have c8b1 : ((l2.length : Int) != (l1.length : Int)) = true := bne_iff_ne.mpr c8
  have c8b2 : (l2.length == l1.length) = false := by first | simpa using c8 | (simp at c8 ⊢; omega)
  obtain rfl := Option.some.inj H
  go_enter Try.func41, Try.ntmps41
  go_wp2_with (first | ((with_reducible refine gate_dst (N := 3) rfl ?_); refine box_event ?hg (N := 3) ?hd (cs := #[.int .i64 a0_0, .slice A0_1 l0_1.length c0_1]) (t := 25) ?hr ?_; (case hd => rfl); (case hg => rfl); (case hr => first | (go_simp; done) | (go_simp; rfl)); intro gb498 hg w28 hbox hb; have BK498 := ak (hbox); have GW498 := ak ((by rw [hg]; exact (below_size (bl HB)) : w.heap.size ≤ gb498)); have GE498 := ak ((by rw [hg]; exact (below_size (bl HB)) : w.heap.size ≤ gb498)); replace HB := ak (below_step (bl HB) hb); clear hb hbox hg; have hcz29_0 := bc w28 BK498 0 (.int .i64 a0_0) rfl; have hcz29_1 := bc w28 BK498 1 (.slice A0_1 l0_1.length c0_1) rfl; have hfz29_0 := fz BK498 0; have hfz29_1 := fz BK498 1) | ((with_reducible refine gate_callee (f := 55) rfl ?_); refine goesL_ (some 8) rfl rfl Try.func55 (by kernel_rfl) rfl #[.agg #[.int .i64 a0_0, .slice A0_1 l0_1.length c0_1]] rfl (by (try simp only [List.map_toArray, List.map_cons, List.map_nil]); first | done | rfl | (simp only [List.length_drop, List.length_take]; rfl)) ?_; (with_reducible refine (spec_l1Ok.calls k a0_0 _ _ l0_1 true _ ?side1 ?side2 A4.out).mono ?_); (case side1 => repeat (first | exact (Kd.C_below HR0_1.out HB.out) | (with_reducible refine Kd.C_alloc ?_ _) | (with_reducible refine Kd.C_drewN ?_ _) | (with_reducible refine Kd.C_drew ?_))); (case side2 => exact HC0_1.out); rintro e w30 ⟨rfl, hb⟩; refine ⟨_, rfl, ?_⟩; replace BK498 := ak (blk_below (bk BK498) hb); replace HB := ak (below_step (bl1 HB GE498) hb); (try clear hb); (try clear hb2); (try clear hk); (try clear hi); have hcz31_0 := bc w30 BK498 0 (.int .i64 a0_0) rfl; have hcz31_1 := bc w30 BK498 1 (.slice A0_1 l0_1.length c0_1) rfl; have hfz31_0 := fz BK498 0; have hfz31_1 := fz BK498 1) | (go_at_call 91; (with_reducible refine (spec_l15Ok.calls k a0_0 _ _ l0_1 _ _ l1 true _ ?side1 ?side2 ?side3 ?side4 A6.out).mono ?_); (case side1 => repeat (first | exact (Kd.C_below HR0_1.out HB.out) | (with_reducible refine Kd.C_alloc ?_ _) | (with_reducible refine Kd.C_drewN ?_ _) | (with_reducible refine Kd.C_drew ?_))); (case side2 => exact HC0_1.out); (case side3 => repeat (first | exact (Kd.C_below HR1.out HB.out) | (with_reducible refine Kd.C_alloc ?_ _) | (with_reducible refine Kd.C_drewN ?_ _) | (with_reducible refine Kd.C_drew ?_))); (case side4 => exact HC1.out); rintro e w32 ⟨rfl, hb⟩; have n0_ := ak (blk_below (bk BK498) hb); have n1_ := ak (below_step (bl1 HB GE498) hb); clear BK498; clear HB; have BK498 := n0_; have HB := n1_; clear n0_ n1_; (try clear hb); (try clear hb2); (try clear hk); (try clear hi)))
  go_ret
  exact ⟨by first | rfl | (simp [errW_none, errW_some] <;> rfl) | (simp [*, errW_none, errW_some] <;> rfl), bl1 HB GE498⟩
 rw [if_pos c8] at H
 have c8b0 : ((l2.length : Int) == (l1.length : Int)) = true := beq_iff_eq.mpr c8
 have c8b1 : ((l2.length : Int) != (l1.length : Int)) = false := bne_eq_false_iff_eq.mpr c8
 have c8b2 : (l2.length == l1.length) = true := by first | simpa using c8 | (simp at c8 ⊢; omega)
 clear c8
 replace H := Option.bind_eq_some_iff.mp H
 obtain ⟨t501, A90, H⟩ := H
 have A9 := ak A90
 clear A90
 by_cases c10 : t501 = true
 rotate_left
 ·replace c10 := Bool.eq_false_iff.mpr c10
  subst c10
  rw [if_neg (show ¬ (false = true) by decide)] at H
  obtain rfl := Option.some.inj H
  go_enter Try.func41, Try.ntmps41
  go_wp2_with (first | ((with_reducible refine gate_dst (N := 3) rfl ?_); refine box_event ?hg (N := 3) ?hd (cs := #[.int .i64 a0_0, .slice A0_1 l0_1.length c0_1]) (t := 25) ?hr ?_; (case hd => rfl); (case hg => rfl); (case hr => first | (go_simp; done) | (go_simp; rfl)); intro gb498 hg w21 hbox hb; have BK498 := ak (hbox); have GW498 := ak ((by rw [hg]; exact (below_size (bl HB)) : w.heap.size ≤ gb498)); have GE498 := ak ((by rw [hg]; exact (below_size (bl HB)) : w.heap.size ≤ gb498)); replace HB := ak (below_step (bl HB) hb); clear hb hbox hg; have hcz22_0 := bc w21 BK498 0 (.int .i64 a0_0) rfl; have hcz22_1 := bc w21 BK498 1 (.slice A0_1 l0_1.length c0_1) rfl; have hfz22_0 := fz BK498 0; have hfz22_1 := fz BK498 1) | ((with_reducible refine gate_callee (f := 55) rfl ?_); refine goesL_ (some 8) rfl rfl Try.func55 (by kernel_rfl) rfl #[.agg #[.int .i64 a0_0, .slice A0_1 l0_1.length c0_1]] rfl (by (try simp only [List.map_toArray, List.map_cons, List.map_nil]); first | done | rfl | (simp only [List.length_drop, List.length_take]; rfl)) ?_; (with_reducible refine (spec_l1Ok.calls k a0_0 _ _ l0_1 true _ ?side1 ?side2 A4.out).mono ?_); (case side1 => repeat (first | exact (Kd.C_below HR0_1.out HB.out) | (with_reducible refine Kd.C_alloc ?_ _) | (with_reducible refine Kd.C_drewN ?_ _) | (with_reducible refine Kd.C_drew ?_))); (case side2 => exact HC0_1.out); rintro e w23 ⟨rfl, hb⟩; refine ⟨_, rfl, ?_⟩; replace BK498 := ak (blk_below (bk BK498) hb); replace HB := ak (below_step (bl1 HB GE498) hb); (try clear hb); (try clear hb2); (try clear hk); (try clear hi); have hcz24_0 := bc w23 BK498 0 (.int .i64 a0_0) rfl; have hcz24_1 := bc w23 BK498 1 (.slice A0_1 l0_1.length c0_1) rfl; have hfz24_0 := fz BK498 0; have hfz24_1 := fz BK498 1) | (go_at_call 91; (with_reducible refine (spec_l15Ok.calls k a0_0 _ _ l0_1 _ _ l1 true _ ?side1 ?side2 ?side3 ?side4 A6.out).mono ?_); (case side1 => repeat (first | exact (Kd.C_below HR0_1.out HB.out) | (with_reducible refine Kd.C_alloc ?_ _) | (with_reducible refine Kd.C_drewN ?_ _) | (with_reducible refine Kd.C_drew ?_))); (case side2 => exact HC0_1.out); (case side3 => repeat (first | exact (Kd.C_below HR1.out HB.out) | (with_reducible refine Kd.C_alloc ?_ _) | (with_reducible refine Kd.C_drewN ?_ _) | (with_reducible refine Kd.C_drew ?_))); (case side4 => exact HC1.out); rintro e w25 ⟨rfl, hb⟩; have n0_ := ak (blk_below (bk BK498) hb); have n1_ := ak (below_step (bl1 HB GE498) hb); clear BK498; clear HB; have BK498 := n0_; have HB := n1_; clear n0_ n1_; (try clear hb); (try clear hb2); (try clear hk); (try clear hi); have hcz26_0 := bc w25 BK498 0 (.int .i64 a0_0) rfl; have hcz26_1 := bc w25 BK498 1 (.slice A0_1 l0_1.length c0_1) rfl; have hfz26_0 := fz BK498 0; have hfz26_1 := fz BK498 1) | (go_at_call 93; (with_reducible refine (spec_l11Any.calls k a0_0 _ _ l0_1 _ _ l2 false _ ?side1 ?side2 ?side3 ?side4 A9.out).mono ?_); (case side1 => repeat (first | exact (Kd.C_below HR0_1.out HB.out) | (with_reducible refine Kd.C_alloc ?_ _) | (with_reducible refine Kd.C_drewN ?_ _) | (with_reducible refine Kd.C_drew ?_))); (case side2 => exact HC0_1.out); (case side3 => repeat (first | exact (Kd.C_below HR2.out HB.out) | (with_reducible refine Kd.C_alloc ?_ _) | (with_reducible refine Kd.C_drewN ?_ _) | (with_reducible refine Kd.C_drew ?_))); (case side4 => exact HC2.out); rintro e w27 ⟨rfl, hb⟩; have n0_ := ak (blk_below (bk BK498) hb); have n1_ := ak (below_step (bl1 HB GE498) hb); clear BK498; clear HB; have BK498 := n0_; have HB := n1_; clear n0_ n1_; (try clear hb); (try clear hb2); (try clear hk); (try clear hi)))
  go_ret
  exact ⟨by first | rfl | (simp [errW_none, errW_some] <;> rfl) | (simp [*, errW_none, errW_some] <;> rfl), bl1 HB GE498⟩
 subst c10
 rw [if_pos rfl] at H
 replace H := Option.bind_eq_some_iff.mp H
 obtain ⟨t502, A110, H⟩ := H
 have A11 := ak A110
 clear A110
 obtain rfl := Option.some.inj H
 go_enter Try.func41, Try.ntmps41
 go_wp2_with (first | ((with_reducible refine gate_dst (N := 3) rfl ?_); refine box_event ?hg (N := 3) ?hd (cs := #[.int .i64 a0_0, .slice A0_1 l0_1.length c0_1]) (t := 25) ?hr ?_; (case hd => rfl); (case hg => rfl); (case hr => first | (go_simp; done) | (go_simp; rfl)); intro gb498 hg w12 hbox hb; have BK498 := ak (hbox); have GW498 := ak ((by rw [hg]; exact (below_size (bl HB)) : w.heap.size ≤ gb498)); have GE498 := ak ((by rw [hg]; exact (below_size (bl HB)) : w.heap.size ≤ gb498)); replace HB := ak (below_step (bl HB) hb); clear hb hbox hg; have hcz13_0 := bc w12 BK498 0 (.int .i64 a0_0) rfl; have hcz13_1 := bc w12 BK498 1 (.slice A0_1 l0_1.length c0_1) rfl; have hfz13_0 := fz BK498 0; have hfz13_1 := fz BK498 1) | ((with_reducible refine gate_callee (f := 55) rfl ?_); refine goesL_ (some 8) rfl rfl Try.func55 (by kernel_rfl) rfl #[.agg #[.int .i64 a0_0, .slice A0_1 l0_1.length c0_1]] rfl (by (try simp only [List.map_toArray, List.map_cons, List.map_nil]); first | done | rfl | (simp only [List.length_drop, List.length_take]; rfl)) ?_; (with_reducible refine (spec_l1Ok.calls k a0_0 _ _ l0_1 true _ ?side1 ?side2 A4.out).mono ?_); (case side1 => repeat (first | exact (Kd.C_below HR0_1.out HB.out) | (with_reducible refine Kd.C_alloc ?_ _) | (with_reducible refine Kd.C_drewN ?_ _) | (with_reducible refine Kd.C_drew ?_))); (case side2 => exact HC0_1.out); rintro e w14 ⟨rfl, hb⟩; refine ⟨_, rfl, ?_⟩; replace BK498 := ak (blk_below (bk BK498) hb); replace HB := ak (below_step (bl1 HB GE498) hb); (try clear hb); (try clear hb2); (try clear hk); (try clear hi); have hcz15_0 := bc w14 BK498 0 (.int .i64 a0_0) rfl; have hcz15_1 := bc w14 BK498 1 (.slice A0_1 l0_1.length c0_1) rfl; have hfz15_0 := fz BK498 0; have hfz15_1 := fz BK498 1) | (go_at_call 91; (with_reducible refine (spec_l15Ok.calls k a0_0 _ _ l0_1 _ _ l1 true _ ?side1 ?side2 ?side3 ?side4 A6.out).mono ?_); (case side1 => repeat (first | exact (Kd.C_below HR0_1.out HB.out) | (with_reducible refine Kd.C_alloc ?_ _) | (with_reducible refine Kd.C_drewN ?_ _) | (with_reducible refine Kd.C_drew ?_))); (case side2 => exact HC0_1.out); (case side3 => repeat (first | exact (Kd.C_below HR1.out HB.out) | (with_reducible refine Kd.C_alloc ?_ _) | (with_reducible refine Kd.C_drewN ?_ _) | (with_reducible refine Kd.C_drew ?_))); (case side4 => exact HC1.out); rintro e w16 ⟨rfl, hb⟩; have n0_ := ak (blk_below (bk BK498) hb); have n1_ := ak (below_step (bl1 HB GE498) hb); clear BK498; clear HB; have BK498 := n0_; have HB := n1_; clear n0_ n1_; (try clear hb); (try clear hb2); (try clear hk); (try clear hi); have hcz17_0 := bc w16 BK498 0 (.int .i64 a0_0) rfl; have hcz17_1 := bc w16 BK498 1 (.slice A0_1 l0_1.length c0_1) rfl; have hfz17_0 := fz BK498 0; have hfz17_1 := fz BK498 1) | (go_at_call 93; (with_reducible refine (spec_l11Any.calls k a0_0 _ _ l0_1 _ _ l2 true _ ?side1 ?side2 ?side3 ?side4 A9.out).mono ?_); (case side1 => repeat (first | exact (Kd.C_below HR0_1.out HB.out) | (with_reducible refine Kd.C_alloc ?_ _) | (with_reducible refine Kd.C_drewN ?_ _) | (with_reducible refine Kd.C_drew ?_))); (case side2 => exact HC0_1.out); (case side3 => repeat (first | exact (Kd.C_below HR2.out HB.out) | (with_reducible refine Kd.C_alloc ?_ _) | (with_reducible refine Kd.C_drewN ?_ _) | (with_reducible refine Kd.C_drew ?_))); (case side4 => exact HC2.out); rintro e w18 ⟨rfl, hb⟩; have n0_ := ak (blk_below (bk BK498) hb); have n1_ := ak (below_step (bl1 HB GE498) hb); clear BK498; clear HB; have BK498 := n0_; have HB := n1_; clear n0_ n1_; (try clear hb); (try clear hb2); (try clear hk); (try clear hi); have hcz19_0 := bc w18 BK498 0 (.int .i64 a0_0) rfl; have hcz19_1 := bc w18 BK498 1 (.slice A0_1 l0_1.length c0_1) rfl; have hfz19_0 := fz BK498 0; have hfz19_1 := fz BK498 1) | ((with_reducible refine gate_callee (f := 94) rfl ?_); refine goesL_ (some 32) rfl rfl Try.func94 (by kernel_rfl) rfl #[.agg #[.int .i64 a0_0, .slice A0_1 l0_1.length c0_1], .slice A1 l1.length c1, .slice A2 l2.length c2] rfl (by (try simp only [List.map_toArray, List.map_cons, List.map_nil]); first | done | rfl | (simp only [List.length_drop, List.length_take]; rfl)) ?_; (with_reducible refine (spec_l15Cost.calls k a0_0 _ _ l0_1 _ _ l1 _ _ l2 t502 _ ?side1 ?side2 ?side3 ?side4 ?side5 ?side6 A11.out).mono ?_); (case side1 => repeat (first | exact (Kd.C_below HR0_1.out HB.out) | (with_reducible refine Kd.C_alloc ?_ _) | (with_reducible refine Kd.C_drewN ?_ _) | (with_reducible refine Kd.C_drew ?_))); (case side2 => exact HC0_1.out); (case side3 => repeat (first | exact (Kd.C_below HR1.out HB.out) | (with_reducible refine Kd.C_alloc ?_ _) | (with_reducible refine Kd.C_drewN ?_ _) | (with_reducible refine Kd.C_drew ?_))); (case side4 => exact HC1.out); (case side5 => repeat (first | exact (Kd.C_below HR2.out HB.out) | (with_reducible refine Kd.C_alloc ?_ _) | (with_reducible refine Kd.C_drewN ?_ _) | (with_reducible refine Kd.C_drew ?_))); (case side6 => exact HC2.out); rintro e w20 ⟨rfl, hb⟩; refine ⟨_, rfl, ?_⟩; replace BK498 := ak (blk_below (bk BK498) hb); replace HB := ak (below_step (bl1 HB GE498) hb); (try clear hb); (try clear hb2); (try clear hk); (try clear hi)))
 go_ret
 exact ⟨by first | rfl | (simp [errW_none, errW_some] <;> rfl) | (simp [*, errW_none, errW_some] <;> rfl), bl1 HB GE498⟩

end Go.Proofs.Ytgickejeakmenaa.F
