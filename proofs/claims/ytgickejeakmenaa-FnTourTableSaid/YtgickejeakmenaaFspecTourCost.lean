-- Printed by wip/px/px.py of this claim's repository (the kit's printer, extended there). Lean checks it.
import Derived.Test.YtgickejeakmenaaFKinds
import Derived.Test.YtgickejeakmenaaFspecl1Ok
import Derived.Test.YtgickejeakmenaaFspecl17Stops
import Derived.Test.YtgickejeakmenaaFspecl17Cost
namespace Go.Proofs.Ytgickejeakmenaa.F
open Go.RowKit Go.Proofs.YtgickejeakmenaaW.PrintWords Go.Proofs.YtgickejeakmenaaW.PrintLast Go.Proofs.YtgickejeakmenaaW.PrintMore
attribute [local go_sem] max2_int min2_int max_two min_two max_three min_three max_four min_four   -- for this text's walks alone
set_option linter.unusedVariables false
set_option linter.unusedSimpArgs false

/-! ### spec_TourCost: function 17 -/
def spec_TourCost.f (k : Nat) (a0_0 : Int) (l0_1 : List (S41)) (l1 : List Int) : Option (Int) := (spec_l1Ok.f k a0_0 l0_1).bind fun t320 => (if t320 = true then ((spec_l17Stops.f k a0_0 l0_1 l1).bind fun t321 => (if t321 = true then ((spec_l17Cost.f k a0_0 l0_1 l1).bind fun t322 => (some t322)) else (some (-1)))) else (some (-1)))
theorem spec_TourCost.mono : ∀ a0 a1 a2 k, LeO (spec_TourCost.f k a0 a1 a2) (spec_TourCost.f (k + 1) a0 a1 a2) := by
 intro a0 a1 a2 k
 unfold spec_TourCost.f
 repeat' first | (with_reducible exact spec_l17Cost.mono _ _ _ _) | (with_reducible exact spec_l17Stops.mono _ _ _ _) | (with_reducible exact spec_l1Ok.mono _ _ _) | (with_reducible exact LeO.refl _) | (with_reducible refine LeO.ite ?_ ?_) | (with_reducible refine LeO.bind ?_ (fun _ => ?_))
set_option maxHeartbeats 8000000 in
set_option maxRecDepth 100000 in
theorem spec_TourCost.calls (k : Nat) (a0_0 : Int) (A0_1 : Option Addr) (c0_1 : Nat) (l0_1 : List (S41)) (A1 : Option Addr) (c1 : Nat) (l1 : List Int) (r : Int) (w : World) (hr0_1 : Kd.C k41 w A0_1 l0_1.length l0_1) (hc0_1 : l0_1.length ≤ c0_1) (hr1 : Kd.C (Kd.int .i64) w A1 l1.length l1) (hc1 : l1.length ≤ c1) (h : spec_TourCost.f k a0_0 l0_1 l1 = some r) :
  Calls Try.prog 17 #[.agg #[.int .i64 a0_0, .slice A0_1 l0_1.length c0_1], .slice A1 l1.length c1] w fun e w' => e = .returned (.int .i64 r) ∧ Below w.heap.size w w' := by
 have hu25 := Try.underlying25
 have HR0_1 := ak hr0_1
 have HC0_1 := ak hc0_1
 clear hr0_1 hc0_1
 have HR1 := ak hr1
 have HC1 := ak hc1
 clear hr1 hc1
 have HB := ak (Below.refl w.heap.size w)
 have H : ((spec_l1Ok.f k a0_0 l0_1).bind fun t320 => (if t320 = true then ((spec_l17Stops.f k a0_0 l0_1 l1).bind fun t321 => (if t321 = true then ((spec_l17Cost.f k a0_0 l0_1 l1).bind fun t322 => (some t322)) else (some (-1)))) else (some (-1)))) = some r := h
 clear h
 replace H := Option.bind_eq_some_iff.mp H
 obtain ⟨t320, A30, H⟩ := H
 have A3 := ak A30
 clear A30
 by_cases c4 : t320 = true
 rotate_left
 ·replace c4 := Bool.eq_false_iff.mpr c4
  subst c4
  rw [if_neg (show ¬ (false = true) by decide)] at H
  obtain rfl := Option.some.inj H
  go_enter Try.func17, Try.ntmps17
  go_wp2_with (first | ((with_reducible refine gate_dst (N := 2) rfl ?_); refine box_event ?hg (N := 2) ?hd (cs := #[.int .i64 a0_0, .slice A0_1 l0_1.length c0_1]) (t := 25) ?hr ?_; (case hd => rfl); (case hg => rfl); (case hr => (go_simp; done)); intro gb319 hg w20 hbox hb; have BK319 := ak (hbox); have GW319 := ak ((by rw [hg]; exact (below_size (bl HB)) : w.heap.size ≤ gb319)); have GE319 := ak ((by rw [hg]; exact (below_size (bl HB)) : w.heap.size ≤ gb319)); replace HB := ak (below_step (bl HB) hb); clear hb hbox hg; have hcz21_0 := bc w20 BK319 0 (.int .i64 a0_0) rfl; have hcz21_1 := bc w20 BK319 1 (.slice A0_1 l0_1.length c0_1) rfl; have hfz21_0 := fz BK319 0; have hfz21_1 := fz BK319 1) | ((with_reducible refine gate_callee (f := 55) rfl ?_); refine goesL_ (some 6) rfl rfl Try.func55 (by kernel_rfl) rfl #[.agg #[.int .i64 a0_0, .slice A0_1 l0_1.length c0_1]] rfl (by (try simp only [List.map_toArray, List.map_cons, List.map_nil]); rfl) ?_; (with_reducible refine (spec_l1Ok.calls k a0_0 _ _ l0_1 false _ ?side1 ?side2 A3.out).mono ?_); (case side1 => repeat (exact (Kd.C_below HR0_1.out HB.out))); (case side2 => exact HC0_1.out); rintro e w22 ⟨rfl, hb⟩; refine ⟨_, rfl, ?_⟩; replace BK319 := ak (blk_below (bk BK319) hb); replace HB := ak (below_step (bl1 HB GE319) hb); (try clear hb); (try clear hb2); (try clear hk); (try clear hi)))
  go_ret
  exact ⟨by rfl, bl1 HB GE319⟩
 subst c4
 rw [if_pos rfl] at H
 replace H := Option.bind_eq_some_iff.mp H
 obtain ⟨t321, A50, H⟩ := H
 have A5 := ak A50
 clear A50
 by_cases c6 : t321 = true
 rotate_left
 ·replace c6 := Bool.eq_false_iff.mpr c6
  subst c6
  rw [if_neg (show ¬ (false = true) by decide)] at H
  obtain rfl := Option.some.inj H
  go_enter Try.func17, Try.ntmps17
  go_wp2_with (first | ((with_reducible refine gate_dst (N := 2) rfl ?_); refine box_event ?hg (N := 2) ?hd (cs := #[.int .i64 a0_0, .slice A0_1 l0_1.length c0_1]) (t := 25) ?hr ?_; (case hd => rfl); (case hg => rfl); (case hr => (go_simp; done)); intro gb319 hg w15 hbox hb; have BK319 := ak (hbox); have GW319 := ak ((by rw [hg]; exact (below_size (bl HB)) : w.heap.size ≤ gb319)); have GE319 := ak ((by rw [hg]; exact (below_size (bl HB)) : w.heap.size ≤ gb319)); replace HB := ak (below_step (bl HB) hb); clear hb hbox hg; have hcz16_0 := bc w15 BK319 0 (.int .i64 a0_0) rfl; have hcz16_1 := bc w15 BK319 1 (.slice A0_1 l0_1.length c0_1) rfl; have hfz16_0 := fz BK319 0; have hfz16_1 := fz BK319 1) | ((with_reducible refine gate_callee (f := 55) rfl ?_); refine goesL_ (some 6) rfl rfl Try.func55 (by kernel_rfl) rfl #[.agg #[.int .i64 a0_0, .slice A0_1 l0_1.length c0_1]] rfl (by (try simp only [List.map_toArray, List.map_cons, List.map_nil]); rfl) ?_; (with_reducible refine (spec_l1Ok.calls k a0_0 _ _ l0_1 true _ ?side1 ?side2 A3.out).mono ?_); (case side1 => repeat (exact (Kd.C_below HR0_1.out HB.out))); (case side2 => exact HC0_1.out); rintro e w17 ⟨rfl, hb⟩; refine ⟨_, rfl, ?_⟩; replace BK319 := ak (blk_below (bk BK319) hb); replace HB := ak (below_step (bl1 HB GE319) hb); (try clear hb); (try clear hb2); (try clear hk); (try clear hi); have hcz18_0 := bc w17 BK319 0 (.int .i64 a0_0) rfl; have hcz18_1 := bc w17 BK319 1 (.slice A0_1 l0_1.length c0_1) rfl; have hfz18_0 := fz BK319 0; have hfz18_1 := fz BK319 1) | (go_at_call 56; (with_reducible refine (spec_l17Stops.calls k a0_0 _ _ l0_1 _ _ l1 false _ ?side1 ?side2 ?side3 ?side4 A5.out).mono ?_); (case side1 => repeat (exact (Kd.C_below HR0_1.out HB.out))); (case side2 => exact HC0_1.out); (case side3 => repeat (exact (Kd.C_below HR1.out HB.out))); (case side4 => exact HC1.out); rintro e w19 ⟨rfl, hb⟩; have n0_ := ak (blk_below (bk BK319) hb); have n1_ := ak (below_step (bl1 HB GE319) hb); clear BK319; clear HB; have BK319 := n0_; have HB := n1_; clear n0_ n1_; (try clear hb); (try clear hb2); (try clear hk); (try clear hi)))
  go_ret
  exact ⟨by rfl, bl1 HB GE319⟩
 subst c6
 rw [if_pos rfl] at H
 replace H := Option.bind_eq_some_iff.mp H
 obtain ⟨t322, A70, H⟩ := H
 have A7 := ak A70
 clear A70
 obtain rfl := Option.some.inj H
 go_enter Try.func17, Try.ntmps17
 go_wp2_with (first | ((with_reducible refine gate_dst (N := 2) rfl ?_); refine box_event ?hg (N := 2) ?hd (cs := #[.int .i64 a0_0, .slice A0_1 l0_1.length c0_1]) (t := 25) ?hr ?_; (case hd => rfl); (case hg => rfl); (case hr => (go_simp; done)); intro gb319 hg w8 hbox hb; have BK319 := ak (hbox); have GW319 := ak ((by rw [hg]; exact (below_size (bl HB)) : w.heap.size ≤ gb319)); have GE319 := ak ((by rw [hg]; exact (below_size (bl HB)) : w.heap.size ≤ gb319)); replace HB := ak (below_step (bl HB) hb); clear hb hbox hg; have hcz9_0 := bc w8 BK319 0 (.int .i64 a0_0) rfl; have hcz9_1 := bc w8 BK319 1 (.slice A0_1 l0_1.length c0_1) rfl; have hfz9_0 := fz BK319 0; have hfz9_1 := fz BK319 1) | ((with_reducible refine gate_callee (f := 55) rfl ?_); refine goesL_ (some 6) rfl rfl Try.func55 (by kernel_rfl) rfl #[.agg #[.int .i64 a0_0, .slice A0_1 l0_1.length c0_1]] rfl (by (try simp only [List.map_toArray, List.map_cons, List.map_nil]); rfl) ?_; (with_reducible refine (spec_l1Ok.calls k a0_0 _ _ l0_1 true _ ?side1 ?side2 A3.out).mono ?_); (case side1 => repeat (exact (Kd.C_below HR0_1.out HB.out))); (case side2 => exact HC0_1.out); rintro e w10 ⟨rfl, hb⟩; refine ⟨_, rfl, ?_⟩; replace BK319 := ak (blk_below (bk BK319) hb); replace HB := ak (below_step (bl1 HB GE319) hb); (try clear hb); (try clear hb2); (try clear hk); (try clear hi); have hcz11_0 := bc w10 BK319 0 (.int .i64 a0_0) rfl; have hcz11_1 := bc w10 BK319 1 (.slice A0_1 l0_1.length c0_1) rfl; have hfz11_0 := fz BK319 0; have hfz11_1 := fz BK319 1) | (go_at_call 56; (with_reducible refine (spec_l17Stops.calls k a0_0 _ _ l0_1 _ _ l1 true _ ?side1 ?side2 ?side3 ?side4 A5.out).mono ?_); (case side1 => repeat (exact (Kd.C_below HR0_1.out HB.out))); (case side2 => exact HC0_1.out); (case side3 => repeat (exact (Kd.C_below HR1.out HB.out))); (case side4 => exact HC1.out); rintro e w12 ⟨rfl, hb⟩; have n0_ := ak (blk_below (bk BK319) hb); have n1_ := ak (below_step (bl1 HB GE319) hb); clear BK319; clear HB; have BK319 := n0_; have HB := n1_; clear n0_ n1_; (try clear hb); (try clear hb2); (try clear hk); (try clear hi); have hcz13_0 := bc w12 BK319 0 (.int .i64 a0_0) rfl; have hcz13_1 := bc w12 BK319 1 (.slice A0_1 l0_1.length c0_1) rfl; have hfz13_0 := fz BK319 0; have hfz13_1 := fz BK319 1) | ((with_reducible refine gate_callee (f := 57) rfl ?_); refine goesL_ (some 16) rfl rfl Try.func57 (by kernel_rfl) rfl #[.agg #[.int .i64 a0_0, .slice A0_1 l0_1.length c0_1], .slice A1 l1.length c1] rfl (by (try simp only [List.map_toArray, List.map_cons, List.map_nil]); rfl) ?_; (with_reducible refine (spec_l17Cost.calls k a0_0 _ _ l0_1 _ _ l1 t322 _ ?side1 ?side2 ?side3 ?side4 A7.out).mono ?_); (case side1 => repeat (exact (Kd.C_below HR0_1.out HB.out))); (case side2 => exact HC0_1.out); (case side3 => repeat (exact (Kd.C_below HR1.out HB.out))); (case side4 => exact HC1.out); rintro e w14 ⟨rfl, hb⟩; refine ⟨_, rfl, ?_⟩; replace BK319 := ak (blk_below (bk BK319) hb); replace HB := ak (below_step (bl1 HB GE319) hb); (try clear hb); (try clear hb2); (try clear hk); (try clear hi)))
 go_ret
 exact ⟨by rfl, bl1 HB GE319⟩

end Go.Proofs.Ytgickejeakmenaa.F
