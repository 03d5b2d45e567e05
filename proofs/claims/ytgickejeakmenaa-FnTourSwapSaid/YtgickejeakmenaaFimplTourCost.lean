-- Printed by wip/px/px.py of this claim's repository (the kit's printer, extended there). Lean checks it.
import Derived.Test.YtgickejeakmenaaFKinds
import Derived.Test.YtgickejeakmenaaFimplstopsOk
import Derived.Test.YtgickejeakmenaaFimplaround
import Derived.Test.YtgickejeakmenaaFimplNear
namespace Go.Proofs.Ytgickejeakmenaa.F
open Go.RowKit Go.Proofs.YtgickejeakmenaaW.PrintWords Go.Proofs.YtgickejeakmenaaW.PrintLast Go.Proofs.YtgickejeakmenaaW.PrintMore
attribute [local go_sem] max2_int min2_int max_two min_two max_three min_three max_four min_four   -- for this text's walks alone
set_option linter.unusedVariables false
set_option linter.unusedSimpArgs false

/-! ### impl_TourCost: function 16 -/
def impl_TourCost.f (k : Nat) (a0_0 : Int) (l0_1 : List (S41)) (l1 : List Int) : Option (Int) := (impl_stopsOk.f k a0_0 l0_1 l1).bind fun t278 => (if t278 = true then ((impl_Net_table.f k a0_0 l0_1).bind fun t279 => ((impl_around.f k t279 l1).bind fun t282 => (some t282))) else (some (-1)))
theorem impl_TourCost.mono : ∀ a0 a1 a2 k, LeO (impl_TourCost.f k a0 a1 a2) (impl_TourCost.f (k + 1) a0 a1 a2) := by
 intro a0 a1 a2 k
 unfold impl_TourCost.f
 repeat' first | (with_reducible exact impl_Net_table.mono _ _ _) | (with_reducible exact impl_around.mono _ _ _) | (with_reducible exact impl_stopsOk.mono _ _ _ _) | (with_reducible exact LeO.refl _) | (with_reducible refine LeO.ite ?_ ?_) | (with_reducible refine LeO.bind ?_ (fun _ => ?_))
set_option maxHeartbeats 8000000 in
set_option maxRecDepth 100000 in
theorem impl_TourCost.calls (k : Nat) (a0_0 : Int) (A0_1 : Option Addr) (c0_1 : Nat) (l0_1 : List (S41)) (A1 : Option Addr) (c1 : Nat) (l1 : List Int) (r : Int) (w : World) (hr0_1 : Kd.C k41 w A0_1 l0_1.length l0_1) (hc0_1 : l0_1.length ≤ c0_1) (hr1 : Kd.C (Kd.int .i64) w A1 l1.length l1) (hc1 : l1.length ≤ c1) (h : impl_TourCost.f k a0_0 l0_1 l1 = some r) :
  Calls Try.prog 16 #[.agg #[.int .i64 a0_0, .slice A0_1 l0_1.length c0_1], .slice A1 l1.length c1] w fun e w' => e = .returned (.int .i64 r) ∧ Below w.heap.size w w' := by
 have hu25 := Try.underlying25
 have HR0_1 := ak hr0_1
 have HC0_1 := ak hc0_1
 clear hr0_1 hc0_1
 have HR1 := ak hr1
 have HC1 := ak hc1
 clear hr1 hc1
 have HB := ak (Below.refl w.heap.size w)
 have H : ((impl_stopsOk.f k a0_0 l0_1 l1).bind fun t278 => (if t278 = true then ((impl_Net_table.f k a0_0 l0_1).bind fun t279 => ((impl_around.f k t279 l1).bind fun t282 => (some t282))) else (some (-1)))) = some r := h
 clear h
 replace H := Option.bind_eq_some_iff.mp H
 obtain ⟨t278, A30, H⟩ := H
 have A3 := ak A30
 clear A30
 by_cases c4 : t278 = true
 rotate_left
 ·replace c4 := Bool.eq_false_iff.mpr c4
  subst c4
  rw [if_neg (show ¬ (false = true) by decide)] at H
  obtain rfl := Option.some.inj H
  go_enter Try.func16, Try.ntmps16
  go_wp2_with (first | ((with_reducible refine gate_dst (N := 2) rfl ?_); refine box_event ?hg (N := 2) ?hd (cs := #[.int .i64 a0_0, .slice A0_1 l0_1.length c0_1]) (t := 25) ?hr ?_; (case hd => rfl); (case hg => rfl); (case hr => (go_simp; done)); intro gb277 hg w13 hbox hb; have BK277 := ak (hbox); have GW277 := ak ((by rw [hg]; exact (below_size (bl HB)) : w.heap.size ≤ gb277)); have GE277 := ak ((by rw [hg]; exact (below_size (bl HB)) : w.heap.size ≤ gb277)); replace HB := ak (below_step (bl HB) hb); clear hb hbox hg; have hcz14_0 := bc w13 BK277 0 (.int .i64 a0_0) rfl; have hcz14_1 := bc w13 BK277 1 (.slice A0_1 l0_1.length c0_1) rfl; have hfz14_0 := fz BK277 0; have hfz14_1 := fz BK277 1) | ((with_reducible refine gate_callee (f := 52) rfl ?_); refine goesL_ (some 7) rfl rfl Try.func52 (by kernel_rfl) rfl #[.agg #[.int .i64 a0_0, .slice A0_1 l0_1.length c0_1], .slice A1 l1.length c1] rfl (by (try simp only [List.map_toArray, List.map_cons, List.map_nil]); rfl) ?_; (with_reducible refine (impl_stopsOk.calls k a0_0 _ _ l0_1 _ _ l1 false _ ?side1 ?side2 ?side3 ?side4 A3.out).mono ?_); (case side1 => repeat (exact (Kd.C_below HR0_1.out HB.out))); (case side2 => exact HC0_1.out); (case side3 => repeat (exact (Kd.C_below HR1.out HB.out))); (case side4 => exact HC1.out); rintro e w15 ⟨rfl, hb⟩; refine ⟨_, rfl, ?_⟩; replace BK277 := ak (blk_below (bk BK277) hb); replace HB := ak (below_step (bl1 HB GE277) hb); (try clear hb); (try clear hb2); (try clear hk); (try clear hi)))
  go_ret
  exact ⟨by rfl, bl1 HB GE277⟩
 subst c4
 rw [if_pos rfl] at H
 replace H := Option.bind_eq_some_iff.mp H
 obtain ⟨t279, A50, H⟩ := H
 have A5 := ak A50
 clear A50
 replace H := Option.bind_eq_some_iff.mp H
 obtain ⟨t282, A60, H⟩ := H
 have A6 := ak A60
 clear A60
 obtain rfl := Option.some.inj H
 go_enter Try.func16, Try.ntmps16
 go_wp2_with (first | ((with_reducible refine gate_dst (N := 2) rfl ?_); refine box_event ?hg (N := 2) ?hd (cs := #[.int .i64 a0_0, .slice A0_1 l0_1.length c0_1]) (t := 25) ?hr ?_; (case hd => rfl); (case hg => rfl); (case hr => (go_simp; done)); intro gb277 hg w7 hbox hb; have BK277 := ak (hbox); have GW277 := ak ((by rw [hg]; exact (below_size (bl HB)) : w.heap.size ≤ gb277)); have GE277 := ak ((by rw [hg]; exact (below_size (bl HB)) : w.heap.size ≤ gb277)); replace HB := ak (below_step (bl HB) hb); clear hb hbox hg; have hcz8_0 := bc w7 BK277 0 (.int .i64 a0_0) rfl; have hcz8_1 := bc w7 BK277 1 (.slice A0_1 l0_1.length c0_1) rfl; have hfz8_0 := fz BK277 0; have hfz8_1 := fz BK277 1) | ((with_reducible refine gate_callee (f := 52) rfl ?_); refine goesL_ (some 7) rfl rfl Try.func52 (by kernel_rfl) rfl #[.agg #[.int .i64 a0_0, .slice A0_1 l0_1.length c0_1], .slice A1 l1.length c1] rfl (by (try simp only [List.map_toArray, List.map_cons, List.map_nil]); rfl) ?_; (with_reducible refine (impl_stopsOk.calls k a0_0 _ _ l0_1 _ _ l1 true _ ?side1 ?side2 ?side3 ?side4 A3.out).mono ?_); (case side1 => repeat (exact (Kd.C_below HR0_1.out HB.out))); (case side2 => exact HC0_1.out); (case side3 => repeat (exact (Kd.C_below HR1.out HB.out))); (case side4 => exact HC1.out); rintro e w9 ⟨rfl, hb⟩; refine ⟨_, rfl, ?_⟩; replace BK277 := ak (blk_below (bk BK277) hb); replace HB := ak (below_step (bl1 HB GE277) hb); (try clear hb); (try clear hb2); (try clear hk); (try clear hi); have hcz10_0 := bc w9 BK277 0 (.int .i64 a0_0) rfl; have hcz10_1 := bc w9 BK277 1 (.slice A0_1 l0_1.length c0_1) rfl; have hfz10_0 := fz BK277 0; have hfz10_1 := fz BK277 1) | ((with_reducible refine gate_callee (f := 54) rfl ?_); refine goesL_ (some 10) rfl rfl Try.func54 (by kernel_rfl) rfl #[.agg #[.int .i64 a0_0, .slice A0_1 l0_1.length c0_1]] rfl (by (try simp only [List.map_toArray, List.map_cons, List.map_nil]); rfl) ?_; (with_reducible refine (impl_Net_table.calls k a0_0 _ _ l0_1 t279 _ ?side1 ?side2 A5.out).mono ?_); (case side1 => repeat (exact (Kd.C_below HR0_1.out HB.out))); (case side2 => exact HC0_1.out); rintro e w11 ⟨v280, rfl, ho0, hb⟩; refine ⟨_, rfl, ?_⟩; have HO281 := ak (Kd.S_lower ho0 (below_size (bl1 HB GE277))); replace BK277 := ak (blk_below (bk BK277) hb); replace HB := ak (below_step (bl1 HB GE277) hb); (try clear hb); (try clear hb2); (try clear hk); (try clear hi); (try clear ho0); obtain ⟨Ao12, co12, eo12⟩ := Kd.S_slice HO281.out; subst eo12) | ((with_reducible refine gate_callee (f := 53) rfl ?_); refine goesL_ (some 12) rfl rfl Try.func53 (by kernel_rfl) rfl #[.slice Ao12 t279.length co12, .slice A1 l1.length c1] rfl (by (try simp only [List.map_toArray, List.map_cons, List.map_nil]); rfl) ?_; (with_reducible refine (impl_around.calls k _ _ t279 _ _ l1 t282 _ ?side1 ?side2 ?side3 ?side4 A6.out).mono ?_); (case side1 => repeat (exact (Kd.S_reads' HO281.out).2.2)); (case side2 => exact (Kd.S_reads' HO281.out).2.1); (case side3 => repeat (exact (Kd.C_below HR1.out HB.out))); (case side4 => exact HC1.out); rintro e w' ⟨rfl, ⟨nd, rfl⟩⟩; refine ⟨_, rfl, ?_⟩))
 go_ret
 exact ⟨by rfl, bl1 HB GE277⟩

end Go.Proofs.Ytgickejeakmenaa.F
