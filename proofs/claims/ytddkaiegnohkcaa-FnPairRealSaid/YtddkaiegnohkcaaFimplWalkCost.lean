-- Printed by wip/px/px.py of this claim's repository (the kit's printer, extended there). Lean checks it.
import Derived.Test.YtddkaiegnohkcaaFKinds
import Derived.Test.YtddkaiegnohkcaaFimplWalkOk
import Derived.Test.YtddkaiegnohkcaaFimplNetcost
namespace Go.Proofs.Ytddkaiegnohkcaa.F
open Go.RowKit Go.Proofs.YtddkaiegnohkcaaW.PrintWords Go.Proofs.YtddkaiegnohkcaaW.PrintLast Go.Proofs.YtddkaiegnohkcaaW.PrintMore
attribute [local go_sem] max2_int min2_int max_two min_two max_three min_three max_four min_four   -- for this text's walks alone
set_option linter.unusedVariables false
set_option linter.unusedSimpArgs false

/-! ### impl_WalkCost: function 15 -/
def impl_WalkCost.f (k : Nat) (a0_0 : Int) (l0_1 : List (S33)) (l1 : List Int) : Option (Int) := (impl_WalkOk.f k a0_0 l0_1 l1).bind fun t130 => (if t130 = true then ((impl_Net_cost.f k a0_0 l0_1 l1).bind fun t131 => (some t131)) else (some (-1)))
theorem impl_WalkCost.mono : ∀ a0 a1 a2 k, LeO (impl_WalkCost.f k a0 a1 a2) (impl_WalkCost.f (k + 1) a0 a1 a2) := by
 intro a0 a1 a2 k
 unfold impl_WalkCost.f
 repeat' first
   | (with_reducible exact impl_Net_cost.mono _ _ _ _)
   | (with_reducible exact impl_WalkOk.mono _ _ _ _)
   | (with_reducible exact LeO.refl _)
   | (with_reducible exact LeO.none _)
   | (with_reducible refine LeO.ite ?_ ?_)
   | (with_reducible refine LeO.bind ?_ (fun _ => ?_))
   | exact impl_Net_cost.mono _ _ _ _
   | exact impl_WalkOk.mono _ _ _ _
   | exact LeO.none _
   | refine LeO.ite ?_ ?_
   | refine LeO.bind ?_ (fun _ => ?_)
set_option maxHeartbeats 8000000 in
set_option maxRecDepth 100000 in
theorem impl_WalkCost.calls (k : Nat) (a0_0 : Int) (A0_1 : Option Addr) (c0_1 : Nat) (l0_1 : List (S33)) (A1 : Option Addr) (c1 : Nat) (l1 : List Int) (r : Int) (w : World) (hr0_1 : Kd.C k33 w A0_1 l0_1.length l0_1) (hc0_1 : l0_1.length ≤ c0_1) (hr1 : Kd.C (Kd.int .i64) w A1 l1.length l1) (hc1 : l1.length ≤ c1) (h : impl_WalkCost.f k a0_0 l0_1 l1 = some r) :
  Calls Try.prog 15 #[.agg #[.int .i64 a0_0, .slice A0_1 l0_1.length c0_1], .slice A1 l1.length c1] w fun e w' => e = .returned (.int .i64 r) ∧ Below w.heap.size w w' := by
 have hu25 := Try.underlying25
 have HR0_1 := ak hr0_1
 have HC0_1 := ak hc0_1
 clear hr0_1 hc0_1
 have HR1 := ak hr1
 have HC1 := ak hc1
 clear hr1 hc1
 have HB := ak (Below.refl w.heap.size w)
 have H : ((impl_WalkOk.f k a0_0 l0_1 l1).bind fun t130 => (if t130 = true then ((impl_Net_cost.f k a0_0 l0_1 l1).bind fun t131 => (some t131)) else (some (-1)))) = some r := h
 clear h
 replace H := Option.bind_eq_some_iff.mp H
 obtain ⟨t130, A30, H⟩ := H
 have A3 := ak A30
 clear A30
 by_cases c4 : t130 = true
 rotate_left
 ·replace c4 := Bool.eq_false_iff.mpr c4
  subst c4
  rw [if_neg (show ¬ (false = true) by decide)] at H
  obtain rfl := Option.some.inj H
  go_enter Try.func15, Try.ntmps15
  go_wp2_with (first | ((with_reducible refine gate_dst (N := 2) rfl ?_); refine box_event ?hg (N := 2) ?hd (cs := #[.int .i64 a0_0, .slice A0_1 l0_1.length c0_1]) (t := 25) ?hr ?_; (case hd => rfl); (case hg => rfl); (case hr => first | (go_simp; done) | (go_simp; rfl)); intro gb129 hg w11 hbox hb; have BK129 := ak (hbox); have GW129 := ak ((by rw [hg]; exact (below_size (bl HB)) : w.heap.size ≤ gb129)); have GE129 := ak ((by rw [hg]; exact (below_size (bl HB)) : w.heap.size ≤ gb129)); replace HB := ak (below_step (bl HB) hb); clear hb hbox hg; have hcz12_0 := bc w11 BK129 0 (.int .i64 a0_0) rfl; have hcz12_1 := bc w11 BK129 1 (.slice A0_1 l0_1.length c0_1) rfl; have hfz12_0 := fz BK129 0; have hfz12_1 := fz BK129 1) | ((with_reducible refine gate_callee (f := 12) rfl ?_); refine goesL_ (some 7) rfl rfl Try.func12 (by kernel_rfl) rfl #[.agg #[.int .i64 a0_0, .slice A0_1 l0_1.length c0_1], .slice A1 l1.length c1] rfl (by (try simp only [List.map_toArray, List.map_cons, List.map_nil]); first | done | rfl | (simp only [List.length_drop, List.length_take]; rfl)) ?_; (with_reducible refine (impl_WalkOk.calls k a0_0 _ _ l0_1 _ _ l1 false _ ?side1 ?side2 ?side3 ?side4 A3.out).mono ?_); (case side1 => repeat (first | exact (Kd.C_below HR0_1.out HB.out) | (with_reducible refine Kd.C_alloc ?_ _) | (with_reducible refine Kd.C_drewN ?_ _) | (with_reducible refine Kd.C_drew ?_))); (case side2 => exact HC0_1.out); (case side3 => repeat (first | exact (Kd.C_below HR1.out HB.out) | (with_reducible refine Kd.C_alloc ?_ _) | (with_reducible refine Kd.C_drewN ?_ _) | (with_reducible refine Kd.C_drew ?_))); (case side4 => exact HC1.out); rintro e w13 ⟨rfl, hb⟩; refine ⟨_, rfl, ?_⟩; replace BK129 := ak (blk_below (bk BK129) hb); replace HB := ak (below_step (bl1 HB GE129) hb); (try clear hb); (try clear hb2); (try clear hk); (try clear hi)))
  go_ret
  exact ⟨by first | rfl | (simp [errW_none, errW_some] <;> rfl) | (simp [*, errW_none, errW_some] <;> rfl), bl1 HB GE129⟩
 subst c4
 rw [if_pos rfl] at H
 replace H := Option.bind_eq_some_iff.mp H
 obtain ⟨t131, A50, H⟩ := H
 have A5 := ak A50
 clear A50
 obtain rfl := Option.some.inj H
 go_enter Try.func15, Try.ntmps15
 go_wp2_with (first | ((with_reducible refine gate_dst (N := 2) rfl ?_); refine box_event ?hg (N := 2) ?hd (cs := #[.int .i64 a0_0, .slice A0_1 l0_1.length c0_1]) (t := 25) ?hr ?_; (case hd => rfl); (case hg => rfl); (case hr => first | (go_simp; done) | (go_simp; rfl)); intro gb129 hg w6 hbox hb; have BK129 := ak (hbox); have GW129 := ak ((by rw [hg]; exact (below_size (bl HB)) : w.heap.size ≤ gb129)); have GE129 := ak ((by rw [hg]; exact (below_size (bl HB)) : w.heap.size ≤ gb129)); replace HB := ak (below_step (bl HB) hb); clear hb hbox hg; have hcz7_0 := bc w6 BK129 0 (.int .i64 a0_0) rfl; have hcz7_1 := bc w6 BK129 1 (.slice A0_1 l0_1.length c0_1) rfl; have hfz7_0 := fz BK129 0; have hfz7_1 := fz BK129 1) | ((with_reducible refine gate_callee (f := 12) rfl ?_); refine goesL_ (some 7) rfl rfl Try.func12 (by kernel_rfl) rfl #[.agg #[.int .i64 a0_0, .slice A0_1 l0_1.length c0_1], .slice A1 l1.length c1] rfl (by (try simp only [List.map_toArray, List.map_cons, List.map_nil]); first | done | rfl | (simp only [List.length_drop, List.length_take]; rfl)) ?_; (with_reducible refine (impl_WalkOk.calls k a0_0 _ _ l0_1 _ _ l1 true _ ?side1 ?side2 ?side3 ?side4 A3.out).mono ?_); (case side1 => repeat (first | exact (Kd.C_below HR0_1.out HB.out) | (with_reducible refine Kd.C_alloc ?_ _) | (with_reducible refine Kd.C_drewN ?_ _) | (with_reducible refine Kd.C_drew ?_))); (case side2 => exact HC0_1.out); (case side3 => repeat (first | exact (Kd.C_below HR1.out HB.out) | (with_reducible refine Kd.C_alloc ?_ _) | (with_reducible refine Kd.C_drewN ?_ _) | (with_reducible refine Kd.C_drew ?_))); (case side4 => exact HC1.out); rintro e w8 ⟨rfl, hb⟩; refine ⟨_, rfl, ?_⟩; replace BK129 := ak (blk_below (bk BK129) hb); replace HB := ak (below_step (bl1 HB GE129) hb); (try clear hb); (try clear hb2); (try clear hk); (try clear hi); have hcz9_0 := bc w8 BK129 0 (.int .i64 a0_0) rfl; have hcz9_1 := bc w8 BK129 1 (.slice A0_1 l0_1.length c0_1) rfl; have hfz9_0 := fz BK129 0; have hfz9_1 := fz BK129 1) | ((with_reducible refine gate_callee (f := 46) rfl ?_); refine goesL_ (some 11) rfl rfl Try.func46 (by kernel_rfl) rfl #[.agg #[.int .i64 a0_0, .slice A0_1 l0_1.length c0_1], .slice A1 l1.length c1] rfl (by (try simp only [List.map_toArray, List.map_cons, List.map_nil]); first | done | rfl | (simp only [List.length_drop, List.length_take]; rfl)) ?_; (with_reducible refine (impl_Net_cost.calls k a0_0 _ _ l0_1 _ _ l1 t131 _ ?side1 ?side2 ?side3 ?side4 A5.out).mono ?_); (case side1 => repeat (first | exact (Kd.C_below HR0_1.out HB.out) | (with_reducible refine Kd.C_alloc ?_ _) | (with_reducible refine Kd.C_drewN ?_ _) | (with_reducible refine Kd.C_drew ?_))); (case side2 => exact HC0_1.out); (case side3 => repeat (first | exact (Kd.C_below HR1.out HB.out) | (with_reducible refine Kd.C_alloc ?_ _) | (with_reducible refine Kd.C_drewN ?_ _) | (with_reducible refine Kd.C_drew ?_))); (case side4 => exact HC1.out); rintro e w10 ⟨rfl, hb⟩; refine ⟨_, rfl, ?_⟩; replace BK129 := ak (blk_below (bk BK129) hb); replace HB := ak (below_step (bl1 HB GE129) hb); (try clear hb); (try clear hb2); (try clear hk); (try clear hi)))
 go_ret
 exact ⟨by first | rfl | (simp [errW_none, errW_some] <;> rfl) | (simp [*, errW_none, errW_some] <;> rfl), bl1 HB GE129⟩

end Go.Proofs.Ytddkaiegnohkcaa.F
