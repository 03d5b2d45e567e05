-- Printed by wip/px/px.py of this claim's repository (the kit's printer, extended there). Lean checks it.
import Derived.Test.YtjnbhieppghidaaFKinds
import Derived.Test.YtjnbhieppghidaaFimplWalkOk
import Derived.Test.YtjnbhieppghidaaFimplNetalong
namespace Go.Proofs.Ytjnbhieppghidaa.F
open Go.RowKit Go.Proofs.YtjnbhieppghidaaW.PrintWords Go.Proofs.YtjnbhieppghidaaW.PrintLast Go.Proofs.YtjnbhieppghidaaW.PrintMore
attribute [local go_sem] max2_int min2_int max_two min_two max_three min_three max_four min_four   -- for this text's walks alone
set_option linter.unusedVariables false
set_option linter.unusedSimpArgs false

/-! ### impl_WalkNodes: function 8 -/
def impl_WalkNodes.f (k : Nat) (a0_0 : Int) (l0_1 : List (S60)) (l1 : List Int) : Option (List Int) := (impl_WalkOk.f k a0_0 l0_1 l1).bind fun t348 => (if t348 = true then (if (l1.length : Int) = 0 then (some ([] : List Int)) else ((impl_Net_along.f k a0_0 l0_1 l1).bind fun t349 => (some t349))) else (some ([] : List Int)))
theorem impl_WalkNodes.mono : ∀ a0 a1 a2 k, LeO (impl_WalkNodes.f k a0 a1 a2) (impl_WalkNodes.f (k + 1) a0 a1 a2) := by
 intro a0 a1 a2 k
 unfold impl_WalkNodes.f
 repeat' first | (with_reducible exact impl_Net_along.mono _ _ _ _) | (with_reducible exact impl_WalkOk.mono _ _ _ _) | (with_reducible exact LeO.refl _) | (with_reducible refine LeO.ite ?_ ?_) | (with_reducible refine LeO.bind ?_ (fun _ => ?_))
set_option maxHeartbeats 8000000 in
set_option maxRecDepth 100000 in
theorem impl_WalkNodes.calls (k : Nat) (a0_0 : Int) (A0_1 : Option Addr) (c0_1 : Nat) (l0_1 : List (S60)) (A1 : Option Addr) (c1 : Nat) (l1 : List Int) (r : List Int) (w : World) (hr0_1 : Kd.C k60 w A0_1 l0_1.length l0_1) (hc0_1 : l0_1.length ≤ c0_1) (hr1 : Kd.C (Kd.int .i64) w A1 l1.length l1) (hc1 : l1.length ≤ c1) (h : impl_WalkNodes.f k a0_0 l0_1 l1 = some r) :
  Calls Try.prog 8 #[.agg #[.int .i64 a0_0, .slice A0_1 l0_1.length c0_1], .slice A1 l1.length c1] w fun e w' => ∃ v0_ : Value, e = .returned (v0_) ∧ Kd.R (Kd.int .i64) 3 w' w.heap.size (fun _ => True) v0_ r ∧ Below w.heap.size w w' := by
 have hu25 := Try.underlying25
 have HR0_1 := ak hr0_1
 have HC0_1 := ak hc0_1
 clear hr0_1 hc0_1
 have HR1 := ak hr1
 have HC1 := ak hc1
 clear hr1 hc1
 have HB := ak (Below.refl w.heap.size w)
 have H : ((impl_WalkOk.f k a0_0 l0_1 l1).bind fun t348 => (if t348 = true then (if (l1.length : Int) = 0 then (some ([] : List Int)) else ((impl_Net_along.f k a0_0 l0_1 l1).bind fun t349 => (some t349))) else (some ([] : List Int)))) = some r := h
 clear h
 replace H := Option.bind_eq_some_iff.mp H
 obtain ⟨t348, A30, H⟩ := H
 have A3 := ak A30
 clear A30
 by_cases c4 : t348 = true
 rotate_left
 ·replace c4 := Bool.eq_false_iff.mpr c4
  subst c4
  rw [if_neg (show ¬ (false = true) by decide)] at H
  obtain rfl := Option.some.inj H
  go_enter Try.func8, Try.ntmps8
  go_wp2_with (first | ((with_reducible refine gate_dst (N := 2) rfl ?_); refine box_event ?hg (N := 2) ?hd (cs := #[.int .i64 a0_0, .slice A0_1 l0_1.length c0_1]) (t := 25) ?hr ?_; (case hd => rfl); (case hg => rfl); (case hr => (go_simp; done)); intro gb347 hg w15 hbox hb; have BK347 := ak (hbox); have GW347 := ak ((by rw [hg]; exact (below_size (bl HB)) : w.heap.size ≤ gb347)); have GE347 := ak ((by rw [hg]; exact (below_size (bl HB)) : w.heap.size ≤ gb347)); replace HB := ak (below_step (bl HB) hb); clear hb hbox hg; have hcz16_0 := bc w15 BK347 0 (.int .i64 a0_0) rfl; have hcz16_1 := bc w15 BK347 1 (.slice A0_1 l0_1.length c0_1) rfl; have hfz16_0 := fz BK347 0; have hfz16_1 := fz BK347 1) | ((with_reducible refine gate_callee (f := 20) rfl ?_); refine goesL_ (some 7) rfl rfl Try.func20 (by kernel_rfl) rfl #[.agg #[.int .i64 a0_0, .slice A0_1 l0_1.length c0_1], .slice A1 l1.length c1] rfl (by (try simp only [List.map_toArray, List.map_cons, List.map_nil]); rfl) ?_; (with_reducible refine (impl_WalkOk.calls k a0_0 _ _ l0_1 _ _ l1 false _ ?side1 ?side2 ?side3 ?side4 A3.out).mono ?_); (case side1 => repeat (exact (Kd.C_below HR0_1.out HB.out))); (case side2 => exact HC0_1.out); (case side3 => repeat (exact (Kd.C_below HR1.out HB.out))); (case side4 => exact HC1.out); rintro e w17 ⟨rfl, hb⟩; refine ⟨_, rfl, ?_⟩; replace BK347 := ak (blk_below (bk BK347) hb); replace HB := ak (below_step (bl1 HB GE347) hb); (try clear hb); (try clear hb2); (try clear hk); (try clear hi)))
  go_ret
  exact ⟨_, by rfl, by exact Kd.R_nil _ _ _ _ _, bl1 HB GE347⟩
 subst c4
 rw [if_pos rfl] at H
 by_cases c5 : (l1.length : Int) = 0
 ·rw [if_pos c5] at H
  have c5b0 : ((l1.length : Int) == 0) = true := beq_iff_eq.mpr c5
  have c5b1 : ((l1.length : Int) != 0) = false := bne_eq_false_iff_eq.mpr c5
  clear c5
  obtain rfl := Option.some.inj H
  go_enter Try.func8, Try.ntmps8
  go_wp2_with (first | ((with_reducible refine gate_dst (N := 2) rfl ?_); refine box_event ?hg (N := 2) ?hd (cs := #[.int .i64 a0_0, .slice A0_1 l0_1.length c0_1]) (t := 25) ?hr ?_; (case hd => rfl); (case hg => rfl); (case hr => (go_simp; done)); intro gb347 hg w6 hbox hb; have BK347 := ak (hbox); have GW347 := ak ((by rw [hg]; exact (below_size (bl HB)) : w.heap.size ≤ gb347)); have GE347 := ak ((by rw [hg]; exact (below_size (bl HB)) : w.heap.size ≤ gb347)); replace HB := ak (below_step (bl HB) hb); clear hb hbox hg; have hcz7_0 := bc w6 BK347 0 (.int .i64 a0_0) rfl; have hcz7_1 := bc w6 BK347 1 (.slice A0_1 l0_1.length c0_1) rfl; have hfz7_0 := fz BK347 0; have hfz7_1 := fz BK347 1) | ((with_reducible refine gate_callee (f := 20) rfl ?_); refine goesL_ (some 7) rfl rfl Try.func20 (by kernel_rfl) rfl #[.agg #[.int .i64 a0_0, .slice A0_1 l0_1.length c0_1], .slice A1 l1.length c1] rfl (by (try simp only [List.map_toArray, List.map_cons, List.map_nil]); rfl) ?_; (with_reducible refine (impl_WalkOk.calls k a0_0 _ _ l0_1 _ _ l1 true _ ?side1 ?side2 ?side3 ?side4 A3.out).mono ?_); (case side1 => repeat (exact (Kd.C_below HR0_1.out HB.out))); (case side2 => exact HC0_1.out); (case side3 => repeat (exact (Kd.C_below HR1.out HB.out))); (case side4 => exact HC1.out); rintro e w8 ⟨rfl, hb⟩; refine ⟨_, rfl, ?_⟩; replace BK347 := ak (blk_below (bk BK347) hb); replace HB := ak (below_step (bl1 HB GE347) hb); (try clear hb); (try clear hb2); (try clear hk); (try clear hi)))
  go_ret
  exact ⟨_, by rfl, by exact Kd.R_nil _ _ _ _ _, bl1 HB GE347⟩
 rw [if_neg c5] at H
 have c5b0 : ((l1.length : Int) == 0) = false := beq_eq_false_iff_ne.mpr c5
 have c5b1 : ((l1.length : Int) != 0) = true := bne_iff_ne.mpr c5
 have c5b2 : ¬ (l1 = []) := fun h_ => c5 (by rw [h_]; rfl)
 replace H := Option.bind_eq_some_iff.mp H
 obtain ⟨t349, A90, H⟩ := H
 have A9 := ak A90
 clear A90
 obtain rfl := Option.some.inj H
 go_enter Try.func8, Try.ntmps8
 go_wp2_with (first | ((with_reducible refine gate_dst (N := 2) rfl ?_); refine box_event ?hg (N := 2) ?hd (cs := #[.int .i64 a0_0, .slice A0_1 l0_1.length c0_1]) (t := 25) ?hr ?_; (case hd => rfl); (case hg => rfl); (case hr => (go_simp; done)); intro gb347 hg w10 hbox hb; have BK347 := ak (hbox); have GW347 := ak ((by rw [hg]; exact (below_size (bl HB)) : w.heap.size ≤ gb347)); have GE347 := ak ((by rw [hg]; exact (below_size (bl HB)) : w.heap.size ≤ gb347)); replace HB := ak (below_step (bl HB) hb); clear hb hbox hg; have hcz11_0 := bc w10 BK347 0 (.int .i64 a0_0) rfl; have hcz11_1 := bc w10 BK347 1 (.slice A0_1 l0_1.length c0_1) rfl; have hfz11_0 := fz BK347 0; have hfz11_1 := fz BK347 1) | ((with_reducible refine gate_callee (f := 20) rfl ?_); refine goesL_ (some 7) rfl rfl Try.func20 (by kernel_rfl) rfl #[.agg #[.int .i64 a0_0, .slice A0_1 l0_1.length c0_1], .slice A1 l1.length c1] rfl (by (try simp only [List.map_toArray, List.map_cons, List.map_nil]); rfl) ?_; (with_reducible refine (impl_WalkOk.calls k a0_0 _ _ l0_1 _ _ l1 true _ ?side1 ?side2 ?side3 ?side4 A3.out).mono ?_); (case side1 => repeat (exact (Kd.C_below HR0_1.out HB.out))); (case side2 => exact HC0_1.out); (case side3 => repeat (exact (Kd.C_below HR1.out HB.out))); (case side4 => exact HC1.out); rintro e w12 ⟨rfl, hb⟩; refine ⟨_, rfl, ?_⟩; replace BK347 := ak (blk_below (bk BK347) hb); replace HB := ak (below_step (bl1 HB GE347) hb); (try clear hb); (try clear hb2); (try clear hk); (try clear hi); have hcz13_0 := bc w12 BK347 0 (.int .i64 a0_0) rfl; have hcz13_1 := bc w12 BK347 1 (.slice A0_1 l0_1.length c0_1) rfl; have hfz13_0 := fz BK347 0; have hfz13_1 := fz BK347 1) | ((with_reducible refine gate_callee (f := 21) rfl ?_); refine goesL_ (some 16) rfl rfl Try.func21 (by kernel_rfl) rfl #[.agg #[.int .i64 a0_0, .slice A0_1 l0_1.length c0_1], .slice A1 l1.length c1] rfl (by (try simp only [List.map_toArray, List.map_cons, List.map_nil]); rfl) ?_; (with_reducible refine (impl_Net_along.calls k a0_0 _ _ l0_1 _ _ l1 t349 _ ?side1 ?side2 ?side3 ?side4 A9.out).mono ?_); (case side1 => repeat (exact (Kd.C_below HR0_1.out HB.out))); (case side2 => exact HC0_1.out); (case side3 => repeat (exact (Kd.C_below HR1.out HB.out))); (case side4 => exact HC1.out); rintro e w14 ⟨v350, rfl, ho0, hb⟩; refine ⟨_, rfl, ?_⟩; have HO351 := ak (Kd.R_lower ho0 (below_size (bl1 HB GE347))); replace BK347 := ak (blk_below (bk BK347) hb); replace HB := ak (below_step (bl1 HB GE347) hb); (try clear hb); (try clear hb2); (try clear hk); (try clear hi); (try clear ho0)))
 go_ret
 exact ⟨_, by rfl, rk HO351, bl1 HB GE347⟩

end Go.Proofs.Ytjnbhieppghidaa.F
