-- Printed by wip/px/px.py of this claim's repository (the kit's printer, extended there). Lean checks it.
import Derived.Test.YtlgolgfcolnddaaFKinds
import Derived.Test.YtlgolgfcolnddaaFspecl1In
import Derived.Test.YtlgolgfcolnddaaFspecl1Ok
import Derived.Test.YtlgolgfcolnddaaFspecl14Some
namespace Go.Proofs.Ytlgolgfcolnddaa.F
open Go.RowKit Go.Proofs.YtlgolgfcolnddaaW.PrintWords Go.Proofs.YtlgolgfcolnddaaW.PrintLast Go.Proofs.YtlgolgfcolnddaaW.PrintMore
attribute [local go_sem] max2_int min2_int max_two min_two max_three min_three max_four min_four   -- for this text's walks alone
set_option linter.unusedVariables false
set_option linter.unusedSimpArgs false

/-! ### spec_SomeWalks: function 27 -/
def spec_SomeWalks.f (k : Nat) (a0_0 : Int) (l0_1 : List (S58)) (a1 : Int) (a2 : Int) (a3 : Int) : Option ((List (List Int))) := (spec_l1Ok.f k a0_0 l0_1).bind fun t289 => (if t289 = true then ((spec_l1In.f a1 0 (wrap64 (a0_0 - 1))).bind fun t290 => (if t290 = true then ((spec_l1In.f a2 0 (wrap64 (a0_0 - 1))).bind fun t291 => (if t291 = true then (if a1 = a2 then (some ([] : List (List Int))) else ((spec_l1In.f a3 1 6).bind fun t292 => (if t292 = true then ((spec_l14Some.f k a0_0 l0_1 a1 a2 a3).bind fun t293 => (some t293)) else (some ([] : List (List Int)))))) else (some ([] : List (List Int))))) else (some ([] : List (List Int))))) else (some ([] : List (List Int))))
theorem spec_SomeWalks.mono : ∀ a0 a1 a2 a3 a4 k, LeO (spec_SomeWalks.f k a0 a1 a2 a3 a4) (spec_SomeWalks.f (k + 1) a0 a1 a2 a3 a4) := by
 intro a0 a1 a2 a3 a4 k
 unfold spec_SomeWalks.f
 repeat' first
   | (with_reducible exact spec_l14Some.mono _ _ _ _ _ _)
   | (with_reducible exact spec_l1Ok.mono _ _ _)
   | (with_reducible exact LeO.refl _)
   | (with_reducible exact LeO.none _)
   | (with_reducible refine LeO.ite ?_ ?_)
   | (with_reducible refine LeO.bind ?_ (fun _ => ?_))
   | exact spec_l14Some.mono _ _ _ _ _ _
   | exact spec_l1Ok.mono _ _ _
   | exact LeO.none _
   | refine LeO.ite ?_ ?_
   | refine LeO.bind ?_ (fun _ => ?_)
set_option maxHeartbeats 8000000 in
set_option maxRecDepth 100000 in
theorem spec_SomeWalks.calls (k : Nat) (a0_0 : Int) (A0_1 : Option Addr) (c0_1 : Nat) (l0_1 : List (S58)) (a1 : Int) (a2 : Int) (a3 : Int) (r : List (List Int)) (w : World) (hr0_1 : Kd.C k58 w A0_1 l0_1.length l0_1) (hc0_1 : l0_1.length ≤ c0_1) (h : spec_SomeWalks.f k a0_0 l0_1 a1 a2 a3 = some r) :
  Calls Try.prog 27 #[.agg #[.int .i64 a0_0, .slice A0_1 l0_1.length c0_1], .int .i64 a1, .int .i64 a2, .int .i64 a3] w fun e w' => ∃ v0_ : Value, e = .returned (v0_) ∧ Kd.N (Kd.slice 3 (Kd.int .i64)) 33 w' w.heap.size (fun k_ => (w.heap.size ≤ k_)) v0_ r ∧ Below w.heap.size w w' := by
 have hu25 := Try.underlying25
 have HR0_1 := ak hr0_1
 have HC0_1 := ak hc0_1
 clear hr0_1 hc0_1
 have HB := ak (Below.refl w.heap.size w)
 have H : ((spec_l1Ok.f k a0_0 l0_1).bind fun t289 => (if t289 = true then ((spec_l1In.f a1 0 (wrap64 (a0_0 - 1))).bind fun t290 => (if t290 = true then ((spec_l1In.f a2 0 (wrap64 (a0_0 - 1))).bind fun t291 => (if t291 = true then (if a1 = a2 then (some ([] : List (List Int))) else ((spec_l1In.f a3 1 6).bind fun t292 => (if t292 = true then ((spec_l14Some.f k a0_0 l0_1 a1 a2 a3).bind fun t293 => (some t293)) else (some ([] : List (List Int)))))) else (some ([] : List (List Int))))) else (some ([] : List (List Int))))) else (some ([] : List (List Int))))) = some r := h
 clear h
 replace H := Option.bind_eq_some_iff.mp H
 obtain ⟨t289, A50, H⟩ := H
 have A5 := ak A50
 clear A50
 by_cases c6 : t289 = true
 rotate_left
 ·replace c6 := Bool.eq_false_iff.mpr c6
  subst c6
  rw [if_neg (show ¬ (false = true) by decide)] at H
  obtain rfl := Option.some.inj H
  go_enter Try.func27, Try.ntmps27
  go_wp2_with (first | ((with_reducible refine gate_dst (N := 4) rfl ?_); refine box_event ?hg (N := 4) ?hd (cs := #[.int .i64 a0_0, .slice A0_1 l0_1.length c0_1]) (t := 25) ?hr ?_; (case hd => rfl); (case hg => rfl); (case hr => first | (go_simp; done) | (go_simp; rfl)); intro gb288 hg w36 hbox hb; have BK288 := ak (hbox); have GW288 := ak ((by rw [hg]; exact (below_size (bl HB)) : w.heap.size ≤ gb288)); have GE288 := ak ((by rw [hg]; exact (below_size (bl HB)) : w.heap.size ≤ gb288)); replace HB := ak (below_step (bl HB) hb); clear hb hbox hg; have hcz37_0 := bc w36 BK288 0 (.int .i64 a0_0) rfl; have hcz37_1 := bc w36 BK288 1 (.slice A0_1 l0_1.length c0_1) rfl; have hfz37_0 := fz BK288 0; have hfz37_1 := fz BK288 1) | ((with_reducible refine gate_callee (f := 53) rfl ?_); refine goesL_ (some 10) rfl rfl Try.func53 (by kernel_rfl) rfl #[.agg #[.int .i64 a0_0, .slice A0_1 l0_1.length c0_1]] rfl (by (try simp only [List.map_toArray, List.map_cons, List.map_nil]); first | done | rfl | (simp only [List.length_drop, List.length_take]; rfl)) ?_; (with_reducible refine (spec_l1Ok.calls k a0_0 _ _ l0_1 false _ ?side1 ?side2 A5.out).mono ?_); (case side1 => repeat (first | exact (Kd.C_below HR0_1.out HB.out) | (with_reducible refine Kd.C_alloc ?_ _) | (with_reducible refine Kd.C_drewN ?_ _) | (with_reducible refine Kd.C_drew ?_))); (case side2 => exact HC0_1.out); rintro e w38 ⟨rfl, hb⟩; refine ⟨_, rfl, ?_⟩; replace BK288 := ak (blk_below (bk BK288) hb); replace HB := ak (below_step (bl1 HB GE288) hb); (try clear hb); (try clear hb2); (try clear hk); (try clear hi)))
  go_ret
  exact ⟨_, by first | rfl | (simp [errW_none, errW_some] <;> rfl) | (simp [*, errW_none, errW_some] <;> rfl), by first | exact Kd.S_nil _ _ _ _ _ | exact Kd.N_nil _ _ _ _ _ | exact Kd.V_nil _ _ _ _ _ | exact Kd.Q_nil _ _ _ _ _ | exact Kd.R_nil _ _ _ _ _, bl1 HB GE288⟩
 subst c6
 rw [if_pos rfl] at H
 replace H := Option.bind_eq_some_iff.mp H
 obtain ⟨t290, A70, H⟩ := H
 have A7 := ak A70
 clear A70
 by_cases c8 : t290 = true
 rotate_left
 ·replace c8 := Bool.eq_false_iff.mpr c8
  subst c8
  rw [if_neg (show ¬ (false = true) by decide)] at H
  obtain rfl := Option.some.inj H
  go_enter Try.func27, Try.ntmps27
  go_wp2_with (first | ((with_reducible refine gate_dst (N := 4) rfl ?_); refine box_event ?hg (N := 4) ?hd (cs := #[.int .i64 a0_0, .slice A0_1 l0_1.length c0_1]) (t := 25) ?hr ?_; (case hd => rfl); (case hg => rfl); (case hr => first | (go_simp; done) | (go_simp; rfl)); intro gb288 hg w32 hbox hb; have BK288 := ak (hbox); have GW288 := ak ((by rw [hg]; exact (below_size (bl HB)) : w.heap.size ≤ gb288)); have GE288 := ak ((by rw [hg]; exact (below_size (bl HB)) : w.heap.size ≤ gb288)); replace HB := ak (below_step (bl HB) hb); clear hb hbox hg; have hcz33_0 := bc w32 BK288 0 (.int .i64 a0_0) rfl; have hcz33_1 := bc w32 BK288 1 (.slice A0_1 l0_1.length c0_1) rfl; have hfz33_0 := fz BK288 0; have hfz33_1 := fz BK288 1) | ((with_reducible refine gate_callee (f := 53) rfl ?_); refine goesL_ (some 10) rfl rfl Try.func53 (by kernel_rfl) rfl #[.agg #[.int .i64 a0_0, .slice A0_1 l0_1.length c0_1]] rfl (by (try simp only [List.map_toArray, List.map_cons, List.map_nil]); first | done | rfl | (simp only [List.length_drop, List.length_take]; rfl)) ?_; (with_reducible refine (spec_l1Ok.calls k a0_0 _ _ l0_1 true _ ?side1 ?side2 A5.out).mono ?_); (case side1 => repeat (first | exact (Kd.C_below HR0_1.out HB.out) | (with_reducible refine Kd.C_alloc ?_ _) | (with_reducible refine Kd.C_drewN ?_ _) | (with_reducible refine Kd.C_drew ?_))); (case side2 => exact HC0_1.out); rintro e w34 ⟨rfl, hb⟩; refine ⟨_, rfl, ?_⟩; replace BK288 := ak (blk_below (bk BK288) hb); replace HB := ak (below_step (bl1 HB GE288) hb); (try clear hb); (try clear hb2); (try clear hk); (try clear hi); have hcz35_0 := bc w34 BK288 0 (.int .i64 a0_0) rfl; have hcz35_1 := bc w34 BK288 1 (.slice A0_1 l0_1.length c0_1) rfl; have hfz35_0 := fz BK288 0; have hfz35_1 := fz BK288 1) | (go_at_call 54; (with_reducible refine (spec_l1In.calls a1 0 (wrap64 (a0_0 - 1)) false _ A7.out).mono ?_); rintro e w' ⟨rfl, ⟨nd, rfl⟩⟩))
  go_ret
  exact ⟨_, by first | rfl | (simp [errW_none, errW_some] <;> rfl) | (simp [*, errW_none, errW_some] <;> rfl), by first | exact Kd.S_nil _ _ _ _ _ | exact Kd.N_nil _ _ _ _ _ | exact Kd.V_nil _ _ _ _ _ | exact Kd.Q_nil _ _ _ _ _ | exact Kd.R_nil _ _ _ _ _, bl1 HB GE288⟩
 subst c8
 rw [if_pos rfl] at H
 replace H := Option.bind_eq_some_iff.mp H
 obtain ⟨t291, A90, H⟩ := H
 have A9 := ak A90
 clear A90
 by_cases c10 : t291 = true
 rotate_left
 ·replace c10 := Bool.eq_false_iff.mpr c10
  subst c10
  rw [if_neg (show ¬ (false = true) by decide)] at H
  obtain rfl := Option.some.inj H
  go_enter Try.func27, Try.ntmps27
  go_wp2_with (first | ((with_reducible refine gate_dst (N := 4) rfl ?_); refine box_event ?hg (N := 4) ?hd (cs := #[.int .i64 a0_0, .slice A0_1 l0_1.length c0_1]) (t := 25) ?hr ?_; (case hd => rfl); (case hg => rfl); (case hr => first | (go_simp; done) | (go_simp; rfl)); intro gb288 hg w28 hbox hb; have BK288 := ak (hbox); have GW288 := ak ((by rw [hg]; exact (below_size (bl HB)) : w.heap.size ≤ gb288)); have GE288 := ak ((by rw [hg]; exact (below_size (bl HB)) : w.heap.size ≤ gb288)); replace HB := ak (below_step (bl HB) hb); clear hb hbox hg; have hcz29_0 := bc w28 BK288 0 (.int .i64 a0_0) rfl; have hcz29_1 := bc w28 BK288 1 (.slice A0_1 l0_1.length c0_1) rfl; have hfz29_0 := fz BK288 0; have hfz29_1 := fz BK288 1) | ((with_reducible refine gate_callee (f := 53) rfl ?_); refine goesL_ (some 10) rfl rfl Try.func53 (by kernel_rfl) rfl #[.agg #[.int .i64 a0_0, .slice A0_1 l0_1.length c0_1]] rfl (by (try simp only [List.map_toArray, List.map_cons, List.map_nil]); first | done | rfl | (simp only [List.length_drop, List.length_take]; rfl)) ?_; (with_reducible refine (spec_l1Ok.calls k a0_0 _ _ l0_1 true _ ?side1 ?side2 A5.out).mono ?_); (case side1 => repeat (first | exact (Kd.C_below HR0_1.out HB.out) | (with_reducible refine Kd.C_alloc ?_ _) | (with_reducible refine Kd.C_drewN ?_ _) | (with_reducible refine Kd.C_drew ?_))); (case side2 => exact HC0_1.out); rintro e w30 ⟨rfl, hb⟩; refine ⟨_, rfl, ?_⟩; replace BK288 := ak (blk_below (bk BK288) hb); replace HB := ak (below_step (bl1 HB GE288) hb); (try clear hb); (try clear hb2); (try clear hk); (try clear hi); have hcz31_0 := bc w30 BK288 0 (.int .i64 a0_0) rfl; have hcz31_1 := bc w30 BK288 1 (.slice A0_1 l0_1.length c0_1) rfl; have hfz31_0 := fz BK288 0; have hfz31_1 := fz BK288 1) | (go_at_call 54; (with_reducible refine (spec_l1In.calls a1 0 (wrap64 (a0_0 - 1)) true _ A7.out).mono ?_); rintro e w' ⟨rfl, ⟨nd, rfl⟩⟩) | (go_at_call 54; (with_reducible refine (spec_l1In.calls a2 0 (wrap64 (a0_0 - 1)) false _ A9.out).mono ?_); rintro e w' ⟨rfl, ⟨nd, rfl⟩⟩))
  go_ret
  exact ⟨_, by first | rfl | (simp [errW_none, errW_some] <;> rfl) | (simp [*, errW_none, errW_some] <;> rfl), by first | exact Kd.S_nil _ _ _ _ _ | exact Kd.N_nil _ _ _ _ _ | exact Kd.V_nil _ _ _ _ _ | exact Kd.Q_nil _ _ _ _ _ | exact Kd.R_nil _ _ _ _ _, bl1 HB GE288⟩
 subst c10
 rw [if_pos rfl] at H
 by_cases c11 : a1 = a2
 ·rw [if_pos c11] at H
  have c11b0 : (a1 == a2) = true := beq_iff_eq.mpr c11
  have c11b1 : (a1 != a2) = false := bne_eq_false_iff_eq.mpr c11
  clear c11
  obtain rfl := Option.some.inj H
  go_enter Try.func27, Try.ntmps27
  go_wp2_with (first | ((with_reducible refine gate_dst (N := 4) rfl ?_); refine box_event ?hg (N := 4) ?hd (cs := #[.int .i64 a0_0, .slice A0_1 l0_1.length c0_1]) (t := 25) ?hr ?_; (case hd => rfl); (case hg => rfl); (case hr => first | (go_simp; done) | (go_simp; rfl)); intro gb288 hg w12 hbox hb; have BK288 := ak (hbox); have GW288 := ak ((by rw [hg]; exact (below_size (bl HB)) : w.heap.size ≤ gb288)); have GE288 := ak ((by rw [hg]; exact (below_size (bl HB)) : w.heap.size ≤ gb288)); replace HB := ak (below_step (bl HB) hb); clear hb hbox hg; have hcz13_0 := bc w12 BK288 0 (.int .i64 a0_0) rfl; have hcz13_1 := bc w12 BK288 1 (.slice A0_1 l0_1.length c0_1) rfl; have hfz13_0 := fz BK288 0; have hfz13_1 := fz BK288 1) | ((with_reducible refine gate_callee (f := 53) rfl ?_); refine goesL_ (some 10) rfl rfl Try.func53 (by kernel_rfl) rfl #[.agg #[.int .i64 a0_0, .slice A0_1 l0_1.length c0_1]] rfl (by (try simp only [List.map_toArray, List.map_cons, List.map_nil]); first | done | rfl | (simp only [List.length_drop, List.length_take]; rfl)) ?_; (with_reducible refine (spec_l1Ok.calls k a0_0 _ _ l0_1 true _ ?side1 ?side2 A5.out).mono ?_); (case side1 => repeat (first | exact (Kd.C_below HR0_1.out HB.out) | (with_reducible refine Kd.C_alloc ?_ _) | (with_reducible refine Kd.C_drewN ?_ _) | (with_reducible refine Kd.C_drew ?_))); (case side2 => exact HC0_1.out); rintro e w14 ⟨rfl, hb⟩; refine ⟨_, rfl, ?_⟩; replace BK288 := ak (blk_below (bk BK288) hb); replace HB := ak (below_step (bl1 HB GE288) hb); (try clear hb); (try clear hb2); (try clear hk); (try clear hi); have hcz15_0 := bc w14 BK288 0 (.int .i64 a0_0) rfl; have hcz15_1 := bc w14 BK288 1 (.slice A0_1 l0_1.length c0_1) rfl; have hfz15_0 := fz BK288 0; have hfz15_1 := fz BK288 1) | (go_at_call 54; (with_reducible refine (spec_l1In.calls a1 0 (wrap64 (a0_0 - 1)) true _ A7.out).mono ?_); rintro e w' ⟨rfl, ⟨nd, rfl⟩⟩) | (go_at_call 54; (with_reducible refine (spec_l1In.calls a2 0 (wrap64 (a0_0 - 1)) true _ A9.out).mono ?_); rintro e w' ⟨rfl, ⟨nd, rfl⟩⟩))
  go_ret
  exact ⟨_, by first | rfl | (simp [errW_none, errW_some] <;> rfl) | (simp [*, errW_none, errW_some] <;> rfl), by first | exact Kd.S_nil _ _ _ _ _ | exact Kd.N_nil _ _ _ _ _ | exact Kd.V_nil _ _ _ _ _ | exact Kd.Q_nil _ _ _ _ _ | exact Kd.R_nil _ _ _ _ _, bl1 HB GE288⟩
 rw [if_neg c11] at H
 have c11b0 : (a1 == a2) = false := beq_eq_false_iff_ne.mpr c11
 have c11b1 : (a1 != a2) = true := bne_iff_ne.mpr c11
 replace H := Option.bind_eq_some_iff.mp H
 obtain ⟨t292, A160, H⟩ := H
 have A16 := ak A160
 clear A160
 by_cases c17 : t292 = true
 rotate_left
 ·replace c17 := Bool.eq_false_iff.mpr c17
  subst c17
  rw [if_neg (show ¬ (false = true) by decide)] at H
  obtain rfl := Option.some.inj H
  go_enter Try.func27, Try.ntmps27
  go_wp2_with (first | ((with_reducible refine gate_dst (N := 4) rfl ?_); refine box_event ?hg (N := 4) ?hd (cs := #[.int .i64 a0_0, .slice A0_1 l0_1.length c0_1]) (t := 25) ?hr ?_; (case hd => rfl); (case hg => rfl); (case hr => first | (go_simp; done) | (go_simp; rfl)); intro gb288 hg w24 hbox hb; have BK288 := ak (hbox); have GW288 := ak ((by rw [hg]; exact (below_size (bl HB)) : w.heap.size ≤ gb288)); have GE288 := ak ((by rw [hg]; exact (below_size (bl HB)) : w.heap.size ≤ gb288)); replace HB := ak (below_step (bl HB) hb); clear hb hbox hg; have hcz25_0 := bc w24 BK288 0 (.int .i64 a0_0) rfl; have hcz25_1 := bc w24 BK288 1 (.slice A0_1 l0_1.length c0_1) rfl; have hfz25_0 := fz BK288 0; have hfz25_1 := fz BK288 1) | ((with_reducible refine gate_callee (f := 53) rfl ?_); refine goesL_ (some 10) rfl rfl Try.func53 (by kernel_rfl) rfl #[.agg #[.int .i64 a0_0, .slice A0_1 l0_1.length c0_1]] rfl (by (try simp only [List.map_toArray, List.map_cons, List.map_nil]); first | done | rfl | (simp only [List.length_drop, List.length_take]; rfl)) ?_; (with_reducible refine (spec_l1Ok.calls k a0_0 _ _ l0_1 true _ ?side1 ?side2 A5.out).mono ?_); (case side1 => repeat (first | exact (Kd.C_below HR0_1.out HB.out) | (with_reducible refine Kd.C_alloc ?_ _) | (with_reducible refine Kd.C_drewN ?_ _) | (with_reducible refine Kd.C_drew ?_))); (case side2 => exact HC0_1.out); rintro e w26 ⟨rfl, hb⟩; refine ⟨_, rfl, ?_⟩; replace BK288 := ak (blk_below (bk BK288) hb); replace HB := ak (below_step (bl1 HB GE288) hb); (try clear hb); (try clear hb2); (try clear hk); (try clear hi); have hcz27_0 := bc w26 BK288 0 (.int .i64 a0_0) rfl; have hcz27_1 := bc w26 BK288 1 (.slice A0_1 l0_1.length c0_1) rfl; have hfz27_0 := fz BK288 0; have hfz27_1 := fz BK288 1) | (go_at_call 54; (with_reducible refine (spec_l1In.calls a1 0 (wrap64 (a0_0 - 1)) true _ A7.out).mono ?_); rintro e w' ⟨rfl, ⟨nd, rfl⟩⟩) | (go_at_call 54; (with_reducible refine (spec_l1In.calls a2 0 (wrap64 (a0_0 - 1)) true _ A9.out).mono ?_); rintro e w' ⟨rfl, ⟨nd, rfl⟩⟩) | (go_at_call 54; (with_reducible refine (spec_l1In.calls a3 1 6 false _ A16.out).mono ?_); rintro e w' ⟨rfl, ⟨nd, rfl⟩⟩))
  go_ret
  exact ⟨_, by first | rfl | (simp [errW_none, errW_some] <;> rfl) | (simp [*, errW_none, errW_some] <;> rfl), by first | exact Kd.S_nil _ _ _ _ _ | exact Kd.N_nil _ _ _ _ _ | exact Kd.V_nil _ _ _ _ _ | exact Kd.Q_nil _ _ _ _ _ | exact Kd.R_nil _ _ _ _ _, bl1 HB GE288⟩
 subst c17
 rw [if_pos rfl] at H
 replace H := Option.bind_eq_some_iff.mp H
 obtain ⟨t293, A180, H⟩ := H
 have A18 := ak A180
 clear A180
 obtain rfl := Option.some.inj H
 go_enter Try.func27, Try.ntmps27
 go_wp2_with (first | ((with_reducible refine gate_dst (N := 4) rfl ?_); refine box_event ?hg (N := 4) ?hd (cs := #[.int .i64 a0_0, .slice A0_1 l0_1.length c0_1]) (t := 25) ?hr ?_; (case hd => rfl); (case hg => rfl); (case hr => first | (go_simp; done) | (go_simp; rfl)); intro gb288 hg w19 hbox hb; have BK288 := ak (hbox); have GW288 := ak ((by rw [hg]; exact (below_size (bl HB)) : w.heap.size ≤ gb288)); have GE288 := ak ((by rw [hg]; exact (below_size (bl HB)) : w.heap.size ≤ gb288)); replace HB := ak (below_step (bl HB) hb); clear hb hbox hg; have hcz20_0 := bc w19 BK288 0 (.int .i64 a0_0) rfl; have hcz20_1 := bc w19 BK288 1 (.slice A0_1 l0_1.length c0_1) rfl; have hfz20_0 := fz BK288 0; have hfz20_1 := fz BK288 1) | ((with_reducible refine gate_callee (f := 53) rfl ?_); refine goesL_ (some 10) rfl rfl Try.func53 (by kernel_rfl) rfl #[.agg #[.int .i64 a0_0, .slice A0_1 l0_1.length c0_1]] rfl (by (try simp only [List.map_toArray, List.map_cons, List.map_nil]); first | done | rfl | (simp only [List.length_drop, List.length_take]; rfl)) ?_; (with_reducible refine (spec_l1Ok.calls k a0_0 _ _ l0_1 true _ ?side1 ?side2 A5.out).mono ?_); (case side1 => repeat (first | exact (Kd.C_below HR0_1.out HB.out) | (with_reducible refine Kd.C_alloc ?_ _) | (with_reducible refine Kd.C_drewN ?_ _) | (with_reducible refine Kd.C_drew ?_))); (case side2 => exact HC0_1.out); rintro e w21 ⟨rfl, hb⟩; refine ⟨_, rfl, ?_⟩; replace BK288 := ak (blk_below (bk BK288) hb); replace HB := ak (below_step (bl1 HB GE288) hb); (try clear hb); (try clear hb2); (try clear hk); (try clear hi); have hcz22_0 := bc w21 BK288 0 (.int .i64 a0_0) rfl; have hcz22_1 := bc w21 BK288 1 (.slice A0_1 l0_1.length c0_1) rfl; have hfz22_0 := fz BK288 0; have hfz22_1 := fz BK288 1) | (go_at_call 54; (with_reducible refine (spec_l1In.calls a1 0 (wrap64 (a0_0 - 1)) true _ A7.out).mono ?_); rintro e w' ⟨rfl, ⟨nd, rfl⟩⟩) | (go_at_call 54; (with_reducible refine (spec_l1In.calls a2 0 (wrap64 (a0_0 - 1)) true _ A9.out).mono ?_); rintro e w' ⟨rfl, ⟨nd, rfl⟩⟩) | (go_at_call 54; (with_reducible refine (spec_l1In.calls a3 1 6 true _ A16.out).mono ?_); rintro e w' ⟨rfl, ⟨nd, rfl⟩⟩) | ((with_reducible refine gate_callee (f := 55) rfl ?_); refine goesL_ (some 42) rfl rfl Try.func55 (by kernel_rfl) rfl #[.agg #[.int .i64 a0_0, .slice A0_1 l0_1.length c0_1], .int .i64 a1, .int .i64 a2, .int .i64 a3] rfl (by (try simp only [List.map_toArray, List.map_cons, List.map_nil]); first | done | rfl | (simp only [List.length_drop, List.length_take]; rfl)) ?_; (with_reducible refine (spec_l14Some.calls k a0_0 _ _ l0_1 a1 a2 a3 t293 _ ?side1 ?side2 A18.out).mono ?_); (case side1 => repeat (first | exact (Kd.C_below HR0_1.out (bl1 HB GE288)) | (with_reducible refine Kd.C_alloc ?_ _) | (with_reducible refine Kd.C_drewN ?_ _) | (with_reducible refine Kd.C_drew ?_))); (case side2 => exact HC0_1.out); rintro e w23 ⟨v294, rfl, ho0, hb⟩; refine ⟨_, rfl, ?_⟩; have HO295 := ak (Kd.N_lower (Kd.N_mono (ok' := fun k_ => (w.heap.size ≤ k_) ∧ k_ ≠ gb288) ho0 (fun k_ hk_ => ⟨(Nat.le_trans (below_size (bl1 HB GE288)) hk_), (Kd.freshB (bk BK288) k_ hk_)⟩)) (below_size (bl1 HB GE288))); replace BK288 := ak (blk_below (bk BK288) hb); replace HB := ak (below_step (bl1 HB GE288) hb); (try clear hb); (try clear hb2); (try clear hk); (try clear hi); (try clear ho0)))
 go_ret
 exact ⟨_, by first | rfl | (simp [errW_none, errW_some] <;> rfl) | (simp [*, errW_none, errW_some] <;> rfl), by (with_reducible repeat (first | apply Kd.N_alloc | apply Kd.N_drewN | apply Kd.N_drew)); exact Kd.N_mono HO295.out (fun _ hk => hk.1), bl1 HB GE288⟩

end Go.Proofs.Ytlgolgfcolnddaa.F
