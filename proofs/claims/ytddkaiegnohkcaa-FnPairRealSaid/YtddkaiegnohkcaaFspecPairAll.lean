-- Printed by wip/px/px.py of this claim's repository (the kit's printer, extended there). Lean checks it.
import Derived.Test.YtddkaiegnohkcaaFKinds
import Derived.Test.YtddkaiegnohkcaaFspecl1In
import Derived.Test.YtddkaiegnohkcaaFspecl1Ok
import Derived.Test.YtddkaiegnohkcaaFspecl19All
namespace Go.Proofs.Ytddkaiegnohkcaa.F
open Go.RowKit Go.Proofs.YtddkaiegnohkcaaW.PrintWords Go.Proofs.YtddkaiegnohkcaaW.PrintLast Go.Proofs.YtddkaiegnohkcaaW.PrintMore
attribute [local go_sem] max2_int min2_int max_two min_two max_three min_three max_four min_four   -- for this text's walks alone
set_option linter.unusedVariables false
set_option linter.unusedSimpArgs false

/-! ### spec_PairAll: function 22 -/
def spec_PairAll.f (k : Nat) (a0_0 : Int) (l0_1 : List (S33)) (a1 : Int) (a2 : Int) : Option ((List (S35))) := (spec_l1Ok.f k a0_0 l0_1).bind fun t192 => (if t192 = true then ((spec_l1In.f a1 0 (wrap64 (a0_0 - 1))).bind fun t193 => (if t193 = true then ((spec_l1In.f a2 0 (wrap64 (a0_0 - 1))).bind fun t194 => (if t194 = true then ((some (([] : List (S35)) : List (S35))).bind fun y195 => ((spec_l19All.f k a0_0 l0_1 a1).bind fun t198 => (if 0 ≤ a2 then (if a2 < (t198.length : Int) then (if y195.length + (rd_L3 t198 a2).length < 8796093022208 then (some (y195 ++ (rd_L3 t198 a2))) else (none)) else (none)) else (none)))) else (some ([] : List (S35))))) else (some ([] : List (S35))))) else (some ([] : List (S35))))
theorem spec_PairAll.mono : ∀ a0 a1 a2 a3 k, LeO (spec_PairAll.f k a0 a1 a2 a3) (spec_PairAll.f (k + 1) a0 a1 a2 a3) := by
 intro a0 a1 a2 a3 k
 unfold spec_PairAll.f
 repeat' first
   | (with_reducible exact spec_l19All.mono _ _ _ _)
   | (with_reducible exact spec_l1Ok.mono _ _ _)
   | (with_reducible exact LeO.refl _)
   | (with_reducible exact LeO.none _)
   | (with_reducible refine LeO.ite ?_ ?_)
   | (with_reducible refine LeO.bind ?_ (fun _ => ?_))
   | exact spec_l19All.mono _ _ _ _
   | exact spec_l1Ok.mono _ _ _
   | exact LeO.none _
   | refine LeO.ite ?_ ?_
   | refine LeO.bind ?_ (fun _ => ?_)
set_option maxHeartbeats 8000000 in
set_option maxRecDepth 100000 in
theorem spec_PairAll.calls (k : Nat) (a0_0 : Int) (A0_1 : Option Addr) (c0_1 : Nat) (l0_1 : List (S33)) (a1 : Int) (a2 : Int) (r : List (S35)) (w : World) (hr0_1 : Kd.C k33 w A0_1 l0_1.length l0_1) (hc0_1 : l0_1.length ≤ c0_1) (h : spec_PairAll.f k a0_0 l0_1 a1 a2 = some r) :
  Calls Try.prog 22 #[.agg #[.int .i64 a0_0, .slice A0_1 l0_1.length c0_1], .int .i64 a1, .int .i64 a2] w fun e w' => ∃ v0_ : Value, e = .returned (v0_) ∧ Kd.R k35 35 w' w.heap.size (fun _ => True) v0_ r ∧ Below w.heap.size w w' := by
 have hu25 := Try.underlying25
 have HR0_1 := ak hr0_1
 have HC0_1 := ak hc0_1
 clear hr0_1 hc0_1
 have HB := ak (Below.refl w.heap.size w)
 have H : ((spec_l1Ok.f k a0_0 l0_1).bind fun t192 => (if t192 = true then ((spec_l1In.f a1 0 (wrap64 (a0_0 - 1))).bind fun t193 => (if t193 = true then ((spec_l1In.f a2 0 (wrap64 (a0_0 - 1))).bind fun t194 => (if t194 = true then ((some (([] : List (S35)) : List (S35))).bind fun y195 => ((spec_l19All.f k a0_0 l0_1 a1).bind fun t198 => (if 0 ≤ a2 then (if a2 < (t198.length : Int) then (if y195.length + (rd_L3 t198 a2).length < 8796093022208 then (some (y195 ++ (rd_L3 t198 a2))) else (none)) else (none)) else (none)))) else (some ([] : List (S35))))) else (some ([] : List (S35))))) else (some ([] : List (S35))))) = some r := h
 clear h
 replace H := Option.bind_eq_some_iff.mp H
 obtain ⟨t192, A40, H⟩ := H
 have A4 := ak A40
 clear A40
 by_cases c5 : t192 = true
 rotate_left
 ·replace c5 := Bool.eq_false_iff.mpr c5
  subst c5
  rw [if_neg (show ¬ (false = true) by decide)] at H
  obtain rfl := Option.some.inj H
  go_enter Try.func22, Try.ntmps22
  go_wp2_with (first | ((with_reducible refine gate_dst (N := 3) rfl ?_); refine box_event ?hg (N := 3) ?hd (cs := #[.int .i64 a0_0, .slice A0_1 l0_1.length c0_1]) (t := 25) ?hr ?_; (case hd => rfl); (case hg => rfl); (case hr => first | (go_simp; done) | (go_simp; rfl)); intro gb191 hg w32 hbox hb; have BK191 := ak (hbox); have GW191 := ak ((by rw [hg]; exact (below_size (bl HB)) : w.heap.size ≤ gb191)); have GE191 := ak ((by rw [hg]; exact (below_size (bl HB)) : w.heap.size ≤ gb191)); replace HB := ak (below_step (bl HB) hb); clear hb hbox hg; have hcz33_0 := bc w32 BK191 0 (.int .i64 a0_0) rfl; have hcz33_1 := bc w32 BK191 1 (.slice A0_1 l0_1.length c0_1) rfl; have hfz33_0 := fz BK191 0; have hfz33_1 := fz BK191 1) | ((with_reducible refine gate_callee (f := 42) rfl ?_); refine goesL_ (some 8) rfl rfl Try.func42 (by kernel_rfl) rfl #[.agg #[.int .i64 a0_0, .slice A0_1 l0_1.length c0_1]] rfl (by (try simp only [List.map_toArray, List.map_cons, List.map_nil]); first | done | rfl | (simp only [List.length_drop, List.length_take]; rfl)) ?_; (with_reducible refine (spec_l1Ok.calls k a0_0 _ _ l0_1 false _ ?side1 ?side2 A4.out).mono ?_); (case side1 => repeat (first | exact (Kd.C_below HR0_1.out HB.out) | (with_reducible refine Kd.C_alloc ?_ _) | (with_reducible refine Kd.C_drewN ?_ _) | (with_reducible refine Kd.C_drew ?_))); (case side2 => exact HC0_1.out); rintro e w34 ⟨rfl, hb⟩; refine ⟨_, rfl, ?_⟩; replace BK191 := ak (blk_below (bk BK191) hb); replace HB := ak (below_step (bl1 HB GE191) hb); (try clear hb); (try clear hb2); (try clear hk); (try clear hi)))
  go_ret
  exact ⟨_, by first | rfl | (simp [errW_none, errW_some] <;> rfl) | (simp [*, errW_none, errW_some] <;> rfl), by first | exact Kd.R_nil _ _ _ _ _ | exact Kd.N_nil _ _ _ _ _ | exact Kd.V_nil _ _ _ _ _ | exact Kd.Q_nil _ _ _ _ _ | exact Kd.S_nil _ _ _ _ _, bl1 HB GE191⟩
 subst c5
 rw [if_pos rfl] at H
 replace H := Option.bind_eq_some_iff.mp H
 obtain ⟨t193, A60, H⟩ := H
 have A6 := ak A60
 clear A60
 by_cases c7 : t193 = true
 rotate_left
 ·replace c7 := Bool.eq_false_iff.mpr c7
  subst c7
  rw [if_neg (show ¬ (false = true) by decide)] at H
  obtain rfl := Option.some.inj H
  go_enter Try.func22, Try.ntmps22
  go_wp2_with (first | ((with_reducible refine gate_dst (N := 3) rfl ?_); refine box_event ?hg (N := 3) ?hd (cs := #[.int .i64 a0_0, .slice A0_1 l0_1.length c0_1]) (t := 25) ?hr ?_; (case hd => rfl); (case hg => rfl); (case hr => first | (go_simp; done) | (go_simp; rfl)); intro gb191 hg w28 hbox hb; have BK191 := ak (hbox); have GW191 := ak ((by rw [hg]; exact (below_size (bl HB)) : w.heap.size ≤ gb191)); have GE191 := ak ((by rw [hg]; exact (below_size (bl HB)) : w.heap.size ≤ gb191)); replace HB := ak (below_step (bl HB) hb); clear hb hbox hg; have hcz29_0 := bc w28 BK191 0 (.int .i64 a0_0) rfl; have hcz29_1 := bc w28 BK191 1 (.slice A0_1 l0_1.length c0_1) rfl; have hfz29_0 := fz BK191 0; have hfz29_1 := fz BK191 1) | ((with_reducible refine gate_callee (f := 42) rfl ?_); refine goesL_ (some 8) rfl rfl Try.func42 (by kernel_rfl) rfl #[.agg #[.int .i64 a0_0, .slice A0_1 l0_1.length c0_1]] rfl (by (try simp only [List.map_toArray, List.map_cons, List.map_nil]); first | done | rfl | (simp only [List.length_drop, List.length_take]; rfl)) ?_; (with_reducible refine (spec_l1Ok.calls k a0_0 _ _ l0_1 true _ ?side1 ?side2 A4.out).mono ?_); (case side1 => repeat (first | exact (Kd.C_below HR0_1.out HB.out) | (with_reducible refine Kd.C_alloc ?_ _) | (with_reducible refine Kd.C_drewN ?_ _) | (with_reducible refine Kd.C_drew ?_))); (case side2 => exact HC0_1.out); rintro e w30 ⟨rfl, hb⟩; refine ⟨_, rfl, ?_⟩; replace BK191 := ak (blk_below (bk BK191) hb); replace HB := ak (below_step (bl1 HB GE191) hb); (try clear hb); (try clear hb2); (try clear hk); (try clear hi); have hcz31_0 := bc w30 BK191 0 (.int .i64 a0_0) rfl; have hcz31_1 := bc w30 BK191 1 (.slice A0_1 l0_1.length c0_1) rfl; have hfz31_0 := fz BK191 0; have hfz31_1 := fz BK191 1) | (go_at_call 48; (with_reducible refine (spec_l1In.calls a1 0 (wrap64 (a0_0 - 1)) false _ A6.out).mono ?_); rintro e w' ⟨rfl, ⟨nd, rfl⟩⟩))
  go_ret
  exact ⟨_, by first | rfl | (simp [errW_none, errW_some] <;> rfl) | (simp [*, errW_none, errW_some] <;> rfl), by first | exact Kd.R_nil _ _ _ _ _ | exact Kd.N_nil _ _ _ _ _ | exact Kd.V_nil _ _ _ _ _ | exact Kd.Q_nil _ _ _ _ _ | exact Kd.S_nil _ _ _ _ _, bl1 HB GE191⟩
 subst c7
 rw [if_pos rfl] at H
 replace H := Option.bind_eq_some_iff.mp H
 obtain ⟨t194, A80, H⟩ := H
 have A8 := ak A80
 clear A80
 by_cases c9 : t194 = true
 rotate_left
 ·replace c9 := Bool.eq_false_iff.mpr c9
  subst c9
  rw [if_neg (show ¬ (false = true) by decide)] at H
  obtain rfl := Option.some.inj H
  go_enter Try.func22, Try.ntmps22
  go_wp2_with (first | ((with_reducible refine gate_dst (N := 3) rfl ?_); refine box_event ?hg (N := 3) ?hd (cs := #[.int .i64 a0_0, .slice A0_1 l0_1.length c0_1]) (t := 25) ?hr ?_; (case hd => rfl); (case hg => rfl); (case hr => first | (go_simp; done) | (go_simp; rfl)); intro gb191 hg w24 hbox hb; have BK191 := ak (hbox); have GW191 := ak ((by rw [hg]; exact (below_size (bl HB)) : w.heap.size ≤ gb191)); have GE191 := ak ((by rw [hg]; exact (below_size (bl HB)) : w.heap.size ≤ gb191)); replace HB := ak (below_step (bl HB) hb); clear hb hbox hg; have hcz25_0 := bc w24 BK191 0 (.int .i64 a0_0) rfl; have hcz25_1 := bc w24 BK191 1 (.slice A0_1 l0_1.length c0_1) rfl; have hfz25_0 := fz BK191 0; have hfz25_1 := fz BK191 1) | ((with_reducible refine gate_callee (f := 42) rfl ?_); refine goesL_ (some 8) rfl rfl Try.func42 (by kernel_rfl) rfl #[.agg #[.int .i64 a0_0, .slice A0_1 l0_1.length c0_1]] rfl (by (try simp only [List.map_toArray, List.map_cons, List.map_nil]); first | done | rfl | (simp only [List.length_drop, List.length_take]; rfl)) ?_; (with_reducible refine (spec_l1Ok.calls k a0_0 _ _ l0_1 true _ ?side1 ?side2 A4.out).mono ?_); (case side1 => repeat (first | exact (Kd.C_below HR0_1.out HB.out) | (with_reducible refine Kd.C_alloc ?_ _) | (with_reducible refine Kd.C_drewN ?_ _) | (with_reducible refine Kd.C_drew ?_))); (case side2 => exact HC0_1.out); rintro e w26 ⟨rfl, hb⟩; refine ⟨_, rfl, ?_⟩; replace BK191 := ak (blk_below (bk BK191) hb); replace HB := ak (below_step (bl1 HB GE191) hb); (try clear hb); (try clear hb2); (try clear hk); (try clear hi); have hcz27_0 := bc w26 BK191 0 (.int .i64 a0_0) rfl; have hcz27_1 := bc w26 BK191 1 (.slice A0_1 l0_1.length c0_1) rfl; have hfz27_0 := fz BK191 0; have hfz27_1 := fz BK191 1) | (go_at_call 48; (with_reducible refine (spec_l1In.calls a1 0 (wrap64 (a0_0 - 1)) true _ A6.out).mono ?_); rintro e w' ⟨rfl, ⟨nd, rfl⟩⟩) | (go_at_call 48; (with_reducible refine (spec_l1In.calls a2 0 (wrap64 (a0_0 - 1)) false _ A8.out).mono ?_); rintro e w' ⟨rfl, ⟨nd, rfl⟩⟩))
  go_ret
  exact ⟨_, by first | rfl | (simp [errW_none, errW_some] <;> rfl) | (simp [*, errW_none, errW_some] <;> rfl), by first | exact Kd.R_nil _ _ _ _ _ | exact Kd.N_nil _ _ _ _ _ | exact Kd.V_nil _ _ _ _ _ | exact Kd.Q_nil _ _ _ _ _ | exact Kd.S_nil _ _ _ _ _, bl1 HB GE191⟩
 subst c9
 rw [if_pos rfl] at H
 obtain ⟨y195, hy195⟩ : ∃ y_ : List (S35), y_ = (([] : List (S35))) := ⟨_, rfl⟩
 replace H : ((spec_l19All.f k a0_0 l0_1 a1).bind fun t198 => (if 0 ≤ a2 then (if a2 < (t198.length : Int) then (if y195.length + (rd_L3 t198 a2).length < 8796093022208 then (some (y195 ++ (rd_L3 t198 a2))) else (none)) else (none)) else (none))) = some r := by first | (rw [hy195]; with_reducible exact H) | (have H2_ := (Option.bind_some _ _).symm.trans H; rw [hy195]; with_reducible exact H2_) | (have H2_ := (Option.bind_some _ _).symm.trans H; with_reducible exact H2_) | with_reducible exact H | (rw [hy195]; exact H) | exact H
 have Ny195 := ak hy195
 clear hy195
 replace H := Option.bind_eq_some_iff.mp H
 obtain ⟨t198, A100, H⟩ := H
 have A10 := ak A100
 clear A100
 by_cases c11 : 0 ≤ a2
 rotate_left
 ·rw [if_neg c11] at H
  exact absurd H (by simp)
 rw [if_pos c11] at H
 have c11b0 : decide (0 ≤ a2) = true := decide_eq_true c11
 clear c11
 by_cases c12 : a2 < (t198.length : Int)
 rotate_left
 ·rw [if_neg c12] at H
  exact absurd H (by simp)
 rw [if_pos c12] at H
 have c12b0 : decide (a2 < (t198.length : Int)) = true := decide_eq_true c12
 clear c12
 by_cases c13 : y195.length + (rd_L3 t198 a2).length < 8796093022208
 rotate_left
 ·rw [if_neg c13] at H
  exact absurd H (by simp)
 rw [if_pos c13] at H
 have LMc13 := ak c13
 clear c13
 obtain ⟨y202, hy202⟩ : ∃ y_ : List (S35), y_ = (y195 ++ (rd_L3 t198 a2)) := ⟨_, rfl⟩
 replace H : (some y202) = some r := by first | (rw [hy202]; with_reducible exact H) | (have H2_ := (Option.bind_some _ _).symm.trans H; rw [hy202]; with_reducible exact H2_) | (have H2_ := (Option.bind_some _ _).symm.trans H; with_reducible exact H2_) | with_reducible exact H | (rw [hy202]; exact H) | exact H
 have Ny202 := ak hy202
 clear hy202
 obtain rfl := Option.some.inj H
 go_enter Try.func22, Try.ntmps22
 go_wp2_with (first | ((with_reducible refine gate_dst (N := 3) rfl ?_); refine box_event ?hg (N := 3) ?hd (cs := #[.int .i64 a0_0, .slice A0_1 l0_1.length c0_1]) (t := 25) ?hr ?_; (case hd => rfl); (case hg => rfl); (case hr => first | (go_simp; done) | (go_simp; rfl)); intro gb191 hg w14 hbox hb; have BK191 := ak (hbox); have GW191 := ak ((by rw [hg]; exact (below_size (bl HB)) : w.heap.size ≤ gb191)); have GE191 := ak ((by rw [hg]; exact (below_size (bl HB)) : w.heap.size ≤ gb191)); replace HB := ak (below_step (bl HB) hb); clear hb hbox hg; have hcz15_0 := bc w14 BK191 0 (.int .i64 a0_0) rfl; have hcz15_1 := bc w14 BK191 1 (.slice A0_1 l0_1.length c0_1) rfl; have hfz15_0 := fz BK191 0; have hfz15_1 := fz BK191 1) | ((with_reducible refine gate_callee (f := 42) rfl ?_); refine goesL_ (some 8) rfl rfl Try.func42 (by kernel_rfl) rfl #[.agg #[.int .i64 a0_0, .slice A0_1 l0_1.length c0_1]] rfl (by (try simp only [List.map_toArray, List.map_cons, List.map_nil]); first | done | rfl | (simp only [List.length_drop, List.length_take]; rfl)) ?_; (with_reducible refine (spec_l1Ok.calls k a0_0 _ _ l0_1 true _ ?side1 ?side2 A4.out).mono ?_); (case side1 => repeat (first | exact (Kd.C_below HR0_1.out HB.out) | (with_reducible refine Kd.C_alloc ?_ _) | (with_reducible refine Kd.C_drewN ?_ _) | (with_reducible refine Kd.C_drew ?_))); (case side2 => exact HC0_1.out); rintro e w16 ⟨rfl, hb⟩; refine ⟨_, rfl, ?_⟩; replace BK191 := ak (blk_below (bk BK191) hb); replace HB := ak (below_step (bl1 HB GE191) hb); (try clear hb); (try clear hb2); (try clear hk); (try clear hi); have hcz17_0 := bc w16 BK191 0 (.int .i64 a0_0) rfl; have hcz17_1 := bc w16 BK191 1 (.slice A0_1 l0_1.length c0_1) rfl; have hfz17_0 := fz BK191 0; have hfz17_1 := fz BK191 1) | (go_at_call 48; (with_reducible refine (spec_l1In.calls a1 0 (wrap64 (a0_0 - 1)) true _ A6.out).mono ?_); rintro e w' ⟨rfl, ⟨nd, rfl⟩⟩) | (go_at_call 48; (with_reducible refine (spec_l1In.calls a2 0 (wrap64 (a0_0 - 1)) true _ A8.out).mono ?_); rintro e w' ⟨rfl, ⟨nd, rfl⟩⟩) | ((with_reducible refine gate_dst (N := 26) rfl ?_); refine Kd.R_lit k35 _ 35 ?hg (N := 26) ?hd (xs := ([] : List (S35))) (inner := []) (ok := fun _ => True) (okp := fun _ => True) ?hr ?hp (fun _ hk => hk) trivial (Below.refl _ _) (Nat.le_refl _) (by simp) ?_; (case hd => rfl); (case hg => rfl); (case hr => first | (go_simp; done) | (go_simp; rfl)); (case hp => exact (Reps.none _ _)); intro v196 w18 ho19 hb hg_ hnew_; clear hg_ hnew_; (first | rw [← Ny195.out] at ho19 | (simp only [Int.reduceToNat] at ho19; rw [← Ny195.out] at ho19)); have HO197 := ak (Kd.R_lower ho19 (below_size (bl1 HB GE191))); replace BK191 := ak (blk_below (bk BK191) hb); replace HB := ak (below_step (bl1 HB GE191) hb); clear hb ho19; have hcz20_0 := bc w18 BK191 0 (.int .i64 a0_0) rfl; have hcz20_1 := bc w18 BK191 1 (.slice A0_1 l0_1.length c0_1) rfl; have hfz20_0 := fz BK191 0; have hfz20_1 := fz BK191 1) | ((with_reducible refine gate_callee (f := 49) rfl ?_); refine goesL_ (some 29) rfl rfl Try.func49 (by kernel_rfl) rfl #[.agg #[.int .i64 a0_0, .slice A0_1 l0_1.length c0_1], .int .i64 a1] rfl (by (try simp only [List.map_toArray, List.map_cons, List.map_nil]); first | done | rfl | (simp only [List.length_drop, List.length_take]; rfl)) ?_; (with_reducible refine (spec_l19All.calls k a0_0 _ _ l0_1 a1 t198 _ ?side1 ?side2 A10.out).mono ?_); (case side1 => repeat (first | exact (Kd.C_below HR0_1.out HB.out) | (with_reducible refine Kd.C_alloc ?_ _) | (with_reducible refine Kd.C_drewN ?_ _) | (with_reducible refine Kd.C_drew ?_))); (case side2 => exact HC0_1.out); rintro e w21 ⟨v199, rfl, ho0, hb⟩; refine ⟨_, rfl, ?_⟩; have HO200 := ak (Kd.N_lower (Kd.N_mono (ok' := fun k_ => some k_ ≠ (v196 : Value).ownBlock ∧ k_ ≠ gb191) ho0 (fun k_ hk_ => ⟨(Kd.fresh' (Kd.R_lt (rk HO197)) k_ hk_), (Kd.freshB (bk BK191) k_ hk_)⟩)) (below_size (bl1 HB GE191))); replace HO197 := ak (Kd.R_below (rk HO197) hb); replace BK191 := ak (blk_below (bk BK191) hb); replace HB := ak (below_step (bl1 HB GE191) hb); (try clear hb); (try clear hb2); (try clear hk); (try clear hi); (try clear ho0); obtain ⟨Ao22, co22, eo22⟩ := Kd.N_slice HO200.out; subst eo22; have p201 : 0 ≤ (a2 : Int) := oT (by first | (with_reducible assumption) | assumption); have q201 : a2 < (t198.length : Int) := oT (by first | (with_reducible assumption) | assumption); obtain ⟨ad201, A201_0, c201_0, e201, hx201_0, hl201_0, hi201_0⟩ := at_L3 (Kd.N_reads' HO200.out).2.2 a2 p201 q201; cases e201; obtain ⟨ce201, hce201, hMe201, hcc201⟩ := Kd.N_get HO200.out [] a2 p201 (by first | exact q201 | exact oT (by first | (with_reducible assumption) | assumption) | (have e_ := (Kd.N_reads' HO200.out).1; omega)); obtain ⟨ua201_0, uc201_0, rfl, ul201_0, ge201_0⟩ := Kd.FK_slice_open hMe201; have hv201_0 := hcc201 0 _ rfl; rw [Nat.add_zero, show ((Kd.slice 35 k35)).sz = 1 from rfl, Nat.mul_one] at hv201_0; replace hv201_0 := Option.some.inj (hv201_0.symm.trans hx201_0); injection hv201_0 with hva_ hvn_ hvc_; rw [hva_] at ge201_0; rw [hvc_] at ul201_0; have HL201_0 := ak (show Kd.V k35 35 _ w.heap.size _ _ (rd_L3 t198 a2) from Kd.V_mk ul201_0 ge201_0); clear hva_ hvn_ hvc_ ge201_0 ul201_0; clear hcc201 hce201; have HR201_0 := ak hi201_0; have HC201_0 := ak hl201_0; clear hi201_0 hl201_0; replace p201 := eq_true p201; replace q201 := eq_true q201) | ((with_reducible refine gate_builtin (b := .append) (xs := #[.tmp 26, .tmp 32]) rfl ?_); at_builtin; refine Kd.R_append_rows k35 (w0 := w) w.heap.size rfl (.tmp 26) (.tmp 32) 30 35 (.agg #[(.int .i64 0), (.int .i64 0)]) 16 rfl Try.underlying30 info35 rfl (by decide) (by omega) v196 y195 (rd_L3 t198 a2) _ _ _ (fun _ => True) (fun _ => False) rfl rfl ?aO ?aR (fun _ _ h => h) (fun _ h => h.elim) ?aF ?aB ?aS ?aL ?_; (case aR => repeat (first | exact (by repeat (first | (with_reducible exact HR201_0.out) | (with_reducible refine Kd.C_alloc ?_ _) | (with_reducible refine Kd.C_drewN ?_ _) | (with_reducible refine Kd.C_drew ?_) | exact HR201_0.out)) | (with_reducible refine Kd.C_alloc ?_ _) | (with_reducible refine Kd.C_drewN ?_ _) | (with_reducible refine Kd.C_drew ?_))); (case aB => exact (bl1 HB GE191)); (case aF => exact (fun _ _ => trivial)); (case aO => exact (rk HO197)); (case aS => exact (below_size (bl1 HB GE191))); (case aL => have := LMc13.out; omega); intro v203 w23 ho hb hg hat; rw [← Ny202.out] at ho; have n0_ := ak (blk_grown (bk BK191) hg (Kd.R_ne HO197.out BK191.out (by decide))); have n1_ := ak (Kd.N_afterv (ok := (fun k_ => k_ ≠ gb191)) (by (with_reducible repeat (first | apply Kd.N_alloc | apply Kd.N_drewN | apply Kd.N_drew)); exact Kd.N_mono HO200.out (fun _ hk => ⟨hk.2, hk.1⟩)) hg hat); have n2_ := ak (Kd.V_afterv (ok := (fun k_ => some k_ ≠ (.slice (some ad201) t198.length co22 : Value).ownBlock ∧ k_ ≠ gb191)) (by (with_reducible repeat (first | apply Kd.V_alloc | apply Kd.V_drewN | apply Kd.V_drew)); exact Kd.V_mono HL201_0.out (fun _ hk => ⟨⟨hk.2, hk.1.2⟩, hk.1.1⟩)) hg hat); have n3_ := ak (hb); have n4_ := ak (ho); clear BK191; clear HO200; clear HL201_0; clear HB; clear HO197; have BK191 := n0_; have HO200 := n1_; have HL201_0 := n2_; have HB := n3_; have HO204 := n4_; clear n0_ n1_ n2_ n3_ n4_; clear ho hb hg hat))
 go_ret
 exact ⟨_, by first | rfl | (simp [errW_none, errW_some] <;> rfl) | (simp [*, errW_none, errW_some] <;> rfl), rk HO204, bl1 HB GE191⟩

end Go.Proofs.Ytddkaiegnohkcaa.F
