-- Printed by wip/px/px.py of this claim's repository (the kit's printer, extended there). Lean checks it.
import Derived.Test.YtddkaiegnohkcaaFKinds
import Derived.Test.YtddkaiegnohkcaaFspecl1In
import Derived.Test.YtddkaiegnohkcaaFspecl1Ok
import Derived.Test.YtddkaiegnohkcaaFspecl19All
namespace Go.Proofs.Ytddkaiegnohkcaa.F
open Go.RowKit Go.Proofs.YtddkaiegnohkcaaW.PrintWords Go.Proofs.YtddkaiegnohkcaaW.PrintLast Go.Proofs.YtddkaiegnohkcaaW.PrintMore
attribute [local go_sem] max2_int min2_int max_two min_two max_three min_three max_four min_four   -- for this text's walks alone
set_option linter.unusedVariables false
set_option linter.unusedSimpArgs false

/-! ### spec_PairAll: function 22 -/
def spec_PairAll.f (k : Nat) (a0_0 : Int) (l0_1 : List (S33)) (a1 : Int) (a2 : Int) : Option ((List (S35))) := (spec_l1Ok.f k a0_0 l0_1).bind fun t551 => (if t551 = true then ((spec_l1In.f a1 0 (wrap64 (a0_0 - 1))).bind fun t552 => (if t552 = true then ((spec_l1In.f a2 0 (wrap64 (a0_0 - 1))).bind fun t553 => (if t553 = true then ((some (([] : List (S35)) : List (S35))).bind fun y554 => ((spec_l19All.f k a0_0 l0_1 a1).bind fun t557 => (if 0 ≤ a2 then (if a2 < (t557.length : Int) then (if y554.length + (rd_L5 t557 a2).length < 8796093022208 then (some (y554 ++ (rd_L5 t557 a2))) else (none)) else (none)) else (none)))) else (some ([] : List (S35))))) else (some ([] : List (S35))))) else (some ([] : List (S35))))
theorem spec_PairAll.mono : ∀ a0 a1 a2 a3 k, LeO (spec_PairAll.f k a0 a1 a2 a3) (spec_PairAll.f (k + 1) a0 a1 a2 a3) := by
 intro a0 a1 a2 a3 k
 unfold spec_PairAll.f
 repeat' first | (with_reducible exact spec_l19All.mono _ _ _ _) | (with_reducible exact spec_l1Ok.mono _ _ _) | (with_reducible exact LeO.refl _) | (with_reducible refine LeO.ite ?_ ?_) | (with_reducible refine LeO.bind ?_ (fun _ => ?_))
set_option maxHeartbeats 8000000 in
set_option maxRecDepth 100000 in
theorem spec_PairAll.calls (k : Nat) (a0_0 : Int) (A0_1 : Option Addr) (c0_1 : Nat) (l0_1 : List (S33)) (a1 : Int) (a2 : Int) (r : List (S35)) (w : World) (hr0_1 : Kd.C k33 w A0_1 l0_1.length l0_1) (hc0_1 : l0_1.length ≤ c0_1) (h : spec_PairAll.f k a0_0 l0_1 a1 a2 = some r) :
  Calls Try.prog 22 #[.agg #[.int .i64 a0_0, .slice A0_1 l0_1.length c0_1], .int .i64 a1, .int .i64 a2] w fun e w' => ∃ v0_ : Value, e = .returned (v0_) ∧ Kd.R k35 35 w' w.heap.size (fun _ => True) v0_ r ∧ Below w.heap.size w w' := by
 have hu25 := Try.underlying25
 have HR0_1 := ak hr0_1
 have HC0_1 := ak hc0_1
 clear hr0_1 hc0_1
 have HB := ak (Below.refl w.heap.size w)
 have H : ((spec_l1Ok.f k a0_0 l0_1).bind fun t551 => (if t551 = true then ((spec_l1In.f a1 0 (wrap64 (a0_0 - 1))).bind fun t552 => (if t552 = true then ((spec_l1In.f a2 0 (wrap64 (a0_0 - 1))).bind fun t553 => (if t553 = true then ((some (([] : List (S35)) : List (S35))).bind fun y554 => ((spec_l19All.f k a0_0 l0_1 a1).bind fun t557 => (if 0 ≤ a2 then (if a2 < (t557.length : Int) then (if y554.length + (rd_L5 t557 a2).length < 8796093022208 then (some (y554 ++ (rd_L5 t557 a2))) else (none)) else (none)) else (none)))) else (some ([] : List (S35))))) else (some ([] : List (S35))))) else (some ([] : List (S35))))) = some r := h
 clear h
 replace H := Option.bind_eq_some_iff.mp H
 obtain ⟨t551, A40, H⟩ := H
 have A4 := ak A40
 clear A40
 by_cases c5 : t551 = true
 rotate_left
 ·replace c5 := Bool.eq_false_iff.mpr c5
  subst c5
  rw [if_neg (show ¬ (false = true) by decide)] at H
  obtain rfl := Option.some.inj H
  go_enter Try.func22, Try.ntmps22
  go_wp2_with (first | ((with_reducible refine gate_dst (N := 3) rfl ?_); refine box_event ?hg (N := 3) ?hd (cs := #[.int .i64 a0_0, .slice A0_1 l0_1.length c0_1]) (t := 25) ?hr ?_; (case hd => rfl); (case hg => rfl); (case hr => (go_simp; done)); intro gb550 hg w32 hbox hb; have BK550 := ak (hbox); have GW550 := ak ((by rw [hg]; exact (below_size (bl HB)) : w.heap.size ≤ gb550)); have GE550 := ak ((by rw [hg]; exact (below_size (bl HB)) : w.heap.size ≤ gb550)); replace HB := ak (below_step (bl HB) hb); clear hb hbox hg; have hcz33_0 := bc w32 BK550 0 (.int .i64 a0_0) rfl; have hcz33_1 := bc w32 BK550 1 (.slice A0_1 l0_1.length c0_1) rfl; have hfz33_0 := fz BK550 0; have hfz33_1 := fz BK550 1) | ((with_reducible refine gate_callee (f := 42) rfl ?_); refine goesL_ (some 8) rfl rfl Try.func42 (by kernel_rfl) rfl #[.agg #[.int .i64 a0_0, .slice A0_1 l0_1.length c0_1]] rfl (by (try simp only [List.map_toArray, List.map_cons, List.map_nil]); rfl) ?_; (with_reducible refine (spec_l1Ok.calls k a0_0 _ _ l0_1 false _ ?side1 ?side2 A4.out).mono ?_); (case side1 => repeat (exact (Kd.C_below HR0_1.out HB.out))); (case side2 => exact HC0_1.out); rintro e w34 ⟨rfl, hb⟩; refine ⟨_, rfl, ?_⟩; replace BK550 := ak (blk_below (bk BK550) hb); replace HB := ak (below_step (bl1 HB GE550) hb); (try clear hb); (try clear hb2); (try clear hk); (try clear hi)))
  go_ret
  exact ⟨_, by rfl, by exact Kd.R_nil _ _ _ _ _, bl1 HB GE550⟩
 subst c5
 rw [if_pos rfl] at H
 replace H := Option.bind_eq_some_iff.mp H
 obtain ⟨t552, A60, H⟩ := H
 have A6 := ak A60
 clear A60
 by_cases c7 : t552 = true
 rotate_left
 ·replace c7 := Bool.eq_false_iff.mpr c7
  subst c7
  rw [if_neg (show ¬ (false = true) by decide)] at H
  obtain rfl := Option.some.inj H
  go_enter Try.func22, Try.ntmps22
  go_wp2_with (first | ((with_reducible refine gate_dst (N := 3) rfl ?_); refine box_event ?hg (N := 3) ?hd (cs := #[.int .i64 a0_0, .slice A0_1 l0_1.length c0_1]) (t := 25) ?hr ?_; (case hd => rfl); (case hg => rfl); (case hr => (go_simp; done)); intro gb550 hg w28 hbox hb; have BK550 := ak (hbox); have GW550 := ak ((by rw [hg]; exact (below_size (bl HB)) : w.heap.size ≤ gb550)); have GE550 := ak ((by rw [hg]; exact (below_size (bl HB)) : w.heap.size ≤ gb550)); replace HB := ak (below_step (bl HB) hb); clear hb hbox hg; have hcz29_0 := bc w28 BK550 0 (.int .i64 a0_0) rfl; have hcz29_1 := bc w28 BK550 1 (.slice A0_1 l0_1.length c0_1) rfl; have hfz29_0 := fz BK550 0; have hfz29_1 := fz BK550 1) | ((with_reducible refine gate_callee (f := 42) rfl ?_); refine goesL_ (some 8) rfl rfl Try.func42 (by kernel_rfl) rfl #[.agg #[.int .i64 a0_0, .slice A0_1 l0_1.length c0_1]] rfl (by (try simp only [List.map_toArray, List.map_cons, List.map_nil]); rfl) ?_; (with_reducible refine (spec_l1Ok.calls k a0_0 _ _ l0_1 true _ ?side1 ?side2 A4.out).mono ?_); (case side1 => repeat (exact (Kd.C_below HR0_1.out HB.out))); (case side2 => exact HC0_1.out); rintro e w30 ⟨rfl, hb⟩; refine ⟨_, rfl, ?_⟩; replace BK550 := ak (blk_below (bk BK550) hb); replace HB := ak (below_step (bl1 HB GE550) hb); (try clear hb); (try clear hb2); (try clear hk); (try clear hi); have hcz31_0 := bc w30 BK550 0 (.int .i64 a0_0) rfl; have hcz31_1 := bc w30 BK550 1 (.slice A0_1 l0_1.length c0_1) rfl; have hfz31_0 := fz BK550 0; have hfz31_1 := fz BK550 1) | (go_at_call 48; (with_reducible refine (spec_l1In.calls a1 0 (wrap64 (a0_0 - 1)) false _ A6.out).mono ?_); rintro e w' ⟨rfl, ⟨nd, rfl⟩⟩))
  go_ret
  exact ⟨_, by rfl, by exact Kd.R_nil _ _ _ _ _, bl1 HB GE550⟩
 subst c7
 rw [if_pos rfl] at H
 replace H := Option.bind_eq_some_iff.mp H
 obtain ⟨t553, A80, H⟩ := H
 have A8 := ak A80
 clear A80
 by_cases c9 : t553 = true
 rotate_left
 ·replace c9 := Bool.eq_false_iff.mpr c9
  subst c9
  rw [if_neg (show ¬ (false = true) by decide)] at H
  obtain rfl := Option.some.inj H
  go_enter Try.func22, Try.ntmps22
  go_wp2_with (first | ((with_reducible refine gate_dst (N := 3) rfl ?_); refine box_event ?hg (N := 3) ?hd (cs := #[.int .i64 a0_0, .slice A0_1 l0_1.length c0_1]) (t := 25) ?hr ?_; (case hd => rfl); (case hg => rfl); (case hr => (go_simp; done)); intro gb550 hg w24 hbox hb; have BK550 := ak (hbox); have GW550 := ak ((by rw [hg]; exact (below_size (bl HB)) : w.heap.size ≤ gb550)); have GE550 := ak ((by rw [hg]; exact (below_size (bl HB)) : w.heap.size ≤ gb550)); replace HB := ak (below_step (bl HB) hb); clear hb hbox hg; have hcz25_0 := bc w24 BK550 0 (.int .i64 a0_0) rfl; have hcz25_1 := bc w24 BK550 1 (.slice A0_1 l0_1.length c0_1) rfl; have hfz25_0 := fz BK550 0; have hfz25_1 := fz BK550 1) | ((with_reducible refine gate_callee (f := 42) rfl ?_); refine goesL_ (some 8) rfl rfl Try.func42 (by kernel_rfl) rfl #[.agg #[.int .i64 a0_0, .slice A0_1 l0_1.length c0_1]] rfl (by (try simp only [List.map_toArray, List.map_cons, List.map_nil]); rfl) ?_; (with_reducible refine (spec_l1Ok.calls k a0_0 _ _ l0_1 true _ ?side1 ?side2 A4.out).mono ?_); (case side1 => repeat (exact (Kd.C_below HR0_1.out HB.out))); (case side2 => exact HC0_1.out); rintro e w26 ⟨rfl, hb⟩; refine ⟨_, rfl, ?_⟩; replace BK550 := ak (blk_below (bk BK550) hb); replace HB := ak (below_step (bl1 HB GE550) hb); (try clear hb); (try clear hb2); (try clear hk); (try clear hi); have hcz27_0 := bc w26 BK550 0 (.int .i64 a0_0) rfl; have hcz27_1 := bc w26 BK550 1 (.slice A0_1 l0_1.length c0_1) rfl; have hfz27_0 := fz BK550 0; have hfz27_1 := fz BK550 1) | (go_at_call 48; (with_reducible refine (spec_l1In.calls a1 0 (wrap64 (a0_0 - 1)) true _ A6.out).mono ?_); rintro e w' ⟨rfl, ⟨nd, rfl⟩⟩) | (go_at_call 48; (with_reducible refine (spec_l1In.calls a2 0 (wrap64 (a0_0 - 1)) false _ A8.out).mono ?_); rintro e w' ⟨rfl, ⟨nd, rfl⟩⟩))
  go_ret
  exact ⟨_, by rfl, by exact Kd.R_nil _ _ _ _ _, bl1 HB GE550⟩
 subst c9
 rw [if_pos rfl] at H
 obtain ⟨y554, hy554⟩ : ∃ y_ : List (S35), y_ = (([] : List (S35))) := ⟨_, rfl⟩
 replace H : ((spec_l19All.f k a0_0 l0_1 a1).bind fun t557 => (if 0 ≤ a2 then (if a2 < (t557.length : Int) then (if y554.length + (rd_L5 t557 a2).length < 8796093022208 then (some (y554 ++ (rd_L5 t557 a2))) else (none)) else (none)) else (none))) = some r := by (have H2_ := (Option.bind_some _ _).symm.trans H; rw [hy554]; with_reducible exact H2_)
 have Ny554 := ak hy554
 clear hy554
 replace H := Option.bind_eq_some_iff.mp H
 obtain ⟨t557, A100, H⟩ := H
 have A10 := ak A100
 clear A100
 by_cases c11 : 0 ≤ a2
 rotate_left
 ·rw [if_neg c11] at H
  exact absurd H (by simp)
 rw [if_pos c11] at H
 have c11b0 : decide (0 ≤ a2) = true := decide_eq_true c11
 clear c11
 by_cases c12 : a2 < (t557.length : Int)
 rotate_left
 ·rw [if_neg c12] at H
  exact absurd H (by simp)
 rw [if_pos c12] at H
 have c12b0 : decide (a2 < (t557.length : Int)) = true := decide_eq_true c12
 clear c12
 by_cases c13 : y554.length + (rd_L5 t557 a2).length < 8796093022208
 rotate_left
 ·rw [if_neg c13] at H
  exact absurd H (by simp)
 rw [if_pos c13] at H
 have LMc13 := ak c13
 clear c13
 obtain ⟨y561, hy561⟩ : ∃ y_ : List (S35), y_ = (y554 ++ (rd_L5 t557 a2)) := ⟨_, rfl⟩
 replace H : (some y561) = some r := by (rw [hy561]; with_reducible exact H)
 have Ny561 := ak hy561
 clear hy561
 obtain rfl := Option.some.inj H
 go_enter Try.func22, Try.ntmps22
 go_wp2_with (first | ((with_reducible refine gate_dst (N := 3) rfl ?_); refine box_event ?hg (N := 3) ?hd (cs := #[.int .i64 a0_0, .slice A0_1 l0_1.length c0_1]) (t := 25) ?hr ?_; (case hd => rfl); (case hg => rfl); (case hr => (go_simp; done)); intro gb550 hg w14 hbox hb; have BK550 := ak (hbox); have GW550 := ak ((by rw [hg]; exact (below_size (bl HB)) : w.heap.size ≤ gb550)); have GE550 := ak ((by rw [hg]; exact (below_size (bl HB)) : w.heap.size ≤ gb550)); replace HB := ak (below_step (bl HB) hb); clear hb hbox hg; have hcz15_0 := bc w14 BK550 0 (.int .i64 a0_0) rfl; have hcz15_1 := bc w14 BK550 1 (.slice A0_1 l0_1.length c0_1) rfl; have hfz15_0 := fz BK550 0; have hfz15_1 := fz BK550 1) | ((with_reducible refine gate_callee (f := 42) rfl ?_); refine goesL_ (some 8) rfl rfl Try.func42 (by kernel_rfl) rfl #[.agg #[.int .i64 a0_0, .slice A0_1 l0_1.length c0_1]] rfl (by (try simp only [List.map_toArray, List.map_cons, List.map_nil]); rfl) ?_; (with_reducible refine (spec_l1Ok.calls k a0_0 _ _ l0_1 true _ ?side1 ?side2 A4.out).mono ?_); (case side1 => repeat (exact (Kd.C_below HR0_1.out HB.out))); (case side2 => exact HC0_1.out); rintro e w16 ⟨rfl, hb⟩; refine ⟨_, rfl, ?_⟩; replace BK550 := ak (blk_below (bk BK550) hb); replace HB := ak (below_step (bl1 HB GE550) hb); (try clear hb); (try clear hb2); (try clear hk); (try clear hi); have hcz17_0 := bc w16 BK550 0 (.int .i64 a0_0) rfl; have hcz17_1 := bc w16 BK550 1 (.slice A0_1 l0_1.length c0_1) rfl; have hfz17_0 := fz BK550 0; have hfz17_1 := fz BK550 1) | (go_at_call 48; (with_reducible refine (spec_l1In.calls a1 0 (wrap64 (a0_0 - 1)) true _ A6.out).mono ?_); rintro e w' ⟨rfl, ⟨nd, rfl⟩⟩) | (go_at_call 48; (with_reducible refine (spec_l1In.calls a2 0 (wrap64 (a0_0 - 1)) true _ A8.out).mono ?_); rintro e w' ⟨rfl, ⟨nd, rfl⟩⟩) | ((with_reducible refine gate_dst (N := 26) rfl ?_); refine Kd.R_lit k35 _ 35 ?hg (N := 26) ?hd (xs := ([] : List (S35))) (inner := []) (ok := fun _ => True) (okp := fun _ => True) ?hr ?hp (fun _ hk => hk) trivial (Below.refl _ _) (Nat.le_refl _) (by simp) ?_; (case hd => rfl); (case hg => rfl); (case hr => (go_simp; done)); (case hp => exact (Reps.none _ _)); intro v555 w18 ho19 hb hg_ hnew_; clear hg_ hnew_; (rw [← Ny554.out] at ho19); have HO556 := ak (Kd.R_lower ho19 (below_size (bl1 HB GE550))); replace BK550 := ak (blk_below (bk BK550) hb); replace HB := ak (below_step (bl1 HB GE550) hb); clear hb ho19; have hcz20_0 := bc w18 BK550 0 (.int .i64 a0_0) rfl; have hcz20_1 := bc w18 BK550 1 (.slice A0_1 l0_1.length c0_1) rfl; have hfz20_0 := fz BK550 0; have hfz20_1 := fz BK550 1) | ((with_reducible refine gate_callee (f := 49) rfl ?_); refine goesL_ (some 29) rfl rfl Try.func49 (by kernel_rfl) rfl #[.agg #[.int .i64 a0_0, .slice A0_1 l0_1.length c0_1], .int .i64 a1] rfl (by (try simp only [List.map_toArray, List.map_cons, List.map_nil]); rfl) ?_; (with_reducible refine (spec_l19All.calls k a0_0 _ _ l0_1 a1 t557 _ ?side1 ?side2 A10.out).mono ?_); (case side1 => repeat (exact (Kd.C_below HR0_1.out HB.out))); (case side2 => exact HC0_1.out); rintro e w21 ⟨v558, rfl, ho0, hb⟩; refine ⟨_, rfl, ?_⟩; have HO559 := ak (Kd.N_lower (Kd.N_mono (ok' := fun k_ => some k_ ≠ (v555 : Value).ownBlock ∧ k_ ≠ gb550) ho0 (fun k_ hk_ => ⟨(Kd.fresh' (Kd.R_lt (rk HO556)) k_ hk_), (Kd.freshB (bk BK550) k_ hk_)⟩)) (below_size (bl1 HB GE550))); replace HO556 := ak (Kd.R_below (rk HO556) hb); replace BK550 := ak (blk_below (bk BK550) hb); replace HB := ak (below_step (bl1 HB GE550) hb); (try clear hb); (try clear hb2); (try clear hk); (try clear hi); (try clear ho0); obtain ⟨Ao22, co22, eo22⟩ := Kd.N_slice HO559.out; subst eo22; have p560 : 0 ≤ (a2 : Int) := oT (by (with_reducible assumption)); have q560 : a2 < (t557.length : Int) := oT (by (with_reducible assumption)); obtain ⟨ad560, A560_0, c560_0, e560, hx560_0, hl560_0, hi560_0⟩ := at_L5 (Kd.N_reads' HO559.out).2.2 a2 p560 q560; cases e560; obtain ⟨ce560, hce560, hMe560, hcc560⟩ := Kd.N_get HO559.out [] a2 p560 (by exact q560); obtain ⟨ua560_0, uc560_0, rfl, ul560_0, ge560_0⟩ := Kd.FK_slice_open hMe560; have hv560_0 := hcc560 0 _ rfl; rw [Nat.add_zero, show ((Kd.slice 35 k35)).sz = 1 from rfl, Nat.mul_one] at hv560_0; replace hv560_0 := Option.some.inj (hv560_0.symm.trans hx560_0); injection hv560_0 with hva_ hvn_ hvc_; rw [hva_] at ge560_0; rw [hvc_] at ul560_0; have HL560_0 := ak (show Kd.V k35 35 _ w.heap.size _ _ (rd_L5 t557 a2) from Kd.V_mk ul560_0 ge560_0); clear hva_ hvn_ hvc_ ge560_0 ul560_0; clear hcc560 hce560; have HR560_0 := ak hi560_0; have HC560_0 := ak hl560_0; clear hi560_0 hl560_0; replace p560 := eq_true p560; replace q560 := eq_true q560) | ((with_reducible refine gate_builtin (b := .append) (xs := #[.tmp 26, .tmp 32]) rfl ?_); at_builtin; refine Kd.R_append_rows k35 (w0 := w) w.heap.size rfl (.tmp 26) (.tmp 32) 30 35 (.agg #[(.int .i64 0), (.int .i64 0)]) 16 rfl Try.underlying30 info35 rfl (by decide) (by omega) v555 y554 (rd_L5 t557 a2) _ _ _ (fun _ => True) (fun _ => False) rfl rfl ?aO ?aR (fun _ _ h => h) (fun _ h => h.elim) ?aF ?aB ?aS ?aL ?_; (case aR => repeat (exact (by repeat (exact HR560_0.out)))); (case aB => exact (bl1 HB GE550)); (case aF => exact (fun _ _ => trivial)); (case aO => exact (rk HO556)); (case aS => exact (below_size (bl1 HB GE550))); (case aL => have := LMc13.out; omega); intro v562 w23 ho hb hg hat; rw [← Ny561.out] at ho; have n0_ := ak (blk_grown (bk BK550) hg (Kd.R_ne HO556.out BK550.out (by decide))); have n1_ := ak (Kd.N_afterv (ok := (fun k_ => k_ ≠ gb550)) (by exact Kd.N_mono HO559.out (fun _ hk => ⟨hk.2, hk.1⟩)) hg hat); have n2_ := ak (Kd.V_afterv (ok := (fun k_ => some k_ ≠ (.slice (some ad560) t557.length co22 : Value).ownBlock ∧ k_ ≠ gb550)) (by exact Kd.V_mono HL560_0.out (fun _ hk => ⟨⟨hk.2, hk.1.2⟩, hk.1.1⟩)) hg hat); have n3_ := ak (hb); have n4_ := ak (ho); clear BK550; clear HO559; clear HL560_0; clear HB; clear HO556; have BK550 := n0_; have HO559 := n1_; have HL560_0 := n2_; have HB := n3_; have HO563 := n4_; clear n0_ n1_ n2_ n3_ n4_; clear ho hb hg hat))
 go_ret
 exact ⟨_, by rfl, rk HO563, bl1 HB GE550⟩

end Go.Proofs.Ytddkaiegnohkcaa.F
