-- Printed by wip/px/px.py of this claim's repository (the kit's printer, extended there). Lean checks it.
import Derived.Test.YtddkaiegnohkcaaFKinds
import Derived.Test.YtddkaiegnohkcaaFspecl1In
import Derived.Test.YtddkaiegnohkcaaFspecl1Ok
import Derived.Test.YtddkaiegnohkcaaFspecl19All
namespace Go.Proofs.Ytddkaiegnohkcaa.F
open Go.RowKit Go.Proofs.YtddkaiegnohkcaaW.PrintWords Go.Proofs.YtddkaiegnohkcaaW.PrintLast Go.Proofs.YtddkaiegnohkcaaW.PrintMore
attribute [local go_sem] max2_int min2_int max_two min_two max_three min_three max_four min_four   -- for this text's walks alone
set_option linter.unusedVariables false
set_option linter.unusedSimpArgs false

/-! ### spec_PairAll: function 22 -/
def spec_PairAll.f (k : Nat) (a0_0 : Int) (l0_1 : List (S33)) (a1 : Int) (a2 : Int) : Option ((List (S35))) := (spec_l1Ok.f k a0_0 l0_1).bind fun t420 => (if t420 = true then ((spec_l1In.f a1 0 (wrap64 (a0_0 - 1))).bind fun t421 => (if t421 = true then ((spec_l1In.f a2 0 (wrap64 (a0_0 - 1))).bind fun t422 => (if t422 = true then ((some (([] : List (S35)) : List (S35))).bind fun y423 => ((spec_l19All.f k a0_0 l0_1 a1).bind fun t426 => (if 0 ≤ a2 then (if a2 < (t426.length : Int) then (if y423.length + (rd_L5 t426 a2).length < 8796093022208 then (some (y423 ++ (rd_L5 t426 a2))) else (none)) else (none)) else (none)))) else (some ([] : List (S35))))) else (some ([] : List (S35))))) else (some ([] : List (S35))))
theorem spec_PairAll.mono : ∀ a0 a1 a2 a3 k, LeO (spec_PairAll.f k a0 a1 a2 a3) (spec_PairAll.f (k + 1) a0 a1 a2 a3) := by
 intro a0 a1 a2 a3 k
 unfold spec_PairAll.f
 repeat' first | (with_reducible exact spec_l19All.mono _ _ _ _) | (with_reducible exact spec_l1Ok.mono _ _ _) | (with_reducible exact LeO.refl _) | (with_reducible refine LeO.ite ?_ ?_) | (with_reducible refine LeO.bind ?_ (fun _ => ?_))
set_option maxHeartbeats 8000000 in
set_option maxRecDepth 100000 in
theorem spec_PairAll.calls (k : Nat) (a0_0 : Int) (A0_1 : Option Addr) (c0_1 : Nat) (l0_1 : List (S33)) (a1 : Int) (a2 : Int) (r : List (S35)) (w : World) (hr0_1 : Kd.C k33 w A0_1 l0_1.length l0_1) (hc0_1 : l0_1.length ≤ c0_1) (h : spec_PairAll.f k a0_0 l0_1 a1 a2 = some r) :
  Calls Try.prog 22 #[.agg #[.int .i64 a0_0, .slice A0_1 l0_1.length c0_1], .int .i64 a1, .int .i64 a2] w fun e w' => ∃ v0_ : Value, e = .returned (v0_) ∧ Kd.R k35 35 w' w.heap.size (fun _ => True) v0_ r ∧ Below w.heap.size w w' := by
 have hu25 := Try.underlying25
 have HR0_1 := ak hr0_1
 have HC0_1 := ak hc0_1
 clear hr0_1 hc0_1
 have HB := ak (Below.refl w.heap.size w)
 have H : ((spec_l1Ok.f k a0_0 l0_1).bind fun t420 => (if t420 = true then ((spec_l1In.f a1 0 (wrap64 (a0_0 - 1))).bind fun t421 => (if t421 = true then ((spec_l1In.f a2 0 (wrap64 (a0_0 - 1))).bind fun t422 => (if t422 = true then ((some (([] : List (S35)) : List (S35))).bind fun y423 => ((spec_l19All.f k a0_0 l0_1 a1).bind fun t426 => (if 0 ≤ a2 then (if a2 < (t426.length : Int) then (if y423.length + (rd_L5 t426 a2).length < 8796093022208 then (some (y423 ++ (rd_L5 t426 a2))) else (none)) else (none)) else (none)))) else (some ([] : List (S35))))) else (some ([] : List (S35))))) else (some ([] : List (S35))))) = some r := h
 clear h
 replace H := Option.bind_eq_some_iff.mp H
 obtain ⟨t420, A40, H⟩ := H
 have A4 := ak A40
 clear A40
 by_cases c5 : t420 = true
 rotate_left
 ·replace c5 := Bool.eq_false_iff.mpr c5
  subst c5
  rw [if_neg (show ¬ (false = true) by decide)] at H
  obtain rfl := Option.some.inj H
  go_enter Try.func22, Try.ntmps22
  go_wp2_with (first | ((with_reducible refine gate_dst (N := 3) rfl ?_); refine box_event ?hg (N := 3) ?hd (cs := #[.int .i64 a0_0, .slice A0_1 l0_1.length c0_1]) (t := 25) ?hr ?_; (case hd => rfl); (case hg => rfl); (case hr => (go_simp; done)); intro gb419 hg w32 hbox hb; have BK419 := ak (hbox); have GW419 := ak ((by rw [hg]; exact (below_size (bl HB)) : w.heap.size ≤ gb419)); have GE419 := ak ((by rw [hg]; exact (below_size (bl HB)) : w.heap.size ≤ gb419)); replace HB := ak (below_step (bl HB) hb); clear hb hbox hg; have hcz33_0 := bc w32 BK419 0 (.int .i64 a0_0) rfl; have hcz33_1 := bc w32 BK419 1 (.slice A0_1 l0_1.length c0_1) rfl; have hfz33_0 := fz BK419 0; have hfz33_1 := fz BK419 1) | ((with_reducible refine gate_callee (f := 42) rfl ?_); refine goesL_ (some 8) rfl rfl Try.func42 (by kernel_rfl) rfl #[.agg #[.int .i64 a0_0, .slice A0_1 l0_1.length c0_1]] rfl (by (try simp only [List.map_toArray, List.map_cons, List.map_nil]); rfl) ?_; (with_reducible refine (spec_l1Ok.calls k a0_0 _ _ l0_1 false _ ?side1 ?side2 A4.out).mono ?_); (case side1 => repeat (exact (Kd.C_below HR0_1.out HB.out))); (case side2 => exact HC0_1.out); rintro e w34 ⟨rfl, hb⟩; refine ⟨_, rfl, ?_⟩; replace BK419 := ak (blk_below (bk BK419) hb); replace HB := ak (below_step (bl1 HB GE419) hb); (try clear hb); (try clear hb2); (try clear hk); (try clear hi)))
  go_ret
  exact ⟨_, by rfl, by exact Kd.R_nil _ _ _ _ _, bl1 HB GE419⟩
 subst c5
 rw [if_pos rfl] at H
 replace H := Option.bind_eq_some_iff.mp H
 obtain ⟨t421, A60, H⟩ := H
 have A6 := ak A60
 clear A60
 by_cases c7 : t421 = true
 rotate_left
 ·replace c7 := Bool.eq_false_iff.mpr c7
  subst c7
  rw [if_neg (show ¬ (false = true) by decide)] at H
  obtain rfl := Option.some.inj H
  go_enter Try.func22, Try.ntmps22
  go_wp2_with (first | ((with_reducible refine gate_dst (N := 3) rfl ?_); refine box_event ?hg (N := 3) ?hd (cs := #[.int .i64 a0_0, .slice A0_1 l0_1.length c0_1]) (t := 25) ?hr ?_; (case hd => rfl); (case hg => rfl); (case hr => (go_simp; done)); intro gb419 hg w28 hbox hb; have BK419 := ak (hbox); have GW419 := ak ((by rw [hg]; exact (below_size (bl HB)) : w.heap.size ≤ gb419)); have GE419 := ak ((by rw [hg]; exact (below_size (bl HB)) : w.heap.size ≤ gb419)); replace HB := ak (below_step (bl HB) hb); clear hb hbox hg; have hcz29_0 := bc w28 BK419 0 (.int .i64 a0_0) rfl; have hcz29_1 := bc w28 BK419 1 (.slice A0_1 l0_1.length c0_1) rfl; have hfz29_0 := fz BK419 0; have hfz29_1 := fz BK419 1) | ((with_reducible refine gate_callee (f := 42) rfl ?_); refine goesL_ (some 8) rfl rfl Try.func42 (by kernel_rfl) rfl #[.agg #[.int .i64 a0_0, .slice A0_1 l0_1.length c0_1]] rfl (by (try simp only [List.map_toArray, List.map_cons, List.map_nil]); rfl) ?_; (with_reducible refine (spec_l1Ok.calls k a0_0 _ _ l0_1 true _ ?side1 ?side2 A4.out).mono ?_); (case side1 => repeat (exact (Kd.C_below HR0_1.out HB.out))); (case side2 => exact HC0_1.out); rintro e w30 ⟨rfl, hb⟩; refine ⟨_, rfl, ?_⟩; replace BK419 := ak (blk_below (bk BK419) hb); replace HB := ak (below_step (bl1 HB GE419) hb); (try clear hb); (try clear hb2); (try clear hk); (try clear hi); have hcz31_0 := bc w30 BK419 0 (.int .i64 a0_0) rfl; have hcz31_1 := bc w30 BK419 1 (.slice A0_1 l0_1.length c0_1) rfl; have hfz31_0 := fz BK419 0; have hfz31_1 := fz BK419 1) | (go_at_call 48; (with_reducible refine (spec_l1In.calls a1 0 (wrap64 (a0_0 - 1)) false _ A6.out).mono ?_); rintro e w' ⟨rfl, ⟨nd, rfl⟩⟩))
  go_ret
  exact ⟨_, by rfl, by exact Kd.R_nil _ _ _ _ _, bl1 HB GE419⟩
 subst c7
 rw [if_pos rfl] at H
 replace H := Option.bind_eq_some_iff.mp H
 obtain ⟨t422, A80, H⟩ := H
 have A8 := ak A80
 clear A80
 by_cases c9 : t422 = true
 rotate_left
 ·replace c9 := Bool.eq_false_iff.mpr c9
  subst c9
  rw [if_neg (show ¬ (false = true) by decide)] at H
  obtain rfl := Option.some.inj H
  go_enter Try.func22, Try.ntmps22
  go_wp2_with (first | ((with_reducible refine gate_dst (N := 3) rfl ?_); refine box_event ?hg (N := 3) ?hd (cs := #[.int .i64 a0_0, .slice A0_1 l0_1.length c0_1]) (t := 25) ?hr ?_; (case hd => rfl); (case hg => rfl); (case hr => (go_simp; done)); intro gb419 hg w24 hbox hb; have BK419 := ak (hbox); have GW419 := ak ((by rw [hg]; exact (below_size (bl HB)) : w.heap.size ≤ gb419)); have GE419 := ak ((by rw [hg]; exact (below_size (bl HB)) : w.heap.size ≤ gb419)); replace HB := ak (below_step (bl HB) hb); clear hb hbox hg; have hcz25_0 := bc w24 BK419 0 (.int .i64 a0_0) rfl; have hcz25_1 := bc w24 BK419 1 (.slice A0_1 l0_1.length c0_1) rfl; have hfz25_0 := fz BK419 0; have hfz25_1 := fz BK419 1) | ((with_reducible refine gate_callee (f := 42) rfl ?_); refine goesL_ (some 8) rfl rfl Try.func42 (by kernel_rfl) rfl #[.agg #[.int .i64 a0_0, .slice A0_1 l0_1.length c0_1]] rfl (by (try simp only [List.map_toArray, List.map_cons, List.map_nil]); rfl) ?_; (with_reducible refine (spec_l1Ok.calls k a0_0 _ _ l0_1 true _ ?side1 ?side2 A4.out).mono ?_); (case side1 => repeat (exact (Kd.C_below HR0_1.out HB.out))); (case side2 => exact HC0_1.out); rintro e w26 ⟨rfl, hb⟩; refine ⟨_, rfl, ?_⟩; replace BK419 := ak (blk_below (bk BK419) hb); replace HB := ak (below_step (bl1 HB GE419) hb); (try clear hb); (try clear hb2); (try clear hk); (try clear hi); have hcz27_0 := bc w26 BK419 0 (.int .i64 a0_0) rfl; have hcz27_1 := bc w26 BK419 1 (.slice A0_1 l0_1.length c0_1) rfl; have hfz27_0 := fz BK419 0; have hfz27_1 := fz BK419 1) | (go_at_call 48; (with_reducible refine (spec_l1In.calls a1 0 (wrap64 (a0_0 - 1)) true _ A6.out).mono ?_); rintro e w' ⟨rfl, ⟨nd, rfl⟩⟩) | (go_at_call 48; (with_reducible refine (spec_l1In.calls a2 0 (wrap64 (a0_0 - 1)) false _ A8.out).mono ?_); rintro e w' ⟨rfl, ⟨nd, rfl⟩⟩))
  go_ret
  exact ⟨_, by rfl, by exact Kd.R_nil _ _ _ _ _, bl1 HB GE419⟩
 subst c9
 rw [if_pos rfl] at H
 obtain ⟨y423, hy423⟩ : ∃ y_ : List (S35), y_ = (([] : List (S35))) := ⟨_, rfl⟩
 replace H : ((spec_l19All.f k a0_0 l0_1 a1).bind fun t426 => (if 0 ≤ a2 then (if a2 < (t426.length : Int) then (if y423.length + (rd_L5 t426 a2).length < 8796093022208 then (some (y423 ++ (rd_L5 t426 a2))) else (none)) else (none)) else (none))) = some r := by (have H2_ := (Option.bind_some _ _).symm.trans H; rw [hy423]; with_reducible exact H2_)
 have Ny423 := ak hy423
 clear hy423
 replace H := Option.bind_eq_some_iff.mp H
 obtain ⟨t426, A100, H⟩ := H
 have A10 := ak A100
 clear A100
 by_cases c11 : 0 ≤ a2
 rotate_left
 ·rw [if_neg c11] at H
  exact absurd H (by simp)
 rw [if_pos c11] at H
 have c11b0 : decide (0 ≤ a2) = true := decide_eq_true c11
 clear c11
 by_cases c12 : a2 < (t426.length : Int)
 rotate_left
 ·rw [if_neg c12] at H
  exact absurd H (by simp)
 rw [if_pos c12] at H
 have c12b0 : decide (a2 < (t426.length : Int)) = true := decide_eq_true c12
 clear c12
 by_cases c13 : y423.length + (rd_L5 t426 a2).length < 8796093022208
 rotate_left
 ·rw [if_neg c13] at H
  exact absurd H (by simp)
 rw [if_pos c13] at H
 have LMc13 := ak c13
 clear c13
 obtain ⟨y430, hy430⟩ : ∃ y_ : List (S35), y_ = (y423 ++ (rd_L5 t426 a2)) := ⟨_, rfl⟩
 replace H : (some y430) = some r := by (rw [hy430]; with_reducible exact H)
 have Ny430 := ak hy430
 clear hy430
 obtain rfl := Option.some.inj H
 go_enter Try.func22, Try.ntmps22
 go_wp2_with (first | ((with_reducible refine gate_dst (N := 3) rfl ?_); refine box_event ?hg (N := 3) ?hd (cs := #[.int .i64 a0_0, .slice A0_1 l0_1.length c0_1]) (t := 25) ?hr ?_; (case hd => rfl); (case hg => rfl); (case hr => (go_simp; done)); intro gb419 hg w14 hbox hb; have BK419 := ak (hbox); have GW419 := ak ((by rw [hg]; exact (below_size (bl HB)) : w.heap.size ≤ gb419)); have GE419 := ak ((by rw [hg]; exact (below_size (bl HB)) : w.heap.size ≤ gb419)); replace HB := ak (below_step (bl HB) hb); clear hb hbox hg; have hcz15_0 := bc w14 BK419 0 (.int .i64 a0_0) rfl; have hcz15_1 := bc w14 BK419 1 (.slice A0_1 l0_1.length c0_1) rfl; have hfz15_0 := fz BK419 0; have hfz15_1 := fz BK419 1) | ((with_reducible refine gate_callee (f := 42) rfl ?_); refine goesL_ (some 8) rfl rfl Try.func42 (by kernel_rfl) rfl #[.agg #[.int .i64 a0_0, .slice A0_1 l0_1.length c0_1]] rfl (by (try simp only [List.map_toArray, List.map_cons, List.map_nil]); rfl) ?_; (with_reducible refine (spec_l1Ok.calls k a0_0 _ _ l0_1 true _ ?side1 ?side2 A4.out).mono ?_); (case side1 => repeat (exact (Kd.C_below HR0_1.out HB.out))); (case side2 => exact HC0_1.out); rintro e w16 ⟨rfl, hb⟩; refine ⟨_, rfl, ?_⟩; replace BK419 := ak (blk_below (bk BK419) hb); replace HB := ak (below_step (bl1 HB GE419) hb); (try clear hb); (try clear hb2); (try clear hk); (try clear hi); have hcz17_0 := bc w16 BK419 0 (.int .i64 a0_0) rfl; have hcz17_1 := bc w16 BK419 1 (.slice A0_1 l0_1.length c0_1) rfl; have hfz17_0 := fz BK419 0; have hfz17_1 := fz BK419 1) | (go_at_call 48; (with_reducible refine (spec_l1In.calls a1 0 (wrap64 (a0_0 - 1)) true _ A6.out).mono ?_); rintro e w' ⟨rfl, ⟨nd, rfl⟩⟩) | (go_at_call 48; (with_reducible refine (spec_l1In.calls a2 0 (wrap64 (a0_0 - 1)) true _ A8.out).mono ?_); rintro e w' ⟨rfl, ⟨nd, rfl⟩⟩) | ((with_reducible refine gate_dst (N := 26) rfl ?_); refine Kd.R_lit k35 _ 35 ?hg (N := 26) ?hd (xs := ([] : List (S35))) (inner := []) (ok := fun _ => True) (okp := fun _ => True) ?hr ?hp (fun _ hk => hk) trivial (Below.refl _ _) (Nat.le_refl _) (by simp) ?_; (case hd => rfl); (case hg => rfl); (case hr => (go_simp; done)); (case hp => exact (Reps.none _ _)); intro v424 w18 ho19 hb hg_ hnew_; clear hg_ hnew_; (rw [← Ny423.out] at ho19); have HO425 := ak (Kd.R_lower ho19 (below_size (bl1 HB GE419))); replace BK419 := ak (blk_below (bk BK419) hb); replace HB := ak (below_step (bl1 HB GE419) hb); clear hb ho19; have hcz20_0 := bc w18 BK419 0 (.int .i64 a0_0) rfl; have hcz20_1 := bc w18 BK419 1 (.slice A0_1 l0_1.length c0_1) rfl; have hfz20_0 := fz BK419 0; have hfz20_1 := fz BK419 1) | ((with_reducible refine gate_callee (f := 49) rfl ?_); refine goesL_ (some 29) rfl rfl Try.func49 (by kernel_rfl) rfl #[.agg #[.int .i64 a0_0, .slice A0_1 l0_1.length c0_1], .int .i64 a1] rfl (by (try simp only [List.map_toArray, List.map_cons, List.map_nil]); rfl) ?_; (with_reducible refine (spec_l19All.calls k a0_0 _ _ l0_1 a1 t426 _ ?side1 ?side2 A10.out).mono ?_); (case side1 => repeat (exact (Kd.C_below HR0_1.out HB.out))); (case side2 => exact HC0_1.out); rintro e w21 ⟨v427, rfl, ho0, hb⟩; refine ⟨_, rfl, ?_⟩; have HO428 := ak (Kd.N_lower (Kd.N_mono (ok' := fun k_ => some k_ ≠ (v424 : Value).ownBlock ∧ k_ ≠ gb419) ho0 (fun k_ hk_ => ⟨(Kd.fresh' (Kd.R_lt (rk HO425)) k_ hk_), (Kd.freshB (bk BK419) k_ hk_)⟩)) (below_size (bl1 HB GE419))); replace HO425 := ak (Kd.R_below (rk HO425) hb); replace BK419 := ak (blk_below (bk BK419) hb); replace HB := ak (below_step (bl1 HB GE419) hb); (try clear hb); (try clear hb2); (try clear hk); (try clear hi); (try clear ho0); obtain ⟨Ao22, co22, eo22⟩ := Kd.N_slice HO428.out; subst eo22; have p429 : 0 ≤ (a2 : Int) := oT (by (with_reducible assumption)); have q429 : a2 < (t426.length : Int) := oT (by (with_reducible assumption)); obtain ⟨ad429, A429_0, c429_0, e429, hx429_0, hl429_0, hi429_0⟩ := at_L5 (Kd.N_reads' HO428.out).2.2 a2 p429 q429; cases e429; obtain ⟨ce429, hce429, hMe429, hcc429⟩ := Kd.N_get HO428.out [] a2 p429 (by exact q429); obtain ⟨ua429_0, uc429_0, rfl, ul429_0, ge429_0⟩ := Kd.FK_slice_open hMe429; have hv429_0 := hcc429 0 _ rfl; rw [Nat.add_zero, show ((Kd.slice 35 k35)).sz = 1 from rfl, Nat.mul_one] at hv429_0; replace hv429_0 := Option.some.inj (hv429_0.symm.trans hx429_0); injection hv429_0 with hva_ hvn_ hvc_; rw [hva_] at ge429_0; rw [hvc_] at ul429_0; have HL429_0 := ak (show Kd.V k35 35 _ w.heap.size _ _ (rd_L5 t426 a2) from Kd.V_mk ul429_0 ge429_0); clear hva_ hvn_ hvc_ ge429_0 ul429_0; clear hcc429 hce429; have HR429_0 := ak hi429_0; have HC429_0 := ak hl429_0; clear hi429_0 hl429_0; replace p429 := eq_true p429; replace q429 := eq_true q429) | ((with_reducible refine gate_builtin (b := .append) (xs := #[.tmp 26, .tmp 32]) rfl ?_); at_builtin; refine Kd.R_append_rows k35 (w0 := w) w.heap.size rfl (.tmp 26) (.tmp 32) 30 35 (.agg #[(.int .i64 0), (.int .i64 0)]) 16 rfl Try.underlying30 info35 rfl (by decide) (by omega) v424 y423 (rd_L5 t426 a2) _ _ _ (fun _ => True) (fun _ => False) rfl rfl ?aO ?aR (fun _ _ h => h) (fun _ h => h.elim) ?aF ?aB ?aS ?aL ?_; (case aR => repeat (exact (by repeat (exact HR429_0.out)))); (case aB => exact (bl1 HB GE419)); (case aF => exact (fun _ _ => trivial)); (case aO => exact (rk HO425)); (case aS => exact (below_size (bl1 HB GE419))); (case aL => have := LMc13.out; omega); intro v431 w23 ho hb hg hat; rw [← Ny430.out] at ho; have n0_ := ak (blk_grown (bk BK419) hg (Kd.R_ne HO425.out BK419.out (by decide))); have n1_ := ak (Kd.N_afterv (ok := (fun k_ => k_ ≠ gb419)) (by exact Kd.N_mono HO428.out (fun _ hk => ⟨hk.2, hk.1⟩)) hg hat); have n2_ := ak (Kd.V_afterv (ok := (fun k_ => some k_ ≠ (.slice (some ad429) t426.length co22 : Value).ownBlock ∧ k_ ≠ gb419)) (by exact Kd.V_mono HL429_0.out (fun _ hk => ⟨⟨hk.2, hk.1.2⟩, hk.1.1⟩)) hg hat); have n3_ := ak (hb); have n4_ := ak (ho); clear BK419; clear HO428; clear HL429_0; clear HB; clear HO425; have BK419 := n0_; have HO428 := n1_; have HL429_0 := n2_; have HB := n3_; have HO432 := n4_; clear n0_ n1_ n2_ n3_ n4_; clear ho hb hg hat))
 go_ret
 exact ⟨_, by rfl, rk HO432, bl1 HB GE419⟩

end Go.Proofs.Ytddkaiegnohkcaa.F
