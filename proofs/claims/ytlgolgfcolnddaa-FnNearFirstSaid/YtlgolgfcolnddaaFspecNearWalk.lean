-- Printed by wip/px/px.py of this claim's repository (the kit's printer, extended there). Lean checks it.
import Derived.Test.YtlgolgfcolnddaaFKinds
import Derived.Test.YtlgolgfcolnddaaFspecl1In
import Derived.Test.YtlgolgfcolnddaaFspecl1Ok
import Derived.Test.YtlgolgfcolnddaaFspecl3Walk
namespace Go.Proofs.Ytlgolgfcolnddaa.F
open Go.RowKit Go.Proofs.YtlgolgfcolnddaaW.PrintWords Go.Proofs.YtlgolgfcolnddaaW.PrintLast Go.Proofs.YtlgolgfcolnddaaW.PrintMore
attribute [local go_sem] max2_int min2_int max_two min_two max_three min_three max_four min_four   -- for this text's walks alone
set_option linter.unusedVariables false
set_option linter.unusedSimpArgs false

/-! ### spec_NearWalk: function 36 -/
def spec_NearWalk.f (k : Nat) (a0_0 : Int) (l0_1 : List (S58)) (a1 : Int) (a2 : Int) : Option (List Int × Bool) := (spec_l1Ok.f k a0_0 l0_1).bind fun t722 => (if t722 = true then ((spec_l1In.f a1 0 (wrap64 (a0_0 - 1))).bind fun t723 => (if t723 = true then ((spec_l1In.f a2 0 (wrap64 (a0_0 - 1))).bind fun t724 => (if t724 = true then ((spec_l3Walk.f k a0_0 l0_1 a1 a2).bind fun bt725 => (some (bt725.1, bt725.2))) else (some (([] : List Int), false)))) else (some (([] : List Int), false)))) else (some (([] : List Int), false)))
theorem spec_NearWalk.mono : ∀ a0 a1 a2 a3 k, LeO (spec_NearWalk.f k a0 a1 a2 a3) (spec_NearWalk.f (k + 1) a0 a1 a2 a3) := by
 intro a0 a1 a2 a3 k
 unfold spec_NearWalk.f
 repeat' first
   | (with_reducible exact spec_l1Ok.mono _ _ _)
   | (with_reducible exact spec_l3Walk.mono _ _ _ _ _)
   | (with_reducible exact LeO.refl _)
   | (with_reducible exact LeO.none _)
   | (with_reducible refine LeO.ite ?_ ?_)
   | (with_reducible refine LeO.bind ?_ (fun _ => ?_))
   | exact spec_l1Ok.mono _ _ _
   | exact spec_l3Walk.mono _ _ _ _ _
   | exact LeO.none _
   | refine LeO.ite ?_ ?_
   | refine LeO.bind ?_ (fun _ => ?_)
set_option maxHeartbeats 8000000 in
set_option maxRecDepth 100000 in
theorem spec_NearWalk.calls (k : Nat) (a0_0 : Int) (A0_1 : Option Addr) (c0_1 : Nat) (l0_1 : List (S58)) (a1 : Int) (a2 : Int) (r1 : List Int) (r2 : Bool) (w : World) (hr0_1 : Kd.C k58 w A0_1 l0_1.length l0_1) (hc0_1 : l0_1.length ≤ c0_1) (h : spec_NearWalk.f k a0_0 l0_1 a1 a2 = some (r1, r2)) :
  Calls Try.prog 36 #[.agg #[.int .i64 a0_0, .slice A0_1 l0_1.length c0_1], .int .i64 a1, .int .i64 a2] w fun e w' => ∃ v0_ : Value, e = .returned (.tuple #[v0_, .bool r2]) ∧ Kd.R (Kd.int .i64) 3 w' w.heap.size (fun _ => True) v0_ r1 ∧ Below w.heap.size w w' := by
 have hu25 := Try.underlying25
 have HR0_1 := ak hr0_1
 have HC0_1 := ak hc0_1
 clear hr0_1 hc0_1
 have HB := ak (Below.refl w.heap.size w)
 have H : ((spec_l1Ok.f k a0_0 l0_1).bind fun t722 => (if t722 = true then ((spec_l1In.f a1 0 (wrap64 (a0_0 - 1))).bind fun t723 => (if t723 = true then ((spec_l1In.f a2 0 (wrap64 (a0_0 - 1))).bind fun t724 => (if t724 = true then ((spec_l3Walk.f k a0_0 l0_1 a1 a2).bind fun bt725 => (some (bt725.1, bt725.2))) else (some (([] : List Int), false)))) else (some (([] : List Int), false)))) else (some (([] : List Int), false)))) = some (r1, r2) := h
 clear h
 replace H := Option.bind_eq_some_iff.mp H
 obtain ⟨t722, A40, H⟩ := H
 have A4 := ak A40
 clear A40
 by_cases c5 : t722 = true
 rotate_left
 ·replace c5 := Bool.eq_false_iff.mpr c5
  subst c5
  rw [if_neg (show ¬ (false = true) by decide)] at H
  simp only [Option.some.injEq, Prod.mk.injEq] at H
  obtain ⟨rfl, rfl⟩ := H
  go_enter Try.func36, Try.ntmps36
  go_wp2_with (first | ((with_reducible refine gate_dst (N := 3) rfl ?_); refine box_event ?hg (N := 3) ?hd (cs := #[.int .i64 a0_0, .slice A0_1 l0_1.length c0_1]) (t := 25) ?hr ?_; (case hd => rfl); (case hg => rfl); (case hr => first | (go_simp; done) | (go_simp; rfl)); intro gb721 hg w24 hbox hb; have BK721 := ak (hbox); have GW721 := ak ((by rw [hg]; exact (below_size (bl HB)) : w.heap.size ≤ gb721)); have GE721 := ak ((by rw [hg]; exact (below_size (bl HB)) : w.heap.size ≤ gb721)); replace HB := ak (below_step (bl HB) hb); clear hb hbox hg; have hcz25_0 := bc w24 BK721 0 (.int .i64 a0_0) rfl; have hcz25_1 := bc w24 BK721 1 (.slice A0_1 l0_1.length c0_1) rfl; have hfz25_0 := fz BK721 0; have hfz25_1 := fz BK721 1) | ((with_reducible refine gate_callee (f := 53) rfl ?_); refine goesL_ (some 9) rfl rfl Try.func53 (by kernel_rfl) rfl #[.agg #[.int .i64 a0_0, .slice A0_1 l0_1.length c0_1]] rfl (by (try simp only [List.map_toArray, List.map_cons, List.map_nil]); first | done | rfl | (simp only [List.length_drop, List.length_take]; rfl)) ?_; (with_reducible refine (spec_l1Ok.calls k a0_0 _ _ l0_1 false _ ?side1 ?side2 A4.out).mono ?_); (case side1 => repeat (first | exact (Kd.C_below HR0_1.out HB.out) | (with_reducible refine Kd.C_alloc ?_ _) | (with_reducible refine Kd.C_drewN ?_ _) | (with_reducible refine Kd.C_drew ?_))); (case side2 => exact HC0_1.out); rintro e w26 ⟨rfl, hb⟩; refine ⟨_, rfl, ?_⟩; replace BK721 := ak (blk_below (bk BK721) hb); replace HB := ak (below_step (bl1 HB GE721) hb); (try clear hb); (try clear hb2); (try clear hk); (try clear hi)))
  go_ret2
  exact ⟨_, by first | rfl | (simp [errW_none, errW_some] <;> rfl) | (simp [*, errW_none, errW_some] <;> rfl), by first | exact Kd.R_nil _ _ _ _ _ | exact Kd.N_nil _ _ _ _ _ | exact Kd.V_nil _ _ _ _ _ | exact Kd.Q_nil _ _ _ _ _ | exact Kd.S_nil _ _ _ _ _, bl1 HB GE721⟩
 subst c5
 rw [if_pos rfl] at H
 replace H := Option.bind_eq_some_iff.mp H
 obtain ⟨t723, A60, H⟩ := H
 have A6 := ak A60
 clear A60
 by_cases c7 : t723 = true
 rotate_left
 ·replace c7 := Bool.eq_false_iff.mpr c7
  subst c7
  rw [if_neg (show ¬ (false = true) by decide)] at H
  simp only [Option.some.injEq, Prod.mk.injEq] at H
  obtain ⟨rfl, rfl⟩ := H
  go_enter Try.func36, Try.ntmps36
  go_wp2_with (first | ((with_reducible refine gate_dst (N := 3) rfl ?_); refine box_event ?hg (N := 3) ?hd (cs := #[.int .i64 a0_0, .slice A0_1 l0_1.length c0_1]) (t := 25) ?hr ?_; (case hd => rfl); (case hg => rfl); (case hr => first | (go_simp; done) | (go_simp; rfl)); intro gb721 hg w20 hbox hb; have BK721 := ak (hbox); have GW721 := ak ((by rw [hg]; exact (below_size (bl HB)) : w.heap.size ≤ gb721)); have GE721 := ak ((by rw [hg]; exact (below_size (bl HB)) : w.heap.size ≤ gb721)); replace HB := ak (below_step (bl HB) hb); clear hb hbox hg; have hcz21_0 := bc w20 BK721 0 (.int .i64 a0_0) rfl; have hcz21_1 := bc w20 BK721 1 (.slice A0_1 l0_1.length c0_1) rfl; have hfz21_0 := fz BK721 0; have hfz21_1 := fz BK721 1) | ((with_reducible refine gate_callee (f := 53) rfl ?_); refine goesL_ (some 9) rfl rfl Try.func53 (by kernel_rfl) rfl #[.agg #[.int .i64 a0_0, .slice A0_1 l0_1.length c0_1]] rfl (by (try simp only [List.map_toArray, List.map_cons, List.map_nil]); first | done | rfl | (simp only [List.length_drop, List.length_take]; rfl)) ?_; (with_reducible refine (spec_l1Ok.calls k a0_0 _ _ l0_1 true _ ?side1 ?side2 A4.out).mono ?_); (case side1 => repeat (first | exact (Kd.C_below HR0_1.out HB.out) | (with_reducible refine Kd.C_alloc ?_ _) | (with_reducible refine Kd.C_drewN ?_ _) | (with_reducible refine Kd.C_drew ?_))); (case side2 => exact HC0_1.out); rintro e w22 ⟨rfl, hb⟩; refine ⟨_, rfl, ?_⟩; replace BK721 := ak (blk_below (bk BK721) hb); replace HB := ak (below_step (bl1 HB GE721) hb); (try clear hb); (try clear hb2); (try clear hk); (try clear hi); have hcz23_0 := bc w22 BK721 0 (.int .i64 a0_0) rfl; have hcz23_1 := bc w22 BK721 1 (.slice A0_1 l0_1.length c0_1) rfl; have hfz23_0 := fz BK721 0; have hfz23_1 := fz BK721 1) | (go_at_call 54; (with_reducible refine (spec_l1In.calls a1 0 (wrap64 (a0_0 - 1)) false _ A6.out).mono ?_); rintro e w' ⟨rfl, ⟨nd, rfl⟩⟩))
  go_ret2
  exact ⟨_, by first | rfl | (simp [errW_none, errW_some] <;> rfl) | (simp [*, errW_none, errW_some] <;> rfl), by first | exact Kd.R_nil _ _ _ _ _ | exact Kd.N_nil _ _ _ _ _ | exact Kd.V_nil _ _ _ _ _ | exact Kd.Q_nil _ _ _ _ _ | exact Kd.S_nil _ _ _ _ _, bl1 HB GE721⟩
 subst c7
 rw [if_pos rfl] at H
 replace H := Option.bind_eq_some_iff.mp H
 obtain ⟨t724, A80, H⟩ := H
 have A8 := ak A80
 clear A80
 by_cases c9 : t724 = true
 rotate_left
 ·replace c9 := Bool.eq_false_iff.mpr c9
  subst c9
  rw [if_neg (show ¬ (false = true) by decide)] at H
  simp only [Option.some.injEq, Prod.mk.injEq] at H
  obtain ⟨rfl, rfl⟩ := H
  go_enter Try.func36, Try.ntmps36
  go_wp2_with (first | ((with_reducible refine gate_dst (N := 3) rfl ?_); refine box_event ?hg (N := 3) ?hd (cs := #[.int .i64 a0_0, .slice A0_1 l0_1.length c0_1]) (t := 25) ?hr ?_; (case hd => rfl); (case hg => rfl); (case hr => first | (go_simp; done) | (go_simp; rfl)); intro gb721 hg w16 hbox hb; have BK721 := ak (hbox); have GW721 := ak ((by rw [hg]; exact (below_size (bl HB)) : w.heap.size ≤ gb721)); have GE721 := ak ((by rw [hg]; exact (below_size (bl HB)) : w.heap.size ≤ gb721)); replace HB := ak (below_step (bl HB) hb); clear hb hbox hg; have hcz17_0 := bc w16 BK721 0 (.int .i64 a0_0) rfl; have hcz17_1 := bc w16 BK721 1 (.slice A0_1 l0_1.length c0_1) rfl; have hfz17_0 := fz BK721 0; have hfz17_1 := fz BK721 1) | ((with_reducible refine gate_callee (f := 53) rfl ?_); refine goesL_ (some 9) rfl rfl Try.func53 (by kernel_rfl) rfl #[.agg #[.int .i64 a0_0, .slice A0_1 l0_1.length c0_1]] rfl (by (try simp only [List.map_toArray, List.map_cons, List.map_nil]); first | done | rfl | (simp only [List.length_drop, List.length_take]; rfl)) ?_; (with_reducible refine (spec_l1Ok.calls k a0_0 _ _ l0_1 true _ ?side1 ?side2 A4.out).mono ?_); (case side1 => repeat (first | exact (Kd.C_below HR0_1.out HB.out) | (with_reducible refine Kd.C_alloc ?_ _) | (with_reducible refine Kd.C_drewN ?_ _) | (with_reducible refine Kd.C_drew ?_))); (case side2 => exact HC0_1.out); rintro e w18 ⟨rfl, hb⟩; refine ⟨_, rfl, ?_⟩; replace BK721 := ak (blk_below (bk BK721) hb); replace HB := ak (below_step (bl1 HB GE721) hb); (try clear hb); (try clear hb2); (try clear hk); (try clear hi); have hcz19_0 := bc w18 BK721 0 (.int .i64 a0_0) rfl; have hcz19_1 := bc w18 BK721 1 (.slice A0_1 l0_1.length c0_1) rfl; have hfz19_0 := fz BK721 0; have hfz19_1 := fz BK721 1) | (go_at_call 54; (with_reducible refine (spec_l1In.calls a1 0 (wrap64 (a0_0 - 1)) true _ A6.out).mono ?_); rintro e w' ⟨rfl, ⟨nd, rfl⟩⟩) | (go_at_call 54; (with_reducible refine (spec_l1In.calls a2 0 (wrap64 (a0_0 - 1)) false _ A8.out).mono ?_); rintro e w' ⟨rfl, ⟨nd, rfl⟩⟩))
  go_ret2
  exact ⟨_, by first | rfl | (simp [errW_none, errW_some] <;> rfl) | (simp [*, errW_none, errW_some] <;> rfl), by first | exact Kd.R_nil _ _ _ _ _ | exact Kd.N_nil _ _ _ _ _ | exact Kd.V_nil _ _ _ _ _ | exact Kd.Q_nil _ _ _ _ _ | exact Kd.S_nil _ _ _ _ _, bl1 HB GE721⟩
 subst c9
 rw [if_pos rfl] at H
 replace H := Option.bind_eq_some_iff.mp H
 obtain ⟨⟨t725, t728⟩, A100, H⟩ := H
 have A10 := ak A100
 clear A100
 simp only [Option.some.injEq, Prod.mk.injEq] at H
 obtain ⟨rfl, rfl⟩ := H
 go_enter Try.func36, Try.ntmps36
 go_wp2_with (first | ((with_reducible refine gate_dst (N := 3) rfl ?_); refine box_event ?hg (N := 3) ?hd (cs := #[.int .i64 a0_0, .slice A0_1 l0_1.length c0_1]) (t := 25) ?hr ?_; (case hd => rfl); (case hg => rfl); (case hr => first | (go_simp; done) | (go_simp; rfl)); intro gb721 hg w11 hbox hb; have BK721 := ak (hbox); have GW721 := ak ((by rw [hg]; exact (below_size (bl HB)) : w.heap.size ≤ gb721)); have GE721 := ak ((by rw [hg]; exact (below_size (bl HB)) : w.heap.size ≤ gb721)); replace HB := ak (below_step (bl HB) hb); clear hb hbox hg; have hcz12_0 := bc w11 BK721 0 (.int .i64 a0_0) rfl; have hcz12_1 := bc w11 BK721 1 (.slice A0_1 l0_1.length c0_1) rfl; have hfz12_0 := fz BK721 0; have hfz12_1 := fz BK721 1) | ((with_reducible refine gate_callee (f := 53) rfl ?_); refine goesL_ (some 9) rfl rfl Try.func53 (by kernel_rfl) rfl #[.agg #[.int .i64 a0_0, .slice A0_1 l0_1.length c0_1]] rfl (by (try simp only [List.map_toArray, List.map_cons, List.map_nil]); first | done | rfl | (simp only [List.length_drop, List.length_take]; rfl)) ?_; (with_reducible refine (spec_l1Ok.calls k a0_0 _ _ l0_1 true _ ?side1 ?side2 A4.out).mono ?_); (case side1 => repeat (first | exact (Kd.C_below HR0_1.out HB.out) | (with_reducible refine Kd.C_alloc ?_ _) | (with_reducible refine Kd.C_drewN ?_ _) | (with_reducible refine Kd.C_drew ?_))); (case side2 => exact HC0_1.out); rintro e w13 ⟨rfl, hb⟩; refine ⟨_, rfl, ?_⟩; replace BK721 := ak (blk_below (bk BK721) hb); replace HB := ak (below_step (bl1 HB GE721) hb); (try clear hb); (try clear hb2); (try clear hk); (try clear hi); have hcz14_0 := bc w13 BK721 0 (.int .i64 a0_0) rfl; have hcz14_1 := bc w13 BK721 1 (.slice A0_1 l0_1.length c0_1) rfl; have hfz14_0 := fz BK721 0; have hfz14_1 := fz BK721 1) | (go_at_call 54; (with_reducible refine (spec_l1In.calls a1 0 (wrap64 (a0_0 - 1)) true _ A6.out).mono ?_); rintro e w' ⟨rfl, ⟨nd, rfl⟩⟩) | (go_at_call 54; (with_reducible refine (spec_l1In.calls a2 0 (wrap64 (a0_0 - 1)) true _ A8.out).mono ?_); rintro e w' ⟨rfl, ⟨nd, rfl⟩⟩) | ((with_reducible refine gate_callee (f := 74) rfl ?_); refine goesL_ (some 30) rfl rfl Try.func74 (by kernel_rfl) rfl #[.agg #[.int .i64 a0_0, .slice A0_1 l0_1.length c0_1], .int .i64 a1, .int .i64 a2] rfl (by (try simp only [List.map_toArray, List.map_cons, List.map_nil]); first | done | rfl | (simp only [List.length_drop, List.length_take]; rfl)) ?_; (with_reducible refine (spec_l3Walk.calls k a0_0 _ _ l0_1 a1 a2 t725 t728 _ ?side1 ?side2 A10.out).mono ?_); (case side1 => repeat (first | exact (Kd.C_below HR0_1.out (bl1 HB GE721)) | (with_reducible refine Kd.C_alloc ?_ _) | (with_reducible refine Kd.C_drewN ?_ _) | (with_reducible refine Kd.C_drew ?_))); (case side2 => exact HC0_1.out); rintro e w15 ⟨v726, rfl, ho0, hb⟩; refine ⟨_, rfl, ?_⟩; have HO727 := ak (Kd.R_lower ho0 (below_size (bl1 HB GE721))); replace BK721 := ak (blk_below (bk BK721) hb); replace HB := ak (below_step (bl1 HB GE721) hb); (try clear hb); (try clear hb2); (try clear hk); (try clear hi); (try clear ho0)))
 go_ret2
 exact ⟨_, by first | rfl | (simp [errW_none, errW_some] <;> rfl) | (simp [*, errW_none, errW_some] <;> rfl), rk HO727, bl1 HB GE721⟩

end Go.Proofs.Ytlgolgfcolnddaa.F
