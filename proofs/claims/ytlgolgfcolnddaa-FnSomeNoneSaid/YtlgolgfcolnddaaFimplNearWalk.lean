-- Printed by wip/px/px.py of this claim's repository (the kit's printer, extended there). Lean checks it.
import Derived.Test.YtlgolgfcolnddaaFKinds
import Derived.Test.YtlgolgfcolnddaaFimplnodesIn
import Derived.Test.YtlgolgfcolnddaaFimplNetbest
namespace Go.Proofs.Ytlgolgfcolnddaa.F
open Go.RowKit Go.Proofs.YtlgolgfcolnddaaW.PrintWords Go.Proofs.YtlgolgfcolnddaaW.PrintLast Go.Proofs.YtlgolgfcolnddaaW.PrintMore
attribute [local go_sem] max2_int min2_int max_two min_two max_three min_three max_four min_four   -- for this text's walks alone
set_option linter.unusedVariables false
set_option linter.unusedSimpArgs false

/-! ### impl_NearWalk: function 31 -/
def impl_NearWalk.f (k : Nat) (a0_0 : Int) (l0_1 : List (S58)) (a1 : Int) (a2 : Int) : Option (List Int × Bool) := (impl_nodesIn.f a0_0 l0_1 (([a1, a2] : List Int))).bind fun t447 => (if t447 = true then ((impl_Net_best.f k a0_0 l0_1 a1 a2).bind fun bt448 => (some (bt448.1, bt448.2))) else (some (([] : List Int), false)))
theorem impl_NearWalk.mono : ∀ a0 a1 a2 a3 k, LeO (impl_NearWalk.f k a0 a1 a2 a3) (impl_NearWalk.f (k + 1) a0 a1 a2 a3) := by
 intro a0 a1 a2 a3 k
 unfold impl_NearWalk.f
 repeat' first
   | (with_reducible exact impl_Net_best.mono _ _ _ _ _)
   | (with_reducible exact LeO.refl _)
   | (with_reducible exact LeO.none _)
   | (with_reducible refine LeO.ite ?_ ?_)
   | (with_reducible refine LeO.bind ?_ (fun _ => ?_))
   | exact impl_Net_best.mono _ _ _ _ _
   | exact LeO.none _
   | refine LeO.ite ?_ ?_
   | refine LeO.bind ?_ (fun _ => ?_)
set_option maxHeartbeats 8000000 in
set_option maxRecDepth 100000 in
theorem impl_NearWalk.calls (k : Nat) (a0_0 : Int) (A0_1 : Option Addr) (c0_1 : Nat) (l0_1 : List (S58)) (a1 : Int) (a2 : Int) (r1 : List Int) (r2 : Bool) (w : World) (hr0_1 : Kd.C k58 w A0_1 l0_1.length l0_1) (hc0_1 : l0_1.length ≤ c0_1) (h : impl_NearWalk.f k a0_0 l0_1 a1 a2 = some (r1, r2)) :
  Calls Try.prog 31 #[.agg #[.int .i64 a0_0, .slice A0_1 l0_1.length c0_1], .int .i64 a1, .int .i64 a2] w fun e w' => ∃ v0_ : Value, e = .returned (.tuple #[v0_, .bool r2]) ∧ Kd.R (Kd.int .i64) 3 w' w.heap.size (fun _ => True) v0_ r1 ∧ Below w.heap.size w w' := by
 have hu25 := Try.underlying25
 have HR0_1 := ak hr0_1
 have HC0_1 := ak hc0_1
 clear hr0_1 hc0_1
 have HB := ak (Below.refl w.heap.size w)
 have H : ((impl_nodesIn.f a0_0 l0_1 (([a1, a2] : List Int))).bind fun t447 => (if t447 = true then ((impl_Net_best.f k a0_0 l0_1 a1 a2).bind fun bt448 => (some (bt448.1, bt448.2))) else (some (([] : List Int), false)))) = some (r1, r2) := h
 clear h
 obtain ⟨y444, hy444⟩ : ∃ y_ : List Int, y_ = (([a1, a2] : List Int)) := ⟨_, rfl⟩
 replace H : ((impl_nodesIn.f a0_0 l0_1 y444).bind fun t447 => (if t447 = true then ((impl_Net_best.f k a0_0 l0_1 a1 a2).bind fun bt448 => (some (bt448.1, bt448.2))) else (some (([] : List Int), false)))) = some (r1, r2) := by first | (rw [hy444]; with_reducible exact H) | (have H2_ := (Option.bind_some _ _).symm.trans H; rw [hy444]; with_reducible exact H2_) | (have H2_ := (Option.bind_some _ _).symm.trans H; with_reducible exact H2_) | with_reducible exact H | (rw [hy444]; exact H) | exact H
 have Ny444 := ak hy444
 clear hy444
 replace H := Option.bind_eq_some_iff.mp H
 obtain ⟨t447, A40, H⟩ := H
 have A4 := ak A40
 clear A40
 by_cases c5 : t447 = true
 rotate_left
 ·replace c5 := Bool.eq_false_iff.mpr c5
  subst c5
  rw [if_neg (show ¬ (false = true) by decide)] at H
  simp only [Option.some.injEq, Prod.mk.injEq] at H
  obtain ⟨rfl, rfl⟩ := H
  go_enter Try.func31, Try.ntmps31
  go_wp2_with (first | ((with_reducible refine gate_dst (N := 3) rfl ?_); refine box_event ?hg (N := 3) ?hd (cs := #[.int .i64 a0_0, .slice A0_1 l0_1.length c0_1]) (t := 25) ?hr ?_; (case hd => rfl); (case hg => rfl); (case hr => first | (go_simp; done) | (go_simp; rfl)); intro gb443 hg w15 hbox hb; have BK443 := ak (hbox); have GW443 := ak ((by rw [hg]; exact (below_size (bl HB)) : w.heap.size ≤ gb443)); have GE443 := ak ((by rw [hg]; exact (below_size (bl HB)) : w.heap.size ≤ gb443)); replace HB := ak (below_step (bl HB) hb); clear hb hbox hg; have hcz16_0 := bc w15 BK443 0 (.int .i64 a0_0) rfl; have hcz16_1 := bc w15 BK443 1 (.slice A0_1 l0_1.length c0_1) rfl; have hfz16_0 := fz BK443 0; have hfz16_1 := fz BK443 1) | ((with_reducible refine gate_dst (N := 11) rfl ?_); refine Kd.R_lit (Kd.int .i64) _ 3 ?hg (N := 11) ?hd (xs := ([a1, a2] : List Int)) (inner := [.int .i64 a1, .int .i64 a2]) (ok := fun _ => True) (okp := fun _ => True) ?hr ?hp (fun _ hk => hk) trivial (Below.refl _ _) (Nat.le_refl _) (by simp) ?_; (case hd => rfl); (case hg => rfl); (case hr => first | (go_simp; done) | (go_simp; rfl)); (case hp => exact (Reps.one (show Kd.M (Kd.int .i64) _ _ _ a1 [.int .i64 a1] from rfl) (Reps.one (show Kd.M (Kd.int .i64) _ _ _ a2 [.int .i64 a2] from rfl) (Reps.none _ _)))); intro v445 w17 ho18 hb hg_ hnew_; clear hg_ hnew_; (first | rw [← Ny444.out] at ho18 | (simp only [Int.reduceToNat] at ho18; rw [← Ny444.out] at ho18)); have HO446 := ak (Kd.R_lower ho18 (below_size (bl1 HB GE443))); replace BK443 := ak (blk_below (bk BK443) hb); replace HB := ak (below_step (bl1 HB GE443) hb); clear hb ho18; obtain ⟨Ao19, co19, eo19⟩ := Kd.R_slice HO446.out; subst eo19) | ((with_reducible refine gate_callee (f := 58) rfl ?_); refine goesL_ (some 12) rfl rfl Try.func58 (by kernel_rfl) rfl #[.agg #[.int .i64 a0_0, .slice A0_1 l0_1.length c0_1], .slice Ao19 y444.length co19] rfl (by (try simp only [List.map_toArray, List.map_cons, List.map_nil]); first | done | rfl | (simp only [List.length_drop, List.length_take]; rfl)) ?_; (with_reducible refine (impl_nodesIn.calls a0_0 _ _ l0_1 _ _ y444 false _ ?side1 ?side2 ?side3 ?side4 A4.out).mono ?_); (case side1 => repeat (first | exact (Kd.C_below HR0_1.out HB.out) | (with_reducible refine Kd.C_alloc ?_ _) | (with_reducible refine Kd.C_drewN ?_ _) | (with_reducible refine Kd.C_drew ?_))); (case side2 => exact HC0_1.out); (case side3 => repeat (first | exact (Kd.R_reads' HO446.out).2.2 | (with_reducible refine Kd.C_alloc ?_ _) | (with_reducible refine Kd.C_drewN ?_ _) | (with_reducible refine Kd.C_drew ?_))); (case side4 => exact (Kd.R_reads' HO446.out).2.1); rintro e w20 ⟨rfl, hb⟩; refine ⟨_, rfl, ?_⟩; replace HO446 := ak (Kd.R_below (rk HO446) hb); replace BK443 := ak (blk_below (bk BK443) hb); replace HB := ak (below_step (bl1 HB GE443) hb); (try clear hb); (try clear hb2); (try clear hk); (try clear hi)))
  go_ret2
  exact ⟨_, by first | rfl | (simp [errW_none, errW_some] <;> rfl) | (simp [*, errW_none, errW_some] <;> rfl), by first | exact Kd.R_nil _ _ _ _ _ | exact Kd.N_nil _ _ _ _ _ | exact Kd.V_nil _ _ _ _ _ | exact Kd.Q_nil _ _ _ _ _ | exact Kd.S_nil _ _ _ _ _, bl1 HB GE443⟩
 subst c5
 rw [if_pos rfl] at H
 replace H := Option.bind_eq_some_iff.mp H
 obtain ⟨⟨t448, t451⟩, A60, H⟩ := H
 have A6 := ak A60
 clear A60
 simp only [Option.some.injEq, Prod.mk.injEq] at H
 obtain ⟨rfl, rfl⟩ := H
 go_enter Try.func31, Try.ntmps31
 go_wp2_with (first | ((with_reducible refine gate_dst (N := 3) rfl ?_); refine box_event ?hg (N := 3) ?hd (cs := #[.int .i64 a0_0, .slice A0_1 l0_1.length c0_1]) (t := 25) ?hr ?_; (case hd => rfl); (case hg => rfl); (case hr => first | (go_simp; done) | (go_simp; rfl)); intro gb443 hg w7 hbox hb; have BK443 := ak (hbox); have GW443 := ak ((by rw [hg]; exact (below_size (bl HB)) : w.heap.size ≤ gb443)); have GE443 := ak ((by rw [hg]; exact (below_size (bl HB)) : w.heap.size ≤ gb443)); replace HB := ak (below_step (bl HB) hb); clear hb hbox hg; have hcz8_0 := bc w7 BK443 0 (.int .i64 a0_0) rfl; have hcz8_1 := bc w7 BK443 1 (.slice A0_1 l0_1.length c0_1) rfl; have hfz8_0 := fz BK443 0; have hfz8_1 := fz BK443 1) | ((with_reducible refine gate_dst (N := 11) rfl ?_); refine Kd.R_lit (Kd.int .i64) _ 3 ?hg (N := 11) ?hd (xs := ([a1, a2] : List Int)) (inner := [.int .i64 a1, .int .i64 a2]) (ok := fun _ => True) (okp := fun _ => True) ?hr ?hp (fun _ hk => hk) trivial (Below.refl _ _) (Nat.le_refl _) (by simp) ?_; (case hd => rfl); (case hg => rfl); (case hr => first | (go_simp; done) | (go_simp; rfl)); (case hp => exact (Reps.one (show Kd.M (Kd.int .i64) _ _ _ a1 [.int .i64 a1] from rfl) (Reps.one (show Kd.M (Kd.int .i64) _ _ _ a2 [.int .i64 a2] from rfl) (Reps.none _ _)))); intro v445 w9 ho10 hb hg_ hnew_; clear hg_ hnew_; (first | rw [← Ny444.out] at ho10 | (simp only [Int.reduceToNat] at ho10; rw [← Ny444.out] at ho10)); have HO446 := ak (Kd.R_lower ho10 (below_size (bl1 HB GE443))); replace BK443 := ak (blk_below (bk BK443) hb); replace HB := ak (below_step (bl1 HB GE443) hb); clear hb ho10; obtain ⟨Ao11, co11, eo11⟩ := Kd.R_slice HO446.out; subst eo11) | ((with_reducible refine gate_callee (f := 58) rfl ?_); refine goesL_ (some 12) rfl rfl Try.func58 (by kernel_rfl) rfl #[.agg #[.int .i64 a0_0, .slice A0_1 l0_1.length c0_1], .slice Ao11 y444.length co11] rfl (by (try simp only [List.map_toArray, List.map_cons, List.map_nil]); first | done | rfl | (simp only [List.length_drop, List.length_take]; rfl)) ?_; (with_reducible refine (impl_nodesIn.calls a0_0 _ _ l0_1 _ _ y444 true _ ?side1 ?side2 ?side3 ?side4 A4.out).mono ?_); (case side1 => repeat (first | exact (Kd.C_below HR0_1.out HB.out) | (with_reducible refine Kd.C_alloc ?_ _) | (with_reducible refine Kd.C_drewN ?_ _) | (with_reducible refine Kd.C_drew ?_))); (case side2 => exact HC0_1.out); (case side3 => repeat (first | exact (Kd.R_reads' HO446.out).2.2 | (with_reducible refine Kd.C_alloc ?_ _) | (with_reducible refine Kd.C_drewN ?_ _) | (with_reducible refine Kd.C_drew ?_))); (case side4 => exact (Kd.R_reads' HO446.out).2.1); rintro e w12 ⟨rfl, hb⟩; refine ⟨_, rfl, ?_⟩; replace HO446 := ak (Kd.R_below (rk HO446) hb); replace BK443 := ak (blk_below (bk BK443) hb); replace HB := ak (below_step (bl1 HB GE443) hb); (try clear hb); (try clear hb2); (try clear hk); (try clear hi); have hcz13_0 := bc w12 BK443 0 (.int .i64 a0_0) rfl; have hcz13_1 := bc w12 BK443 1 (.slice A0_1 l0_1.length c0_1) rfl; have hfz13_0 := fz BK443 0; have hfz13_1 := fz BK443 1) | ((with_reducible refine gate_callee (f := 67) rfl ?_); refine goesL_ (some 17) rfl rfl Try.func67 (by kernel_rfl) rfl #[.agg #[.int .i64 a0_0, .slice A0_1 l0_1.length c0_1], .int .i64 a1, .int .i64 a2] rfl (by (try simp only [List.map_toArray, List.map_cons, List.map_nil]); first | done | rfl | (simp only [List.length_drop, List.length_take]; rfl)) ?_; (with_reducible refine (impl_Net_best.calls k a0_0 _ _ l0_1 a1 a2 t448 t451 _ ?side1 ?side2 A6.out).mono ?_); (case side1 => repeat (first | exact (Kd.C_below HR0_1.out HB.out) | (with_reducible refine Kd.C_alloc ?_ _) | (with_reducible refine Kd.C_drewN ?_ _) | (with_reducible refine Kd.C_drew ?_))); (case side2 => exact HC0_1.out); rintro e w14 ⟨v449, rfl, ho0, hb⟩; refine ⟨_, rfl, ?_⟩; have HO450 := ak (Kd.R_lower (Kd.R_new' ho0 (Kd.R_lt (rk HO446))) (below_size (bl1 HB GE443))); replace HO446 := ak (Kd.R_elder' (rk HO446) (Kd.R_base ho0) hb); replace BK443 := ak (blk_below (bk BK443) hb); replace HB := ak (below_step (bl1 HB GE443) hb); (try clear hb); (try clear hb2); (try clear hk); (try clear hi); (try clear ho0)))
 go_ret2
 exact ⟨_, by first | rfl | (simp [errW_none, errW_some] <;> rfl) | (simp [*, errW_none, errW_some] <;> rfl), by (with_reducible repeat (first | apply Kd.R_alloc | apply Kd.R_drewN | apply Kd.R_drew)); exact Kd.R_mono HO450.out (fun _ hk => trivial), bl1 HB GE443⟩

end Go.Proofs.Ytlgolgfcolnddaa.F
