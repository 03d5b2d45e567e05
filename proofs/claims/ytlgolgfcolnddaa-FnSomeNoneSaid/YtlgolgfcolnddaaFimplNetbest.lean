-- Printed by wip/px/px.py of this claim's repository (the kit's printer, extended there). Lean checks it.
import Derived.Test.YtlgolgfcolnddaaFKinds
import Derived.Test.YtlgolgfcolnddaaFimplNettoward
import Derived.Test.YtlgolgfcolnddaaFimplNetfirstArc
namespace Go.Proofs.Ytlgolgfcolnddaa.F
open Go.RowKit Go.Proofs.YtlgolgfcolnddaaW.PrintWords Go.Proofs.YtlgolgfcolnddaaW.PrintLast Go.Proofs.YtlgolgfcolnddaaW.PrintMore
attribute [local go_sem] max2_int min2_int max_two min_two max_three min_three max_four min_four   -- for this text's walks alone
set_option linter.unusedVariables false
set_option linter.unusedSimpArgs false

/-! ### impl_Net_best: function 67 -/
def impl_Net_best.l0 : Nat → Int → Int → List (S114) → List Int → Int → List (S58) → Option (List Int × Bool)
 | 0, _, _, _, _, _, _ => none
 | k + 1, x1, x2, x8, x9, x430000, x430001 => if x1 = x2 then (some (x9, true)) else ((impl_Net_firstArc.f x430000 x430001 x8 x1).bind fun t438 => (if x9.length < 17592186044416 then (if 0 ≤ t438 then (if t438 < (x430001.length : Int) then (impl_Net_best.l0 k ((rd_T58 x430001 t438).f1) x2 x8 (x9 ++ [t438]) x430000 x430001) else (none)) else (none)) else (none)))
def impl_Net_best.f (k : Nat) (a0_0 : Int) (l0_1 : List (S58)) (a1 : Int) (a2 : Int) : Option (List Int × Bool) := (impl_Net_toward.f k a0_0 l0_1 a2).bind fun t430 => (if 0 ≤ a1 then (if a1 < (t430.length : Int) then (if ((rd_T114 t430 a1).f0) = 99999 then (some (([] : List Int), false)) else (if 0 ≤ ((rd_T114 t430 a1).f1) then (if ((rd_T114 t430 a1).f1 : Int).toNat ≤ 35184372088832 then (impl_Net_best.l0 k a1 a2 t430 (([] : List Int)) a0_0 l0_1) else (none)) else (none))) else (none)) else (none))
theorem impl_Net_best.mono_l : ∀ k, (∀ y0 y1 y2 y3 y4 y5, LeO (impl_Net_best.l0 k y0 y1 y2 y3 y4 y5) (impl_Net_best.l0 (k + 1) y0 y1 y2 y3 y4 y5))
 | 0 => fun _ _ _ _ _ _ r h => by simp [impl_Net_best.l0] at h
 | k + 1 => by
  have ih0 := impl_Net_best.mono_l k
  ·intro y0 y1 y2 y3 y4 y5
   unfold impl_Net_best.l0
   repeat' first
   | (with_reducible exact ih0 _ _ _ _ _ _)
   | (with_reducible exact impl_Net_toward.mono _ _ _ _)
   | (with_reducible exact LeO.refl _)
   | (with_reducible exact LeO.none _)
   | (with_reducible refine LeO.ite ?_ ?_)
   | (with_reducible refine LeO.bind ?_ (fun _ => ?_))
   | exact ih0 _ _ _ _ _ _
   | exact impl_Net_toward.mono _ _ _ _
   | exact LeO.none _
   | refine LeO.ite ?_ ?_
   | refine LeO.bind ?_ (fun _ => ?_)
theorem impl_Net_best.mono : ∀ a0 a1 a2 a3 k, LeO (impl_Net_best.f k a0 a1 a2 a3) (impl_Net_best.f (k + 1) a0 a1 a2 a3) := by
 intro a0 a1 a2 a3 k
 have ih0 := impl_Net_best.mono_l k
 unfold impl_Net_best.f
 repeat' first
   | (with_reducible exact ih0 _ _ _ _ _ _)
   | (with_reducible exact impl_Net_toward.mono _ _ _ _)
   | (with_reducible exact LeO.refl _)
   | (with_reducible exact LeO.none _)
   | (with_reducible refine LeO.ite ?_ ?_)
   | (with_reducible refine LeO.bind ?_ (fun _ => ?_))
   | exact ih0 _ _ _ _ _ _
   | exact impl_Net_toward.mono _ _ _ _
   | exact LeO.none _
   | refine LeO.ite ?_ ?_
   | refine LeO.bind ?_ (fun _ => ?_)
set_option maxHeartbeats 8000000 in
set_option maxRecDepth 100000 in
theorem impl_Net_best.calls (k : Nat) (a0_0 : Int) (A0_1 : Option Addr) (c0_1 : Nat) (l0_1 : List (S58)) (a1 : Int) (a2 : Int) (r1 : List Int) (r2 : Bool) (w : World) (hr0_1 : Kd.C k58 w A0_1 l0_1.length l0_1) (hc0_1 : l0_1.length ≤ c0_1) (h : impl_Net_best.f k a0_0 l0_1 a1 a2 = some (r1, r2)) :
  Calls Try.prog 67 #[.agg #[.int .i64 a0_0, .slice A0_1 l0_1.length c0_1], .int .i64 a1, .int .i64 a2] w fun e w' => ∃ v0_ : Value, e = .returned (.tuple #[v0_, .bool r2]) ∧ Kd.R (Kd.int .i64) 3 w' w.heap.size (fun _ => True) v0_ r1 ∧ Below w.heap.size w w' := by
 have hu25 := Try.underlying25
 have HR0_1 := ak hr0_1
 have HC0_1 := ak hc0_1
 clear hr0_1 hc0_1
 have HB := ak (Below.refl w.heap.size w)
 have H : ((impl_Net_toward.f k a0_0 l0_1 a2).bind fun t430 => (if 0 ≤ a1 then (if a1 < (t430.length : Int) then (if ((rd_T114 t430 a1).f0) = 99999 then (some (([] : List Int), false)) else (if 0 ≤ ((rd_T114 t430 a1).f1) then (if ((rd_T114 t430 a1).f1 : Int).toNat ≤ 35184372088832 then (impl_Net_best.l0 k a1 a2 t430 (([] : List Int)) a0_0 l0_1) else (none)) else (none))) else (none)) else (none))) = some (r1, r2) := h
 clear h
 replace H := Option.bind_eq_some_iff.mp H
 obtain ⟨t430, A40, H⟩ := H
 have A4 := ak A40
 clear A40
 by_cases c5 : 0 ≤ a1
 rotate_left
 ·rw [if_neg c5] at H
  exact absurd H (by simp)
 rw [if_pos c5] at H
 have c5b0 : decide (0 ≤ a1) = true := decide_eq_true c5
 clear c5
 by_cases c6 : a1 < (t430.length : Int)
 rotate_left
 ·rw [if_neg c6] at H
  exact absurd H (by simp)
 rw [if_pos c6] at H
 have c6b0 : decide (a1 < (t430.length : Int)) = true := decide_eq_true c6
 clear c6
 by_cases c7 : ((rd_T114 t430 a1).f0) = 99999
 ·rw [if_pos c7] at H
  have c7b0 : (((rd_T114 t430 a1).f0) == 99999) = true := beq_iff_eq.mpr c7
  have c7b1 : (((rd_T114 t430 a1).f0) != 99999) = false := bne_eq_false_iff_eq.mpr c7
  clear c7
  simp only [Option.some.injEq, Prod.mk.injEq] at H
  obtain ⟨rfl, rfl⟩ := H
  go_enter Try.func67, Try.ntmps67
  go_wp2_with (first | ((with_reducible refine gate_dst (N := 3) rfl ?_); refine box_event ?hg (N := 3) ?hd (cs := #[.int .i64 a0_0, .slice A0_1 l0_1.length c0_1]) (t := 25) ?hr ?_; (case hd => rfl); (case hg => rfl); (case hr => first | (go_simp; done) | (go_simp; rfl)); intro gb429 hg w8 hbox hb; have BK429 := ak (hbox); have GW429 := ak ((by rw [hg]; exact (below_size (bl HB)) : w.heap.size ≤ gb429)); have GE429 := ak ((by rw [hg]; exact (below_size (bl HB)) : w.heap.size ≤ gb429)); replace HB := ak (below_step (bl HB) hb); clear hb hbox hg; have hcz9_0 := bc w8 BK429 0 (.int .i64 a0_0) rfl; have hcz9_1 := bc w8 BK429 1 (.slice A0_1 l0_1.length c0_1) rfl; have hfz9_0 := fz BK429 0; have hfz9_1 := fz BK429 1) | ((with_reducible refine gate_callee (f := 101) rfl ?_); refine goesL_ (some 13) rfl rfl Try.func101 (by kernel_rfl) rfl #[.agg #[.int .i64 a0_0, .slice A0_1 l0_1.length c0_1], .int .i64 a2] rfl (by (try simp only [List.map_toArray, List.map_cons, List.map_nil]); first | done | rfl | (simp only [List.length_drop, List.length_take]; rfl)) ?_; (with_reducible refine (impl_Net_toward.calls k a0_0 _ _ l0_1 a2 t430 _ ?side1 ?side2 A4.out).mono ?_); (case side1 => repeat (first | exact (Kd.C_below HR0_1.out HB.out) | (with_reducible refine Kd.C_alloc ?_ _) | (with_reducible refine Kd.C_drewN ?_ _) | (with_reducible refine Kd.C_drew ?_))); (case side2 => exact HC0_1.out); rintro e w10 ⟨v431, rfl, ho0, hb⟩; refine ⟨_, rfl, ?_⟩; have HO432 := ak (Kd.R_lower ho0 (below_size (bl1 HB GE429))); replace BK429 := ak (blk_below (bk BK429) hb); replace HB := ak (below_step (bl1 HB GE429) hb); (try clear hb); (try clear hb2); (try clear hk); (try clear hi); (try clear ho0); obtain ⟨Ao11, co11, eo11⟩ := Kd.R_slice HO432.out; subst eo11; have p433 : 0 ≤ (a1 : Int) := oT (by first | (with_reducible assumption) | assumption); have q433 : a1 < (t430.length : Int) := oT (by first | (with_reducible assumption) | assumption); obtain ⟨ad433, e433, hx433_0, hx433_1⟩ := at_T114 (Kd.R_reads' HO432.out).2.2 a1 p433 q433; cases e433; replace p433 := eq_true p433; replace q433 := eq_true q433))
  go_ret2
  exact ⟨_, by first | rfl | (simp [errW_none, errW_some] <;> rfl) | (simp [*, errW_none, errW_some] <;> rfl), by first | exact Kd.R_nil _ _ _ _ _ | exact Kd.N_nil _ _ _ _ _ | exact Kd.V_nil _ _ _ _ _ | exact Kd.Q_nil _ _ _ _ _ | exact Kd.S_nil _ _ _ _ _, bl1 HB GE429⟩
 rw [if_neg c7] at H
 have c7b0 : (((rd_T114 t430 a1).f0) == 99999) = false := beq_eq_false_iff_ne.mpr c7
 have c7b1 : (((rd_T114 t430 a1).f0) != 99999) = true := bne_iff_ne.mpr c7
 by_cases c12 : 0 ≤ ((rd_T114 t430 a1).f1)
 rotate_left
 ·rw [if_neg c12] at H
  exact absurd H (by simp)
 rw [if_pos c12] at H
 have c12b0 := eq_true c12
 have c12b1 : decide (0 ≤ ((rd_T114 t430 a1).f1)) = true := decide_eq_true c12
 clear c12
 by_cases c13 : ((rd_T114 t430 a1).f1 : Int).toNat ≤ 35184372088832
 rotate_left
 ·rw [if_neg c13] at H
  exact absurd H (by simp)
 rw [if_pos c13] at H
 have c13b0 := eq_true c13
 have c13b1 : decide (((rd_T114 t430 a1).f1 : Int).toNat ≤ 35184372088832) = true := decide_eq_true c13
 clear c13
 obtain ⟨y435, hy435⟩ : ∃ y_ : List Int, y_ = (([] : List Int)) := ⟨_, rfl⟩
 replace H : (impl_Net_best.l0 k a1 a2 t430 y435 a0_0 l0_1) = some (r1, r2) := by first | (rw [hy435]; with_reducible exact H) | (have H2_ := (Option.bind_some _ _).symm.trans H; rw [hy435]; with_reducible exact H2_) | (have H2_ := (Option.bind_some _ _).symm.trans H; with_reducible exact H2_) | with_reducible exact H | (rw [hy435]; exact H) | exact H
 have Ny435 := ak hy435
 clear hy435
 have H' := ak H
 clear H
 go_enter Try.func67, Try.ntmps67
 go_wp2_with (first | ((with_reducible refine gate_dst (N := 3) rfl ?_); refine box_event ?hg (N := 3) ?hd (cs := #[.int .i64 a0_0, .slice A0_1 l0_1.length c0_1]) (t := 25) ?hr ?_; (case hd => rfl); (case hg => rfl); (case hr => first | (go_simp; done) | (go_simp; rfl)); intro gb429 hg w14 hbox hb; have BK429 := ak (hbox); have GW429 := ak ((by rw [hg]; exact (below_size (bl HB)) : w.heap.size ≤ gb429)); have GE429 := ak ((by rw [hg]; exact (below_size (bl HB)) : w.heap.size ≤ gb429)); replace HB := ak (below_step (bl HB) hb); clear hb hbox hg; have hcz15_0 := bc w14 BK429 0 (.int .i64 a0_0) rfl; have hcz15_1 := bc w14 BK429 1 (.slice A0_1 l0_1.length c0_1) rfl; have hfz15_0 := fz BK429 0; have hfz15_1 := fz BK429 1) | ((with_reducible refine gate_callee (f := 101) rfl ?_); refine goesL_ (some 13) rfl rfl Try.func101 (by kernel_rfl) rfl #[.agg #[.int .i64 a0_0, .slice A0_1 l0_1.length c0_1], .int .i64 a2] rfl (by (try simp only [List.map_toArray, List.map_cons, List.map_nil]); first | done | rfl | (simp only [List.length_drop, List.length_take]; rfl)) ?_; (with_reducible refine (impl_Net_toward.calls k a0_0 _ _ l0_1 a2 t430 _ ?side1 ?side2 A4.out).mono ?_); (case side1 => repeat (first | exact (Kd.C_below HR0_1.out HB.out) | (with_reducible refine Kd.C_alloc ?_ _) | (with_reducible refine Kd.C_drewN ?_ _) | (with_reducible refine Kd.C_drew ?_))); (case side2 => exact HC0_1.out); rintro e w16 ⟨v431, rfl, ho0, hb⟩; refine ⟨_, rfl, ?_⟩; have HO432 := ak (Kd.R_lower ho0 (below_size (bl1 HB GE429))); replace BK429 := ak (blk_below (bk BK429) hb); replace HB := ak (below_step (bl1 HB GE429) hb); (try clear hb); (try clear hb2); (try clear hk); (try clear hi); (try clear ho0); obtain ⟨Ao17, co17, eo17⟩ := Kd.R_slice HO432.out; subst eo17; have p433 : 0 ≤ (a1 : Int) := oT (by first | (with_reducible assumption) | assumption); have q433 : a1 < (t430.length : Int) := oT (by first | (with_reducible assumption) | assumption); obtain ⟨ad433, e433, hx433_0, hx433_1⟩ := at_T114 (Kd.R_reads' HO432.out).2.2 a1 p433 q433; cases e433; replace p433 := eq_true p433; replace q433 := eq_true q433; have p434 : 0 ≤ (a1 : Int) := oT (by first | (with_reducible assumption) | assumption); have q434 : a1 < (t430.length : Int) := oT (by first | (with_reducible assumption) | assumption); obtain ⟨ad434, e434, hx434_0, hx434_1⟩ := at_T114 (Kd.R_reads' HO432.out).2.2 a1 p434 q434; obtain rfl : ad433 = ad434 := (by injection e434); replace p434 := eq_true p434; replace q434 := eq_true q434) | ((with_reducible refine gate_dst (N := 25) rfl ?_); refine Kd.R_make0 (Kd.int .i64) _ 3 rfl (N := 25) rfl 33 _ _ rfl ((rd_T114 t430 a1).f1) rfl rfl Try.underlying33 (.int .i64 0) 8 info3 (by decide) (ok := fun _ => True) trivial (oT (by first | (with_reducible assumption) | assumption)) (Nat.le_trans (Nat.mul_le_mul_right _ (oT (by first | (with_reducible assumption) | assumption) : ((rd_T114 t430 a1).f1).toNat ≤ 35184372088832)) (by omega)) (Below.refl _ _) (Nat.le_refl _) ?_; intro v436 w18 ho19 hb hg_ hnew_; clear hg_ hnew_; (first | rw [← Ny435.out] at ho19 | (simp only [Int.reduceToNat] at ho19; rw [← Ny435.out] at ho19)); replace HO432 := ak (Kd.R_below (rk HO432) hb); have HO437 := ak (Kd.R_lower ho19 (below_size (bl1 HB GE429))); replace BK429 := ak (blk_below (bk BK429) hb); replace HB := ak (below_step (bl1 HB GE429) hb); clear hb ho19))
 go_loopg [1, 9] k (fun kq v1 v9 w' => ∃ (x1_1 : Int) (x9_1 : List Int), v1 = .int .i64 x1_1 ∧ Aside0 (impl_Net_best.l0 kq x1_1 a2 t430 x9_1 a0_0 l0_1 = some (r1, r2)) ∧ Aside0 (kq ≤ k) ∧ Aside0 (Kd.R k114 114 w' w.heap.size (fun _ => True) (.slice (some ad433) t430.length co17) t430) ∧ Aside0 (Kd.R (Kd.int .i64) 3 w' w.heap.size (fun _ => True) v9 x9_1) ∧ Aside0 (w'.heap[gb429]? = some (.cells #[.int .i64 a0_0, (.slice A0_1 l0_1.length c0_1)] 25 (0, 0))) ∧ Aside0 (Below w.heap.size w w'))
 case atStart => exact ⟨(a1), (y435), (by first | rfl | (simp; done) | (simp [*]; done)), H', ⟨Nat.le_refl _⟩, ⟨rk HO432⟩, ⟨rk HO437⟩, ⟨bk BK429⟩, ⟨bl1 HB GE429⟩⟩
 clear H'
 try clear c1
 try clear p2
 try clear p4
 try clear q4
 try clear hx4
 try clear c5
 try clear c5b0
 try clear c6
 try clear c6b0
 try clear c7
 try clear c7b0
 try clear c7b1
 try clear c10
 try clear c12
 try clear c12b0
 try clear c12b1
 try clear c13
 try clear c13b0
 try clear c13b1
 try clear hcz15_0
 try clear hcz15_1
 try clear hcz9_0
 try clear hcz9_1
 try clear hfz15_0
 try clear hfz15_1
 try clear hfz9_0
 try clear hfz9_1
 try clear hx433_0
 try clear hx433_1
 try clear hx434_0
 try clear hx434_1
 try clear p433
 try clear p434
 try clear q433
 try clear q434
 obtain ⟨x1_1, x9_1, rfl, HA, HK1, HO_8, HO_9, BK429, HB⟩ := hrel
 cases gk with
 | zero => exact absurd HA.out (by simp [impl_Net_best.l0])
 | succ k1 =>
  have H := HA.out
  clear HA
  simp only [impl_Net_best.l0] at H
  by_cases c20 : x1_1 = a2
  ·rw [if_pos c20] at H
   have c20b0 : (x1_1 == a2) = true := beq_iff_eq.mpr c20
   have c20b1 : (x1_1 != a2) = false := bne_eq_false_iff_eq.mpr c20
   clear c20
   simp only [Option.some.injEq, Prod.mk.injEq] at H
   obtain ⟨rfl, rfl⟩ := H
   go_wp2
   go_ret2
   exact ⟨_, by first | rfl | (simp [errW_none, errW_some] <;> rfl) | (simp [*, errW_none, errW_some] <;> rfl), rk HO_9, bl1 HB GE429⟩
  rw [if_neg c20] at H
  have c20b0 : (x1_1 == a2) = false := beq_eq_false_iff_ne.mpr c20
  have c20b1 : (x1_1 != a2) = true := bne_iff_ne.mpr c20
  replace H := Option.bind_eq_some_iff.mp H
  obtain ⟨t438, A210, H⟩ := H
  have A21 := ak A210
  clear A210
  by_cases c22 : x9_1.length < 17592186044416
  rotate_left
  ·rw [if_neg c22] at H
   exact absurd H (by simp)
  rw [if_pos c22] at H
  have LMc22 := ak c22
  clear c22
  obtain ⟨y439, hy439⟩ : ∃ y_ : List Int, y_ = (x9_1 ++ [t438]) := ⟨_, rfl⟩
  replace H : (if 0 ≤ t438 then (if t438 < (l0_1.length : Int) then (impl_Net_best.l0 k1 ((rd_T58 l0_1 t438).f1) a2 t430 y439 a0_0 l0_1) else (none)) else (none)) = some (r1, r2) := by first | (rw [hy439]; with_reducible exact H) | (have H2_ := (Option.bind_some _ _).symm.trans H; rw [hy439]; with_reducible exact H2_) | (have H2_ := (Option.bind_some _ _).symm.trans H; with_reducible exact H2_) | with_reducible exact H | (rw [hy439]; exact H) | exact H
  have Ny439 := ak hy439
  clear hy439
  by_cases c23 : 0 ≤ t438
  rotate_left
  ·rw [if_neg c23] at H
   exact absurd H (by simp)
  rw [if_pos c23] at H
  have c23b0 : decide (0 ≤ t438) = true := decide_eq_true c23
  clear c23
  by_cases c24 : t438 < (l0_1.length : Int)
  rotate_left
  ·rw [if_neg c24] at H
   exact absurd H (by simp)
  rw [if_pos c24] at H
  have c24b0 : decide (t438 < (l0_1.length : Int)) = true := decide_eq_true c24
  clear c24
  have H' := ak H
  clear H
  have hcz25_0 := bc wr BK429 0 (.int .i64 a0_0) rfl
  have hcz25_1 := bc wr BK429 1 (.slice A0_1 l0_1.length c0_1) rfl
  have hfz25_0 := fz BK429 0
  have hfz25_1 := fz BK429 1
  go_wp2_with (first | ((with_reducible refine gate_callee (f := 102) rfl ?_); refine goesL_ (some 32) rfl rfl Try.func102 (by kernel_rfl) rfl #[.agg #[.int .i64 a0_0, .slice A0_1 l0_1.length c0_1], .slice (some ad433) t430.length co17, .int .i64 x1_1] rfl (by (try simp only [List.map_toArray, List.map_cons, List.map_nil]); first | done | rfl | (simp only [List.length_drop, List.length_take]; rfl)) ?_; (with_reducible refine (impl_Net_firstArc.calls a0_0 _ _ l0_1 _ _ t430 x1_1 t438 _ ?side1 ?side2 ?side3 ?side4 A21.out).mono ?_); (case side1 => repeat (first | exact (Kd.C_below HR0_1.out HB.out) | (with_reducible refine Kd.C_alloc ?_ _) | (with_reducible refine Kd.C_drewN ?_ _) | (with_reducible refine Kd.C_drew ?_))); (case side2 => exact HC0_1.out); (case side3 => repeat (first | exact (Kd.R_reads' HO_8.out).2.2 | (with_reducible refine Kd.C_alloc ?_ _) | (with_reducible refine Kd.C_drewN ?_ _) | (with_reducible refine Kd.C_drew ?_))); (case side4 => exact (Kd.R_reads' HO_8.out).2.1); rintro e w26 ⟨rfl, hb⟩; refine ⟨_, rfl, ?_⟩; replace HO_8 := ak (Kd.R_below (rk HO_8) hb); replace HO_9 := ak (Kd.R_below (rk HO_9) hb); replace BK429 := ak (blk_below (bk BK429) hb); replace HB := ak (below_step (bl1 HB GE429) hb); (try clear hb); (try clear hb2); (try clear hk); (try clear hi)) | ((with_reducible refine gate_builtin (b := .append) (xs := #[.tmp 33, .tmp 35]) rfl ?_); at_builtin; refine Kd.R_append (Kd.int .i64) (w0 := w) w.heap.size rfl (.tmp 33) (.tmp 35) 33 3 (.int .i64 0) 8 rfl Try.underlying33 info3 rfl (by decide) (by omega) u9 x9_1 t438 [.int .i64 t438] (fun _ => True) (fun _ => False) rfl rfl ?aP (fun _ hk => hk.elim) ?aF ?aO ?aB ?aS ?aL ?_; (case aP => exact rfl); (case aB => exact (bl1 HB GE429)); (case aF => exact (fun _ _ => trivial)); (case aO => exact (rk HO_9)); (case aS => exact (below_size (bl1 HB GE429))); (case aL => have := LMc22.out; omega); intro v440 w27 ho hb hg hat; rw [← Ny439.out] at ho; have n0_ := ak (Kd.R_over' (rk HO_8) (Kd.R_typed (rk HO_9)) (by decide) hg); have n1_ := ak (blk_grown (bk BK429) hg (Kd.R_ne HO_9.out BK429.out (by decide))); have n2_ := ak (hb); have n3_ := ak (ho); clear HO_8; clear BK429; clear HB; clear HO_9; have HO_8 := n0_; have BK429 := n1_; have HB := n2_; have HO441 := n3_; clear n0_ n1_ n2_ n3_; clear ho hb hg hat; have hcz28_0 := bc w27 BK429 0 (.int .i64 a0_0) rfl; have hcz28_1 := bc w27 BK429 1 (.slice A0_1 l0_1.length c0_1) rfl; have hfz28_0 := fz BK429 0; have hfz28_1 := fz BK429 1; have p442 : 0 ≤ (t438 : Int) := oT (by first | (with_reducible assumption) | assumption); have q442 : t438 < (l0_1.length : Int) := oT (by first | (with_reducible assumption) | assumption); obtain ⟨ad442, e442, hx442_0, hx442_1, hx442_2, hx442_3, hx442_4⟩ := at_T58 HR0_1.out t438 p442 q442; cases e442; replace hx442_0 := hcb HB.out hx442_0; replace hx442_1 := hcb HB.out hx442_1; replace hx442_2 := hcb HB.out hx442_2; replace hx442_3 := hcb HB.out hx442_3; replace hx442_4 := hcb HB.out hx442_4; replace p442 := eq_true p442; replace q442 := eq_true q442))
  go_roundg k1
  case measure => have := HK1.out; omega
  case rel => exact ⟨((rd_T58 l0_1 t438).f1), (y439), (by first | rfl | (simp; done) | (simp [*]; done)), H', ⟨by have := HK1.out; omega⟩, ⟨rk HO_8⟩, ⟨rk HO441⟩, ⟨bk BK429⟩, ⟨bl1 HB GE429⟩⟩

end Go.Proofs.Ytlgolgfcolnddaa.F
